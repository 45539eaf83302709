/- Contracts that the claim stands on: XBefore to XSrtM2. -/
import Derived.Deep.DeepCutAuto
import Derived.RangeFuncNested
import Derived.RangeFuncBound
import Derived.RangeFuncCalls
import Derived.RangeFuncLeaves
import Derived.Shelf.Abstract
import Derived.Shelf.RegionOpen
import Derived.OwnWalkIn
import Derived.TacticsInMore
import Derived.LoopNIn
import Derived.LoopIn
import Derived.Maps.AppendAt
import Derived.OrdersIn
import Derived.Test.YtmgibncehlpfkaaGreatM4
namespace Go.Proofs.YtmgibncehlpfkaaGreat
open Go.RowKit
attribute [local go_sem ↓] Go.wp_at_zero Go.wp_at_succ run_max_ii run_min_ii
def beforeV (p : Rat) (i : Int) (q : Rat) (j : Int) : Bool := decide (p < q) || (decide (p = q) && decide (j < i))
set_option maxRecDepth 20000 in
set_option maxHeartbeats 4000000 in
theorem before_lt (L : Nat) (ca cb : Array Value) (p q : Rat) (i j : Int) (w : World) (ha : NIn L w ca p) (hb : NIn L w cb q) (hL : L ≤ 60000) (h1 : rcmp p q < 0) :
  Calls Tryz.prog 45 #[.agg ca, .int .i64 i, .agg cb, .int .i64 j] w fun e w' => e = .returned (.bool true) ∧ Ext w w' := by
 have ZA := ha.size
 have ZB := hb.size
 have Fa := zH ha
 have Fb := zH hb
 clear ha hb
 go_enter Tryz.func45, Tryz.ntmps45
 go_upto_region 1 with fail
 have hbx0 : Blk ((w.alloc (.cells ca 27)).alloc (.cells cb 27)) (w.heap.size) 27 ca := Blk.ext (Blk.new_at w _ (by simp) _ _) ((Ext.refl _).alloc _)
 have hbx1 : Blk ((w.alloc (.cells ca 27)).alloc (.cells cb 27)) (w.heap.size + 1) 27 cb := Blk.ext (Blk.new_at (w.alloc (.cells ca 27)) _ (by simp) _ _) (Ext.refl _)
 have hE : Ext w ((w.alloc (.cells ca 27)).alloc (.cells cb 27)) := (((Ext.refl _).alloc _).alloc _)
 generalize ((w.alloc (.cells ca 27)).alloc (.cells cb 27)) = wa at *
 generalize w.heap.size + 1 = bx1 at *
 have E1 : Hid (Ext w wa) := hE
 have Fbx0 := zH hbx0
 have Fbx1 := zH hbx1
 clear hE hbx0 hbx1
 refine wp_region_lit ?_
 refine pL Fbx0.out Tryz.underlying27 (by rw [show (ca : Array Value).size = 4 from ZA]; kernel_rfl) ?_
 try simp only [Act.put, zA, zB, zC]
 refine pL Fbx1.out Tryz.underlying27 (by rw [show (cb : Array Value).size = 4 from ZB]; kernel_rfl) ?_
 try simp only [Act.put, zA, zB, zC]
 refine mv_call (by rfl) (by go_simp) (q03Cmp (Fa.out.ext E1.out) (Fb.out.ext E1.out) (by omega)) ?_
 rintro e w2 ⟨rfl, hx⟩
 have E2 : Hid (Ext wa w2) := hx
 clear hx
 refine ⟨_, rfl, ?_⟩
 try simp only [Act.put, zA, zB, zC]
 refine pV (w' := w2) ?_
 try simp only [Act.put, zA, zB, zC]
 go_wp2_with fail
 go_ret
 exact ⟨by first | rfl | simp [*], (tr E1 E2).out⟩
set_option maxRecDepth 20000 in
set_option maxHeartbeats 4000000 in
theorem before_eqt (L : Nat) (ca cb : Array Value) (p q : Rat) (i j : Int) (w : World) (ha : NIn L w ca p) (hb : NIn L w cb q) (hL : L ≤ 60000) (h1 : rcmp p q = 0) (h2 : j < i) :
  Calls Tryz.prog 45 #[.agg ca, .int .i64 i, .agg cb, .int .i64 j] w fun e w' => e = .returned (.bool true) ∧ Ext w w' := by
 have ZA := ha.size
 have ZB := hb.size
 have Fa := zH ha
 have Fb := zH hb
 clear ha hb
 go_enter Tryz.func45, Tryz.ntmps45
 go_upto_region 1 with fail
 have hbx0 : Blk ((w.alloc (.cells ca 27)).alloc (.cells cb 27)) (w.heap.size) 27 ca := Blk.ext (Blk.new_at w _ (by simp) _ _) ((Ext.refl _).alloc _)
 have hbx1 : Blk ((w.alloc (.cells ca 27)).alloc (.cells cb 27)) (w.heap.size + 1) 27 cb := Blk.ext (Blk.new_at (w.alloc (.cells ca 27)) _ (by simp) _ _) (Ext.refl _)
 have hE : Ext w ((w.alloc (.cells ca 27)).alloc (.cells cb 27)) := (((Ext.refl _).alloc _).alloc _)
 generalize ((w.alloc (.cells ca 27)).alloc (.cells cb 27)) = wa at *
 generalize w.heap.size + 1 = bx1 at *
 have E1 : Hid (Ext w wa) := hE
 have Fbx0 := zH hbx0
 have Fbx1 := zH hbx1
 clear hE hbx0 hbx1
 refine wp_region_lit ?_
 refine pL Fbx0.out Tryz.underlying27 (by rw [show (ca : Array Value).size = 4 from ZA]; kernel_rfl) ?_
 try simp only [Act.put, zA, zB, zC]
 refine pL Fbx1.out Tryz.underlying27 (by rw [show (cb : Array Value).size = 4 from ZB]; kernel_rfl) ?_
 try simp only [Act.put, zA, zB, zC]
 refine mv_call (by rfl) (by go_simp) (q03Cmp (Fa.out.ext E1.out) (Fb.out.ext E1.out) (by omega)) ?_
 rintro e w2 ⟨rfl, hx⟩
 have E2 : Hid (Ext wa w2) := hx
 clear hx
 refine ⟨_, rfl, ?_⟩
 try simp only [Act.put, zA, zB, zC]
 refine pV (w' := w2) ?_
 try simp only [Act.put, zA, zB, zC]
 go_wp2_with fail
 go_ret
 exact ⟨by first | rfl | simp [*], (tr E1 E2).out⟩
set_option maxRecDepth 20000 in
set_option maxHeartbeats 4000000 in
theorem before_eqf (L : Nat) (ca cb : Array Value) (p q : Rat) (i j : Int) (w : World) (ha : NIn L w ca p) (hb : NIn L w cb q) (hL : L ≤ 60000) (h1 : rcmp p q = 0) (h2 : ¬ j < i) :
  Calls Tryz.prog 45 #[.agg ca, .int .i64 i, .agg cb, .int .i64 j] w fun e w' => e = .returned (.bool false) ∧ Ext w w' := by
 have ZA := ha.size
 have ZB := hb.size
 have Fa := zH ha
 have Fb := zH hb
 clear ha hb
 go_enter Tryz.func45, Tryz.ntmps45
 go_upto_region 1 with fail
 have hbx0 : Blk ((w.alloc (.cells ca 27)).alloc (.cells cb 27)) (w.heap.size) 27 ca := Blk.ext (Blk.new_at w _ (by simp) _ _) ((Ext.refl _).alloc _)
 have hbx1 : Blk ((w.alloc (.cells ca 27)).alloc (.cells cb 27)) (w.heap.size + 1) 27 cb := Blk.ext (Blk.new_at (w.alloc (.cells ca 27)) _ (by simp) _ _) (Ext.refl _)
 have hE : Ext w ((w.alloc (.cells ca 27)).alloc (.cells cb 27)) := (((Ext.refl _).alloc _).alloc _)
 generalize ((w.alloc (.cells ca 27)).alloc (.cells cb 27)) = wa at *
 generalize w.heap.size + 1 = bx1 at *
 have E1 : Hid (Ext w wa) := hE
 have Fbx0 := zH hbx0
 have Fbx1 := zH hbx1
 clear hE hbx0 hbx1
 refine wp_region_lit ?_
 refine pL Fbx0.out Tryz.underlying27 (by rw [show (ca : Array Value).size = 4 from ZA]; kernel_rfl) ?_
 try simp only [Act.put, zA, zB, zC]
 refine pL Fbx1.out Tryz.underlying27 (by rw [show (cb : Array Value).size = 4 from ZB]; kernel_rfl) ?_
 try simp only [Act.put, zA, zB, zC]
 refine mv_call (by rfl) (by go_simp) (q03Cmp (Fa.out.ext E1.out) (Fb.out.ext E1.out) (by omega)) ?_
 rintro e w2 ⟨rfl, hx⟩
 have E2 : Hid (Ext wa w2) := hx
 clear hx
 refine ⟨_, rfl, ?_⟩
 try simp only [Act.put, zA, zB, zC]
 refine pV (w' := w2) ?_
 try simp only [Act.put, zA, zB, zC]
 go_wp2_with fail
 go_ret
 exact ⟨by first | rfl | simp [*], (tr E1 E2).out⟩
set_option maxRecDepth 20000 in
set_option maxHeartbeats 4000000 in
theorem before_gt (L : Nat) (ca cb : Array Value) (p q : Rat) (i j : Int) (w : World) (ha : NIn L w ca p) (hb : NIn L w cb q) (hL : L ≤ 60000) (h1 : ¬ rcmp p q < 0) (h2 : ¬ rcmp p q = 0) :
  Calls Tryz.prog 45 #[.agg ca, .int .i64 i, .agg cb, .int .i64 j] w fun e w' => e = .returned (.bool false) ∧ Ext w w' := by
 have ZA := ha.size
 have ZB := hb.size
 have Fa := zH ha
 have Fb := zH hb
 clear ha hb
 go_enter Tryz.func45, Tryz.ntmps45
 go_upto_region 1 with fail
 have hbx0 : Blk ((w.alloc (.cells ca 27)).alloc (.cells cb 27)) (w.heap.size) 27 ca := Blk.ext (Blk.new_at w _ (by simp) _ _) ((Ext.refl _).alloc _)
 have hbx1 : Blk ((w.alloc (.cells ca 27)).alloc (.cells cb 27)) (w.heap.size + 1) 27 cb := Blk.ext (Blk.new_at (w.alloc (.cells ca 27)) _ (by simp) _ _) (Ext.refl _)
 have hE : Ext w ((w.alloc (.cells ca 27)).alloc (.cells cb 27)) := (((Ext.refl _).alloc _).alloc _)
 generalize ((w.alloc (.cells ca 27)).alloc (.cells cb 27)) = wa at *
 generalize w.heap.size + 1 = bx1 at *
 have E1 : Hid (Ext w wa) := hE
 have Fbx0 := zH hbx0
 have Fbx1 := zH hbx1
 clear hE hbx0 hbx1
 refine wp_region_lit ?_
 refine pL Fbx0.out Tryz.underlying27 (by rw [show (ca : Array Value).size = 4 from ZA]; kernel_rfl) ?_
 try simp only [Act.put, zA, zB, zC]
 refine pL Fbx1.out Tryz.underlying27 (by rw [show (cb : Array Value).size = 4 from ZB]; kernel_rfl) ?_
 try simp only [Act.put, zA, zB, zC]
 refine mv_call (by rfl) (by go_simp) (q03Cmp (Fa.out.ext E1.out) (Fb.out.ext E1.out) (by omega)) ?_
 rintro e w2 ⟨rfl, hx⟩
 have E2 : Hid (Ext wa w2) := hx
 clear hx
 refine ⟨_, rfl, ?_⟩
 try simp only [Act.put, zA, zB, zC]
 refine pV (w' := w2) ?_
 try simp only [Act.put, zA, zB, zC]
 go_wp2_with fail
 go_ret
 exact ⟨by first | rfl | simp [*], (tr E1 E2).out⟩
theorem before_any (L : Nat) (ca cb : Array Value) (p q : Rat) (i j : Int) (w : World) (ha : NIn L w ca p) (hb : NIn L w cb q) (hL : L ≤ 60000) :
  Calls Tryz.prog 45 #[.agg ca, .int .i64 i, .agg cb, .int .i64 j] w fun e w' => e = .returned (.bool (beforeV p i q j)) ∧ Ext w w' := by
 by_cases h1 : p < q
 ·have e : beforeV p i q j = true := by unfold beforeV; simp [h1]
  rw [e]
  exact before_lt L ca cb p q i j w ha hb hL (rcmp_lt.2 h1)
 by_cases h2 : p = q
 ·by_cases h3 : j < i
  ·have e : beforeV p i q j = true := by unfold beforeV; simp [h2, h3]
   rw [e]
   exact before_eqt L ca cb p q i j w ha hb hL (rcmp_eq.2 h2) h3
  have e : beforeV p i q j = false := by unfold beforeV; simp [h1, h3]
  rw [e]
  exact before_eqf L ca cb p q i j w ha hb hL (rcmp_eq.2 h2) h3
 have e : beforeV p i q j = false := by unfold beforeV; simp [h1, h2]
 rw [e]
 exact before_gt L ca cb p q i j w ha hb hL (fun k => h1 (rcmp_lt.1 k)) (fun k => h2 (rcmp_eq.1 k))
end Go.Proofs.YtmgibncehlpfkaaGreat

namespace Go.Proofs.YtmgibncehlpfkaaGreat
theorem cmpI_neg {a b : Int} : cmpI a b < 0 ↔ a < b := by
  unfold cmpI
  split
  · omega
  split <;> omega
theorem ord_lt (p q : Rat) (i j : Int) : decide (orI (rcmp p q) (cmpI j i) < 0) = beforeV p i q j := by
 unfold orI beforeV
 by_cases h1 : rcmp p q = 0
 ·have h2 := rcmp_eq.1 h1
  subst h2
  rw [if_pos h1]
  have h3 : ¬ p < p := by grind
  by_cases h4 : j < i
  ·have h5 : cmpI j i < 0 := cmpI_neg.2 h4
   simp [h4, h5]
  have h5 : ¬ cmpI j i < 0 := fun k => h4 (cmpI_neg.1 k)
  simp [h3, h4, h5]
 have h2 : ¬ p = q := fun k => h1 (rcmp_eq.2 k)
 rw [if_neg h1]
 by_cases h3 : p < q
 ·have h4 := rcmp_lt.2 h3
  simp [h3, h4]
 have h4 : ¬ rcmp p q < 0 := fun k => h3 (rcmp_lt.1 k)
 simp [h2, h3, h4]
abbrev QI := Rat × Int
def ltM (a b : QI) : Bool := beforeV a.1 a.2 b.1 b.2
theorem ltM_iff {a b : QI} : ltM a b = true ↔ a.1 < b.1 ∨ (a.1 = b.1 ∧ b.2 < a.2) := by
  unfold ltM beforeV
  simp
theorem wkM : Stb.Wk ltM := by
  refine ⟨fun x y h => ?_, fun x y z h1 h2 => ?_⟩
  · rw [Bool.eq_false_iff]
    intro k
    have h := ltM_iff.1 h
    have k := ltM_iff.1 k
    grind
  rw [Bool.eq_false_iff] at h1 h2 ⊢
  intro k
  have k := ltM_iff.1 k
  have h1 : ¬ _ := fun q => h1 (ltM_iff.2 q)
  have h2 : ¬ _ := fun q => h2 (ltM_iff.2 q)
  grind

def Cov (l : List QQ) (x : Rat) : Prop := ∃ p, p ∈ l ∧ p.1 ≤ x ∧ x ≤ p.2
def Sep (l : List QQ) : Prop := l.Pairwise (fun a b => a.2 < b.1) ∧ ∀ p, p ∈ l → p.1 < p.2
theorem sep_nil : Sep [] := ⟨List.Pairwise.nil, by simp⟩
theorem Sep.tail {a : QQ} {l : List QQ} (h : Sep (a :: l)) : Sep l := ⟨(List.pairwise_cons.1 h.1).2, fun p hp => h.2 p (List.mem_cons_of_mem _ hp)⟩
theorem Sep.far {a : QQ} {l : List QQ} (h : Sep (a :: l)) {p : QQ} (hp : p ∈ l) : a.2 < p.1 := (List.pairwise_cons.1 h.1).1 p hp
theorem Sep.head {a : QQ} {l : List QQ} (h : Sep (a :: l)) : a.1 < a.2 := h.2 a (List.mem_cons_self ..)
theorem cov_cons {a : QQ} {l : List QQ} {x : Rat} : Cov (a :: l) x ↔ (a.1 ≤ x ∧ x ≤ a.2) ∨ Cov l x := by
  constructor
  · rintro ⟨p, hp, h⟩
    rcases List.mem_cons.1 hp with rfl | hp
    · exact Or.inl h
    exact Or.inr ⟨p, hp, h⟩
  rintro (h | ⟨p, hp, h⟩)
  · exact ⟨a, List.mem_cons_self .., h⟩
  exact ⟨p, List.mem_cons_of_mem _ hp, h⟩
theorem cov_snoc {a : QQ} {l : List QQ} {x : Rat} : Cov (l ++ [a]) x ↔ Cov l x ∨ (a.1 ≤ x ∧ x ≤ a.2) := by
  constructor
  · rintro ⟨p, hp, h⟩
    rcases List.mem_append.1 hp with hp | hp
    · exact Or.inl ⟨p, hp, h⟩
    rw [List.mem_singleton] at hp
    subst hp
    exact Or.inr h
  rintro (⟨p, hp, h⟩ | h)
  · exact ⟨p, List.mem_append.2 (Or.inl hp), h⟩
  exact ⟨a, List.mem_append.2 (Or.inr (List.mem_singleton.2 rfl)), h⟩
theorem not_cov_nil {x : Rat} : ¬ Cov [] x := by rintro ⟨p, hp, _⟩; simp at hp
theorem Sep.tail_cov {a : QQ} {l : List QQ} (h : Sep (a :: l)) {x : Rat} : Cov l x ↔ Cov (a :: l) x ∧ a.2 < x := by
  constructor
  · rintro ⟨p, hp, h1, h2⟩
    refine ⟨cov_cons.2 (Or.inr ⟨p, hp, h1, h2⟩), ?_⟩
    have := h.far hp
    grind
  rintro ⟨hc, hx⟩
  rcases cov_cons.1 hc with h1 | h1
  · grind
  exact h1
theorem Sep.first_le {a : QQ} {l : List QQ} (h : Sep (a :: l)) {x : Rat} (hc : Cov (a :: l) x) : a.1 ≤ x := by
  rcases cov_cons.1 hc with h1 | ⟨p, hp, h1, _⟩
  · exact h1.1
  have := h.far hp
  have := h.head
  grind
theorem Sep.gap {a : QQ} {l : List QQ} (h : Sep (a :: l)) {y : Rat} (hy : a.2 < y) : ∃ x, a.2 < x ∧ x < y ∧ ¬ Cov (a :: l) x := by
 have hm : ∃ z, a.2 < z ∧ z ≤ y ∧ ∀ p, p ∈ l → z ≤ p.1 := by
  cases l with
  | nil => exact ⟨y, hy, by grind, by simp⟩
  | cons b l =>
   have hab := h.far (List.mem_cons_self (a := b) (l := l))
   have ht := h.tail
   have hb : ∀ p, p ∈ b :: l → b.1 ≤ p.1 := by
    intro p hp
    rcases List.mem_cons.1 hp with rfl | hp
    ·grind
    have := ht.far hp
    have := ht.head
    grind
   by_cases hyb : y ≤ b.1
   ·exact ⟨y, hy, by grind, fun p hp => by have := hb p hp; grind⟩
   exact ⟨b.1, hab, by grind, hb⟩
 obtain ⟨z, hz1, hz2, hz3⟩ := hm
 refine ⟨(a.2 + z) / 2, by grind, by grind, ?_⟩
 intro hc
 rcases cov_cons.1 hc with h1 | ⟨p, hp, h1, _⟩
 ·grind
 have := hz3 p hp
 grind
theorem sep_unique : ∀ {l m : List QQ}, Sep l → Sep m → (∀ x, Cov l x ↔ Cov m x) → l = m
 | [], [], _, _, _ => rfl
 | [], b :: m, _, hm, h => by
  have := (h b.1).2 (cov_cons.2 (Or.inl ⟨by grind, by have := hm.head; grind⟩))
  exact (not_cov_nil this).elim
 | a :: l, [], hl, _, h => by
  have := (h a.1).1 (cov_cons.2 (Or.inl ⟨by grind, by have := hl.head; grind⟩))
  exact (not_cov_nil this).elim
 | a :: l, b :: m, hl, hm, h => by
  have ha := hl.head
  have hb := hm.head
  have e1 : a.1 = b.1 := by
   have h1 := hm.first_le ((h a.1).1 (cov_cons.2 (Or.inl ⟨by grind, by grind⟩)))
   have h2 := hl.first_le ((h b.1).2 (cov_cons.2 (Or.inl ⟨by grind, by grind⟩)))
   grind
  have e2 : a.2 = b.2 := by
   by_cases h1 : a.2 < b.2
   ·obtain ⟨x, hx1, hx2, hx3⟩ := hl.gap h1
    exact (hx3 ((h x).2 (cov_cons.2 (Or.inl ⟨by grind, by grind⟩)))).elim
   by_cases h2 : b.2 < a.2
   ·obtain ⟨x, hx1, hx2, hx3⟩ := hm.gap h2
    exact (hx3 ((h x).1 (cov_cons.2 (Or.inl ⟨by grind, by grind⟩)))).elim
   grind
  have e : a = b := Prod.ext e1 e2
  subst e
  rw [sep_unique hl.tail hm.tail (fun x => by rw [hl.tail_cov, hm.tail_cov, h])]

theorem cov_perm {l m : List QQ} (h : ∀ p, p ∈ l ↔ p ∈ m) (x : Rat) : Cov l x ↔ Cov m x :=
  ⟨fun ⟨p, hp, k⟩ => ⟨p, (h p).1 hp, k⟩, fun ⟨p, hp, k⟩ => ⟨p, (h p).2 hp, k⟩⟩
theorem last_of {l : List QQ} {a : QQ} (h : l.getLast? = some a) : l = l.dropLast ++ [a] := by
  obtain ⟨ys, rfl⟩ := List.getLast?_eq_some_iff.1 h
  simp
theorem sep_snoc {l : List QQ} {a : QQ} : Sep (l ++ [a]) ↔ Sep l ∧ a.1 < a.2 ∧ ∀ p, p ∈ l → p.2 < a.1 := by
 constructor
 ·rintro ⟨h1, h2⟩
  rw [List.pairwise_append] at h1
  exact ⟨⟨h1.1, fun p hp => h2 p (List.mem_append.2 (Or.inl hp))⟩, h2 a (by simp), fun p hp => h1.2.2 p hp a (by simp)⟩
 rintro ⟨h1, h2, h3⟩
 refine ⟨List.pairwise_append.2 ⟨h1.1, List.pairwise_singleton .., fun p hp q hq => ?_⟩, fun p hp => ?_⟩
 ·rw [List.mem_singleton] at hq
  subst hq
  exact h3 p hp
 rcases List.mem_append.1 hp with hp | hp
 ·exact h1.2 p hp
 rw [List.mem_singleton] at hp
 subst hp
 exact h2
theorem mstep_law {out : List QQ} {s : QQ} (h : Sep out) (hs : s.1 < s.2) (hl : ∀ p, p ∈ out → p.1 ≤ s.1) :
  Sep (mstep out s) ∧ (∀ x, Cov (mstep out s) x ↔ Cov out x ∨ (s.1 ≤ x ∧ x ≤ s.2)) ∧ ∀ p, p ∈ mstep out s → p.1 ≤ s.1 := by
 unfold mstep
 split
 ·rename_i h0
  rw [List.getLast?_eq_none_iff] at h0
  subst h0
  refine ⟨sep_snoc.2 ⟨sep_nil, hs, by simp⟩, fun x => cov_snoc, ?_⟩
  intro p hp
  simp at hp
  subst hp
  grind
 rename_i l h0
 have e := last_of h0
 generalize out.dropLast = o at e
 subst e
 obtain ⟨k1, k2, k3⟩ := sep_snoc.1 h
 have hls := hl l (by simp)
 split
 ·rename_i h1
  refine ⟨sep_snoc.2 ⟨h, hs, ?_⟩, fun x => cov_snoc, ?_⟩
  ·intro p hp
   rcases List.mem_append.1 hp with hp | hp
   ·have := k3 p hp
    grind
   rw [List.mem_singleton] at hp
   subst hp
   exact h1
  intro p hp
  rcases List.mem_append.1 hp with hp | hp
  ·exact hl p hp
  rw [List.mem_singleton] at hp
  subst hp
  grind
 rename_i h1
 split
 ·rename_i h2
  refine ⟨sep_snoc.2 ⟨k1, by show l.1 < s.2; grind, k3⟩, fun x => ?_, ?_⟩
  ·rw [cov_snoc, cov_snoc]
   show Cov o x ∨ (l.1 ≤ x ∧ x ≤ s.2) ↔ (Cov o x ∨ (l.1 ≤ x ∧ x ≤ l.2)) ∨ (s.1 ≤ x ∧ x ≤ s.2)
   grind
  intro p hp
  rcases List.mem_append.1 hp with hp | hp
  ·exact hl p (List.mem_append.2 (Or.inl hp))
  rw [List.mem_singleton] at hp
  subst hp
  exact hls
 rename_i h2
 refine ⟨h, fun x => ?_, hl⟩
 rw [cov_snoc]
 grind
theorem fold_law (l : List QQ) : ∀ (out : List QQ), Sep out → (∀ p, p ∈ l → p.1 < p.2) → l.Pairwise (fun a b => a.1 ≤ b.1) → (∀ p, p ∈ out → ∀ q, q ∈ l → p.1 ≤ q.1) →
  Sep (l.foldl mstep out) ∧ ∀ x, Cov (l.foldl mstep out) x ↔ Cov out x ∨ Cov l x := by
 induction l with
 | nil => intro out h _ _ _; exact ⟨h, fun x => ⟨Or.inl, fun k => k.elim id fun k => (not_cov_nil k).elim⟩⟩
 | cons s l ih =>
  intro out h h1 h2 h3
  obtain ⟨a1, a2, a3⟩ := mstep_law h (h1 s (List.mem_cons_self ..)) (fun p hp => h3 p hp s (List.mem_cons_self ..))
  obtain ⟨p1, p2⟩ := List.pairwise_cons.1 h2
  obtain ⟨b1, b2⟩ := ih (mstep out s) a1 (fun p hp => h1 p (List.mem_cons_of_mem _ hp)) p2 (fun p hp q hq => by have := a3 p hp; have := p1 q hq; grind)
  refine ⟨b1, fun x => ?_⟩
  rw [List.foldl_cons, b2, a2, cov_cons, or_assoc]
theorem mem_some2 {ps : List QQ} {p : QQ} : p ∈ some2 ps ↔ p ∈ ps ∧ p.1 < p.2 := by unfold some2; simp
theorem mergeV_law (ps : List QQ) : Sep (mergeV ps) ∧ ∀ x, Cov (mergeV ps) x ↔ Cov (some2 ps) x := by
  have hs : Stb.Srt ltQ (sortedV ps) := Stb.stab_srt (wkQ fun p : QQ => p.1) _
  have hm : ∀ p, p ∈ sortedV ps ↔ p ∈ some2 ps := fun p => Stb.mem_stab
  obtain ⟨a, b⟩ := fold_law (sortedV ps) [] sep_nil (fun p hp => (mem_some2.1 ((hm p).1 hp)).2) (List.Pairwise.imp (fun {x y} h => by unfold ltQ at h; rw [decide_eq_false_iff_not] at h; grind) hs) (by simp)
  refine ⟨a, fun x => ?_⟩
  unfold mergeV
  rw [b, cov_perm hm]
  exact ⟨fun k => k.elim (fun k => (not_cov_nil k).elim) id, Or.inr⟩
theorem mergeV_cov {ps qs : List QQ} (h : ∀ x, Cov (some2 ps) x ↔ Cov (some2 qs) x) : mergeV ps = mergeV qs :=
  sep_unique (mergeV_law ps).1 (mergeV_law qs).1 (fun x => by rw [(mergeV_law ps).2, (mergeV_law qs).2, h])

def Apart (c d : QQ) : Prop := c.1 < c.2 → d.1 < d.2 → c.2 < d.1 ∨ d.2 < c.1
theorem Apart.symm {c d : QQ} (h : Apart c d) : Apart d c := fun h1 h2 => (h h2 h1).symm

theorem some2_cons (p : QQ) (l : List QQ) : some2 (p :: l) = if p.1 < p.2 then p :: some2 l else some2 l := by
  unfold some2
  by_cases h : p.1 < p.2 <;> simp [h]
theorem some2_app (l m : List QQ) : some2 (l ++ m) = some2 l ++ some2 m := by unfold some2; simp
theorem Sep.apart {l : List QQ} (h : Sep l) : l.Pairwise Apart := List.Pairwise.imp (fun h _ _ => Or.inl h) h.1



theorem cov_app {l m : List QQ} {x : Rat} : Cov (l ++ m) x ↔ Cov l x ∨ Cov m x := by
  constructor
  · rintro ⟨p, hp, h⟩
    rcases List.mem_append.1 hp with hp | hp
    · exact Or.inl ⟨p, hp, h⟩
    exact Or.inr ⟨p, hp, h⟩
  rintro (⟨p, hp, h⟩ | ⟨p, hp, h⟩)
  · exact ⟨p, List.mem_append.2 (Or.inl hp), h⟩
  exact ⟨p, List.mem_append.2 (Or.inr hp), h⟩
def Touch (c d : QQ) : Prop := c.1 < c.2 → d.1 < d.2 → c.2 ≤ d.1 ∨ d.2 ≤ c.1
theorem Touch.symm {c d : QQ} (h : Touch c d) : Touch d c := fun h1 h2 => (h h2 h1).symm
end Go.Proofs.YtmgibncehlpfkaaGreat

namespace Go.Proofs.YtmgibncehlpfkaaGreat
open Go.RowKit
attribute [local go_sem ↓] Go.wp_at_zero Go.wp_at_succ
def fillsV (n rule : Int) : Bool := (decide (rule = 1) && decide (n ≠ 0)) || (decide (rule = 2) && decide (n % 2 ≠ 0))
theorem tmod_two (n : Int) : n.tmod 2 = 0 ↔ n % 2 = 0 := by
  rw [← Int.dvd_iff_tmod_eq_zero, ← Int.dvd_iff_emod_eq_zero]
theorem rfills_is (n rule : Int) (b : Bool) (w : World) (h : fillsV n rule = b) (hn : -1000000 ≤ n ∧ n ≤ 1000000) :
    Calls Tryz.prog 11 #[.int .i64 n, .int .i64 rule] w fun e w' => e = .returned (.bool b) ∧ Ext w w' := by
  have ht : -1 ≤ n.tmod 2 ∧ n.tmod 2 ≤ 1 := by
    rw [Int.tmod_eq_emod]
    rw [show (2 : Int).natAbs = 2 from rfl]
    split <;> rename_i hk
    · omega
    · have : n % 2 ≠ 0 := fun k => hk (Or.inr (Int.dvd_of_emod_eq_zero k))
      omega
  have wt : IntKind.i64.wrap (n.tmod 2) = n.tmod 2 := by rw [IntKind.wrap_i64]; omega
  by_cases h1 : rule = 1
  · subst h1
    by_cases h2 : n = 0
    · have hb : b = false := by rw [← h]; unfold fillsV; simp [h2]
      subst hb
      subst h2
      clear h
      go_enter Tryz.func11, Tryz.ntmps11
      go_wp2_with fail
      go_ret
      exact ⟨rfl, Ext.refl _⟩
    · have hb : b = true := by rw [← h]; unfold fillsV; simp [h2]
      subst hb
      clear h
      go_enter Tryz.func11, Tryz.ntmps11
      go_wp2_with fail
      go_ret
      exact ⟨by simp, Ext.refl _⟩
  · by_cases h3 : rule = 2
    · subst h3
      by_cases h4 : n.tmod 2 = 0
      · have h5 := (tmod_two n).1 h4
        have hb : b = false := by rw [← h]; unfold fillsV; simp [h5]
        subst hb
        clear h
        go_enter Tryz.func11, Tryz.ntmps11
        go_wp2_with fail
        go_ret
        exact ⟨by simp, Ext.refl _⟩
      · have h5 : n % 2 ≠ 0 := fun k => h4 ((tmod_two n).2 k)
        have hb : b = true := by rw [← h]; unfold fillsV; simp [h5]
        subst hb
        clear h
        go_enter Tryz.func11, Tryz.ntmps11
        go_wp2_with fail
        go_ret
        exact ⟨by simp [h4], Ext.refl _⟩
    · have hb : b = false := by rw [← h]; unfold fillsV; simp [h1, h3]
      subst hb
      clear h
      go_enter Tryz.func11, Tryz.ntmps11
      go_wp2_with fail
      go_ret
      exact ⟨by simp, Ext.refl _⟩
end Go.Proofs.YtmgibncehlpfkaaGreat

namespace Go.Proofs.YtmgibncehlpfkaaGreat
def runs : Int → List QI → List (QQ × Int)
  | s, a :: b :: t => ((a.1, b.1), s + a.2) :: runs (s + a.2) (b :: t)
  | _, [_] => []
  | _, [] => []
def lvstep (out : List (QQ × Int)) (r : QQ × Int) : List (QQ × Int) :=
  if r.2 = 0 ∨ ¬ r.1.1 < r.1.2 then out else
    match out.getLast? with
    | none => out ++ [(r.1, -r.2)]
    | some l => if l.2 = -r.2 ∧ l.1.2 = r.1.1 then out.dropLast ++ [((l.1.1, r.1.2), l.2)] else out ++ [(r.1, -r.2)]
def levelsV (ms : List QI) : List (QQ × Int) := (runs 0 ms).foldl lvstep []
def sel (rule : Int) (l : List (QQ × Int)) : List QQ := (l.filter fun r => fillsV r.2 rule).map fun r => r.1
def spansV (rule : Int) (ms : List QI) : List QQ := mergeV (sel rule (runs 0 ms))
theorem fillsV_neg (n rule : Int) : fillsV (-n) rule = fillsV n rule := by
  unfold fillsV
  have h1 : (-n ≠ 0) = (n ≠ 0) := by apply propext; omega
  have h2 : ((-n) % 2 ≠ 0) = (n % 2 ≠ 0) := by apply propext; omega
  simp only [h1, h2]
theorem fillsV_zero (rule : Int) : fillsV 0 rule = false := by unfold fillsV; simp
theorem sel_app (rule : Int) (l m : List (QQ × Int)) : sel rule (l ++ m) = sel rule l ++ sel rule m := by unfold sel; simp
theorem sel_one (rule : Int) (r : QQ × Int) : sel rule [r] = if fillsV r.2 rule = true then [r.1] else [] := by
  unfold sel
  by_cases h : fillsV r.2 rule = true <;> simp [h]
theorem sel_cons (rule : Int) (r : QQ × Int) (l : List (QQ × Int)) : sel rule (r :: l) = sel rule [r] ++ sel rule l := by rw [← sel_app]; rfl
theorem lvlast {l : List (QQ × Int)} {a : QQ × Int} (h : l.getLast? = some a) : l = l.dropLast ++ [a] := by
  obtain ⟨ys, rfl⟩ := List.getLast?_eq_some_iff.1 h
  simp
theorem lvstep_law (rule : Int) {out : List (QQ × Int)} {r : QQ × Int} (ho : ∀ p, p ∈ out → p.1.1 < p.1.2) :
  (∀ p, p ∈ lvstep out r → p.1.1 < p.1.2) ∧ ∀ x, Cov (sel rule (lvstep out r)) x ↔ Cov (sel rule out) x ∨ Cov (some2 (sel rule [r])) x := by
 have hone : ∀ x, Cov (some2 (sel rule [r])) x ↔ fillsV r.2 rule = true ∧ r.1.1 < r.1.2 ∧ r.1.1 ≤ x ∧ x ≤ r.1.2 := by
  intro x
  rw [sel_one]
  split
  ·rename_i h
   rw [some2_cons]
   split
   ·rename_i h2
    rw [cov_cons]
    exact ⟨fun k => k.elim (fun k => ⟨h, h2, k⟩) fun k => (not_cov_nil k).elim, fun k => Or.inl k.2.2⟩
   rename_i h2
   exact ⟨fun k => (not_cov_nil k).elim, fun k => (h2 k.2.1).elim⟩
  rename_i h
  exact ⟨fun k => (not_cov_nil k).elim, fun k => (h k.1).elim⟩
 have happ : ∀ x, r.1.1 < r.1.2 → (Cov (sel rule (out ++ [(r.1, -r.2)])) x ↔ Cov (sel rule out) x ∨ Cov (some2 (sel rule [r])) x) := by
  intro x hr
  rw [sel_app, cov_app, hone, sel_one]
  dsimp only
  rw [fillsV_neg]
  split
  ·rename_i h
   rw [cov_cons]
   exact ⟨fun k => k.elim Or.inl fun k => k.elim (fun k => Or.inr ⟨h, hr, k⟩) fun k => (not_cov_nil k).elim, fun k => k.elim Or.inl fun k => Or.inr (Or.inl k.2.2)⟩
  rename_i h
  exact ⟨fun k => k.elim Or.inl fun k => (not_cov_nil k).elim, fun k => k.elim Or.inl fun k => (h k.1).elim⟩
 have hmem : r.1.1 < r.1.2 → ∀ p, p ∈ out ++ [(r.1, -r.2)] → p.1.1 < p.1.2 := fun hr p hp => by
  rcases List.mem_append.1 hp with hp | hp
  ·exact ho p hp
  rw [List.mem_singleton] at hp
  subst hp
  exact hr
 unfold lvstep
 split
 ·rename_i h
  refine ⟨ho, fun x => ⟨Or.inl, fun k => k.elim id fun k => ?_⟩⟩
  have k := (hone x).1 k
  rcases h with h | h
  ·rw [h, fillsV_zero] at k
   exact absurd k.1 (by simp)
  exact absurd k.2.1 h
 rename_i h
 have hr : r.1.1 < r.1.2 := by
  by_cases k : r.1.1 < r.1.2
  ·exact k
  exact absurd (Or.inr k) h
 split
 ·exact ⟨hmem hr, fun x => happ x hr⟩
 rename_i l h0
 have e0 := lvlast h0
 split
 ·rename_i hl
  generalize out.dropLast = o at *
  subst e0
  have hll := ho l (by simp)
  refine ⟨fun p hp => ?_, fun x => ?_⟩
  ·rcases List.mem_append.1 hp with hp | hp
   ·exact ho p (List.mem_append.2 (Or.inl hp))
   rw [List.mem_singleton] at hp
   subst hp
   dsimp only
   have := hl.2
   grind
  rw [sel_app, sel_app, cov_app, cov_app, hone, sel_one, sel_one]
  dsimp only
  have ef : fillsV l.2 rule = fillsV r.2 rule := by rw [hl.1, fillsV_neg]
  rw [ef]
  have h2 := hl.2
  split
  ·rename_i hf
   rw [cov_cons, cov_cons]
   dsimp only
   have nn : ∀ y, Cov [] y ↔ False := fun y => ⟨not_cov_nil, False.elim⟩
   rw [nn]
   grind
  rename_i hf
  have nn : ∀ y, Cov [] y ↔ False := fun y => ⟨not_cov_nil, False.elim⟩
  rw [nn]
  grind
 exact ⟨hmem hr, fun x => happ x hr⟩
theorem lvfold_law (rule : Int) (l : List (QQ × Int)) : ∀ (out : List (QQ × Int)), (∀ p, p ∈ out → p.1.1 < p.1.2) →
  (∀ p, p ∈ l.foldl lvstep out → p.1.1 < p.1.2) ∧ ∀ x, Cov (sel rule (l.foldl lvstep out)) x ↔ Cov (sel rule out) x ∨ Cov (some2 (sel rule l)) x := by
 induction l with
 | nil => intro out h; exact ⟨h, fun x => ⟨Or.inl, fun k => k.elim id fun k => (not_cov_nil k).elim⟩⟩
 | cons r l ih =>
  intro out h
  obtain ⟨a1, a2⟩ := lvstep_law rule (r := r) h
  obtain ⟨b1, b2⟩ := ih (lvstep out r) a1
  refine ⟨b1, fun x => ?_⟩
  rw [List.foldl_cons, b2, a2, sel_cons rule r l, some2_app, cov_app, or_assoc]
theorem levels_spans (rule : Int) (ms : List QI) : mergeV (sel rule (levelsV ms)) = spansV rule ms := by
  obtain ⟨h1, h2⟩ := lvfold_law rule (runs 0 ms) [] (by simp)
  have e : some2 (sel rule (levelsV ms)) = sel rule (levelsV ms) := by
    unfold some2
    rw [List.filter_eq_self]
    intro p hp
    unfold sel at hp
    obtain ⟨r, hr, rfl⟩ := List.mem_map.1 hp
    rw [decide_eq_true_iff]
    exact h1 r (List.mem_filter.1 hr).1
  refine mergeV_cov fun x => ?_
  rw [e]
  unfold levelsV
  rw [h2]
  exact ⟨fun k => k.elim (fun k => (not_cov_nil k).elim) id, Or.inr⟩
end Go.Proofs.YtmgibncehlpfkaaGreat

namespace Go.Proofs.YtmgibncehlpfkaaGreat
open Go.RowKit
attribute [local go_sem ↓] Go.wp_at_zero Go.wp_at_succ run_eql_point run_neq_point run_max_ii run_min_ii
set_option maxRecDepth 20000 in
set_option maxHeartbeats 4000000 in
theorem add0_any (x y : Int) (w : World) (hv : okPt x y = true) :
  Calls Tryz.prog 81 #[.agg #[.int .i64 x, .int .i64 y], .agg #[.int .i64 0, .int .i64 0]] w fun e w' => e = .returned (.agg #[.int .i64 x, .int .i64 y]) ∧ Ext w w' := by
 have hv2 : (-1048576 ≤ x ∧ x ≤ 1048576) ∧ (-1048576 ≤ y ∧ y ≤ 1048576) := by simpa [okPt] using hv
 have c1 : clampI x (-1048576) 1048576 = x := by have h := eq_clamp x; rw [decide_eq_true hv2.1] at h; simpa using h
 have c2 : clampI y (-1048576) 1048576 = y := by have h := eq_clamp y; rw [decide_eq_true hv2.2] at h; simpa using h
 have c3 : clampI 0 (-1048576) 1048576 = 0 := by decide
 have wx : IntKind.i64.wrap x = x := by rw [IntKind.wrap_i64]; omega
 have wy : IntKind.i64.wrap y = y := by rw [IntKind.wrap_i64]; omega
 clear hv hv2
 go_enter Tryz.func81, Tryz.ntmps81
 go_upto_region 1 with fail
 have hE : Ext w (((w.alloc (.cells #[.int .i64 x, .int .i64 y] 45)).alloc (.cells #[.int .i64 0, .int .i64 0] 45)).alloc (.cells #[.int .i64 0, .int .i64 0] 45)) := (((Ext.refl _).alloc _).alloc _).alloc _
 have hB2 : Blk (((w.alloc (.cells #[.int .i64 x, .int .i64 y] 45)).alloc (.cells #[.int .i64 0, .int .i64 0] 45)).alloc (.cells #[.int .i64 0, .int .i64 0] 45)) w.heap.size 45 #[.int .i64 x, .int .i64 y] := ((Blk.new w _ _).alloc _).alloc _
 have hB3 : Blk (((w.alloc (.cells #[.int .i64 x, .int .i64 y] 45)).alloc (.cells #[.int .i64 0, .int .i64 0] 45)).alloc (.cells #[.int .i64 0, .int .i64 0] 45)) (w.heap.size + 1) 45 #[.int .i64 0, .int .i64 0] := Blk.alloc (by have h := Blk.new (w.alloc (.cells #[.int .i64 x, .int .i64 y] 45)) 45 #[.int .i64 0, .int .i64 0]; simpa using h) _
 have hB4 : Blk (((w.alloc (.cells #[.int .i64 x, .int .i64 y] 45)).alloc (.cells #[.int .i64 0, .int .i64 0] 45)).alloc (.cells #[.int .i64 0, .int .i64 0] 45)) (w.heap.size + 1 + 1) 45 #[.int .i64 0, .int .i64 0] := by have h := Blk.new ((w.alloc (.cells #[.int .i64 x, .int .i64 y] 45)).alloc (.cells #[.int .i64 0, .int .i64 0] 45)) 45 #[.int .i64 0, .int .i64 0]; simpa using h
 have n23 : w.heap.size ≠ w.heap.size + 1 := by omega
 have n24 : w.heap.size ≠ w.heap.size + 1 + 1 := by omega
 have n34 : w.heap.size + 1 ≠ w.heap.size + 1 + 1 := by omega
 have z3 : w.heap.size ≤ w.heap.size + 1 := by omega
 have z4 : w.heap.size ≤ w.heap.size + 1 + 1 := by omega
 generalize ((w.alloc (.cells #[.int .i64 x, .int .i64 y] 45)).alloc (.cells #[.int .i64 0, .int .i64 0] 45)).alloc (.cells #[.int .i64 0, .int .i64 0] 45) = wa at *
 generalize w.heap.size + 1 + 1 = X4 at *
 generalize w.heap.size + 1 = X3 at *
 have z2 : w.heap.size ≤ w.heap.size := Nat.le_refl _
 generalize hX2 : w.heap.size = X2 at hB2 n23 n24 ⊢
 have z22 : w.heap.size ≤ X2 := by omega
 clear hX2 z2
 refine wp_region_held_drew (S := fun q => Ext w q ∧ Blk q X2 45 #[.int .i64 x, .int .i64 y] ∧ Blk q X3 45 #[.int .i64 0, .int .i64 0] ∧ Blk q X4 45 #[.int .i64 0, .int .i64 0]) (by kernel_rfl) ⟨hE.drew, hB2, hB3, hB4⟩ (fun _ => ?_)
 refine mL 0 (bs 6 1) (fun q hq => hq.2.1) Tryz.underlying45 (by kernel_rfl) ⟨hE.drew, hB2, hB3, hB4⟩ ?_
 refine zl 2 (bs 6 5) (fun q hq => hq.2.2.1) Tryz.underlying45 (by kernel_rfl) ⟨hE.drew, hB2, hB3, hB4⟩ ?_
 refine mC 1 (bs 6 7) (hold_any x y _) ?_
 rintro e w1 ⟨rfl, h1⟩
 rw [c1, c2]
 have k1 : Ext w w1 ∧ Blk w1 X2 45 #[.int .i64 x, .int .i64 y] ∧ Blk w1 X3 45 #[.int .i64 0, .int .i64 0] ∧ Blk w1 X4 45 #[.int .i64 0, .int .i64 0] := ⟨hE.drew.trans h1, (show Blk wa.drew X2 _ _ from hB2).ext h1, (show Blk wa.drew X3 _ _ from hB3).ext h1, (show Blk wa.drew X4 _ _ from hB4).ext h1⟩
 refine ⟨_, rfl, k1, ?_⟩
 try simp only [Act.put, zA, zB, zC]
 refine mC 3 (bs 6 15) (hold_any 0 0 _) ?_
 rintro e w2 ⟨rfl, h2⟩
 rw [c3]
 have k2 : Ext w w2 ∧ Blk w2 X2 45 #[.int .i64 x, .int .i64 y] ∧ Blk w2 X3 45 #[.int .i64 0, .int .i64 0] ∧ Blk w2 X4 45 #[.int .i64 0, .int .i64 0] := ⟨k1.1.trans h2, k1.2.1.ext h2, k1.2.2.1.ext h2, k1.2.2.2.ext h2⟩
 refine ⟨_, rfl, k2, ?_⟩
 try simp only [Act.put, zA, zB, zC]
 have o1 := Own.setCells w2 X2 #[.int .i64 x, .int .i64 y]
 have k3 : Ext w (w2.setCells X2 0 (#[.int .i64 x, .int .i64 y] : Array Value).toList) ∧ Blk (w2.setCells X2 0 (#[.int .i64 x, .int .i64 y] : Array Value).toList) X2 45 #[.int .i64 x, .int .i64 y] ∧ Blk (w2.setCells X2 0 (#[.int .i64 x, .int .i64 y] : Array Value).toList) X3 45 #[.int .i64 0, .int .i64 0] ∧ Blk (w2.setCells X2 0 (#[.int .i64 x, .int .i64 y] : Array Value).toList) X4 45 #[.int .i64 0, .int .i64 0] := ⟨o1.ext k2.1 z22, k2.2.1.setCells #[.int .i64 x, .int .i64 y] rfl, k2.2.2.1.own o1 (Ne.symm n23), k2.2.2.2.own o1 (Ne.symm n24)⟩
 refine mO 4 (bs 6 31) #[.int .i64 x, .int .i64 y] k2.2.1 rfl (by kernel_rfl) (all_oneCell_toArray (by simp [Value.oneCell'])) k3 ?_
 (try simp only [Act.put])
 generalize w2.setCells X2 0 (#[.int .i64 x, .int .i64 y] : Array Value).toList = w3 at *
 have o2 := Own.setCells w3 X3 #[.int .i64 0, .int .i64 0]
 have k4 : Ext w (w3.setCells X3 0 (#[.int .i64 0, .int .i64 0] : Array Value).toList) ∧ Blk (w3.setCells X3 0 (#[.int .i64 0, .int .i64 0] : Array Value).toList) X2 45 #[.int .i64 x, .int .i64 y] ∧ Blk (w3.setCells X3 0 (#[.int .i64 0, .int .i64 0] : Array Value).toList) X3 45 #[.int .i64 0, .int .i64 0] ∧ Blk (w3.setCells X3 0 (#[.int .i64 0, .int .i64 0] : Array Value).toList) X4 45 #[.int .i64 0, .int .i64 0] := ⟨o2.ext k3.1 z3, k3.2.1.own o2 n23, k3.2.2.1.setCells #[.int .i64 0, .int .i64 0] rfl, k3.2.2.2.own o2 (Ne.symm n34)⟩
 refine mO 5 (bs 6 63) #[.int .i64 0, .int .i64 0] k3.2.2.1 rfl (by kernel_rfl) (all_oneCell_toArray (by simp [Value.oneCell'])) k4 ?_
 (try simp only [Act.put])
 generalize w3.setCells X3 0 (#[.int .i64 0, .int .i64 0] : Array Value).toList = w4 at *
 refine wpAnyH_done (by kernel_rfl) ?_ _
 have d0 := k4.2.1.cell 0
 have d1 := k4.2.1.cell 1
 have d2 := k4.2.2.1.cell 0
 have d3 := k4.2.2.1.cell 1
 simp at d0 d1 d2 d3
 have K4 := zH k4
 clear k1 k2 k3 k4 h1 h2 hB2 hB3 hB4 hE o1 o2
 go_upto_region 2 with fail
 refine wp_region_lit ?_
 refine qV (.pointer (some ⟨X2, 0, none⟩)) ?_
 refine zq (.int .i64 x) ?_
 refine qV (.pointer (some ⟨X3, 0, none⟩)) ?_
 refine zq (.int .i64 0) ?_
 refine qV (.int .i64 x) ?_
 refine zq (.pointer (some ⟨X2, 1, none⟩)) ?_
 refine qV (.int .i64 y) ?_
 refine zq (.pointer (some ⟨X3, 1, none⟩)) ?_
 refine qV (.int .i64 0) ?_
 refine zq (.int .i64 y) ?_
 refine zq (.agg #[.int .i64 x, .int .i64 y]) ?_
 refine pO #[.int .i64 x, .int .i64 y] K4.out.2.2.2 rfl (by kernel_rfl) (all_oneCell_toArray (by simp [Value.oneCell'])) ?_
 (try simp only [Act.put])
 have o3 := Own.setCells w4 X4 #[.int .i64 x, .int .i64 y]
 have hx4 := o3.ext K4.out.1 z4
 have hb4 := K4.out.2.2.2.setCells #[.int .i64 x, .int .i64 y] rfl
 generalize w4.setCells X4 0 (#[.int .i64 x, .int .i64 y] : Array Value).toList = w5 at *
 clear o3
 go_wp2_with fail
 refine bodyPost_ret (v := .agg #[.int .i64 x, .int .i64 y]) ?_ rfl ⟨rfl, hx4⟩
 exact results_cell1 rfl rfl (hb4.loadVar rfl rfl (by rfl))
end Go.Proofs.YtmgibncehlpfkaaGreat

namespace Go.Proofs.YtmgibncehlpfkaaGreat
open Go.RowKit

theorem infoPt : (Tryz.prog.info? 45).map (fun i => (i.zero, i.size, i.bytes)) = some (some (.agg #[.int .i64 0, .int .i64 0]), 2, 16) := by kernel_rfl
theorem infoSl : (Tryz.prog.info? 43).map (fun i => (i.zero, i.size, i.bytes)) = some (some (.slice none 0 0), 1, 24) := by kernel_rfl
def ptCells (xs : List (Int × Int)) : List Value := xs.flatMap fun x => [Value.int .i64 x.1, Value.int .i64 x.2]
theorem ptCells_snoc (xs : List (Int × Int)) (x : Int × Int) : ptCells (xs ++ [x]) = ptCells xs ++ [Value.int .i64 x.1, Value.int .i64 x.2] := by simp [ptCells]
theorem ptCells_get (ps : List (Int × Int)) (i : Nat) (hi : i < ps.length) : (ptCells ps)[i * 2]? = some (.int .i64 (ps.getD i (0, 0)).1) ∧ (ptCells ps)[i * 2 + 1]? = some (.int .i64 (ps.getD i (0, 0)).2) := by
 induction ps generalizing i with
 | nil => simp at hi
 | cons x xs ih =>
  cases i with
  | zero => simp [ptCells]
  | succ i =>
   have := ih i (by simpa using hi)
   have e : ptCells (x :: xs) = Value.int .i64 x.1 :: Value.int .i64 x.2 :: ptCells xs := by simp [ptCells]
   rw [e, show (i + 1) * 2 = i * 2 + 1 + 1 by omega, show i * 2 + 1 + 1 + 1 = (i * 2 + 1) + 1 + 1 by omega]
   simpa using this
theorem one_pt (x : Int × Int) : ∀ u ∈ ([.int .i64 x.1, .int .i64 x.2] : List Value), u.oneCell' = true := by simp [Value.oneCell']
theorem noUL_pt (x : Int × Int) : NoUL [.int .i64 x.1, .int .i64 x.2] := by intro y hy k; simp at hy; rcases hy with rfl | rfl <;> simp
theorem noUL_zpt : NoUL (Value.agg #[.int .i64 0, .int .i64 0]).cells.toList := by intro x hx k; simp [Value.cells] at hx; rcases hx with rfl | rfl <;> simp
theorem noUL_zsl : NoUL (Value.slice none 0 0).cells.toList := by intro x hx k; simp [Value.cells] at hx; rw [hx]; simp
theorem two_new (w : World) (a b : Value) (t : TypeId) : ∀ (j : Nat) (u : Value), [a, b][j]? = some u → (w.alloc (.cells #[a, b] t)).cell? ((⟨w.heap.size, 0, none⟩ : Addr).add j) = some u := by
  intro j u hj
  match j, hj with
  | 0, hj => simp at hj; subst hj; simp [Addr.add]
  | 1, hj => simp at hj; subst hj; simp [Addr.add]
theorem RowN.pts {w : World} {base : Nat} {v : Value} {ps : List (Int × Int)} (h : RowN w base 45 2 v ps.length (ptCells ps)) : ∃ B cb, v = .slice B ps.length cb ∧ PtsV w v ps ∧ ∀ A, B = some A → base ≤ A.block := by
 obtain ⟨_, ⟨rfl, hz⟩ | ⟨g, cap, rest, rfl, hb, hB, _⟩⟩ := h
 ·have : ps = [] := List.eq_nil_of_length_eq_zero hz
  subst this
  exact ⟨none, 0, rfl, ⟨none, 0, rfl, fun h => absurd rfl h⟩, fun A h => by cases h⟩
 refine ⟨_, cap, rfl, ⟨_, cap, rfl, fun _ => ⟨g, 0, rfl, fun i hi => ?_⟩⟩, fun A h => by injection h with h; rw [← h]; exact hb⟩
 obtain ⟨h1, h2⟩ := ptCells_get ps i hi
 rw [Nat.zero_add]
 exact ⟨by rw [hB.cell, List.getElem?_toArray, List.getElem?_append_left (List.getElem?_eq_some_iff.1 h1).1]; exact h1, by rw [hB.cell, List.getElem?_toArray, List.getElem?_append_left (List.getElem?_eq_some_iff.1 h2).1]; exact h2⟩
theorem PtsV.grown {w w' : World} {B : Option Addr} {n cb : Nat} {ps : List (Int × Int)} {row : Option Nat} (h : PtsV w (.slice B n cb) ps) (hg : w.grownBy w' row) (hne : ∀ A, B = some A → row ≠ some A.block) : PtsV w' (.slice B n cb) ps := by
 obtain ⟨A, cap, hv, ha⟩ := h
 refine ⟨A, cap, hv, fun hn => ?_⟩
 obtain ⟨g, off, rfl, hp⟩ := ha hn
 injection hv with e1 _ _
 have hn2 := hne _ e1
 have hc : ∀ o v, w.cell? ⟨g, o, none⟩ = some v → w'.cell? ⟨g, o, none⟩ = some v := fun o v hc =>
  (World.cell?_of_block (w := w) (a := ⟨g, o, none⟩) (hg.block g (World.block_lt_of_cell? w _ hc) (Ne.symm hn2))).trans hc
 exact ⟨g, off, rfl, fun i hi => ⟨hc _ _ (hp i hi).1, hc _ _ (hp i hi).2⟩⟩
def Tr (b0 : Nat) (w : World) (v : Value) (done : List Ring) : Prop := ∃ vs : List Value, RowN w b0 43 1 v done.length vs ∧ vs.length = done.length ∧
  ∀ (i : Nat) (r : Ring), done[i]? = some r → ∃ (B : Option Addr) (cb : Nat), vs[i]? = some (Value.slice B r.length cb) ∧ PtsV w (Value.slice B r.length cb) r ∧ (∀ A, B = some A → v.ownBlock ≠ some A.block ∧ A.block < w.heap.size) ∧ ∀ A, B = some A → b0 ≤ A.block
theorem Tr.ext {b0 : Nat} {w w' : World} {v : Value} {done : List Ring} (h : Tr b0 w v done) (x : Ext w w') : Tr b0 w' v done := by
  obtain ⟨vs, h1, h2, h3⟩ := h
  refine ⟨vs, h1.ext x, h2, fun i r hr => ?_⟩
  obtain ⟨B, cb, h4, h5, h6, h7⟩ := h3 i r hr
  exact ⟨B, cb, h4, h5.ext x, fun A hA => ⟨(h6 A hA).1, Nat.lt_of_lt_of_le (h6 A hA).2 x.size⟩, h7⟩
theorem Tr.snoc {b0 gx cap n : Nat} {w w' : World} {v s : Value} {done : List Ring} {r : Ring} (_h : Tr b0 w v done) (hn : done.length = n) {B : Option Addr} {cb : Nat} (hs : s = .slice B r.length cb) (hp : PtsV w (.slice B r.length cb) r) (hB : ∀ A, B = some A → v.ownBlock ≠ some A.block ∧ A.block < w.heap.size) (hB0 : ∀ A, B = some A → b0 ≤ A.block)
  (vs : List Value) (hvs : ∃ xs, RowN w b0 43 1 v done.length xs ∧ xs.length = done.length ∧ xs = vs ∧ ∀ (i : Nat) (r : Ring), done[i]? = some r → ∃ (B : Option Addr) (cb : Nat), xs[i]? = some (Value.slice B r.length cb) ∧ PtsV w (Value.slice B r.length cb) r ∧ (∀ A, B = some A → v.ownBlock ≠ some A.block ∧ A.block < w.heap.size) ∧ ∀ A, B = some A → b0 ≤ A.block)
  (h2 : RowN w' b0 43 1 (.slice (some ⟨gx, 0, none⟩) (n + 1) cap) (n + 1) (vs ++ [s])) (h3 : w.grownBy w' v.ownBlock) (hf : v.ownBlock = some gx ∨ w.heap.size ≤ gx) :
  Tr b0 w' (.slice (some ⟨gx, 0, none⟩) (n + 1) cap) (done ++ [r]) := by
 subst hn
 obtain ⟨xs, k1, k2, rfl, k3⟩ := hvs
 have key : ∀ A : Addr, v.ownBlock ≠ some A.block ∧ A.block < w.heap.size → (Value.slice (some ⟨gx, 0, none⟩) (done.length + 1) cap).ownBlock ≠ some A.block ∧ A.block < w'.heap.size := by
  intro A ⟨q1, q2⟩
  refine ⟨fun e => ?_, Nat.lt_of_lt_of_le q2 h3.size⟩
  simp [Value.ownBlock] at e
  rcases hf with hf | hf
  ·exact q1 (by rw [hf, e])
  omega
 refine ⟨xs ++ [s], by rw [List.length_append]; exact h2, by simp [k2], fun i r2 hr => ?_⟩
 by_cases hi : i < done.length
 ·rw [List.getElem?_append_left hi] at hr
  obtain ⟨B2, cb2, q1, q2, q3, q4⟩ := k3 i r2 hr
  exact ⟨B2, cb2, by rw [List.getElem?_append_left (by omega)]; exact q1, q2.grown h3 (fun A hA => (q3 A hA).1), fun A hA => key A (q3 A hA), q4⟩
 rw [List.getElem?_append_right (by omega)] at hr
 have hi0 : i - done.length = 0 := by
  have := (List.getElem?_eq_some_iff.1 hr).1
  simp at this
  omega
 rw [hi0] at hr
 simp at hr
 subst hr
 refine ⟨B, cb, ?_, hp.grown h3 (fun A hA => (hB A hA).1), fun A hA => key A (hB A hA), hB0⟩
 rw [List.getElem?_append_right (by omega), k2, hi0, hs]
 rfl
theorem Tr.reads {b0 : Nat} {w : World} {v : Value} {rs : List Ring} (h : Tr b0 w v rs) : RingsV w v rs := by
  obtain ⟨vs, h1, h2, h3⟩ := h
  obtain ⟨_, ⟨rfl, hz⟩ | ⟨g, cap, rest, rfl, hb, hB, _⟩⟩ := h1
  · exact ⟨none, 0, by rw [hz], fun h => by omega⟩
  refine ⟨_, cap, rfl, fun _ => ⟨g, 0, rfl, fun i r hr => ?_⟩⟩
  obtain ⟨B, cb, h4, h5, _⟩ := h3 i r hr
  refine ⟨B, cb, ?_, h5⟩
  rw [Nat.zero_add, hB.cell, List.getElem?_toArray, List.getElem?_append_left (by have := (List.getElem?_eq_some_iff.1 h4).1; exact this)]
  exact h4
theorem okR_pt {rs : List Ring} {k j : Nat} {r : Ring} {p : Int × Int} (h : okR rs = true) (hr : rs[k]? = some r) (hp : r[j]? = some p) : okPt p.1 p.2 = true := by
  unfold okR at h
  rw [Bool.and_eq_true, List.all_eq_true] at h
  have h2 := h.2 r (List.mem_of_getElem? hr)
  unfold okAll at h2
  rw [List.all_eq_true] at h2
  exact h2 p (List.mem_of_getElem? hp)
theorem okR_tot {rs : List Ring} (h : okR rs = true) : tot rs ≤ 4096 := by
  unfold okR at h
  rw [Bool.and_eq_true, decide_eq_true_iff] at h
  exact h.1
end Go.Proofs.YtmgibncehlpfkaaGreat

namespace Go.Proofs.YtmgibncehlpfkaaGreat
open Go.RowKit
attribute [local go_sem ↓] Go.wp_at_zero Go.wp_at_succ run_eql_point run_neq_point run_max_ii run_min_ii
set_option maxRecDepth 20000 in
set_option maxHeartbeats 4000000 in
theorem translate0_tr (u : Value) (rs : List Ring) (w : World) (hu : RingsV w u rs) (hv : okR rs = true) (hn : rs.length ≤ 100000) :
  Calls Tryz.prog 54 #[u, .agg #[.int .i64 0, .int .i64 0]] w fun e w' => ∃ v, e = .returned v ∧ Tr w.heap.size w' v rs ∧ Ext w w' := by
 have HT := zH (okR_tot hv)
 have hrl : ∀ r, r ∈ rs → r.length ≤ 4096 := fun r hr => by
  obtain ⟨k, hk⟩ := List.mem_iff_getElem?.1 hr
  have h1 := tot_succ hk
  have h2 := tot_take rs (k + 1)
  have h3 := HT.out
  omega
 have HRL := zH hrl
 have HV := zH hv
 have HC := zH (fun W (hW : Ext w W) => polyValid_any u rs W (hu.ext hW) hn (fun r hr => Nat.le_trans (hrl r hr) (by decide)))
 have HU := zH hu
 obtain ⟨Au, cu, rfl, _⟩ := hu
 obtain ⟨i0, hi, hz0, hz1, hz2⟩ := info_parts infoPt
 have HI := zH (And.intro hi (And.intro hz0 (And.intro hz1 hz2)))
 clear hi hz0 hz1 hz2 hrl
 obtain ⟨i1, hi, hz0, hz1, hz2⟩ := info_parts infoSl
 have HJ := zH (And.intro hi (And.intro hz0 (And.intro hz1 hz2)))
 clear hi hz0 hz1 hz2 hv
 go_enter Tryz.func54, Tryz.ntmps54
 have hB := Blk.new w 45 #[.int .i64 0, .int .i64 0]
 have hE : Ext w (w.alloc (.cells #[.int .i64 0, .int .i64 0] 45)) := (Ext.refl _).alloc _
 go_upto_if 13 with (go_at_call 17; refine (HC.out _ hE).mono ?_; rintro e w1 ⟨rfl, hx1⟩)
 have hb0 : (!okR rs) = false := by rw [HV.out]; rfl
 rw [hb0]
 have HX1 := zH (hE.trans hx1)
 have HB1 := zH (hB.ext hx1)
 clear hB hE hx1
 generalize hX3 : w.heap.size = X3 at HB1 ⊢
 have HX3 := zH hX3
 clear hX3
 go_wp2_with fail
 go_loopg [5, 16] rs.length (fun c v i wr => ∃ (k : Nat) (v2 : Value), k ≤ rs.length ∧ c = rs.length - k ∧ i = .int .i64 k ∧ v2 = v ∧ Tr w.heap.size wr v2 (rs.take k) ∧ Ext w wr ∧ Blk wr X3 45 #[.int .i64 0, .int .i64 0] ∧ v2.ownBlock ≠ some X3)
 case atStart => exact ⟨0, _, Nat.zero_le _, rfl, rfl, rfl, ⟨[], RowN.nil _ _ _ _, rfl, fun i r h => by simp at h⟩, HX1.out, HB1.out, by simp [Value.ownBlock]⟩
 case round =>
  clear HX1 HB1
  obtain ⟨k, v, hk, rfl, rfl, rfl, htr, hx, hb3, hvx⟩ := hrel
  have HTR := zH htr
  have HX := zH hx
  have HB := zH hb3
  have HVX := zH hvx
  clear htr hx hb3 hvx
  by_cases hlt : k < rs.length
  ·have hlt2 : (k : Int) < (rs.length : Int) := by omega
   obtain ⟨r, hr⟩ : ∃ r, rs[k]? = some r := ⟨_, List.getElem?_eq_getElem hlt⟩
   have hru : ∃ g off, Au = some ⟨g, off, none⟩ ∧ ∃ B cb, w.cell? ⟨g, off + k, none⟩ = some (.slice B r.length cb) ∧ PtsV w (.slice B r.length cb) r := by
    obtain ⟨A2, c2, hv2, h2⟩ := HU.out
    injection hv2 with e1 _ _
    obtain ⟨g, off, h3, h4⟩ := h2 (by omega)
    obtain ⟨B, cb, h5, h6⟩ := h4 k r hr
    exact ⟨g, off, e1.trans h3, B, cb, h5, h6⟩
   obtain ⟨g, off, rfl, B, cb, hc1, hp1⟩ := hru
   have c1 := HX.out.get hc1
   have HP := zH (hp1.ext HX.out)
   have HRK := zH hr
   have hr4 := HRL.out r (List.mem_of_getElem? hr)
   have HLT := zH hlt
   have HTK := zH (show rs.take (k + 1) = rs.take k ++ [r] by rw [List.take_succ_eq_append_getElem hlt]; congr 1; obtain ⟨_, h⟩ := List.getElem?_eq_some_iff.1 hr; rw [h])
   have hkl : (rs.take k).length = k := by rw [List.length_take]; omega
   have HKL := zH hkl
   clear hc1 hp1 hr hlt hkl
   generalize wr = W0 at *
   go_wp2_with fail
   go_loopg [8, 22] r.length (fun c u i wx => ∃ (j : Nat) (u2 : Value), j ≤ r.length ∧ c = r.length - j ∧ i = .int .i64 j ∧ u2 = u ∧ RowN wx W0.heap.size 45 2 u2 (r.take j).length (ptCells (r.take j)) ∧ Ext W0 wx)
   case atStart => exact ⟨0, _, Nat.zero_le _, rfl, rfl, rfl, RowN.nil _ _ _ _, Ext.refl _⟩
   case round =>
    clear c1
    obtain ⟨j, v8, hj, rfl, rfl, rfl, hrow, hx2⟩ := hrel
    have HROW := zH hrow
    have HX2 := zH hx2
    clear hrow hx2
    by_cases hjl : j < r.length
    ·have hjl2 : (j : Int) < (r.length : Int) := by omega
     obtain ⟨p, hp⟩ : ∃ p, r[j]? = some p := ⟨_, List.getElem?_eq_getElem hjl⟩
     have hgb : ∃ gb ob, B = some ⟨gb, ob, none⟩ ∧ wr.cell? ⟨gb, ob + j * 2, none⟩ = some (.int .i64 p.1) ∧ wr.cell? ⟨gb, ob + j * 2 + 1, none⟩ = some (.int .i64 p.2) := by
      obtain ⟨A2, c2, hv2, h2⟩ := HP.out
      injection hv2 with e1 _ _
      obtain ⟨gb, ob, h3, h4⟩ := h2 (by rintro rfl; simp at hjl)
      obtain ⟨h5, h6⟩ := (h4.ext HX2.out) j hjl
      have hgd : r.getD j (0, 0) = p := by obtain ⟨_, h⟩ := List.getElem?_eq_some_iff.1 hp; simp [List.getD, hjl, h]
      rw [hgd] at h5 h6
      exact ⟨gb, ob, e1.trans h3, h5, h6⟩
     obtain ⟨gb, ob, rfl, q1, q2⟩ := hgb
     have HPK := zH (okR_pt HV.out HRK.out hp)
     have HJL := zH hjl
     have HTJ := zH (show r.take (j + 1) = r.take j ++ [p] by rw [List.take_succ_eq_append_getElem hjl]; congr 1; obtain ⟨_, h⟩ := List.getElem?_eq_some_iff.1 hp; rw [h])
     have hjk : (r.take j).length = j := by rw [List.length_take]; omega
     have HJK := zH hjk
     have HRG := zH (show World.rangeAt wr gb (ob + j * 2) [.int .i64 p.1, .int .i64 p.2] from fun i v hv => by
      match i, hv with
      | 0, hv => simp at hv; rw [← hv]; exact q1
      | 1, hv => simp at hv; rw [← hv]; exact q2)
     rw [hjk] at HROW
     clear hp hjl q1 q2 hjk
     go_upto_region 10 with fail
     refine wp_region_lit ?_
     refine zq (.pointer (some ⟨gb, ob + j * 2, none⟩)) ?_
     refine wpList_if (by rfl) (wp_load_mid _ _ (by rfl) gb (ob + j * 2) (by rfl) [.int .i64 p.1, .int .i64 p.2] _ HRG.out Tryz.underlying45 (by rfl) (by kernel_rfl) ?_)
     try simp only [Act.put, zA, zB, zC]
     refine zp (w' := wr.alloc (.cells #[.int .i64 0, .int .i64 0] 45)) (.pointer (some ⟨wr.heap.size, 0, none⟩)) (by go_simp) ?_
     refine pO #[.int .i64 p.1, .int .i64 p.2] (Blk.new wr _ _) rfl (by kernel_rfl) (all_oneCell_toArray (one_pt p)) ?_
     (try simp only [Act.put])
     obtain ⟨xq1, xq2⟩ := new_var wr 45 #[.int .i64 0, .int .i64 0] #[.int .i64 p.1, .int .i64 p.2] rfl
     generalize (wr.alloc (.cells #[.int .i64 0, .int .i64 0] 45)).setCells wr.heap.size 0 (#[.int .i64 p.1, .int .i64 p.2] : Array Value).toList = w4 at *
     generalize wr.heap.size = X10 at *
     have HX4 := zH (HX2.out.trans xq1)
     have HB10 := zH xq2
     have HROW4 := zH (HROW.out.ext xq1)
     clear xq1 xq2 HRG HROW
     go_upto_region 11 with fail
     refine wp_region_lit ?_
     refine zq (v8) ?_
     refine pL HB10.out Tryz.underlying45 (by kernel_rfl) ?_
     try simp only [Act.put, zA, zB, zC]
     refine pL (HB.out.ext HX4.out) Tryz.underlying45 (by kernel_rfl) ?_
     try simp only [Act.put, zA, zB, zC]
     refine mv_call (by rfl) (by go_simp) (add0_any p.1 p.2 _ HPK.out) ?_
     rintro e w5 ⟨rfl, hx⟩
     have HEw5 := zH (show Ext w4 w5 from ((Ext.refl w4)).trans hx)
     clear hx
     refine ⟨_, rfl, ?_⟩
     try simp only [Act.put, zA, zB, zC]
     have hAE : Ext w4 (w5.alloc (.cells #[.int .i64 p.1, .int .i64 p.2] 45)) := HEw5.out.alloc _
     have hbz := (HX4.out.trans hAE).size
     have hj4 : j ≤ 4096 := by omega
     refine zp (w' := (w5.alloc (.cells #[.int .i64 p.1, .int .i64 p.2] 45))) (.slice (some ⟨w5.heap.size, 0, none⟩) 1 1) (by go_simp) ?_
     refine wpList_if (by rfl) (wp_append_rowF _ _ 43 (by rfl) W0.heap.size 45 i0 _ 2 16 Tryz.underlying43 HI.out.1 HI.out.2.1 HI.out.2.2.1 HI.out.2.2.2 rfl (by decide) noUL_zpt _ j (ptCells (r.take j)) (by rfl) (HROW4.out.ext hAE) ⟨w5.heap.size, 0, none⟩ 1 1 [.int .i64 p.1, .int .i64 p.2] (by rfl) rfl (two_new _ _ _ _) (one_pt p) (noUL_pt p) (by decide) (by unfold maxLen; omega) (by omega) hbz ?_)
     intro gx cx w8 hf h2 h3 h4
     try simp only [Act.put, zA, zB, zC]
     have HSN := zH (show RowN w8 W0.heap.size 45 2 (.slice (some ⟨gx, 0, none⟩) (j + 1) cx) (r.take (j + 1)).length (ptCells (r.take (j + 1))) by rw [HTJ.out, ptCells_snoc, List.length_append, HJK.out]; exact h2)
     have HXn := zH (show Ext W0 w8 from (HX4.out.trans hAE).grown h3 (fun j hj => (HROW4.out.ext hAE).block j hj))
     clear h2 h3 h4 hf hAE hbz
     refine zp (w' := w8) (.slice (some ⟨gx, 0, none⟩) (j + 1) cx) (by go_simp) ?_
     go_wp2_with fail
     go_roundg (r.length - (j + 1))
     case measure => have := HJL.out; omega
     case rel => exact ⟨j + 1, _, HJL.out, rfl, by go_num, rfl, HSN.out, HXn.out⟩
    obtain rfl : j = r.length := by omega
    have hge : ¬ (r.length : Int) < (r.length : Int) := by omega
    obtain ⟨Bn, cn, rfl, hpt, hbn⟩ := RowN.pts (ps := r) (by have h := HROW.out; rwa [List.take_of_length_le (Nat.le_refl _)] at h)
    have HPT := zH hpt
    have HBN := zH hbn
    have HTR2 := zH (HTR.out.ext HX2.out)
    have HX3' := zH (HX.out.trans HX2.out)
    have HB2 := zH (HB.out.ext HX2.out)
    have HLB := zH (show ∀ A, Bn = some A → A.block < wr.heap.size from fun A hA => by
     subst hA
     obtain ⟨_, ⟨hv, _⟩ | ⟨g2, c2, r2, hv, _, hB2, _⟩⟩ := HROW.out
     ·cases hv
     injection hv with e1 _ _; injection e1 with e1; rw [e1]; exact hB2.lt)
    have HVB := zH (show ∀ j, v.ownBlock = some j → j < W0.heap.size from fun j hj => by
     obtain ⟨vs, h1, _⟩ := HTR.out
     obtain ⟨_, ⟨rfl, _⟩ | ⟨g2, c2, r2, rfl, _, hB2, _⟩⟩ := h1
     ·simp [Value.ownBlock] at hj
     simp [Value.ownBlock] at hj; rw [← hj]; exact hB2.lt)
    clear hpt hbn HROW
    go_upto_region 13 with fail
    refine wp_region_lit ?_
    refine qV (v) ?_
    refine zq (.slice Bn r.length cn) ?_
    have hAE : Ext wr (wr.alloc (.cells #[.slice Bn r.length cn] 43)) := (Ext.refl _).alloc _
    obtain ⟨vs, hv1, hv2, hv3⟩ := HTR2.out.ext hAE
    have hbz := (HX3'.out.trans hAE).size
    have hk4 : k ≤ 100000 := by have := HLT.out; omega
    refine zp (w' := (wr.alloc (.cells #[.slice Bn r.length cn] 43))) (.slice (some ⟨wr.heap.size, 0, none⟩) 1 1) (by go_simp) ?_
    refine wpList_if (by rfl) (wp_append_rowF _ _ 22 (by rfl) w.heap.size 43 i1 _ 1 24 Tryz.underlying22 HJ.out.1 HJ.out.2.1 HJ.out.2.2.1 HJ.out.2.2.2 rfl (by decide) noUL_zsl _ k vs (by rfl) (by have h := hv1; rwa [HKL.out] at h) ⟨wr.heap.size, 0, none⟩ 1 1 [.slice Bn r.length cn] (by rfl) rfl (one_new _ _ _) (by simp [Value.oneCell']) (by intro x hx q; simp at hx; rw [hx]; simp) (by decide) (by unfold maxLen; omega) (by omega) hbz ?_)
    intro gx cx w8 hf h2 h3 h4
    try simp only [Act.put, zA, zB, zC]
    skip
    have hsn := Tr.snoc (HTR2.out.ext hAE) HKL.out (r := r) (s := .slice Bn r.length cn) rfl (HPT.out.ext hAE) (fun A hA => ⟨fun e => by have q1 := HVB.out _ e; have q2 := HBN.out A hA; omega, Nat.lt_of_lt_of_le (HLB.out A hA) hAE.size⟩) (fun A hA => by have q2 := HBN.out A hA; have q3 := HX.out.size; omega) vs ⟨vs, hv1, hv2, rfl, hv3⟩ h2 h3 hf
    have HSN := zH (show Tr w.heap.size w8 (.slice (some ⟨gx, 0, none⟩) (k + 1) cx) (rs.take (k + 1)) by rw [HTK.out]; exact hsn)
    have HXn := zH (show Ext w w8 from (HX3'.out.trans hAE).grown h3 (fun j hj => hv1.block j hj))
    have HBn := zH ((HB2.out.ext hAE).grown h3 HVX.out)
    have HVn := zH (show (Value.slice (some ⟨gx, 0, none⟩) (k + 1) cx).ownBlock ≠ some X3 from fun e => by simp [Value.ownBlock] at e; rcases hf with hf | hf; exact HVX.out (by rw [← e]; exact hf); have := HB2.out.lt; have := hAE.size; omega)
    clear h2 h3 h4 hf hAE hbz hsn hv1 hv2 hv3
    refine zp (w' := w8) (.slice (some ⟨gx, 0, none⟩) (k + 1) cx) (by go_simp) ?_
    go_wp2_with fail
    go_roundg (rs.length - (k + 1))
    case measure => have := HLT.out; omega
    case rel => exact ⟨k + 1, _, HLT.out, rfl, by go_num, rfl, HSN.out, HXn.out, HBn.out, HVn.out⟩
  obtain rfl : k = rs.length := by omega
  have hge : ¬ (rs.length : Int) < (rs.length : Int) := by omega
  have HR := zH (show Tr w.heap.size wr v rs from by have h := HTR.out; rwa [List.take_of_length_le (Nat.le_refl _)] at h)
  go_wp2_with fail
  go_ret
  exact ⟨_, rfl, HR.out, HX.out⟩
end Go.Proofs.YtmgibncehlpfkaaGreat

namespace Go.Proofs.YtmgibncehlpfkaaGreat

def edgeAt (r : Ring) (i : Nat) : Option ((Int × Int) × (Int × Int)) :=
  match r[i]?, r[(i + 1) % r.length]? with
  | some a, some b => if a = b then none else some (a, b)
  | _, _ => none
def ringEn (r : Ring) (n : Nat) : List ((Int × Int) × (Int × Int)) := (List.range n).filterMap (edgeAt r)
def edgesV (rs : List Ring) : List ((Int × Int) × (Int × Int)) := rs.flatMap fun r => ringEn r r.length
theorem edgeAt_some {r : Ring} {i : Nat} {a b : Int × Int} (ha : r[i]? = some a) (hb : r[(i + 1) % r.length]? = some b) : edgeAt r i = if a = b then none else some (a, b) := by
  unfold edgeAt
  rw [ha, hb]
theorem ringEn_succ_none {r : Ring} {n : Nat} (h : edgeAt r n = none) : ringEn r (n + 1) = ringEn r n := by
  unfold ringEn
  rw [List.range_succ, List.filterMap_append]
  simp [h]
theorem ringEn_succ_some {r : Ring} {n : Nat} {e : (Int × Int) × (Int × Int)} (h : edgeAt r n = some e) : ringEn r (n + 1) = ringEn r n ++ [e] := by
  unfold ringEn
  rw [List.range_succ, List.filterMap_append]
  simp [h]
theorem ringEn_le {r : Ring} {n m : Nat} (h : n ≤ m) : ringEn r n <+: ringEn r m := by
  unfold ringEn
  obtain ⟨d, rfl⟩ := Nat.exists_eq_add_of_le h
  rw [List.range_add, List.filterMap_append]
  exact List.prefix_append _ _
theorem edgesV_take {rs : List Ring} {k : Nat} {r : Ring} (h : rs[k]? = some r) : edgesV (rs.take (k + 1)) = edgesV (rs.take k) ++ ringEn r r.length := by
  unfold edgesV
  rw [List.take_add_one, h]
  simp
theorem edgesV_prefix (rs : List Ring) (k : Nat) : edgesV (rs.take k) <+: edgesV rs := by
  conv => rhs; rw [← List.take_append_drop k rs]
  unfold edgesV
  rw [List.flatMap_append]
  exact List.prefix_append _ _
theorem edges_pre {rs : List Ring} {k n : Nat} {r : Ring} (h : rs[k]? = some r) (hn : n ≤ r.length) : edgesV (rs.take k) ++ ringEn r n <+: edgesV rs := by
  refine List.IsPrefix.trans ?_ (edgesV_prefix rs (k + 1))
  rw [edgesV_take h]
  exact (List.prefix_append_right_inj _).2 (ringEn_le hn)
theorem ringEn_len (r : Ring) (n : Nat) : (ringEn r n).length ≤ n := by
  unfold ringEn
  have := List.length_filterMap_le (edgeAt r) (List.range n)
  simpa using this
theorem foldl_len (rs : List Ring) : ∀ n : Nat, rs.foldl (fun n r => n + r.length) n = n + rs.foldl (fun n r => n + r.length) 0 := by
  induction rs with
  | nil => intro n; simp
  | cons r rs ih => intro n; rw [List.foldl_cons, List.foldl_cons, ih (n + r.length), ih (0 + r.length)]; omega
theorem edgesV_len (rs : List Ring) : (edgesV rs).length ≤ tot rs := by
  unfold tot
  induction rs with
  | nil => simp [edgesV]
  | cons r rs ih =>
    have h1 := ringEn_len r r.length
    have h2 : edgesV (r :: rs) = ringEn r r.length ++ edgesV rs := by simp [edgesV]
    rw [h2, List.length_append, List.foldl_cons, foldl_len]
    omega
end Go.Proofs.YtmgibncehlpfkaaGreat

namespace Go.Proofs.YtmgibncehlpfkaaGreat
open Go.RowKit

def Dig (w w' : World) : Prop := ∀ (v : Value) (xs : List Nat), DigS w v xs → DigS w' v xs
theorem Dig.refl (w : World) : Dig w w := fun _ _ h => h
theorem Dig.trans {a b c : World} (h : Dig a b) (k : Dig b c) : Dig a c := fun v xs x => k v xs (h v xs x)
theorem Dig.of_ext {w w' : World} (x : Ext w w') : Dig w w' := fun _ _ h => h.ext x
theorem Dig.of_own {w w' : World} {g : Nat} {t : TypeId} {cs : Array Value} (hb : Blk w g t cs) (hn : NoU cs) (o : Own g w w') : Dig w w' := fun _ _ h => h.own hb hn o
theorem RV.Is.dig {w w' : World} {a : RV} {q : Rat} (h : a.Is w q) (d : Dig w w') : a.Is w' q := ⟨⟨h.1.1, d _ _ h.1.2⟩, ⟨h.2.1, d _ _ h.2.2⟩⟩
theorem RV.In.dig {L : Nat} {w w' : World} {a : RV} {q : Rat} (h : a.In L w q) (d : Dig w w') : a.In L w' q := by
  obtain ⟨y, z, ⟨a1, ⟨x1, h1, h2⟩, h3⟩, ⟨a2, ⟨x2, h4, h5⟩, h6⟩, h7⟩ := h
  exact ⟨y, z, ⟨a1, ⟨x1, d _ _ h1, h2⟩, h3⟩, ⟨a2, ⟨x2, d _ _ h4, h5⟩, h6⟩, h7⟩
theorem NIn.dig {L : Nat} {w w' : World} {cs : Array Value} {q : Rat} (h : NIn L w cs q) (d : Dig w w') : NIn L w' cs q := by obtain ⟨a, h1, h2⟩ := h; exact ⟨a, h1, h2.dig d⟩
theorem NIs.dig {w w' : World} {cs : Array Value} {q : Rat} (h : NIs w cs q) (d : Dig w w') : NIs w' cs q := by obtain ⟨a, h1, h2⟩ := h; exact ⟨a, h1, h2.dig d⟩
theorem RV.In.nin {L : Nat} {w : World} {a : RV} {q : Rat} (h : a.In L w q) : NIn L w #[.bool a.n, .slice a.p a.l a.c, .bool a.m, .slice a.p2 a.l2 a.c2] q := ⟨a, rfl, h⟩
theorem RV.Is.nin {L : Nat} {w : World} {a : RV} {q : Rat} (h : a.Is w q) (hl : Nm.rl q ≤ L) : NIn L w #[.bool a.n, .slice a.p a.l a.c, .bool a.m, .slice a.p2 a.l2 a.c2] q := ⟨a, rfl, h.isIn hl⟩
theorem own_setCells (w : World) (g o : Nat) (vs : List Value) : Own g w (w.setCells g o vs) := Own.setCells_l _ _ (Own.refl g w)

inductive Ent where
  | blk (g : Nat) (t : TypeId) (cs : List Value)
  | row (t : TypeId) (size : Nat) (v : Value) (n : Nat) (xs : List Value)
def Ent.own : Ent → Option Nat
  | .blk g _ _ => some g
  | .row _ _ v _ _ => v.ownBlock
def Ent.Holds (b : Nat) (w : World) : Ent → Prop
  | .blk g t cs => b ≤ g ∧ Blk w g t cs.toArray ∧ NoUL cs
  | .row t size v n xs => RowN w b t size v n xs
theorem Ent.Holds.ext {b : Nat} {w w' : World} {e : Ent} (h : e.Holds b w) (x : Ext w w') : e.Holds b w' := by
  cases e with
  | blk g t cs => exact ⟨h.1, h.2.1.ext x, h.2.2⟩
  | row t size v n xs => exact RowN.ext h x
theorem RowN.lt {w : World} {base : Nat} {e : TypeId} {size : Nat} {v : Value} {n : Nat} {xs : List Value} (h : RowN w base e size v n xs) : ∀ k, v.ownBlock = some k → k < w.heap.size := by
  intro k hk
  obtain ⟨h1, ⟨rfl, _⟩ | ⟨g, cap, rest, rfl, b, hg, _⟩⟩ := h
  · simp [Value.ownBlock] at hk
  have := hg.lt; simp [Value.ownBlock] at hk; omega
theorem Ent.Holds.ge {b : Nat} {w : World} {e : Ent} (h : e.Holds b w) : ∀ k, e.own = some k → b ≤ k := by
  cases e with
  | blk g t cs => intro k hk; injection hk with hk; exact hk ▸ h.1
  | row t size v n xs => exact RowN.block h
theorem Ent.Holds.lt {b : Nat} {w : World} {e : Ent} (h : e.Holds b w) : ∀ k, e.own = some k → k < w.heap.size := by
  cases e with
  | blk g t cs => intro k hk; injection hk with hk; exact hk ▸ h.2.1.lt
  | row t size v n xs => exact RowN.lt h
theorem Ent.Holds.kept {b : Nat} {w w' : World} {e : Ent} {r : Option Nat} (h : e.Holds b w) (hg : w.grownBy w' r) (hne : ∀ k, e.own = some k → r ≠ some k) : e.Holds b w' := by
  cases e with
  | blk g t cs => exact ⟨h.1, h.2.1.grown hg (hne g rfl), h.2.2⟩
  | row t size v n xs =>
    obtain ⟨h1, h2 | ⟨g, cap, rest, rfl, a, hb, c⟩⟩ := h
    · exact ⟨h1, .inl h2⟩
    exact ⟨h1, .inr ⟨g, cap, rest, rfl, a, hb.grown hg (hne g rfl), c⟩⟩

structure Hp (w0 w : World) (m : List Ent) : Prop where
  ext : Ext w0 w
  all : ∀ (i : Nat) (e : Ent), m[i]? = some e → e.Holds w0.heap.size w
  apart : ∀ (i j : Nat) (e f : Ent), m[i]? = some e → m[j]? = some f → i ≠ j → ∀ k, e.own = some k → f.own ≠ some k

section
variable {w0 w w' : World} {m : List Ent}
theorem Hp.start (w : World) : Hp w w [] := ⟨Ext.refl w, fun i e h => by simp at h, fun i j e f h => by simp at h⟩
theorem Hp.step (h : Hp w0 w m) (x : Ext w w') : Hp w0 w' m := ⟨h.ext.trans x, fun i e he => (h.all i e he).ext x, h.apart⟩
theorem Hp.dig0 (h : Hp w0 w m) : Dig w0 w := Dig.of_ext h.ext
theorem Hp.add {e : Ent} (h : Hp w0 w m) (he : e.Holds w0.heap.size w) (hf : ∀ (i : Nat) (f : Ent), m[i]? = some f → ∀ k, f.own = some k → e.own ≠ some k) : Hp w0 w (m ++ [e]) := by
 have hget : ∀ (i : Nat) (f : Ent), (m ++ [e])[i]? = some f → m[i]? = some f ∨ (i = m.length ∧ f = e) := by
  intro i f hf
  rcases Nat.lt_trichotomy i m.length with hl | hl | hl
  ·rw [List.getElem?_append_left hl] at hf; exact .inl hf
  ·subst hl; rw [List.getElem?_append_right (Nat.le_refl _)] at hf; simp at hf; exact .inr ⟨rfl, hf.symm⟩
  rw [List.getElem?_append_right (Nat.le_of_lt hl), List.getElem?_eq_none (by simp; omega)] at hf; cases hf
 refine ⟨h.ext, fun i f hf => ?_, fun i j f g hi hj hij k hk => ?_⟩
 ·rcases hget i f hf with h1 | ⟨_, rfl⟩
  ·exact h.all i f h1
  exact he
 rcases hget i f hi with h1 | ⟨e1, rfl⟩ <;> rcases hget j g hj with h2 | ⟨e2, rfl⟩
 ·exact h.apart i j f g h1 h2 hij k hk
 ·exact hf i f h1 k hk
 ·exact fun h3 => hf j g h2 k h3 hk
 exact absurd (e1.trans e2.symm) hij
theorem Hp.alloc (h : Hp w0 w m) (t : TypeId) (cs : List Value) (hn : NoUL cs) : Hp w0 (w.alloc (.cells cs.toArray t)) (m ++ [.blk w.heap.size t cs]) :=
  (h.step ((Ext.refl w).alloc _)).add ⟨h.ext.size, Blk.new w t cs.toArray, hn⟩ (fun i f hf k hk e => by
    injection e with e
    have := (h.all i f hf).lt k hk
    omega)
theorem Hp.addRow {t : TypeId} {size : Nat} {v : Value} {n : Nat} {xs : List Value} (h : Hp w0 w m) (x : Ext w w') (r : RowN w' w.heap.size t size v n xs) : Hp w0 w' (m ++ [.row t size v n xs]) :=
  (h.step x).add (by
    obtain ⟨h1, h2 | ⟨g, cap, rest, a, b, c⟩⟩ := r
    · exact ⟨h1, .inl h2⟩
    · exact ⟨h1, .inr ⟨g, cap, rest, a, Nat.le_trans h.ext.size b, c⟩⟩) (fun i f hf k hk e => by
    have h1 := (h.all i f hf).lt k hk
    have h2 := RowN.block r k e
    omega)
theorem Hp.addNil (h : Hp w0 w m) (t : TypeId) (size : Nat) : Hp w0 w (m ++ [.row t size (.slice none 0 0) 0 []]) :=
  h.add (RowN.nil _ _ _ _) (fun _ _ _ _ _ e => by simp [Ent.own, Value.ownBlock] at e)
theorem Hp.addEmpty (h : Hp w0 w m) (t : TypeId) (size : Nat) : Hp w0 (w.alloc (.cells #[] t)) (m ++ [.row t size (.slice (some ⟨w.heap.size, 0, none⟩) 0 0) 0 []]) :=
  h.addRow ((Ext.refl w).alloc _) (RowN.empty w _ t size (Nat.le_refl _))
theorem Hp.take (h : Hp w0 w m) (n : Nat) : Hp w0 w (m.take n) := by
  have hget : ∀ (i : Nat) (f : Ent), (m.take n)[i]? = some f → m[i]? = some f := by
    intro i f hf
    rw [List.getElem?_take] at hf
    split at hf
    · exact hf
    cases hf
  exact ⟨h.ext, fun i e he => h.all i e (hget i e he), fun i j e f hi hj => h.apart i j e f (hget i e hi) (hget j f hj)⟩
theorem Hp.blk {i g : Nat} {t : TypeId} {cs : List Value} (h : Hp w0 w m) (hi : m[i]? = some (.blk g t cs)) : Blk w g t cs.toArray := (h.all i _ hi).2.1
theorem Hp.noU {i g : Nat} {t : TypeId} {cs : List Value} (h : Hp w0 w m) (hi : m[i]? = some (.blk g t cs)) : NoUL cs := (h.all i _ hi).2.2
theorem Hp.row {i : Nat} {t : TypeId} {size : Nat} {v : Value} {n : Nat} {xs : List Value} (h : Hp w0 w m) (hi : m[i]? = some (.row t size v n xs)) : RowN w w0.heap.size t size v n xs := h.all i _ hi
theorem Hp.range {i g : Nat} {t : TypeId} {cs : List Value} (h : Hp w0 w m) (hi : m[i]? = some (.blk g t cs)) (o n : Nat) : w.rangeAt g o ((cs.drop o).take n) := by
  have hr := World.rangeAt_of_block (h.blk hi) o n
  have e : (cs.toArray.extract o (o + n)).toList = (cs.drop o).take n := by simp [List.extract_eq_take_drop]
  rw [← e]
  exact hr
theorem Hp.cell {i g : Nat} {t : TypeId} {cs : List Value} (h : Hp w0 w m) (hi : m[i]? = some (.blk g t cs)) (o : Nat) {v : Value} (hv : cs[o]? = some v) : w.cell? ⟨g, o, none⟩ = some v := by
  rw [(h.blk hi).cell o, List.getElem?_toArray, hv]
theorem Hp.frozen {i g : Nat} {t : TypeId} {cs : List Value} (h : Hp w0 w m) (hi : m[i]? = some (.blk g t cs)) (o : Nat) : w.frozen? ⟨g, o, none⟩ = false := (h.blk hi).frozen o
theorem Hp.ge {i k : Nat} {e : Ent} (h : Hp w0 w m) (hi : m[i]? = some e) (hk : e.own = some k) : w0.heap.size ≤ k := (h.all i e hi).ge k hk
theorem Hp.lt {i k : Nat} {e : Ent} (h : Hp w0 w m) (hi : m[i]? = some e) (hk : e.own = some k) : k < w.heap.size := (h.all i e hi).lt k hk
theorem Hp.turn {i : Nat} {e e' : Ent} {r : Option Nat} (h : Hp w0 w m) (hi : m[i]? = some e) (hr : ∀ k, r = some k → e.own = some k) (hg : w.grownBy w' r) (he : e'.Holds w0.heap.size w')
  (hf : ∀ k, e'.own = some k → e.own = some k ∨ w.heap.size ≤ k) : Hp w0 w' (m.set i e') := by
 have hx : Ext w0 w' := h.ext.grown hg (fun k hk => h.ge hi (hr k hk))
 have hil : i < m.length := (List.getElem?_eq_some_iff.1 hi).1
 have hget : ∀ (j : Nat) (f : Ent), (m.set i e')[j]? = some f → (j = i ∧ f = e') ∨ (j ≠ i ∧ m[j]? = some f) := by
  intro j f hj
  rw [List.getElem?_set] at hj
  by_cases hij : i = j
  ·rw [if_pos hij, if_pos (by omega)] at hj
   injection hj with hj
   exact .inl ⟨hij.symm, hj.symm⟩
  rw [if_neg hij] at hj
  exact .inr ⟨fun x => hij x.symm, hj⟩
 have off : ∀ (j : Nat) (f : Ent), j ≠ i → m[j]? = some f → ∀ k, f.own = some k → e'.own ≠ some k := by
  intro j f hj hf2 k hk hk2
  rcases hf k hk2 with h1 | h1
  ·exact h.apart j i f e hf2 hi hj k hk h1
  have := h.lt hf2 hk; omega
 refine ⟨hx, fun j f hj => ?_, fun j k f g hj hk hjk b hb => ?_⟩
 ·rcases hget j f hj with ⟨_, rfl⟩ | ⟨hj, hf2⟩
  ·exact he
  exact (h.all j f hf2).kept hg (fun k hk h3 => h.apart j i f e hf2 hi hj k hk (hr k h3))
 rcases hget j f hj with ⟨e1, rfl⟩ | ⟨h1, h2⟩ <;> rcases hget k g hk with ⟨e2, rfl⟩ | ⟨h3, h4⟩
 ·omega
 ·exact fun h5 => off k g h3 h4 b h5 hb
 ·exact off j f h1 h2 b hb
 exact h.apart j k f g h2 h4 hjk b hb
theorem Hp.store {i g : Nat} {t : TypeId} {cs : List Value} (h : Hp w0 w m) (hi : m[i]? = some (.blk g t cs)) (o : Nat) (vs : List Value) (hl : o + vs.length ≤ cs.length) (hn : NoUL vs) :
  Hp w0 (w.setCells g o vs) (m.set i (.blk g t (cs.take o ++ vs ++ cs.drop (o + vs.length)))) := by
 have hb := (h.blk hi).setPart o vs hl
 have hnu := h.noU hi
 refine h.turn (r := some g) hi (fun k hk => hk) ?_ ⟨h.ge hi rfl, hb, ?_⟩ (fun k hk => .inl hk)
 ·exact (own_setCells w g o vs)
 intro x hx
 rcases List.mem_append.1 hx with hx | hx
 ·rcases List.mem_append.1 hx with hx | hx
  ·exact hnu x (List.mem_of_mem_take hx)
  exact hn x hx
 exact hnu x (List.mem_of_mem_drop hx)
theorem Hp.storeDig {i g : Nat} {t : TypeId} {cs : List Value} (h : Hp w0 w m) (hi : m[i]? = some (.blk g t cs)) (o : Nat) (vs : List Value) : Dig w (w.setCells g o vs) :=
  Dig.of_own (h.blk hi) (h.noU hi).arr (own_setCells w g o vs)
theorem Hp.there {i g : Nat} {t : TypeId} {cs : List Value} (h : Hp w0 w m) (hi : m[i]? = some (.blk g t cs)) (o n : Nat) (hl : o + n ≤ cs.length) : w.there g o n := (h.blk hi).therePart o n hl
theorem Dig.grown {base : Nat} {e : TypeId} {size : Nat} {v : Value} {n : Nat} {xs : List Value} (h : RowN w base e size v n xs) (hg : w.grownBy w' v.ownBlock) : Dig w w' := by
  obtain ⟨h1, ⟨rfl, _⟩ | ⟨g, cap, rest, rfl, a, hb, _, _, _, hn⟩⟩ := h
  · exact Dig.of_ext ⟨hg.os, hg.tape, hg.output, hg.size, fun k hk => hg.block k hk (by simp [Value.ownBlock])⟩
  exact Dig.of_own hb hn.arr hg
theorem Hp.grow {i gx cx : Nat} {t : TypeId} {size n n' : Nat} {v : Value} {xs xs' : List Value} (h : Hp w0 w m) (hi : m[i]? = some (.row t size v n xs)) (hf : v.ownBlock = some gx ∨ w.heap.size ≤ gx)
    (h2 : RowN w' w0.heap.size t size (.slice (some ⟨gx, 0, none⟩) n' cx) n' xs') (h3 : w.grownBy w' v.ownBlock) : Hp w0 w' (m.set i (.row t size (.slice (some ⟨gx, 0, none⟩) n' cx) n' xs')) :=
  h.turn hi (fun k hk => hk) h3 h2 (fun k hk => by
    have hk : gx = k := by simpa [Ent.own, Value.ownBlock] using hk
    subst hk
    exact hf)
theorem Hp.growDig {i : Nat} {t : TypeId} {size n : Nat} {v : Value} {xs : List Value} (h : Hp w0 w m) (hi : m[i]? = some (.row t size v n xs)) (h3 : w.grownBy w' v.ownBlock) : Dig w w' := Dig.grown (h.row hi) h3
end

section
variable {w0 w w' : World} {m : List Ent}
theorem RowN.setPart {base : Nat} {t : TypeId} {size g n cap : Nat} {xs : List Value} (h : RowN w base t size (.slice (some ⟨g, 0, none⟩) n cap) n xs) (o : Nat) (vs : List Value) (hl : o + vs.length ≤ xs.length) (hn : NoUL vs) :
  RowN (w.setCells g o vs) base t size (.slice (some ⟨g, 0, none⟩) n cap) n (xs.take o ++ vs ++ xs.drop (o + vs.length)) := by
 have hlen : (xs.take o ++ vs ++ xs.drop (o + vs.length)).length = xs.length := by simp; omega
 obtain ⟨h1, ⟨hv, _⟩ | ⟨g', cap', rest, hv, a, hb, h3, h4, h5, h6⟩⟩ := h
 ·cases hv
 injection hv with e1 e2 e3
 injection e1 with e1
 injection e1 with e1
 subst e1
 subst e3
 refine ⟨by rw [hlen]; exact h1, .inr ⟨g, cap, rest, rfl, a, ?_, h3, h4, by rw [hlen]; exact h5, ?_⟩⟩
 ·have := hb.setPart o vs (by rw [List.length_append]; omega)
  rw [List.take_append_of_le_length (by omega), List.drop_append_of_le_length (by omega), ← List.append_assoc] at this
  exact this
 intro x hx
 have hx1 := h6
 rcases List.mem_append.1 hx with hx | hx
 ·rcases List.mem_append.1 hx with hx | hx
  ·rcases List.mem_append.1 hx with hx | hx
   ·exact h6 x (List.mem_append_left _ (List.mem_of_mem_take hx))
   exact hn x hx
  exact h6 x (List.mem_append_left _ (List.mem_of_mem_drop hx))
 exact h6 x (List.mem_append_right _ hx)
theorem RowN.there {base : Nat} {t : TypeId} {size g n cap : Nat} {xs : List Value} (h : RowN w base t size (.slice (some ⟨g, 0, none⟩) n cap) n xs) (o k : Nat) (hl : o + k ≤ xs.length) : w.there g o k := by
  obtain ⟨h1, ⟨hv, _⟩ | ⟨g', cap', rest, hv, a, hb, h3, h4, h5, h6⟩⟩ := h
  · cases hv
  injection hv with e1 e2 e3
  injection e1 with e1
  injection e1 with e1
  subst e1
  exact hb.therePart o k (by rw [List.length_append]; omega)
theorem RowN.rangeAt {base : Nat} {t : TypeId} {size g n cap : Nat} {xs : List Value} (h : RowN w base t size (.slice (some ⟨g, 0, none⟩) n cap) n xs) (o : Nat) (ys : List Value) (hy : ∀ j v, ys[j]? = some v → xs[o + j]? = some v) : w.rangeAt g o ys := by
  obtain ⟨h1, ⟨hv, _⟩ | ⟨g', cap', rest, hv, a, hb, h3, h4, h5, h6⟩⟩ := h
  · cases hv
  injection hv with e1 e2 e3
  injection e1 with e1
  injection e1 with e1
  subst e1
  intro j v hj
  have := hy j v hj
  rw [hb.cell, List.getElem?_toArray, List.getElem?_append_left (List.getElem?_eq_some_iff.1 this).1]
  exact this
theorem flat_get {α : Type} {f : α → List Value} {c : Nat} (hc : ∀ x, (f x).length = c) : ∀ (es : List α) (k : Nat) (e : α), es[k]? = some e → ∀ j v, (f e)[j]? = some v → (es.flatMap f)[k * c + j]? = some v
  | [], k, e, h, _, _, _ => by simp at h
  | x :: xs, 0, e, h, j, v, hv => by
    simp at h
    subst h
    rw [List.flatMap_cons, List.getElem?_append_left (by have := (List.getElem?_eq_some_iff.1 hv).1; omega)]
    simpa using hv
  | x :: xs, k + 1, e, h, j, v, hv => by
    rw [List.flatMap_cons, List.getElem?_append_right (by rw [hc, Nat.add_mul]; omega), hc]
    have := flat_get hc xs k e (by simpa using h) j v hv
    rw [show (k + 1) * c + j - c = k * c + j by rw [Nat.add_mul]; omega]
    exact this
theorem flat_length {α : Type} {f : α → List Value} {c : Nat} (hc : ∀ x, (f x).length = c) : ∀ (es : List α), (es.flatMap f).length = es.length * c
  | [] => by simp
  | x :: xs => by rw [List.flatMap_cons, List.length_append, hc, flat_length hc xs, List.length_cons, Nat.add_mul]; omega
theorem flat_take {α : Type} {f : α → List Value} {c : Nat} (hc : ∀ x, (f x).length = c) : ∀ (es : List α) (k : Nat), (es.flatMap f).take (k * c) = (es.take k).flatMap f
  | [], k => by simp
  | x :: xs, 0 => by simp
  | x :: xs, k + 1 => by rw [List.flatMap_cons, List.take_append, hc, List.take_of_length_le (by rw [hc, Nat.add_mul]; omega), List.take_succ_cons, List.flatMap_cons, ← flat_take hc xs k, show (k + 1) * c - c = k * c by rw [Nat.add_mul]; omega]
theorem flat_drop {α : Type} {f : α → List Value} {c : Nat} (hc : ∀ x, (f x).length = c) : ∀ (es : List α) (k : Nat), (es.flatMap f).drop (k * c) = (es.drop k).flatMap f
  | [], k => by simp
  | x :: xs, 0 => by simp
  | x :: xs, k + 1 => by rw [List.flatMap_cons, List.drop_append, hc, List.drop_of_length_le (by rw [hc, Nat.add_mul]; omega), List.drop_succ_cons, ← flat_drop hc xs k, show (k + 1) * c - c = k * c by rw [Nat.add_mul]; omega, List.nil_append]
theorem flat_set {α : Type} {f : α → List Value} {c : Nat} (hc : ∀ x, (f x).length = c) (es : List α) (k : Nat) (hk : k < es.length) (e : α) : (es.flatMap f).take (k * c) ++ f e ++ (es.flatMap f).drop (k * c + (f e).length) = (es.set k e).flatMap f := by
  rw [flat_take hc, hc, show k * c + c = (k + 1) * c by rw [Nat.add_mul]; omega, flat_drop hc, List.set_eq_take_append_cons_drop, if_pos hk]
  simp
theorem Hp.elem {α : Type} {f : α → List Value} {i : Nat} {t : TypeId} {size g n cap : Nat} {es : List α} (h : Hp w0 w m) (hi : m[i]? = some (.row t size (.slice (some ⟨g, 0, none⟩) n cap) n (es.flatMap f))) (hc : ∀ x, (f x).length = size) {k : Nat} {e : α} (he : es[k]? = some e) : w.rangeAt g (k * size) (f e) :=
  (h.row hi).rangeAt _ _ (fun j v hj => flat_get hc es k e he j v hj)
theorem RowN.form {base : Nat} {t : TypeId} {size n : Nat} {v : Value} {xs : List Value} (h : RowN w base t size v n xs) : ∃ A c, v = .slice A n c ∧ (0 < n → ∃ g, A = some ⟨g, 0, none⟩) := by
  obtain ⟨h1, ⟨rfl, rfl⟩ | ⟨g, cap, rest, rfl, _⟩⟩ := h
  · exact ⟨none, 0, rfl, fun h => absurd h (by omega)⟩
  exact ⟨_, _, rfl, fun _ => ⟨g, rfl⟩⟩
theorem Hp.storeRow {i : Nat} {t : TypeId} {size g n cap : Nat} {xs : List Value} (h : Hp w0 w m) (hi : m[i]? = some (.row t size (.slice (some ⟨g, 0, none⟩) n cap) n xs)) (o : Nat) (vs : List Value) (hl : o + vs.length ≤ xs.length) (hn : NoUL vs) :
    Hp w0 (w.setCells g o vs) (m.set i (.row t size (.slice (some ⟨g, 0, none⟩) n cap) n (xs.take o ++ vs ++ xs.drop (o + vs.length)))) :=
  h.turn (r := some g) hi (fun k hk => by simpa [Ent.own, Value.ownBlock] using hk) (own_setCells w g o vs) ((h.row hi).setPart o vs hl hn) (fun k hk => .inl hk)
theorem Hp.storeRowDig {i : Nat} {t : TypeId} {size g n cap : Nat} {xs : List Value} (h : Hp w0 w m) (hi : m[i]? = some (.row t size (.slice (some ⟨g, 0, none⟩) n cap) n xs)) (o : Nat) (vs : List Value) : Dig w (w.setCells g o vs) := by
  refine Dig.grown (h.row hi) ?_
  exact own_setCells w g o vs

structure Fr (G : Nat → Prop) (w w' : World) : Prop where
  os : w'.os = w.os
  tape : w'.tape = w.tape
  output : w'.output = w.output
  size : w.heap.size ≤ w'.heap.size
  block : ∀ k, k < w.heap.size → ¬ G k → w'.heap[k]? = w.heap[k]?
theorem Fr.of_ext {G : Nat → Prop} (x : Ext w w') : Fr G w w' := ⟨x.os, x.tape, x.output, x.size, fun k hk _ => x.block k hk⟩
theorem Fr.trans {G : Nat → Prop} {a b c : World} (h : Fr G a b) (k : Fr G b c) : Fr G a c := ⟨k.os.trans h.os, k.tape.trans h.tape, k.output.trans h.output, Nat.le_trans h.size k.size, fun i hi hG => (k.block i (Nat.lt_of_lt_of_le hi h.size) hG).trans (h.block i hi hG)⟩
theorem Fr.trans_new {G : Nat → Prop} {a b c : World} {r : Option Nat} (h : Fr G a b) (k : b.grownBy c r) (hr : ∀ j, r = some j → G j ∨ a.heap.size ≤ j) : Fr G a c :=
  ⟨k.os.trans h.os, k.tape.trans h.tape, k.output.trans h.output, Nat.le_trans h.size k.size, fun i hi hG => (k.block i (Nat.lt_of_lt_of_le hi h.size) (fun e => by
    rcases hr i e.symm with h1 | h1
    · exact hG h1
    omega)).trans (h.block i hi hG)⟩
theorem Fr.cell {G : Nat → Prop} {g o : Nat} {s : Option Nat} {v : Value} (f : Fr G w w') (h : w.cell? ⟨g, o, s⟩ = some v) (hn : ¬ G g) : w'.cell? ⟨g, o, s⟩ = some v :=
  (World.cell?_of_block (f.block g (World.block_lt_of_cell? w ⟨g, o, s⟩ h) hn)).trans h
theorem Fr.range {G : Nat → Prop} {g o : Nat} {cs : List Value} (f : Fr G w w') (h : w.rangeAt g o cs) (hn : ¬ G g) : w'.rangeAt g o cs := fun j v hv => f.cell (h j v hv) hn
theorem Fr.base {G : Nat → Prop} (f : Fr G w w') (h : Hp w0 w m) (hG : ∀ k, G k → w0.heap.size ≤ k) : Ext w0 w' :=
  ⟨f.os.trans h.ext.os, f.tape.trans h.ext.tape, f.output.trans h.ext.output, Nat.le_trans h.ext.size f.size, fun k hk => (f.block k (Nat.lt_of_lt_of_le hk h.ext.size) (fun hk2 => by have := hG k hk2; omega)).trans (h.ext.block k hk)⟩
theorem Hp.offBlk {i j g g' : Nat} {e : Ent} {t : TypeId} {cs : List Value} (h : Hp w0 w m) (hi : m[i]? = some e) (hj : m[j]? = some (.blk g' t cs)) (hij : i ≠ j) (hg : e.own = some g) : ¬ g = g' := fun e2 => h.apart i j _ _ hi hj hij g hg (congrArg some e2.symm)
theorem Hp.offRow {i j g size n : Nat} {e : Ent} {t : TypeId} {v : Value} {xs : List Value} (h : Hp w0 w m) (hi : m[i]? = some e) (hj : m[j]? = some (.row t size v n xs)) (hij : i ≠ j) (hg : e.own = some g) : ¬ Value.ownBlock v = some g := fun e2 => h.apart i j _ _ hi hj hij g hg e2
theorem Hp.off {i j g : Nat} {e f : Ent} (h : Hp w0 w m) (hi : m[i]? = some e) (hj : m[j]? = some f) (hij : i ≠ j) (hg : e.own = some g) : f.own ≠ some g := h.apart i j e f hi hj hij g hg
end
end Go.Proofs.YtmgibncehlpfkaaGreat

namespace Go.Proofs.YtmgibncehlpfkaaGreat
open Go.RowKit Go.Shelf

section
variable {P : Program} {n l : Nat} {Q : Exit → Act → World → Prop}
theorem rowsIn_of {row : String} {args : Array Value} {w : World} {R : Value → World → Prop} (h : Rows P row args w R) : RowsIn (Fence.wide.inRound l) n P row args w R := fun c cs _ =>
  let ⟨v, w', r, s⟩ := h c cs
  ⟨v, w', r, stepsIn_wide.2 s⟩
theorem opIn_of {o : Oper} {a : Act} {w : World} {K : Act → World → Prop} (ho : ∀ c, o.op ≠ .defer c) (_hQ : ¬ LetsOut Q) (h : o.wp P a w K Q) : o.wpIn (Fence.wide.inRound l) n P a w K Q := by
 unfold Oper.wp at h
 refine ⟨fun _ _ => trivial, ?_⟩
 rw [Oper.semAt_eq _ _ _ ho]
 generalize (execOp a.eval o).run P w = r at h
 cases r with
 | ok x w' =>
  cases x <;> simp only [Oper.upon] at h <;> simp only [Oper.uponIn]
  case value => exact h
  case skip => exact h
  case defer => exact h
  case enter => exact ⟨fun hd => by simp [Fence.wide] at hd, CallsIn.inRound l (callsIn_wide.2 h)⟩
  case row => exact ⟨fun hd => by simp [Fence.wide] at hd, rowsIn_of h⟩
 | halt x w' => cases x <;> simp only [Oper.upon] at h <;> simp only [Oper.uponIn] <;> exact h
def noDefer (ops : List Oper) : Bool := ops.all fun o => match o.op with | .defer _ => false | _ => true
theorem noDefer_spec {ops : List Oper} (h : noDefer ops = true) {o : Oper} (ho : o ∈ ops) : ∀ c, o.op ≠ .defer c := by
  intro c e
  have := List.all_eq_true.1 h o ho
  rw [e] at this
  cases this
theorem anyIn_of {md : Region.Mode} {ops : Array Oper} (hd : noDefer ops.toList = true) (hQ : ¬ LetsOut Q) : ∀ (fuel : Nat) (listed : Array Bool) (a : Act) (w : World), wpAny P md ops Q fuel listed a w → wpAnyIn (Fence.wide.inRound l) n P md ops Q fuel listed a w
  | 0, _, _, _, h => h
  | fuel + 1, listed, a, w, h => ⟨h.1, fun i hi => by
    have h2 := h.2 i hi
    unfold wpOp at h2
    unfold wpOpIn
    cases ho : ops[i]? with
    | none => rw [ho] at h2; exact anyIn_of hd hQ fuel _ _ _ h2
    | some o =>
      rw [ho] at h2
      simp only at h2 ⊢
      split
      · rename_i hw
        rw [if_pos hw] at h2
        rcases h2 with h2 | ⟨_, h3⟩
        · exact Oper.wpIn_mono (fun a' w' h4 => anyIn_of hd hQ fuel _ _ _ h4) (opIn_of (noDefer_spec hd (by
            have h5 := Array.mem_of_getElem? ho
            exact h5.1)) hQ h2)
        exact absurd h3 hQ
      rename_i hw
      rw [if_neg hw] at h2
      exact ⟨fun _ _ => trivial, anyIn_of hd hQ fuel _ _ _ h2⟩⟩
theorem listIn_of {ops : Array Oper} (hQ : ¬ LetsOut Q) : ∀ (rest : List Oper) (_ : noDefer rest = true) (a : Act) (w : World), wpList P ops Q rest a w → wpListIn (Fence.wide.inRound l) n P ops Q rest a w
 | [], _, _, _, h => h
 | o :: rest, hd, a, w, h => by
  unfold wpList at h
  unfold wpListIn
  have hd2 : noDefer rest = true := by
   unfold noDefer at hd ⊢
   rw [List.all_cons, Bool.and_eq_true] at hd
   exact hd.2
  split
  ·rename_i hw
   rw [if_pos hw] at h
   rcases h with h | ⟨_, h3⟩
   ·exact Oper.wpIn_mono (fun a' w' h4 => listIn_of hQ rest hd2 a' w' h4) (opIn_of (noDefer_spec hd (by simp)) hQ h)
   exact absurd h3 hQ
  rename_i hw
  rw [if_neg hw] at h
  exact ⟨fun _ _ => trivial, listIn_of hQ rest hd2 _ _ h⟩
theorem wpIn_region_held_drew {id : Nat} {ops : Array Oper} {S : World → Prop} {a : Act} {w : World} (hm : P.follows .mixedOrders = true) (hd : noDefer ops.toList = true) (hQ : ¬ LetsOut Q) (hS : S w.drew)
    (h : S w.drew → wpAnyH P .any ops Q S ops.size (Array.replicate ops.size false) a w.drew) : (Code.region id ops true).wpIn (Fence.wide.inRound l) n P Q a w :=
  wpIn_region_any hm (anyIn_of hd hQ _ _ _ _ (wpAny_of_held _ _ _ _ (h hS)))
theorem wpIn_region_plain {id : Nat} {ops : List Oper} {a : Act} {w : World} (hd : noDefer ops = true) (hQ : ¬ LetsOut Q) (h : wpList P ops.toArray Q ops a w) : (Code.region id ops.toArray false).wpIn (Fence.wide.inRound l) n P Q a w :=
  wpIn_region_lit (listIn_of hQ _ hd _ _ h)
end
end Go.Proofs.YtmgibncehlpfkaaGreat

namespace Go.Proofs.YtmgibncehlpfkaaGreat
open Go.RowKit Go.Shelf
attribute [local go_sem] Oper.semAt_some
attribute [local go_sem ↓] Go.wp_at_zero Go.wp_at_succ run_eql_point run_neq_point run_max_ii run_min_ii

def ptVal2 (x : Int × Int) : Value := .agg #[.int .i64 x.1, .int .i64 x.2]
def RingsO (ok : Nat → Prop) (w : World) (v : Value) (rs : List Ring) : Prop :=
  ∃ (A : Option Addr) (cap : Nat), v = .slice A rs.length cap ∧ (0 < rs.length → ∃ g off, A = some ⟨g, off, none⟩ ∧ ok g ∧ ∀ i r, rs[i]? = some r → ∃ B cb, w.cell? ⟨g, off + i, none⟩ = some (.slice B r.length cb) ∧ PtsV w (.slice B r.length cb) r ∧ ∀ A, B = some A → ok A.block)
set_option maxRecDepth 100000 in
set_option maxHeartbeats 4000000 in
theorem edges1_in (m : Nat) (hm : 1 ≤ m) (l Bx N : Nat) (G : Nat → Prop) (u : Value) (rs : List Ring) (J Jx : List ((Int × Int) × (Int × Int)) → World → Prop) (w : World)
  (hcb : w.cell? ⟨Bx, 0, none⟩ = some u) (_hGb : ¬ G Bx) (hR : RingsO (fun k => ¬ G k) w u rs) (hrl : ∀ r, r ∈ rs → r.length ≤ 4096) (hrs : rs.length ≤ 100000)
  (hJ : ∀ s A B, J s A → Ext A B → J s B)
  (hY : ∀ pre x W, J pre W → pre.length < N → x ∈ edgesV rs → YieldAt Fence.wide (m - 1) Tryz.prog l #[ptVal2 x.1, ptVal2 x.2] W fun e W' => (e = .returned (.bool true) ∧ J (pre ++ [x]) W' ∧ Fr G W W') ∨ (e = .returned (.bool false) ∧ Jx (pre ++ [x]) W'))
  (hN : (edgesV rs).length ≤ N) (h0 : J [] w) :
  CallsIn Fence.wide m Tryz.prog 55 #[.func (.yield l) #[] #[], .pointer (some ⟨Bx, 0, none⟩)] w fun e W' => (∃ v, e = .returned v) ∧
   ((∃ ys, ys = edgesV rs ∧ J ys W') ∨ (∃ pre, pre <+: edgesV rs ∧ Jx pre W')) := by
 obtain ⟨A, cap, rfl, hA⟩ := hR
 have HA := zH hA
 have HJ := zH hJ
 have HY := zH hY
 have HRL := zH hrl
 clear hA hJ hY hrl
 refine callsIn_of_wp Tryz.func55 rfl trivial ?_ rfl
 simp only [Tryz.ntmps55, List.size_toArray, List.length_cons, List.length_nil, Nat.reduceAdd, Nat.reduceSub, Array.replicate_succ, Array.replicate_zero, List.push_toArray, List.append_toArray, List.nil_append, List.cons_append]
 gi_wp2
 gi_loopw [10] (fun i wr => ∃ k : Nat, k ≤ rs.length ∧ i = .int .i64 k ∧ Fr G w wr ∧ J (edgesV (rs.take k)) wr) (fun i _ => rs.length - (intOf i).toNat)
 case atStart => exact ⟨0, Nat.zero_le _, rfl, Fr.of_ext (Ext.refl _), h0⟩
 case round =>
  obtain ⟨k, hk, rfl, hfr, hj⟩ := hrel
  have HFR := zH hfr
  have HJ1 := zH hj
  clear hfr hj
  by_cases hlt : k < rs.length
  ·obtain ⟨r, hr⟩ : ∃ r, rs[k]? = some r := ⟨_, List.getElem?_eq_getElem hlt⟩
   obtain ⟨g, off, rfl, hg, h1⟩ := HA.out (by omega)
   obtain ⟨B, cb, hc1, hp1, hB⟩ := h1 k r hr
   have c1 := HFR.out.cell hc1 hg
   have hlt2 : (k : Int) < (rs.length : Int) := by omega
   have HP := zH hp1
   have HB := zH hB
   have HR := zH hr
   have hr4 := HRL.out r (List.mem_of_getElem? hr)
   clear h1 hc1 hp1 hB hr
   gi_wp2
   generalize wr = W0 at *
   gi_loopw [16] (fun i wr => ∃ j : Nat, j ≤ r.length ∧ i = .int .i64 j ∧ Fr G W0 wr ∧ J (edgesV (rs.take k) ++ ringEn r j) wr) (fun i _ => r.length - (intOf i).toNat)
   case atStart => exact ⟨0, Nat.zero_le _, rfl, Fr.of_ext (Ext.refl _), by have h := HJ1.out; rwa [show ringEn r 0 = [] from rfl, List.append_nil]⟩
   case round =>
    obtain ⟨j, hjl, rfl, hfr, hj⟩ := hrel
    have HF2 := zH hfr
    have HJ2 := zH hj
    clear hfr hj
    by_cases hjt : j < r.length
    ·have hjt2 : (j : Int) < (r.length : Int) := by omega
     obtain ⟨a, ha⟩ : ∃ a, r[j]? = some a := ⟨_, List.getElem?_eq_getElem hjt⟩
     have hmod : (j + 1) % r.length < r.length := Nat.mod_lt _ (by omega)
     obtain ⟨b, hb⟩ : ∃ b, r[(j + 1) % r.length]? = some b := ⟨_, List.getElem?_eq_getElem hmod⟩
     have hEA := zH (edgeAt_some ha hb)
     have hpts : ∃ g2 off2, B = some ⟨g2, off2, none⟩ ∧ ¬ G g2 ∧ PtsAt w g2 off2 r := by
      obtain ⟨A2, c2, hv2, h2⟩ := HP.out
      injection hv2 with e1 _ _
      obtain ⟨g2, off2, h3, h4⟩ := h2 (fun e => by rw [e] at hjt; simp at hjt)
      exact ⟨g2, off2, e1.trans h3, HB.out _ (e1.trans h3), h4⟩
     obtain ⟨g2, off2, rfl, hg2, hpa⟩ := hpts
     have HFW := zH (HFR.out.trans HF2.out)
     have hga : ∀ i p, r[i]? = some p → r.getD i (0, 0) = p := fun i p h => by rw [List.getD_eq_getElem?_getD, h]; rfl
     have hpj := hpa j hjt
     have hpm := hpa _ hmod
     rw [hga j a ha] at hpj
     rw [hga _ b hb] at hpm
     have x0 := HFW.out.cell hpj.1 hg2
     have x1 := HFW.out.cell hpj.2 hg2
     have y0 := HFW.out.cell hpm.1 hg2
     have y1 := HFW.out.cell hpm.2 hg2
     have wj : IntKind.i64.wrap ((j : Int) + 1) = (j : Int) + 1 := by rw [IntKind.wrap_i64]; omega
     have hrem : ((j : Int) + 1).tmod (r.length : Int) = (((j + 1) % r.length : Nat) : Int) := by rw [Int.tmod_eq_emod_of_nonneg (by omega)]; simp
     have HHA := zH ha
     have HHB := zH hb
     clear hpa hpj hpm ha hb hga
     generalize hM : (j + 1) % r.length = M at *
     clear hM
     obtain ⟨a0, a1⟩ := a
     obtain ⟨b0, b1⟩ := b
     dsimp only at x0 x1 y0 y1
     by_cases hab : (a0, a1) = (b0, b1)
     ·injection hab with e0 e1
      subst e0
      subst e1
      have hne : (a0 == a0 && a1 == a1) = true := by simp
      have HED := zH (hEA.out.trans (if_pos rfl))
      have y0a := ((Ext.refl wr).alloc (.cells #[.int .i64 a0, .int .i64 a1] 45)).get y0
      have y1a := ((Ext.refl wr).alloc (.cells #[.int .i64 a0, .int .i64 a1] 45)).get y1
      have hx2 : Ext wr ((wr.alloc (.cells #[.int .i64 a0, .int .i64 a1] 45)).alloc (.cells #[.int .i64 a0, .int .i64 a1] 45)) := ((Ext.refl wr).alloc _).alloc _
      gi_wp2
      refine ⟨fun _ h => (by cases h), ?_⟩
      gi_wp2
      go_roundw
      case rel => exact ⟨j + 1, hjt, by go_num, HF2.out.trans (Fr.of_ext hx2), by rw [ringEn_succ_none HED.out]; exact HJ.out _ _ _ HJ2.out hx2⟩
      case measure => simp [intOf]; omega
     have hne : (a0 == b0 && a1 == b1) = false := by
      rw [Bool.and_eq_false_iff, beq_eq_false_iff_ne, beq_eq_false_iff_ne]
      by_cases h0 : a0 = b0
      ·exact .inr fun h1 => hab (by rw [h0, h1])
      exact .inl h0
     have HED := zH (hEA.out.trans (if_neg hab))
     clear hab
     have y0a := ((Ext.refl wr).alloc (.cells #[.int .i64 a0, .int .i64 a1] 45)).get y0
     have y1a := ((Ext.refl wr).alloc (.cells #[.int .i64 a0, .int .i64 a1] 45)).get y1
     have hx2 : Ext wr ((wr.alloc (.cells #[.int .i64 a0, .int .i64 a1] 45)).alloc (.cells #[.int .i64 b0, .int .i64 b1] 45)) := ((Ext.refl wr).alloc _).alloc _
     have hlen : (edgesV (rs.take k) ++ ringEn r j).length < N := by
      have h1 := (edges_pre HR.out (show j + 1 ≤ r.length by omega)).length_le
      rw [ringEn_succ_some HED.out] at h1
      simp at h1 ⊢
      omega
     obtain ⟨fn, tmps, assign, body, hy, hRd⟩ := HY.out _ ((a0, a1), (b0, b1)) _ (HJ.out _ _ _ HJ2.out hx2) hlen (by
      have h1 := edges_pre HR.out (show j + 1 ≤ r.length by omega)
      rw [ringEn_succ_some HED.out] at h1
      exact h1.subset (by simp))
     dsimp only [ptVal2] at hy
     gi_wp2
     refine hRd.mono ?_
     rintro e W3 (⟨rfl, hJ3, hk3⟩ | ⟨rfl, hJx3⟩)
     ·gi_wp2
      go_roundw
      case rel => exact ⟨j + 1, hjt, by go_num, (HF2.out.trans (Fr.of_ext hx2)).trans hk3, by rw [ringEn_succ_some HED.out, ← List.append_assoc]; exact hJ3⟩
      case measure => simp [intOf]; omega
     gi_wp2
     refine bodyPost_ret (results_none rfl _ _ _) rfl ?_
     exact ⟨⟨_, rfl⟩, .inr ⟨_, by have h := edges_pre HR.out (show j + 1 ≤ r.length by omega); rwa [ringEn_succ_some HED.out, ← List.append_assoc] at h, hJx3⟩⟩
    have hjn : ¬ (j : Int) < (r.length : Int) := by omega
    gi_wp2
    go_roundw
    case rel => exact ⟨k + 1, by omega, by go_num, HFR.out.trans HF2.out, by rw [edgesV_take HR.out]; have h := HJ2.out; rwa [show j = r.length by omega] at h⟩
    case measure => simp [intOf]; omega
  gi_wp2
  go_end0
  have e : k = rs.length := by omega
  subst e
  exact ⟨⟨_, rfl⟩, .inl ⟨_, rfl, by have h := HJ1.out; rwa [List.take_of_length_le (Nat.le_refl _)] at h⟩⟩
end Go.Proofs.YtmgibncehlpfkaaGreat

namespace Go.Proofs.YtmgibncehlpfkaaGreat
open Go.RowKit
attribute [local go_sem ↓] Go.wp_at_zero Go.wp_at_succ run_eql_point run_neq_point run_max_ii run_min_ii

theorem RingsO.ext {ok : Nat → Prop} {w w' : World} {v : Value} {rs : List Ring} (h : RingsO ok w v rs) (x : Ext w w') : RingsO ok w' v rs := by
  obtain ⟨A, cap, h1, h2⟩ := h
  refine ⟨A, cap, h1, fun h0 => ?_⟩
  obtain ⟨g, off, h3, h4, h5⟩ := h2 h0
  refine ⟨g, off, h3, h4, fun i r hr => ?_⟩
  obtain ⟨B, cb, h6, h7, h8⟩ := h5 i r hr
  exact ⟨B, cb, x.get h6, h7.ext x, h8⟩
theorem RingsO.imp {ok ok' : Nat → Prop} {w : World} {v : Value} {rs : List Ring} (h : RingsO ok w v rs) (hi : ∀ k, ok k → ok' k) : RingsO ok' w v rs := by
  obtain ⟨A, cap, h1, h2⟩ := h
  refine ⟨A, cap, h1, fun h0 => ?_⟩
  obtain ⟨g, off, h3, h4, h5⟩ := h2 h0
  refine ⟨g, off, h3, hi _ h4, fun i r hr => ?_⟩
  obtain ⟨B, cb, h6, h7, h8⟩ := h5 i r hr
  exact ⟨B, cb, h6, h7, fun A hA => hi _ (h8 A hA)⟩
theorem Tr.ringsO {b0 : Nat} {w : World} {v : Value} {rs : List Ring} (h : Tr b0 w v rs) : RingsO (fun k => b0 ≤ k ∧ k < w.heap.size) w v rs := by
 obtain ⟨vs, h1, h2, h3⟩ := h
 obtain ⟨_, ⟨rfl, hz⟩ | ⟨g, cap, rest, rfl, hb, hB, _⟩⟩ := h1
 ·exact ⟨none, 0, by rw [hz], fun h => by omega⟩
 refine ⟨_, cap, rfl, fun _ => ⟨g, 0, rfl, ⟨hb, hB.lt⟩, fun i r hr => ?_⟩⟩
 obtain ⟨B, cb, h4, h5, h6, h7⟩ := h3 i r hr
 refine ⟨B, cb, ?_, h5, fun A hA => ⟨h7 A hA, (h6 A hA).2⟩⟩
 rw [Nat.zero_add, hB.cell, List.getElem?_toArray, List.getElem?_append_left (by have := (List.getElem?_eq_some_iff.1 h4).1; exact this)]
 exact h4
theorem RingsO.nil (ok : Nat → Prop) (w : World) : RingsO ok w (.slice none 0 0) [] := ⟨none, 0, rfl, fun h => by simp at h⟩
set_option maxRecDepth 20000 in
set_option maxHeartbeats 4000000 in
theorem translate_no (u : Value) (rs : List Ring) (w : World) (hu : RingsV w u rs) (hv : okR rs = false) (hn : rs.length ≤ 100000) (hr : ∀ r, r ∈ rs → r.length ≤ 100000) :
  Calls Tryz.prog 54 #[u, .agg #[.int .i64 0, .int .i64 0]] w fun e w' => e = .returned (.slice none 0 0) ∧ Ext w w' := by
 have HC := zH (fun W (hW : Ext w W) => polyValid_any u rs W (hu.ext hW) hn hr)
 have HV := zH hv
 obtain ⟨Au, cu, rfl, _⟩ := hu
 clear hv hr
 go_enter Tryz.func54, Tryz.ntmps54
 have hE : Ext w (w.alloc (.cells #[.int .i64 0, .int .i64 0] 45)) := (Ext.refl _).alloc _
 go_upto_if 13 with (go_at_call 17; refine (HC.out _ hE).mono ?_; rintro e w1 ⟨rfl, hx1⟩)
 have hb0 : (!okR rs) = true := by rw [HV.out]; rfl
 rw [hb0]
 go_wp2_with fail
 go_ret
 exact ⟨rfl, hE.trans hx1⟩
set_option maxRecDepth 20000 in
set_option maxHeartbeats 4000000 in
theorem edges_any (u : Value) (rs : List Ring) (w : World) (hu : RingsV w u rs) (hn : rs.length ≤ 100000) (hr : ∀ r, r ∈ rs → r.length ≤ 100000) :
  Calls Tryz.prog 32 #[u] w fun e w' => ∃ Bx v, e = .returned (.func (.func 55) #[] #[.pointer (some ⟨Bx, 0, none⟩)]) ∧ w.heap.size ≤ Bx ∧ Bx < w'.heap.size ∧
   w'.cell? ⟨Bx, 0, none⟩ = some v ∧ RingsO (fun k => w.heap.size ≤ k ∧ k < w'.heap.size) w' v (if okR rs = true then rs else []) ∧ Ext w w' := by
 have HC : Calls Tryz.prog 54 #[u, .agg #[.int .i64 0, .int .i64 0]] w fun e w' => ∃ A n c, e = .returned (.slice A n c) ∧ RingsO (fun k => w.heap.size ≤ k ∧ k < w'.heap.size) w' (.slice A n c) (if okR rs = true then rs else []) ∧ Ext w w' := by
  by_cases h : okR rs = true
  ·rw [if_pos h]
   refine (translate0_tr u rs w hu h hn).mono ?_
   rintro e w' ⟨v, rfl, h2, h3⟩
   have h4 := h2.ringsO
   obtain ⟨A, c, rfl, _⟩ := id h4
   exact ⟨A, _, c, rfl, h4, h3⟩
  rw [if_neg h]
  refine (translate_no u rs w hu (by simpa using h) hn hr).mono ?_
  rintro e w' ⟨rfl, h3⟩
  exact ⟨none, 0, 0, rfl, RingsO.nil _ _, h3⟩
 generalize (if okR rs = true then rs else []) = qs at HC ⊢
 have HC2 := zH HC
 clear HC hu hr
 go_enter Tryz.func32, Tryz.ntmps32
 go_wp2_with (go_at_call 54; refine HC2.out.mono ?_; rintro e w1 ⟨A, n, c, rfl, hR, hx⟩)
 go_ret
 have hx2 : Ext w1 (w1.alloc (.cells #[.slice A n c] 22)) := (Ext.refl _).alloc _
 refine ⟨_, _, rfl, hx.size, by simp, ?_, (hR.ext hx2).imp (fun k h => ⟨h.1, Nat.lt_of_lt_of_le h.2 hx2.size⟩), hx.trans hx2⟩
 exact (Blk.new w1 _ _).cell 0
end Go.Proofs.YtmgibncehlpfkaaGreat

namespace Go.Proofs.YtmgibncehlpfkaaGreat
open Go.RowKit

section
variable {P : Program} {ρ : Operand → Value} {o : Oper} {w : World}
theorem ev_add {A B E : Int} {t t' : TypeId} {x y : Operand} (ho : o.op = .binOp .add t x y t') (hx : ρ x = .int .i64 A) (hy : ρ y = .int .i64 B) (hE : A + B = E) (h1 : -9223372036854775808 ≤ E) (h2 : E ≤ 9223372036854775807) : (execOp ρ o).run P w = .ok (.value (.int .i64 E)) w := by
  have hw : IntKind.i64.wrap (A + B) = E := by rw [IntKind.wrap_i64, hE]; omega
  unfold execOp
  simp only [ho, hx, hy]
  simp [go_sem, hw]
theorem ev_sub {A B E : Int} {t t' : TypeId} {x y : Operand} (ho : o.op = .binOp .sub t x y t') (hx : ρ x = .int .i64 A) (hy : ρ y = .int .i64 B) (hE : A - B = E) (h1 : -9223372036854775808 ≤ E) (h2 : E ≤ 9223372036854775807) : (execOp ρ o).run P w = .ok (.value (.int .i64 E)) w := by
  have hw : IntKind.i64.wrap (A - B) = E := by rw [IntKind.wrap_i64, hE]; omega
  unfold execOp
  simp only [ho, hx, hy]
  simp [go_sem, hw]
theorem ev_mul {A B E : Int} {t t' : TypeId} {x y : Operand} (ho : o.op = .binOp .mul t x y t') (hx : ρ x = .int .i64 A) (hy : ρ y = .int .i64 B) (hE : A * B = E) (h1 : -9223372036854775808 ≤ E) (h2 : E ≤ 9223372036854775807) : (execOp ρ o).run P w = .ok (.value (.int .i64 E)) w := by
  have hw : IntKind.i64.wrap (A * B) = E := by rw [IntKind.wrap_i64, hE]; omega
  unfold execOp
  simp only [ho, hx, hy]
  simp [go_sem, hw]
theorem ev_lss {A B : Int} {b : Bool} {t t' : TypeId} {x y : Operand} (ho : o.op = .binOp .lss t x y t') (hx : ρ x = .int .i64 A) (hy : ρ y = .int .i64 B) (hE : decide (A < B) = b) : (execOp ρ o).run P w = .ok (.value (.bool b)) w := by
  subst hE
  unfold execOp
  simp only [ho, hx, hy]
  simp [go_sem]
theorem ev_gtr {A B : Int} {b : Bool} {t t' : TypeId} {x y : Operand} (ho : o.op = .binOp .gtr t x y t') (hx : ρ x = .int .i64 A) (hy : ρ y = .int .i64 B) (hE : decide (B < A) = b) : (execOp ρ o).run P w = .ok (.value (.bool b)) w := by
  subst hE
  unfold execOp
  simp only [ho, hx, hy]
  simp [go_sem]
theorem ev_geq {A B : Int} {b : Bool} {t t' : TypeId} {x y : Operand} (ho : o.op = .binOp .geq t x y t') (hx : ρ x = .int .i64 A) (hy : ρ y = .int .i64 B) (hE : decide (B ≤ A) = b) : (execOp ρ o).run P w = .ok (.value (.bool b)) w := by
  subst hE
  unfold execOp
  simp only [ho, hx, hy]
  simp [go_sem]
theorem ev_eql {A B : Int} {b : Bool} {t t' : TypeId} {x y : Operand} (ho : o.op = .binOp .eql t x y t') (hx : ρ x = .int .i64 A) (hy : ρ y = .int .i64 B) (hE : decide (A = B) = b) : (execOp ρ o).run P w = .ok (.value (.bool b)) w := by
  subst hE
  unfold execOp
  simp only [ho, hx, hy]
  simp [go_sem]
  by_cases h : A = B <;> simp [h]
theorem dec_t {p : Prop} [Decidable p] (h : p) : decide p = true := by simpa using h
theorem dec_f {p : Prop} [Decidable p] (h : ¬ p) : decide p = false := by simpa using h
theorem ev_index {g off n c k size off' : Nat} {z : Int} {t e : TypeId} {x y : Operand} (ho : o.op = .indexAddr t x y) (ht : P.underlying t = some (.slice e)) (hs : (P.info? e).map (·.size) = some size) (hx : ρ x = .slice (some ⟨g, off, none⟩) n c) (hy : ρ y = .int .i64 z) (hz : z = (k : Int))
  (hn : k < n) (hoff : off' = off + k * size) : (execOp ρ o).run P w = .ok (.value (.pointer (some ⟨g, off', none⟩))) w := by
 subst hz
 subst hoff
 have hel : P.elem t = e := by simp [Program.elem, ht]
 have h1 : P.underlying t = some (.slice (P.elem t)) := by rw [hel]; exact ht
 have hk : (0 : Int) ≤ (k : Int) ∧ (k : Int) < (n : Int) := by omega
 unfold execOp
 simp only [ho, hx, hy, Sem.run_bind, run_indexAt_slice _ _ _ _ _ _ _ h1, if_pos hk, hel]
 cases hq : P.info? e with
 | none => simp [hq] at hs
 | some i =>
  have h2 : i.size = size := by simpa [hq] using hs
  simp [sizeOf, typeInfo, hq, h2, Addr.add]
end

def ElT (P : Program) (t e : TypeId) (size bytes : Nat) : Prop := P.underlying t = some (.slice e) ∧ ∃ i z, P.info? e = some i ∧ i.zero = some z ∧ i.size = size ∧ i.bytes = bytes ∧ z.cells.size = size ∧ NoUL z.cells.toList ∧ 0 < size
theorem ElT.of {P : Program} {t e : TypeId} {size bytes : Nat} {z : Value} (h1 : P.underlying t = some (.slice e)) (h2 : (P.info? e).map (fun i => (i.zero, i.size, i.bytes)) = some (some z, size, bytes)) (h3 : z.cells.size = size) (h4 : NoUL z.cells.toList) (h5 : 0 < size) : ElT P t e size bytes := by
  obtain ⟨i0, hi, hz0, hz1, hz2⟩ := info_parts h2
  exact ⟨h1, i0, z, hi, hz0, hz1, hz2, h3, h4, h5⟩
theorem news_cells (w : World) (t : TypeId) (news : List Value) : ∀ (j : Nat) (u : Value), news[j]? = some u → (w.alloc (.cells news.toArray t)).cell? ((⟨w.heap.size, 0, none⟩ : Addr).add j) = some u := by
  intro j u hj
  have h := (Blk.new w t news.toArray).cell j
  have e : (⟨w.heap.size, 0, none⟩ : Addr).add j = ⟨w.heap.size, j, none⟩ := by unfold Addr.add; split <;> simp_all
  rw [e, h, List.getElem?_toArray]
  exact hj
section
variable {P : Program} {l : List Oper} {Q : Exit → Act → World → Prop} {md : Region.Mode} {S : World → Prop} {i j ix : Nat} {oi oj : Oper} {fuel : Nat} {listed listed' : Array Bool} {a : Act} {w w0 : World} {m : List Ent}
theorem md_app (hj : l[j]? = some oj) (hr : Region.ready md l.toArray listed = [j]) (hw : Region.wanted oj (yielded l.toArray a.tmps) = true) (s x : Operand) (t : TypeId)
  (ho : oj.op = .call { callee := .builtin .append, args := #[s, x], argTypes := #[t, t] }) {e : TypeId} {size bytes : Nat} (el : ElT P t e size bytes) {v : Value} {n : Nat} {xs : List Value} (hs : a.eval s = v)
  (hH : Hp w0 w m) (hi : m[ix]? = some (.row e size v n xs)) (k c : Nat) (news : List Value) (hx : a.eval x = .slice (some ⟨w.heap.size, 0, none⟩) k c) (hl : news.length = k * size) (h1 : ∀ u ∈ news, u.oneCell' = true) (hnu : NoUL news)
  (hm : 0 < k) (h63 : n + k ≤ maxLen) (hbytes : (n + k) * bytes ≤ 140737488355328) (hl' : listed.setIfInBounds j true = listed')
  (h : ∀ g cap w', (v.ownBlock = some g ∨ w.heap.size ≤ g) → Hp w0 w' (m.set ix (.row e size (.slice (some ⟨g, 0, none⟩) (n + k) cap) (n + k) (xs ++ news))) → Dig w w' → (w.alloc (.cells news.toArray e)).grownBy w' v.ownBlock →
   S w' ∧ wpAnyH P md l.toArray Q S fuel listed' (a.put oj.dst (.slice (some ⟨g, 0, none⟩) (n + k) cap)) w') : wpAnyH P md l.toArray Q S (fuel + 1) listed a (w.alloc (.cells news.toArray e)) := by
 obtain ⟨ht, i, z, e1, e2, e3, e4, e5, e6, e7⟩ := el
 have hx0 : Ext w (w.alloc (.cells news.toArray e)) := (Ext.refl w).alloc _
 have hH1 := hH.step hx0
 refine md_appendF hj hr hw s x t ho w0.heap.size e i z size bytes ht e1 e2 e3 e4 e5 e7 e6 v n xs hs (hH1.row hi) ⟨w.heap.size, 0, none⟩ k c news hx hl (news_cells w e news) h1 hnu hm h63 hbytes (Nat.le_trans hH.ext.size hx0.size) hl' ?_
 intro g cap w' hf h2 h3 _
 exact h g cap w' (hf.imp id (fun q => Nat.le_trans hx0.size q)) (hH1.grow hi hf h2 h3) ((Dig.of_ext hx0).trans (hH1.growDig hi h3)) h3
theorem mv_app {rest : List Oper} {o : Oper} {ops : Array Oper} (hw : Region.wanted o (yielded ops a.tmps) = true) (s x : Operand) (t : TypeId)
  (ho : o.op = .call { callee := .builtin .append, args := #[s, x], argTypes := #[t, t] }) {e : TypeId} {size bytes : Nat} (el : ElT P t e size bytes) {v : Value} {n : Nat} {xs : List Value} (hs : a.eval s = v)
  (hH : Hp w0 w m) (hi : m[ix]? = some (.row e size v n xs)) (k c : Nat) (news : List Value) (hx : a.eval x = .slice (some ⟨w.heap.size, 0, none⟩) k c) (hl : news.length = k * size) (h1 : ∀ u ∈ news, u.oneCell' = true) (hnu : NoUL news)
  (hm : 0 < k) (h63 : n + k ≤ maxLen) (hbytes : (n + k) * bytes ≤ 140737488355328)
  (h : ∀ g cap w', (v.ownBlock = some g ∨ w.heap.size ≤ g) → Hp w0 w' (m.set ix (.row e size (.slice (some ⟨g, 0, none⟩) (n + k) cap) (n + k) (xs ++ news))) → Dig w w' → (w.alloc (.cells news.toArray e)).grownBy w' v.ownBlock →
   wpList P ops Q rest (a.put o.dst (.slice (some ⟨g, 0, none⟩) (n + k) cap)) w') : wpList P ops Q (o :: rest) a (w.alloc (.cells news.toArray e)) := by
 obtain ⟨ht, i, z, e1, e2, e3, e4, e5, e6, e7⟩ := el
 have hx0 : Ext w (w.alloc (.cells news.toArray e)) := (Ext.refl w).alloc _
 have hH1 := hH.step hx0
 refine wpList_if hw (wp_append_rowF s x t ho w0.heap.size e i z size bytes ht e1 e2 e3 e4 e5 e7 e6 v n xs hs (hH1.row hi) ⟨w.heap.size, 0, none⟩ k c news hx hl (news_cells w e news) h1 hnu hm h63 hbytes (Nat.le_trans hH.ext.size hx0.size) ?_)
 intro g cap w' hf h2 h3 _
 exact h g cap w' (hf.imp id (fun q => Nat.le_trans hx0.size q)) (hH1.grow hi hf h2 h3) ((Dig.of_ext hx0).trans (hH1.growDig hi h3)) h3
theorem Hp.addBlk {w' : World} {g : Nat} {t : TypeId} {cs : List Value} (h : Hp w0 w m) (x : Ext w w') (hb : Blk w' g t cs.toArray) (hg : w.heap.size ≤ g) (hn : NoUL cs) : Hp w0 w' (m ++ [.blk g t cs]) :=
  (h.step x).add ⟨Nat.le_trans h.ext.size hg, hb, hn⟩ (fun i f hf k hk e => by
    injection e with e
    have := h.lt hf hk
    omega)
end
section
variable {P : Program} {l : List Oper} {Q : Exit → Act → World → Prop} {md : Region.Mode} {S : World → Prop} {i ix : Nat} {oi op : Oper} {fuel : Nat} {listed listed' : Array Bool} {a : Act} {w w0 : World} {m : List Ent} {ops : Array Oper} {rest : List Oper}
theorem mv_alloc {T : TypeId} {zs : List Value} (hw : Region.wanted op (yielded ops a.tmps) = true) (hv : (execOp a.eval op).run P w = .ok (.value (.pointer (some ⟨w.heap.size, 0, none⟩))) (w.alloc (.cells zs.toArray T)))
    (hH : Hp w0 w m) (hn : NoUL zs) (h : ∀ X w', Hp w0 w' (m ++ [.blk X T zs]) → Ext w w' → w.heap.size ≤ X → wpList P ops Q rest (a.put op.dst (.pointer (some ⟨X, 0, none⟩))) w') : wpList P ops Q (op :: rest) a w :=
  mv_val hw hv (h _ _ (hH.alloc T zs hn) ((Ext.refl w).alloc _) (Nat.le_refl _))
theorem md_alloc {T : TypeId} {zs : List Value} (hi : l[i]? = some oi) (hr : Region.ready md l.toArray listed = [i]) (hw : Region.wanted oi (yielded l.toArray a.tmps) = true)
  (hv : (execOp a.eval oi).run P w = .ok (.value (.pointer (some ⟨w.heap.size, 0, none⟩))) (w.alloc (.cells zs.toArray T))) (hl : listed.setIfInBounds i true = listed') (hH : Hp w0 w m) (hn : NoUL zs)
  (h : ∀ X w', Hp w0 w' (m ++ [.blk X T zs]) → Ext w w' → w.heap.size ≤ X → S w' ∧ wpAnyH P md l.toArray Q S fuel listed' (a.put oi.dst (.pointer (some ⟨X, 0, none⟩))) w') : wpAnyH P md l.toArray Q S (fuel + 1) listed a w := by
 obtain ⟨h1, h2⟩ := h _ _ (hH.alloc T zs hn) ((Ext.refl w).alloc _) (Nat.le_refl _)
 exact md_one hi hr hw hv h1 hl h2
theorem mv_lit {T : TypeId} {zs : List Value} {n : Nat} (hw : Region.wanted op (yielded ops a.tmps) = true) (hv : (execOp a.eval op).run P w = .ok (.value (.slice (some ⟨w.heap.size, 0, none⟩) n n)) (w.alloc (.cells zs.toArray T)))
    (hH : Hp w0 w m) (hn : NoUL zs) (h : ∀ X w', Hp w0 w' (m ++ [.blk X T zs]) → Ext w w' → w.heap.size ≤ X → wpList P ops Q rest (a.put op.dst (.slice (some ⟨X, 0, none⟩) n n)) w') : wpList P ops Q (op :: rest) a w :=
  mv_val hw hv (h _ _ (hH.alloc T zs hn) ((Ext.refl w).alloc _) (Nat.le_refl _))
theorem md_lit {T : TypeId} {zs : List Value} {n : Nat} (hi : l[i]? = some oi) (hr : Region.ready md l.toArray listed = [i]) (hw : Region.wanted oi (yielded l.toArray a.tmps) = true)
  (hv : (execOp a.eval oi).run P w = .ok (.value (.slice (some ⟨w.heap.size, 0, none⟩) n n)) (w.alloc (.cells zs.toArray T))) (hl : listed.setIfInBounds i true = listed') (hH : Hp w0 w m) (hn : NoUL zs)
  (h : ∀ X w', Hp w0 w' (m ++ [.blk X T zs]) → Ext w w' → w.heap.size ≤ X → S w' ∧ wpAnyH P md l.toArray Q S fuel listed' (a.put oi.dst (.slice (some ⟨X, 0, none⟩) n n)) w') : wpAnyH P md l.toArray Q S (fuel + 1) listed a w := by
 obtain ⟨h1, h2⟩ := h _ _ (hH.alloc T zs hn) ((Ext.refl w).alloc _) (Nat.le_refl _)
 exact md_one hi hr hw hv h1 hl h2
theorem mv_st (hw : Region.wanted op (yielded ops a.tmps) = true) (ty : TypeId) (x y : Operand) (ho : op.op = .store ty x y) {g : Nat} {t : TypeId} {cs : List Value} (hH : Hp w0 w m) (hi : m[ix]? = some (.blk g t cs)) (o : Nat) (vs : List Value)
    (hx : a.eval x = .pointer (some ⟨g, o, none⟩)) (hy : a.eval y = .agg vs.toArray) (hl : o + vs.length ≤ cs.length) (hz : (P.info? ty).map (·.size) = some vs.length) (h1 : ∀ v, v ∈ vs → v.oneCell' = true) (hn : NoUL vs)
    (h : ∀ w', Hp w0 w' (m.set ix (.blk g t (cs.take o ++ vs ++ cs.drop (o + vs.length)))) → Dig w w' → Own g w w' → wpList P ops Q rest (a.put op.dst undef) w') : wpList P ops Q (op :: rest) a w :=
  wpList_if hw (wp_store_mid ty x y ho g o vs.toArray hx hy (by simpa using hH.there hi o vs.length hl) (by simpa using hz) (all_oneCell_toArray h1) (by
    rw [List.toList_toArray]
    exact h _ (hH.store hi o vs hl hn) (hH.storeDig hi o vs) (own_setCells w g o vs)))
theorem md_st (hli : l[i]? = some oi) (hr : Region.ready md l.toArray listed = [i]) (hw : Region.wanted oi (yielded l.toArray a.tmps) = true) (hlt : listed.setIfInBounds i true = listed') (ty : TypeId) (x y : Operand) (ho : oi.op = .store ty x y) {g : Nat} {t : TypeId} {cs : List Value} (hH : Hp w0 w m) (hi : m[ix]? = some (.blk g t cs)) (o : Nat) (vs : List Value)
    (hx : a.eval x = .pointer (some ⟨g, o, none⟩)) (hy : a.eval y = .agg vs.toArray) (hl : o + vs.length ≤ cs.length) (hz : (P.info? ty).map (·.size) = some vs.length) (h1 : ∀ v, v ∈ vs → v.oneCell' = true) (hn : NoUL vs)
    (h : ∀ w', Hp w0 w' (m.set ix (.blk g t (cs.take o ++ vs ++ cs.drop (o + vs.length)))) → Dig w w' → Own g w w' → S w' ∧ wpAnyH P md l.toArray Q S fuel listed' (a.put oi.dst undef) w') : wpAnyH P md l.toArray Q S (fuel + 1) listed a w :=
  wpAnyH_one_l hli hr (fun K hK => by
    rw [if_pos hw]
    refine wp_store_mid ty x y ho g o vs.toArray hx hy (by simpa using hH.there hi o vs.length hl) (by simpa using hz) (all_oneCell_toArray h1) ?_
    rw [List.toList_toArray]
    obtain ⟨k1, k2⟩ := h _ (hH.store hi o vs hl hn) (hH.storeDig hi o vs) (own_setCells w g o vs)
    exact hK.out _ _ k1 (fun _ => by rw [hlt]; exact k2))
theorem wp_store_cell (ty : TypeId) (x y : Operand) (ho : op.op = .store ty x y) (g o : Nat) (v : Value) (hx : a.eval x = .pointer (some ⟨g, o, none⟩)) (hy : a.eval y = v) (ht : w.there g o 1)
    (hz : (P.info? ty).map (·.size) = some 1) (hc : v.cells = #[v]) (h1 : v.oneCell' = true) {K : Act → World → Prop} (h : K (a.put op.dst undef) (w.setCells g o [v])) : op.wp P a w K Q := by
  unfold Oper.wp execOp
  simp only [ho, hx, hy, Instr.storeAt, Instr.sureAddr, Sem.run_bind, Sem.run_pure, Result.andThen_ok, run_storeVar_cell w g o ty v ht hz hc h1]
  exact h
theorem mv_st1 (hw : Region.wanted op (yielded ops a.tmps) = true) (ty : TypeId) (x y : Operand) (ho : op.op = .store ty x y) {g : Nat} {t : TypeId} {cs : List Value} (hH : Hp w0 w m) (hi : m[ix]? = some (.blk g t cs)) (o : Nat) (v : Value)
    (hx : a.eval x = .pointer (some ⟨g, o, none⟩)) (hy : a.eval y = v) (hl : o + 1 ≤ cs.length) (hz : (P.info? ty).map (·.size) = some 1) (hc : v.cells = #[v]) (h1 : v.oneCell' = true) (hn : NoUL [v])
    (h : ∀ w', Hp w0 w' (m.set ix (.blk g t (cs.take o ++ [v] ++ cs.drop (o + 1)))) → Dig w w' → Own g w w' → wpList P ops Q rest (a.put op.dst undef) w') : wpList P ops Q (op :: rest) a w :=
  wpList_if hw (wp_store_cell ty x y ho g o v hx hy (hH.there hi o 1 hl) hz hc h1 (h _ (hH.store hi o [v] hl hn) (hH.storeDig hi o [v]) (own_setCells w g o [v])))
theorem mv_stRow (hw : Region.wanted op (yielded ops a.tmps) = true) (ty : TypeId) (x y : Operand) (ho : op.op = .store ty x y) {g n cap size : Nat} {t : TypeId} {xs : List Value} (hH : Hp w0 w m) (hi : m[ix]? = some (.row t size (.slice (some ⟨g, 0, none⟩) n cap) n xs)) (o : Nat) (vs : List Value)
    (hx : a.eval x = .pointer (some ⟨g, o, none⟩)) (hy : a.eval y = .agg vs.toArray) (hl : o + vs.length ≤ xs.length) (hz : (P.info? ty).map (·.size) = some vs.length) (h1 : ∀ v, v ∈ vs → v.oneCell' = true) (hn : NoUL vs)
    (h : ∀ w', Hp w0 w' (m.set ix (.row t size (.slice (some ⟨g, 0, none⟩) n cap) n (xs.take o ++ vs ++ xs.drop (o + vs.length)))) → Dig w w' → Own g w w' → wpList P ops Q rest (a.put op.dst undef) w') : wpList P ops Q (op :: rest) a w :=
  wpList_if hw (wp_store_mid ty x y ho g o vs.toArray hx hy (by simpa using (hH.row hi).there o vs.length hl) (by simpa using hz) (all_oneCell_toArray h1) (by
    rw [List.toList_toArray]
    exact h _ (hH.storeRow hi o vs hl hn) (hH.storeRowDig hi o vs) (own_setCells w g o vs)))
theorem mv_stRow1 (hw : Region.wanted op (yielded ops a.tmps) = true) (ty : TypeId) (x y : Operand) (ho : op.op = .store ty x y) {g n cap size : Nat} {t : TypeId} {xs : List Value} (hH : Hp w0 w m) (hi : m[ix]? = some (.row t size (.slice (some ⟨g, 0, none⟩) n cap) n xs)) (o : Nat) (v : Value)
    (hx : a.eval x = .pointer (some ⟨g, o, none⟩)) (hy : a.eval y = v) (hl : o + 1 ≤ xs.length) (hz : (P.info? ty).map (·.size) = some 1) (hc : v.cells = #[v]) (h1 : v.oneCell' = true) (hn : NoUL [v])
    (h : ∀ w', Hp w0 w' (m.set ix (.row t size (.slice (some ⟨g, 0, none⟩) n cap) n (xs.take o ++ [v] ++ xs.drop (o + 1)))) → Dig w w' → Own g w w' → wpList P ops Q rest (a.put op.dst undef) w') : wpList P ops Q (op :: rest) a w :=
  wpList_if hw (wp_store_cell ty x y ho g o v hx hy ((hH.row hi).there o 1 hl) hz hc h1 (h _ (hH.storeRow hi o [v] hl hn) (hH.storeRowDig hi o [v]) (own_setCells w g o [v])))
theorem mv_ld (hw : Region.wanted op (yielded ops a.tmps) = true) (ty : TypeId) (x : Operand) (ho : op.op = .load ty x) (g o : Nat) (cs : List Value) {d : TypeDesc} (hx : a.eval x = .pointer (some ⟨g, o, none⟩)) (hb : w.rangeAt g o cs)
    (hu : P.underlying ty = some d) (hd : d.isRow = true) (hz : (P.info? ty).map (·.size) = some cs.length) (h : wpList P ops Q rest (a.put op.dst (.agg cs.toArray)) w) : wpList P ops Q (op :: rest) a w :=
  wpList_if hw (wp_load_mid ty x ho g o hx cs d hb hu hd hz h)
theorem mv_ld1 {g o : Nat} {v : Value} (hw : Region.wanted op (yielded ops a.tmps) = true) (hc : w.cell? ⟨g, o, none⟩ = some v) (hv : ∀ x : World, x.cell? ⟨g, o, none⟩ = some v → (execOp a.eval op).run P x = .ok (.value v) x)
    (h : wpList P ops Q rest (a.put op.dst v) w) : wpList P ops Q (op :: rest) a w := mv_val hw (hv w hc) h
theorem md_ld1 {g o : Nat} {v : Value} (hi : l[i]? = some oi) (hs : Region.noSelect l.toArray = true) (hf : Region.free md l.toArray listed i = true) (hr : (Region.ready md l.toArray listed).contains i = true)
    (hQ : ∀ c a w, Q (.panic c) (a.put oi.dst v) w → Q (.panic c) a w) (hw : Region.wanted oi (yielded l.toArray a.tmps) = true) (hc : ∀ x, S x → x.cell? ⟨g, o, none⟩ = some v) (hv : ∀ x : World, x.cell? ⟨g, o, none⟩ = some v → (execOp a.eval oi).run P x = .ok (.value v) x) (hS : S w)
    (hl : listed.setIfInBounds i true = listed') (h : wpAnyH P md l.toArray Q S fuel listed' (a.put oi.dst v) w) : wpAnyH P md l.toArray Q S (fuel + 1) listed a w :=
  md_val hi hs hf hr hQ hw (fun x hx => hv x (hc x hx)) hS hl h
end
end Go.Proofs.YtmgibncehlpfkaaGreat

namespace Go.Proofs.YtmgibncehlpfkaaGreat
open Go.RowKit

theorem flat_snoc {α : Type} (f : α → List Value) (es : List α) (e : α) : es.flatMap f ++ f e = (es ++ [e]).flatMap f := by simp
theorem range_part {w : World} {g o : Nat} {cs : List Value} (h : w.rangeAt g o cs) (k n : Nat) : w.rangeAt g (o + k) ((cs.drop k).take n) := by
  intro j v hv
  have hj : j < n := by
    have := (List.getElem?_eq_some_iff.1 hv).1
    rw [List.length_take] at this
    omega
  rw [List.getElem?_take_of_lt hj, List.getElem?_drop] at hv
  have := h (k + j) v hv
  rw [show o + (k + j) = o + k + j by omega] at this
  exact this
theorem cell_of_range {w : World} {g o : Nat} {v : Value} {cs : List Value} (h : w.rangeAt g o (v :: cs)) : w.cell? ⟨g, o, none⟩ = some v := by
  have := h 0 v rfl
  simpa using this
theorem rcmp_eq_i {q r : Rat} : rcmp q r = 0 ↔ q = r := rcmp_eq
theorem rl_i64 (k : Int) (h1 : -9223372036854775808 ≤ k) (h2 : k ≤ 9223372036854775807) : Nm.rl (k : Rat) ≤ 2 := by
  unfold Nm.rl
  rw [Rat.num_intCast, Rat.den_intCast]
  have h1 : Nm.nl k.natAbs ≤ 2 := Nm.nl_le (by omega)
  have h2 : Nm.nl 1 ≤ 1 := Nm.nl_le (by decide)
  omega
theorem Hp.add2 {w0 wb w : World} {m : List Ent} {X Y : Nat} {T U : TypeId} {zs us : List Value} (h : Hp w0 wb m) (x : Ext wb w) (B1 : Blk w X T zs.toArray) (B2 : Blk w Y U us.toArray) (z1 : wb.heap.size ≤ X) (z2 : wb.heap.size ≤ Y) (hne : X ≠ Y) (n1 : NoUL zs) (n2 : NoUL us) :
  Hp w0 w (m ++ [.blk X T zs] ++ [.blk Y U us]) := by
 have h1 := h.addBlk x B1 z1 n1
 refine h1.add ⟨Nat.le_trans h.ext.size z2, B2, n2⟩ (fun i f hf k hk e => ?_)
 injection e with e
 rcases Nat.lt_trichotomy i m.length with hl | hl | hl
 ·rw [List.getElem?_append_left hl] at hf
  have := h.lt hf hk
  omega
 ·subst hl
  rw [List.getElem?_append_right (Nat.le_refl _)] at hf
  simp at hf
  subst hf
  injection hk with hk
  omega
 rw [List.getElem?_append_right (Nat.le_of_lt hl), List.getElem?_eq_none (by simp; omega)] at hf
 cases hf
theorem md_alloc2 {P : Program} {l : List Oper} {Q : Exit → Act → World → Prop} {md : Region.Mode} {S : World → Prop} {i j : Nat} {oi oj : Oper} {fuel : Nat} {listed li lj lij : Array Bool} {a : Act} {w w0 : World} {m : List Ent} {T U : TypeId} {zs us : List Value}
  (hi : l[i]? = some oi) (hj : l[j]? = some oj) (hr : Region.ready md l.toArray listed = [i, j]) (hli : listed.setIfInBounds i true = li) (hlj : listed.setIfInBounds j true = lj) (hri : Region.ready md l.toArray li = [j]) (hrj : Region.ready md l.toArray lj = [i])
  (hlij : li.setIfInBounds j true = lij) (hlji : lj.setIfInBounds i true = lij) (hgi : oi.guard = none) (hgj : oj.guard = none) (hd : ∀ d, oj.dst = some d → oi.dst ≠ some d)
  (hvi : ∀ (ρ : Operand → Value) (x : World), (execOp ρ oi).run P x = .ok (.value (.pointer (some ⟨x.heap.size, 0, none⟩))) (x.alloc (.cells zs.toArray T)))
  (hvj : ∀ (ρ : Operand → Value) (x : World), (execOp ρ oj).run P x = .ok (.value (.pointer (some ⟨x.heap.size, 0, none⟩))) (x.alloc (.cells us.toArray U)))
  (hS : ∀ x y, S x → Ext x y → S y) (hSw : S w) (hH : Hp w0 w m) (hn1 : NoUL zs) (hn2 : NoUL us)
  (h : ∀ X Y w', Hp w0 w' (m ++ [.blk X T zs] ++ [.blk Y U us]) → Ext w w' → w.heap.size ≤ X → w.heap.size ≤ Y → S w' → wpAnyH P md l.toArray Q S fuel lij ((a.put oi.dst (.pointer (some ⟨X, 0, none⟩))).put oj.dst (.pointer (some ⟨Y, 0, none⟩))) w') :
  wpAnyH P md l.toArray Q S (fuel + 1 + 1) listed a w := by
 have hwi : ∀ b : Act, Region.wanted oi (yielded l.toArray b.tmps) = true := fun b => by simp [Region.wanted, hgi]
 have hwj : ∀ b : Act, Region.wanted oj (yielded l.toArray b.tmps) = true := fun b => by simp [Region.wanted, hgj]
 have x1 : Ext w (w.alloc (.cells zs.toArray T)) := (Ext.refl w).alloc _
 have x2 : Ext w (w.alloc (.cells us.toArray U)) := (Ext.refl w).alloc _
 have y1 : Ext (w.alloc (.cells zs.toArray T)) ((w.alloc (.cells zs.toArray T)).alloc (.cells us.toArray U)) := (Ext.refl _).alloc _
 have y2 : Ext (w.alloc (.cells us.toArray U)) ((w.alloc (.cells us.toArray U)).alloc (.cells zs.toArray T)) := (Ext.refl _).alloc _
 refine md_two hi hj hr (hwi a) (hvi _ w) (hS _ _ hSw x1) hli (hwj a) (hvj _ w) (hS _ _ hSw x2) hlj ?_ ?_
 ·refine md_one hj hri (hwj _) (hvj _ _) (hS _ _ (hS _ _ hSw x1) y1) hlij ?_
  exact h _ _ _ (hH.add2 (x1.trans y1) ((Blk.new w T zs.toArray).ext y1) (Blk.new _ U us.toArray) (Nat.le_refl _) x1.size (by simp) hn1 hn2) (x1.trans y1) (Nat.le_refl _) x1.size (hS _ _ (hS _ _ hSw x1) y1)
 refine md_one hi hrj (hwi _) (hvi _ _) (hS _ _ (hS _ _ hSw x2) y2) hlji ?_
 have h2 := h _ _ _ (hH.add2 (x2.trans y2) (Blk.new _ T zs.toArray) ((Blk.new w U us.toArray).ext y2) x2.size (Nat.le_refl _) (by simp) hn1 hn2) (x2.trans y2) x2.size (Nat.le_refl _) (hS _ _ (hS _ _ hSw x2) y2)
 rw [Act.put_comm a _ _ hd]
 exact h2
theorem elSpan : ElT Tryz.prog 31 39 8 128 := ElT.of (z := .agg z8) Tryz.underlying31 (by kernel_rfl) rfl (by simp [NoUL, Value.cells]) (by decide)
theorem elRat : ElT Tryz.prog 47 27 4 64 := ElT.of (z := .agg z4) Tryz.underlying47 (by kernel_rfl) rfl (by simp [NoUL, Value.cells]) (by decide)
theorem elInt : ElT Tryz.prog 32 3 1 8 := ElT.of (z := .int .i64 0) Tryz.underlying32 (by kernel_rfl) rfl (by simp [NoUL, Value.cells]) (by decide)
theorem elMark : ElT Tryz.prog 51 54 5 72 := ElT.of (z := .agg #[.bool false, .slice none 0 0, .bool false, .slice none 0 0, .int .i64 0]) Tryz.underlying51 (by kernel_rfl) rfl (by simp [NoUL, Value.cells]) (by decide)
theorem elPP : ElT Tryz.prog 78 80 4 32 := ElT.of (z := .agg #[.int .i64 0, .int .i64 0, .int .i64 0, .int .i64 0]) Tryz.underlying78 (by kernel_rfl) rfl (by simp [NoUL, Value.cells]) (by decide)
theorem zd {P : Program} {ops : Array Oper} {rest : List Oper} {op : Oper} {a a' : Act} {w : World} {Q : Exit → Act → World → Prop} {ty : TypeId} {x : Operand} {d : TypeDesc} (g o : Nat) (cs : List Value) (hb : w.rangeAt g o cs) (hu : P.underlying ty = some d) (h : wpList P ops Q rest a' w) (hw : Region.wanted op (yielded ops a.tmps) = true := by rfl) (ho : op.op = .load ty x := by rfl) (hx : a.eval x = .pointer (some ⟨g, o, none⟩) := by rfl) (hd : d.isRow = true := by rfl) (hz : (P.info? ty).map (·.size) = some cs.length := by kernel_rfl) (ha : a.put op.dst (.agg cs.toArray) = a' := by simp only [Act.put, zA, zB, zC] <;> rfl) : wpList P ops Q (op :: rest) a w := by subst ha; exact mv_ld hw ty x ho g o cs hx hb hu hd hz h
theorem ze {P : Program} {ops : Array Oper} {rest : List Oper} {op : Oper} {a a' : Act} {w : World} {Q : Exit → Act → World → Prop} (g o : Nat) (v : Value) (hb : w.rangeAt g o [v]) (h : wpList P ops Q rest a' w) (hw : Region.wanted op (yielded ops a.tmps) = true := by rfl) (hv : ∀ x : World, x.cell? ⟨g, o, none⟩ = some v → (execOp a.eval op).run P x = .ok (.value v) x := by intro x hq; (try simp only [Nat.mul_one] at hq); go_simp <;> with_reducible rfl) (ha : a.put op.dst v = a' := by simp only [Act.put, zA, zB, zC] <;> rfl) : wpList P ops Q (op :: rest) a w := by subst ha; exact mv_ld1 hw (cell_of_range hb) hv h
theorem zf {a' : Act} {P : Program} {l : List Oper} {Q : Exit → Act → World → Prop} {md : Region.Mode} {b : World} {oi : Oper} {fuel : Nat} {listed : Array Bool} {a : Act} {w : World} (i : Nat) (listed' : Array Bool) (g o : Nat) (v : Value) (hb : b.rangeAt g o [v]) (hS : Ext b w) (h : wpAnyH P md l.toArray Q (fun x => Ext b x) fuel listed' a' w) (hi : l[i]? = some oi := by rfl) (hs : Region.noSelect l.toArray = true := by kernel_rfl) (hf : Region.free md l.toArray listed i = true := by kernel_rfl) (hr : (Region.ready md l.toArray listed).contains i = true := by kernel_rfl) (hQ : ∀ c a w, Q (.panic c) (a.put oi.dst v) w → Q (.panic c) a w := by intro _ _ _ h; exact h) (hw : Region.wanted oi (yielded l.toArray a.tmps) = true := by rfl) (hv : ∀ x : World, x.cell? ⟨g, o, none⟩ = some v → (execOp a.eval oi).run P x = .ok (.value v) x := by intro x hq; (try simp only [Nat.mul_one] at hq); go_simp <;> with_reducible rfl) (hl : listed.setIfInBounds i true = listed' := by kernel_rfl) (ha : a.put oi.dst v = a' := by simp only [Act.put, zA, zB, zC] <;> rfl) : wpAnyH P md l.toArray Q (fun x => Ext b x) (fuel + 1) listed a w := by subst ha; exact md_ld1 hi hs hf hr hQ hw (fun x hx => Ext.get hx (cell_of_range hb)) hv hS hl h
theorem zg {a' : Act} {P : Program} {l : List Oper} {Q : Exit → Act → World → Prop} {md : Region.Mode} {b : World} {oi : Oper} {fuel : Nat} {listed : Array Bool} {a : Act} {w : World} (i : Nat) (listed' : Array Bool) {ty : TypeId} {x : Operand} {d : TypeDesc} (g o : Nat) (cs : List Value) (hb : b.rangeAt g o cs) (hu : P.underlying ty = some d) (hS : Ext b w) (h : wpAnyH P md l.toArray Q (fun x => Ext b x) fuel listed' a' w) (hi : l[i]? = some oi := by rfl) (hs : Region.noSelect l.toArray = true := by kernel_rfl) (hf : Region.free md l.toArray listed i = true := by kernel_rfl) (hr : (Region.ready md l.toArray listed).contains i = true := by kernel_rfl) (ho : oi.op = .load ty x := by rfl) (hQ : ∀ c a w, Q (.panic c) (a.put oi.dst (.agg cs.toArray)) w → Q (.panic c) a w := by intro _ _ _ h; exact h) (hw : Region.wanted oi (yielded l.toArray a.tmps) = true := by rfl) (hx : a.eval x = .pointer (some ⟨g, o, none⟩) := by rfl) (hd : d.isRow = true := by rfl) (hz : (P.info? ty).map (·.size) = some cs.length := by kernel_rfl) (hl : listed.setIfInBounds i true = listed' := by kernel_rfl) (ha : a.put oi.dst (.agg cs.toArray) = a' := by simp only [Act.put, zA, zB, zC] <;> rfl) : wpAnyH P md l.toArray Q (fun x => Ext b x) (fuel + 1) listed a w := by subst ha; exact md_range hi hs hf hr ty x ho g o cs d hQ hw hx (fun x hx => range_ext hb hx) hu hd hz hS hl h
abbrev rc (r : RV) : List Value := [.bool r.n, .slice r.p r.l r.c, .bool r.m, .slice r.p2 r.l2 r.c2]
abbrev rz : List Value := [.bool false, .slice none 0 0, .bool false, .slice none 0 0]
abbrev ro {α : Type} (t : TypeId) (s : Nat) (A : Option Addr) (n c : Nat) (f : α → List Value) (es : List α) : Ent := .row t s (.slice A n c) n (List.flatMap f es)
theorem ez1 {P : Program} {ρ : Operand → Value} {o : Oper} {w : World} {A B E : Int} {t t' : TypeId} {x y : Operand} (h : -9223372036854775808 ≤ E ∧ E ≤ 9223372036854775807) (ho : o.op = .binOp .add t x y t' := by rfl) (hx : ρ x = .int .i64 A := by rfl) (hy : ρ y = .int .i64 B := by rfl) (hE : A + B = E := by first | rfl | omega) : (execOp ρ o).run P w = .ok (.value (.int .i64 E)) w := ev_add ho hx hy hE h.1 h.2
theorem ez2 {P : Program} {ρ : Operand → Value} {o : Oper} {w : World} {A B E : Int} {t t' : TypeId} {x y : Operand} (h : -9223372036854775808 ≤ E ∧ E ≤ 9223372036854775807) (ho : o.op = .binOp .sub t x y t' := by rfl) (hx : ρ x = .int .i64 A := by rfl) (hy : ρ y = .int .i64 B := by rfl) (hE : A - B = E := by first | rfl | omega) : (execOp ρ o).run P w = .ok (.value (.int .i64 E)) w := ev_sub ho hx hy hE h.1 h.2
theorem ez3 {P : Program} {ρ : Operand → Value} {o : Oper} {w : World} {A B E : Int} {t t' : TypeId} {x y : Operand} (h : -9223372036854775808 ≤ E ∧ E ≤ 9223372036854775807) (ho : o.op = .binOp .mul t x y t' := by rfl) (hx : ρ x = .int .i64 A := by rfl) (hy : ρ y = .int .i64 B := by rfl) (hE : A * B = E := by first | rfl | omega) : (execOp ρ o).run P w = .ok (.value (.int .i64 E)) w := ev_mul ho hx hy hE h.1 h.2
theorem ezl {P : Program} {ρ : Operand → Value} {o : Oper} {w : World} {A B : Int} {b : Bool} {t t' : TypeId} {x y : Operand} (ho : o.op = .binOp .lss t x y t' := by rfl) (hx : ρ x = .int .i64 A := by rfl) (hy : ρ y = .int .i64 B := by rfl) (e : decide (A < B) = b) : (execOp ρ o).run P w = .ok (.value (.bool b)) w := ev_lss ho hx hy e
theorem ezg {P : Program} {ρ : Operand → Value} {o : Oper} {w : World} {A B : Int} {b : Bool} {t t' : TypeId} {x y : Operand} (ho : o.op = .binOp .gtr t x y t' := by rfl) (hx : ρ x = .int .i64 A := by rfl) (hy : ρ y = .int .i64 B := by rfl) (e : decide (B < A) = b) : (execOp ρ o).run P w = .ok (.value (.bool b)) w := ev_gtr ho hx hy e
theorem ezo {P : Program} {ρ : Operand → Value} {o : Oper} {w : World} {A B : Int} {b : Bool} {t t' : TypeId} {x y : Operand} (ho : o.op = .binOp .geq t x y t' := by rfl) (hx : ρ x = .int .i64 A := by rfl) (hy : ρ y = .int .i64 B := by rfl) (e : decide (B ≤ A) = b) : (execOp ρ o).run P w = .ok (.value (.bool b)) w := ev_geq ho hx hy e
theorem ezq {P : Program} {ρ : Operand → Value} {o : Oper} {w : World} {A B : Int} {b : Bool} {t t' : TypeId} {x y : Operand} (ho : o.op = .binOp .eql t x y t' := by rfl) (hx : ρ x = .int .i64 A := by rfl) (hy : ρ y = .int .i64 B := by rfl) (e : decide (A = B) = b) : (execOp ρ o).run P w = .ok (.value (.bool b)) w := ev_eql ho hx hy e
theorem ezi {P : Program} {ρ : Operand → Value} {o : Oper} {w : World} {g off n c k size off' : Nat} {z : Int} {t e : TypeId} {x y : Operand} (ht : P.underlying t = some (.slice e)) (ho : o.op = .indexAddr t x y := by rfl) (hs : (P.info? e).map (·.size) = some size := by kernel_rfl) (hx : ρ x = .slice (some ⟨g, off, none⟩) n c := by rfl) (hy : ρ y = .int .i64 z := by rfl) (hz : z = (k : Int) := by omega) (l : k < n) (f : off' = off + k * size) : (execOp ρ o).run P w = .ok (.value (.pointer (some ⟨g, off', none⟩))) w := ev_index ho ht hs hx hy hz l f
theorem zy {P : Program} {ops : Array Oper} {Q : Exit → Act → World → Prop} {id : Nat} {a : Act} {w : World} (h : wpAnyH P .any ops Q (fun x => Ext w x) ops.size (Array.replicate ops.size false) a w.drew) (hm : P.follows .mixedOrders = true := by kernel_rfl) : (Code.region id ops true).wp P Q a w := wp_region_held_drew (S := fun x => Ext w x) hm (Ext.refl _).drew (fun _ => h)
theorem zn {P : Program} {ops : Array Oper} {rest : List Oper} {d : Option Nat} {a a' : Act} {w : World} {Q : Exit → Act → World → Prop} {u : Value} (h : wpList P ops Q rest a' w) (ha : a.put d u = a' := by simp only [Act.put, zA, zB, zC] <;> rfl) : ∃ v, Ending.returned u = .returned v ∧ wpList P ops Q rest (a.put d v) w := ⟨u, rfl, by rw [ha]; exact h⟩
theorem zm {P : Program} {l : List Oper} {Q : Exit → Act → World → Prop} {md : Region.Mode} {S : World → Prop} {fuel : Nat} {lt : Array Bool} {d : Option Nat} {a a' : Act} {w : World} {u : Value} (hS : S w) (h : wpAnyH P md l.toArray Q S fuel lt a' w) (ha : a.put d u = a' := by simp only [Act.put, zA, zB, zC] <;> rfl) : ∃ v, Ending.returned u = .returned v ∧ S w ∧ wpAnyH P md l.toArray Q S fuel lt (a.put d v) w := ⟨u, rfl, hS, by rw [ha]; exact h⟩
theorem zb {w : World} : Ext w w.drew := (Ext.refl _).drew
theorem zc {P : Program} {ops : Array Oper} {rest : List Oper} {op : Oper} {a : Act} {w : World} {Q : Exit → Act → World → Prop} {f : FuncId} {args : Array Value} {Φ : Ending → World → Prop} (hc : Calls P f args w Φ) (h : ∀ e w', Φ e w' → ∃ v, e = .returned v ∧ wpList P ops Q rest (a.put op.dst v) w') (hw : Region.wanted op (yielded ops a.tmps) = true := by rfl) (hv : (execOp a.eval op).run P w = .ok (.enter f args) w := by go_simp) : wpList P ops Q (op :: rest) a w := mv_call hw hv hc h

section
variable {P : Program} {l : List Oper} {Q : Exit → Act → World → Prop} {md : Region.Mode} {S : World → Prop} {j i : Nat} {dj : Option Tmp} {T : TypeId} {zs : List Value} {b w0 : World} {m : List Ent} {fuel : Nat} {listed li lj lij : Array Bool} {a : Act} {w : World} {oi oj : Oper} {v : Value}
end
section
variable {P : Program} {l : List Oper} {S : World → Prop} {oi : Oper} {a : Act}
end
/-! A load of a variable that the region's last operation turns: it may come up anywhere among the calls. -/
section
variable {P : Program} {l : List Oper} {Q : Exit → Act → World → Prop} {md : Region.Mode} {S : World → Prop} {j i : Nat} {dj : Option Tmp} {u : Value} {b : World} {fuel : Nat} {listed li lj lij : Array Bool} {a : Act} {w : World} {oi oj : Oper} {v : Value}
end
/-! Two slices appended to in one statement. -/
section
variable {P : Program} {l : List Oper} {Q : Exit → Act → World → Prop} {md : Region.Mode} {S : World → Prop} {i j ix jx X : Nat} {oi oj : Oper} {fuel : Nat} {listed listed' : Array Bool} {a : Act} {w w0 : World} {m : List Ent}
def At (P : Program) (md : Region.Mode) (l : List Oper) (Q : Exit → Act → World → Prop) (S : World → Prop) (fuel : Nat) (listed : Array Bool) (a : Act) (w : World) (i : Nat) (oi : Oper) : Prop :=
  ∀ K' : Act → World → Prop, Shut (∀ a w, S w → (S w → wpAnyH P md l.toArray Q S fuel (listed.setIfInBounds i true) a w) → K' a w) → if Region.wanted oi (yielded l.toArray a.tmps) = true then Oper.wp P oi a w K' Q else K' (a.put oi.dst undef) w
theorem at_one (hi : l[i]? = some oi) (hr : Region.ready md l.toArray listed = [i]) (h : At P md l Q S fuel listed a w i oi) : wpAnyH P md l.toArray Q S (fuel + 1) listed a w := wpAnyH_one_l hi hr h
theorem at_or (hi : l[i]? = some oi) (hj : l[j]? = some oj) (hr : Region.ready md l.toArray listed = [i, j]) (h : At P md l Q S fuel listed a w i oi) (h2 : At P md l Q S fuel listed a w j oj) : wpAnyH P md l.toArray Q S (fuel + 1) listed a w :=
  wpAnyH_ready hr (by simp) (AllReadyH.cons (by rw [List.getElem?_toArray]; exact hi) h (AllReadyH.cons (by rw [List.getElem?_toArray]; exact hj) h2 AllReadyH.nil))
theorem at_lit {T : TypeId} {zs : List Value} {n : Nat} (hw : Region.wanted oi (yielded l.toArray a.tmps) = true)
    (hv : (execOp a.eval oi).run P w = .ok (.value (.slice (some ⟨w.heap.size, 0, none⟩) n n)) (w.alloc (.cells zs.toArray T))) (hl : listed.setIfInBounds i true = listed') (hH : Hp w0 w m) (hn : NoUL zs)
    (h : ∀ X w', Hp w0 w' (m ++ [.blk X T zs]) → Ext w w' → w.heap.size ≤ X → S w' ∧ wpAnyH P md l.toArray Q S fuel listed' (a.put oi.dst (.slice (some ⟨X, 0, none⟩) n n)) w') : At P md l Q S fuel listed a w i oi := fun K hK => by
  obtain ⟨h1, h2⟩ := h _ _ (hH.alloc T zs hn) ((Ext.refl w).alloc _) (Nat.le_refl _)
  rw [if_pos hw]
  unfold Oper.wp
  rw [hv]
  exact hK.out _ _ h1 (fun _ => by rw [hl]; exact h2)
theorem blk_cells {X : Nat} {t : TypeId} {news : List Value} (h : Blk w X t news.toArray) : ∀ (j : Nat) (u : Value), news[j]? = some u → w.cell? ((⟨X, 0, none⟩ : Addr).add j) = some u := by
  intro j u hj
  have e : (⟨X, 0, none⟩ : Addr).add j = ⟨X, j, none⟩ := by unfold Addr.add; split <;> simp_all
  rw [e, h.cell, List.getElem?_toArray]
  exact hj
theorem at_app (hw : Region.wanted oj (yielded l.toArray a.tmps) = true) (s x : Operand) (t : TypeId)
    (ho : oj.op = .call { callee := .builtin .append, args := #[s, x], argTypes := #[t, t] }) {e : TypeId} {size bytes : Nat} (el : ElT P t e size bytes) {v : Value} {n : Nat} {xs : List Value} (hs : a.eval s = v)
    (hH : Hp w0 w m) (hi : m[ix]? = some (.row e size v n xs)) (k c : Nat) (news : List Value) {t2 : TypeId} (hb : m[jx]? = some (.blk X t2 news)) (hx : a.eval x = .slice (some ⟨X, 0, none⟩) k c) (hl : news.length = k * size) (h1 : ∀ u ∈ news, u.oneCell' = true) (hnu : NoUL news)
    (hm : 0 < k) (h63 : n + k ≤ maxLen) (hbytes : (n + k) * bytes ≤ 140737488355328) (hl' : listed.setIfInBounds j true = listed')
    (h : ∀ g cap w', (v.ownBlock = some g ∨ w.heap.size ≤ g) → Hp w0 w' (m.set ix (.row e size (.slice (some ⟨g, 0, none⟩) (n + k) cap) (n + k) (xs ++ news))) → Dig w w' → w.grownBy w' v.ownBlock →
      S w' ∧ wpAnyH P md l.toArray Q S fuel listed' (a.put oj.dst (.slice (some ⟨g, 0, none⟩) (n + k) cap)) w') : At P md l Q S fuel listed a w j oj := fun K hK => by
  obtain ⟨ht, i, z, e1, e2, e3, e4, e5, e6, e7⟩ := el
  rw [if_pos hw]
  refine wp_append_rowF s x t ho w0.heap.size e i z size bytes ht e1 e2 e3 e4 e5 e7 e6 v n xs hs (hH.row hi) ⟨X, 0, none⟩ k c news hx hl (blk_cells (hH.blk hb)) h1 hnu hm h63 hbytes hH.ext.size ?_
  intro g cap w' hf h2 h3 _
  obtain ⟨k1, k2⟩ := h g cap w' hf (hH.grow hi hf h2 h3) (hH.growDig hi h3) h3
  exact hK.out _ _ k1 (fun _ => by rw [hl']; exact k2)
end
end Go.Proofs.YtmgibncehlpfkaaGreat

namespace Go.Proofs.YtmgibncehlpfkaaGreat.mrk
open Go.RowKit
attribute [local go_sem ↓] Go.wp_at_zero Go.wp_at_succ run_max_ii run_min_ii

set_option maxRecDepth 20000 in
set_option maxHeartbeats 4000000 in
theorem swapRange_any {α : Type} (enc : α → List Value) (hk : ∀ x, (enc x).length = 5) (h1 : ∀ x, ∀ v, v ∈ enc x → v.oneCell' = true) (w0 w : World) (g cap a b n : Nat) (T : TypeId) (rest : List Value) (xs : List α) (cb : Value) (hst : Sw w0 w g T enc rest xs) (ha : a + n ≤ xs.length) (hb : b + n ≤ xs.length) (hsz : xs.length ≤ 100000) :
  Calls Tryz.prog 121 #[.slice (some ⟨g, 0, none⟩) xs.length cap, .int .i64 a, .int .i64 b, .int .i64 n, cb] w fun e w' => e = .returned (.tuple #[]) ∧ Sw w0 w' g T enc rest (swpN xs a b n) := by
 have HST0 := zH hst
 clear hst
 go_enter Tryz.func121, Tryz.ntmps121
 go_wp2_with fail
 go_loopg [10] n (fun c i wr => ∃ t : Nat, t ≤ n ∧ c = n - t ∧ i = .int .i64 t ∧ Sw w0 wr g T enc rest (swpN xs a b t))
 case atStart => exact ⟨0, Nat.zero_le _, rfl, rfl, HST0.out⟩
 case round =>
  clear HST0
  obtain ⟨t, ht, rfl, rfl, hst⟩ := hrel
  by_cases hlt : t < n
  ·have hlt2 : (t : Int) < (n : Int) := by omega
   obtain ⟨i, hi⟩ : ∃ i, i = a + t := ⟨_, rfl⟩
   obtain ⟨j, hj⟩ : ∃ j, j = b + t := ⟨_, rfl⟩
   have e1 : (a : Int) + (t : Int) = (i : Int) := by omega
   have e2 : (b : Int) + (t : Int) = (j : Int) := by omega
   have HI := zH hi
   have HJ := zH hj
   have hnl : (swpN xs a b t).length = xs.length := swpN_len _ _ _ _
   have HSW := zH (swpN_succ xs a b t)
   rw [← hi, ← hj] at HSW
   have k1_ : i < xs.length := by omega
   have k2_ : j < xs.length := by omega
   clear hi hj
   generalize swpN xs a b t = ys at *
   have wi : IntKind.i64.wrap (i : Int) = (i : Int) := by rw [IntKind.wrap_i64]; omega
   have wj : IntKind.i64.wrap (j : Int) = (j : Int) := by rw [IntKind.wrap_i64]; omega
   have bi : (i : Int) < (xs.length : Int) := by omega
   have bj : (j : Int) < (xs.length : Int) := by omega
   have bi2 : i < xs.length := by omega
   have bj2 : j < xs.length := by omega
   have hN : (xs.length : Int) ≤ 100000 := by omega
   obtain ⟨x, hx⟩ : ∃ x, ys[i]? = some x := ⟨_, List.getElem?_eq_getElem (by omega)⟩
   obtain ⟨y, hy⟩ : ∃ y, ys[j]? = some y := ⟨_, List.getElem?_eq_getElem (by omega)⟩
   have Hx := zH hx
   have Hy := zH hy
   have HLi := zH (show i < ys.length by omega)
   have HLj := zH (show j < ys.length by omega)
   have HE := zH (swp_eq hx hy)
   have HST := zH hst
   clear hx hy hst
   go_upto_region 3 with fail
   refine wp_region_held_drew (S := fun x => Own g wr x) (by kernel_rfl) (Own.refl _ _).drew (fun _ => ?_)
   refine zv 0 (bs 24 1) (Own.refl _ _).drew ?_
   refine zv 1 (bs 24 3) (Own.refl _ _).drew ?_
   refine zv 2 (bs 24 7) (Own.refl _ _).drew ?_
   refine zv 3 (bs 24 15) (Own.refl _ _).drew ?_
   refine zv 4 (bs 24 31) (Own.refl _ _).drew ?_
   refine zv 5 (bs 24 63) (Own.refl _ _).drew ?_
   refine zv 6 (bs 24 127) (Own.refl _ _).drew ?_
   refine zv 7 (bs 24 255) (Own.refl _ _).drew ?_
   refine zv 8 (bs 24 511) (Own.refl _ _).drew ?_
   refine zv 9 (bs 24 1023) (Own.refl _ _).drew ?_
   refine zv 10 (bs 24 2047) (Own.refl _ _).drew ?_
   refine zv 11 (bs 24 4095) (Own.refl _ _).drew ?_
   refine zv 12 (bs 24 8191) (Own.refl _ _).drew ?_
   refine zv 14 (bs 24 24575) (Own.refl _ _).drew ?_
   refine zv 15 (bs 24 57343) (Own.refl _ _).drew ?_
   refine zv 16 (bs 24 122879) (Own.refl _ _).drew ?_
   refine zv 17 (bs 24 253951) (Own.refl _ _).drew ?_
   refine zv 18 (bs 24 516095) (Own.refl _ _).drew ?_
   refine md_loads2 (i := 13) (j := 19) (li := (bs 24 524287)) (lj := (bs 24 1040383)) (listed' := (bs 24 1048575)) (by rfl) (by rfl) (by kernel_rfl) (by kernel_rfl) (by kernel_rfl) (by kernel_rfl) (by kernel_rfl) (by kernel_rfl) (by kernel_rfl) 54 _ _ (by rfl) (by rfl) (by rfl) (by rfl) g (j * 5) (i * 5) (enc y) (enc x) _ Tryz.underlying54 (by rfl) (by rfl) (by rfl) (by rfl) (by rfl) (HST.out.ext (Ext.refl _).drew |>.read Hy.out hk) (HST.out.ext (Ext.refl _).drew |>.read Hx.out hk) (by rw [hk]; kernel_rfl) (by rw [hk]; kernel_rfl) (Own.refl _ _).drew (by rfl) ?_
   try simp only [Act.put, zA, zB, zC]
   refine zv 20 (bs 24 2097151) (Own.refl _ _).drew ?_
   have s1_ := (HST.out.ext (Ext.refl _).drew).put (i := i) HLi.out hk y
   have s2_ := s1_.put (i := j) (by rw [List.length_set]; exact HLj.out) hk x
   refine md_rstore (i := 21) (listed' := (bs 24 4194303)) (by rfl) (by kernel_rfl) (by rfl) 54 _ _ (by rfl) g (i * 5) (enc y) (by rfl) (by rfl) (by rw [hk]; exact (HST.out.ext (Ext.refl _).drew).there HLi.out hk) (by rw [hk]; kernel_rfl) (h1 y) (Own.setCells_l _ _ (Own.refl _ _).drew) (by kernel_rfl) ?_
   (try simp only [Act.put])
   refine zv 22 (bs 24 8388607) (Own.setCells_l _ _ (Own.refl _ _).drew) ?_
   refine md_rstore (i := 23) (listed' := (bs 24 16777215)) (by rfl) (by kernel_rfl) (by rfl) 54 _ _ (by rfl) g (j * 5) (enc x) (by rfl) (by rfl) (by rw [hk]; exact s1_.there (by rw [List.length_set]; exact HLj.out) hk) (by rw [hk]; kernel_rfl) (h1 x) (Own.setCells_l _ _ (Own.setCells_l _ _ (Own.refl _ _).drew)) (by kernel_rfl) ?_
   (try simp only [Act.put])
   refine wpAnyH_done (by kernel_rfl) ?_ _
   have HS2 := zH s2_
   clear s1_ s2_
   generalize (World.setCells _ g (j * 5) (enc x)) = w2 at *
   go_wp2_with fail
   go_roundg (n - (t + 1))
   case measure => omega
   case rel => exact ⟨t + 1, hlt, rfl, by go_num, by rw [HSW.out, HE.out]; exact HS2.out⟩
  obtain rfl : t = n := by omega
  have HST := zH hst
  have hge : ¬ (t : Int) < (t : Int) := by omega
  clear hst
  go_wp2_with fail
  go_end0
  exact ⟨rfl, HST.out⟩

set_option maxRecDepth 20000 in
set_option maxHeartbeats 4000000 in
theorem rotate_any {α : Type} (enc : α → List Value) (hk : ∀ x, (enc x).length = 5) (h1 : ∀ x, ∀ v, v ∈ enc x → v.oneCell' = true) (w0 w : World) (g cap a m b N : Nat) (T : TypeId) (rest : List Value) (P A B S : List α) (cb : Value) (hst : Sw w0 w g T enc rest (P ++ (A ++ (B ++ S)))) (ha : P.length = a) (hm : a + A.length = m) (hb : m + B.length = b) (hA : A ≠ []) (hB : B ≠ []) (hN : (P ++ (A ++ (B ++ S))).length = N) (hsz : N ≤ 100000) :
  Calls Tryz.prog 105 #[.slice (some ⟨g, 0, none⟩) N cap, .int .i64 a, .int .i64 m, .int .i64 b, cb] w fun e w' => e = .returned (.tuple #[]) ∧ Sw w0 w' g T enc rest (P ++ (B ++ (A ++ S))) := by
 have hlen : P.length + (A.length + (B.length + S.length)) = N := by rw [← hN]; simp
 have HST := zH hst
 have HAB := zH (And.intro hA hB)
 have HN := zH hN
 have HLN := zH hlen
 have HPA := zH (show P.length + A.length = m by omega)
 have e1 : (m : Int) - (a : Int) = (A.length : Int) := by omega
 have e2 : (b : Int) - (m : Int) = (B.length : Int) := by omega
 have b1 : m ≤ 100000 := by omega
 have b2 : b ≤ 100000 := by omega
 have b3 : A.length ≤ 100000 := by omega
 have b4 : B.length ≤ 100000 := by omega
 have w1_ : IntKind.i64.wrap (A.length : Int) = (A.length : Int) := by rw [IntKind.wrap_i64]; omega
 have w2_ : IntKind.i64.wrap (B.length : Int) = (B.length : Int) := by rw [IntKind.wrap_i64]; omega
 clear hst ha hm hb hA hB hN hlen
 go_enter Tryz.func105, Tryz.ntmps105
 go_wp2_with fail
 go_loopg [10, 11] (A.length + B.length) (fun c u v wr => ∃ (P' A' B' S' : List α), c = A'.length + B'.length ∧ u = .int .i64 A'.length ∧ v = .int .i64 B'.length ∧ A' ≠ [] ∧ B' ≠ [] ∧ P'.length + A'.length = m ∧ (P' ++ (A' ++ (B' ++ S'))).length = N ∧ P' ++ (B' ++ (A' ++ S')) = P ++ (B ++ (A ++ S)) ∧ Sw w0 wr g T enc rest (P' ++ (A' ++ (B' ++ S'))))
 case atStart => exact ⟨P, A, B, S, rfl, rfl, rfl, HAB.out.1, HAB.out.2, HPA.out, HN.out, rfl, HST.out⟩
 case round =>
  clear HST HAB HN HLN HPA e1 e2 b3 b4 w1_ w2_
  obtain ⟨P', A', B', S', rfl, rfl, rfl, hA, hB, hPm, hN, hT, hst⟩ := hrel
  have hlen : P'.length + (A'.length + (B'.length + S'.length)) = N := by rw [← hN]; simp
  have hA0 : 0 < A'.length := by cases A' with | nil => exact absurd rfl hA | cons _ _ => simp
  have hB0 : 0 < B'.length := by cases B' with | nil => exact absurd rfl hB | cons _ _ => simp
  have HT := zH hT
  have HST := zH hst
  have HN := zH hN
  clear hT hst hA hB hN
  obtain ⟨i, hi⟩ : ∃ i, A'.length = i := ⟨_, rfl⟩
  obtain ⟨j, hj⟩ : ∃ j, B'.length = j := ⟨_, rfl⟩
  rw [hi] at hPm hlen hA0 ⊢
  rw [hj] at hlen hB0 ⊢
  have HI := zH hi
  have HJ := zH hj
  clear hi hj
  obtain ⟨p, hp⟩ : ∃ p, P'.length = p := ⟨_, rfl⟩
  rw [hp] at hPm hlen
  have HP := zH hp
  clear hp
  have e1 : (m : Int) - (i : Int) = (p : Int) := by omega
  have b3 : i ≤ 100000 := by omega
  have b4 : j ≤ 100000 := by omega
  have b5 : p ≤ 100000 := by omega
  have w1_ : IntKind.i64.wrap (i : Int) = (i : Int) := by rw [IntKind.wrap_i64]; omega
  have w2_ : IntKind.i64.wrap (j : Int) = (j : Int) := by rw [IntKind.wrap_i64]; omega
  have w3_ : IntKind.i64.wrap (p : Int) = (p : Int) := by rw [IntKind.wrap_i64]; omega
  have HLN := zH hlen
  have HPM := zH hPm
  clear hlen hPm
  rcases Nat.lt_trichotomy i j with hij | hij | hij
  ·-- i < j
   obtain ⟨d, hd⟩ : ∃ d, d + i = j := ⟨j - i, by omega⟩
   have e2 : (j : Int) - (i : Int) = (d : Int) := by omega
   obtain ⟨q, hq⟩ : ∃ q, q = m + d := ⟨_, rfl⟩
   have e3 : (m : Int) + (j : Int) - (i : Int) = (q : Int) := by omega
   have n1 : ¬ (i : Int) = (j : Int) := by omega
   have n2 : ((i : Int) != (j : Int)) = true := by simp; omega
   have n3 : ¬ (j : Int) < (i : Int) := by omega
   have w4_ : IntKind.i64.wrap (d : Int) = (d : Int) := by rw [IntKind.wrap_i64]; omega
   have w5_ : IntKind.i64.wrap (q : Int) = (q : Int) := by rw [IntKind.wrap_i64]; have := HLN.out; have := HPM.out; omega
   have w6_ : IntKind.i64.wrap ((m : Int) + (j : Int)) = (m : Int) + (j : Int) := by rw [IntKind.wrap_i64]; omega
   have hBs : B' = B'.take d ++ B'.drop d := (List.take_append_drop d B').symm
   have l1 : (B'.take d).length = d := by rw [List.length_take]; have := HJ.out; omega
   have l2 : (B'.drop d).length = i := by rw [List.length_drop]; have := HJ.out; omega
   have HC := zH (swapRange_any enc hk h1 w0 wr g cap p q i T rest (P' ++ (A' ++ (B' ++ S'))) cb HST.out (by rw [HN.out]; have := HLN.out; omega) (by rw [HN.out]; have := HLN.out; have := HPM.out; omega) (by rw [HN.out]; exact hsz))
   rw [HN.out] at HC
   have hcut : swpN (P' ++ (A' ++ (B' ++ S'))) p q i = P' ++ (B'.drop d ++ (B'.take d ++ (A' ++ S'))) := by
    have h := swpN_cut P' A' (B'.take d) (B'.drop d) S' i HI.out l2
    rw [l1, HP.out, show p + i + d = q by have := HPM.out; omega, ← List.append_assoc (B'.take d) (B'.drop d) S', ← hBs] at h
    exact h
   rw [hcut] at HC
   have hTT : P' ++ (B'.take d ++ (B'.drop d ++ (A' ++ S'))) = P ++ (B ++ (A ++ S)) := by rw [← List.append_assoc (B'.take d), ← hBs]; exact HT.out
   have HTT := zH hTT
   have HD := zH (And.intro hd (And.intro l1 l2))
   clear hcut hTT hBs l1 l2 hd hq hij
   go_wp2_with (go_at_call 121; refine HC.out.mono ?_; rintro e w2 ⟨rfl, hs2⟩)
   go_roundg (i + d)
   case measure => have := HD.out.1; have := HI.out; have := HJ.out; omega
   case rel => exact ⟨P', B'.drop d, B'.take d, A' ++ S', by rw [HD.out.2.1, HD.out.2.2], by rw [HD.out.2.2], by rw [HD.out.2.1], by intro h; have := HD.out.2.2; rw [h] at this; simp at this; omega, by intro h; have h2 := HD.out.2.1; rw [h] at h2; simp at h2; omega, by rw [HP.out, HD.out.2.2]; exact HPM.out, by have := HLN.out; have := HD.out; simp [HP.out, HI.out, HD.out.2.1, HD.out.2.2] at *; omega, HTT.out, hs2⟩
  ·-- i = j
   subst hij
   have n2 : ((i : Int) != (i : Int)) = false := by simp
   have HC := zH (swapRange_any enc hk h1 w0 wr g cap p m i T rest (P' ++ (A' ++ (B' ++ S'))) cb HST.out (by rw [HN.out]; have := HLN.out; omega) (by rw [HN.out]; have := HLN.out; have := HPM.out; omega) (by rw [HN.out]; exact hsz))
   rw [HN.out] at HC
   have hcut : swpN (P' ++ (A' ++ (B' ++ S'))) p m i = P ++ (B ++ (A ++ S)) := by
    have h := swpN_cut P' A' [] B' S' i HI.out HJ.out
    rw [HP.out, List.length_nil, Nat.add_zero, HPM.out] at h
    exact h.trans HT.out
   rw [hcut] at HC
   clear hcut
   go_wp2_with (go_at_call 121; refine HC.out.mono ?_; rintro e w2 ⟨rfl, hs2⟩)
   go_end0
   exact ⟨rfl, hs2⟩
  -- i > j
  obtain ⟨d, hd⟩ : ∃ d, d + j = i := ⟨i - j, by omega⟩
  have e2 : (i : Int) - (j : Int) = (d : Int) := by omega
  have n2 : ((i : Int) != (j : Int)) = true := by simp; omega
  have n3 : (j : Int) < (i : Int) := by omega
  have w4_ : IntKind.i64.wrap (d : Int) = (d : Int) := by rw [IntKind.wrap_i64]; omega
  have hAs : A' = A'.take j ++ A'.drop j := (List.take_append_drop j A').symm
  have l1 : (A'.take j).length = j := by rw [List.length_take]; have := HI.out; omega
  have l2 : (A'.drop j).length = d := by rw [List.length_drop]; have := HI.out; omega
  have HC := zH (swapRange_any enc hk h1 w0 wr g cap p m j T rest (P' ++ (A' ++ (B' ++ S'))) cb HST.out (by rw [HN.out]; have := HLN.out; omega) (by rw [HN.out]; have := HLN.out; have := HPM.out; omega) (by rw [HN.out]; exact hsz))
  rw [HN.out] at HC
  have hcut : swpN (P' ++ (A' ++ (B' ++ S'))) p m j = (P' ++ B') ++ (A'.drop j ++ (A'.take j ++ S')) := by
   have h := swpN_cut P' (A'.take j) (A'.drop j) B' S' j l1 HJ.out
   rw [l2, HP.out, show p + j + d = m by have := HPM.out; omega, ← List.append_assoc (A'.take j), ← hAs] at h
   rw [h]; simp only [List.append_assoc]
  rw [hcut] at HC
  have hTT : (P' ++ B') ++ (A'.take j ++ (A'.drop j ++ S')) = P ++ (B ++ (A ++ S)) := by rw [← List.append_assoc (A'.take j), ← hAs, List.append_assoc]; exact HT.out
  have HTT := zH hTT
  have HD := zH (And.intro hd (And.intro l1 l2))
  clear hcut hTT hAs l1 l2 hd hij
  go_wp2_with (go_at_call 121; refine HC.out.mono ?_; rintro e w2 ⟨rfl, hs2⟩)
  go_roundg (d + j)
  case measure => have := HD.out.1; have := HI.out; have := HJ.out; omega
  case rel => exact ⟨P' ++ B', A'.drop j, A'.take j, S', by rw [HD.out.2.1, HD.out.2.2], by rw [HD.out.2.2], by rw [HD.out.2.1], by intro h; have h2 := HD.out.2.2; rw [h] at h2; simp at h2; omega, by intro h; have h2 := HD.out.2.1; rw [h] at h2; simp at h2; omega, by rw [List.length_append, HP.out, HJ.out, HD.out.2.2]; have := HPM.out; have := HD.out.1; omega, by have := HLN.out; have := HD.out; simp [HP.out, HJ.out, HD.out.2.1, HD.out.2.2] at *; omega, HTT.out, hs2⟩

set_option maxRecDepth 20000 in
set_option maxHeartbeats 4000000 in
theorem insertion_any {α : Type} (enc : α → List Value) (hk : ∀ x, (enc x).length = 5) (h1 : ∀ x, ∀ v, v ∈ enc x → v.oneCell' = true) (lt : α → α → Bool) (W : Stb.Wk lt) (w0 w : World) (g cap a b N : Nat) (T : TypeId) (rest : List Value) (P X S : List α) (hc : (∀ wr, Own g w0 wr → ∀ x y : α, Calls Tryz.prog 36 #[.agg (enc x).toArray, .agg (enc y).toArray] wr fun e w' => ∃ z : Int, e = .returned (.int .i64 z) ∧ (z < 0 ↔ lt x y = true) ∧ Ext wr w')) (hst : Sw w0 w g T enc rest (P ++ (X ++ S))) (ha : P.length = a) (hb : a + X.length = b) (hN : (P ++ (X ++ S)).length = N) (hsz : N ≤ 100000) :
  Calls Tryz.prog 87 #[.slice (some ⟨g, 0, none⟩) N cap, .int .i64 a, .int .i64 b, .func (.func 36) #[] #[]] w fun e w' => e = .returned (.tuple #[]) ∧ Sw w0 w' g T enc rest (P ++ (Stb.stab lt X ++ S)) := by
 have hlen : P.length + (X.length + S.length) = N := by rw [← hN]; simp
 have HC := zH hc
 have HST0 := zH (show Sw w0 w g T enc rest (P ++ (Stb.stab lt (X.take 1) ++ (X.drop 1 ++ S))) by rw [Stb.stab_take1, ← List.append_assoc (X.take 1), List.take_append_drop]; exact hst)
 have b1 : a ≤ 100000 := by omega
 have b2 : b ≤ 100000 := by omega
 have HPA := zH ha
 have HLN := zH hlen
 have HB := zH hb
 clear hst hc ha hb hN hlen
 go_enter Tryz.func87, Tryz.ntmps87
 go_wp2_with fail
 go_loopg [8] (b + 1 - a) (fun c v wr => ∃ t i : Nat, 1 ≤ t ∧ (t ≤ X.length ∨ t = 1) ∧ i = a + t ∧ c = b + 1 - i + 1 ∧ v = .int .i64 i ∧ Sw w0 wr g T enc rest (P ++ (Stb.stab lt (X.take t) ++ (X.drop t ++ S))))
 case atStart => exact ⟨1, a + 1, Nat.le_refl _, Or.inr rfl, rfl, by have := HB.out; omega, by go_num, HST0.out⟩
 case round =>
  clear HST0
  obtain ⟨t, i, ht1, ht2, hi, rfl, rfl, hst⟩ := hrel
  have hbb := HB.out
  have hib : i ≤ 100001 := by have := HLN.out; have := HPA.out; omega
  by_cases hlt : i < b
  ·have hlt2 : (i : Int) < (b : Int) := by omega
   have htl : t < X.length := by omega
   obtain ⟨y, hy⟩ : ∃ y, X[t] = y := ⟨_, rfl⟩
   have hdr : X.drop t = y :: X.drop (t + 1) := by rw [← hy]; exact List.drop_eq_getElem_cons htl
   have htk : X.take (t + 1) = X.take t ++ [y] := by rw [List.take_succ_eq_append_getElem htl, hy]
   have HSN := zH (show Stb.stab lt (X.take (t + 1)) = Stb.ins lt (Stb.stab lt (X.take t)) y by rw [htk, Stb.stab_snoc])
   have HSRT := zH (Stb.stab_srt W (X.take t))
   have hLl : (Stb.stab lt (X.take t)).length = t := by rw [Stb.stab_len, List.length_take]; omega
   rw [hdr] at hst
   generalize Stb.stab lt (X.take t) = L at *
   have HLL := zH hLl
   have HTL := zH htl
   have HI := zH hi
   have HST1 := zH (show Sw w0 wr g T enc rest (P ++ (L.take t ++ y :: (L.drop t ++ (X.drop (t + 1) ++ S)))) by rw [List.take_of_length_le (by omega), List.drop_of_length_le (by omega)]; exact hst)
   clear hst hdr htk hy hLl hi ht2 hbb
   go_wp2_with fail
   go_loopg [9] t (fun c v wr => ∃ u j : Nat, u ≤ t ∧ c = 0 + u ∧ j = a + u ∧ v = .int .i64 j ∧ (∀ z, z ∈ L.drop u → lt y z = true) ∧ Sw w0 wr g T enc rest (P ++ (L.take u ++ y :: (L.drop u ++ (X.drop (t + 1) ++ S)))))
   case atStart => exact ⟨t, i, Nat.le_refl _, by omega, HI.out, rfl, by intro z hz; rw [List.drop_of_length_le (by have := HLL.out; omega)] at hz; simp at hz, HST1.out⟩
   case round =>
    clear HST1
    obtain ⟨u, j, hu, rfl, hj, rfl, hall, hst⟩ := hrel
    have HALL := zH hall
    have HST := zH hst
    have hjb : j ≤ 100000 := by have := HI.out; omega
    have wj : IntKind.i64.wrap (j : Int) = (j : Int) := by rw [IntKind.wrap_i64]; omega
    have hlu : (P ++ (L.take u ++ y :: (L.drop u ++ (X.drop (t + 1) ++ S)))).length = N := by
     have h1 := HLN.out; have h2 := HTL.out; have h3 := HLL.out
     simp; omega
    have HJ := zH hj
    have HU := zH hu
    clear hall hst
    by_cases hu0 : 0 < u
    ·obtain ⟨p, hp⟩ : ∃ p, p + 1 = j := ⟨j - 1, by omega⟩
     obtain ⟨q, hq⟩ : ∃ q, q + 1 = u := ⟨u - 1, by omega⟩
     have hja : (a : Int) < (j : Int) := by omega
     have e1 : (j : Int) - 1 = (p : Int) := by omega
     have wp : IntKind.i64.wrap (p : Int) = (p : Int) := by rw [IntKind.wrap_i64]; omega
     have hPa := HPA.out
     have hql : q < L.length := by have := HLL.out; omega
     have gx : (P ++ (L.take u ++ y :: (L.drop u ++ (X.drop (t + 1) ++ S))))[p]? = some L[q] := by
      have h := get_mid P (L.take u) (y :: (L.drop u ++ (X.drop (t + 1) ++ S))) q (by rw [List.length_take]; omega)
      rw [show P.length + q = p by omega] at h
      rw [h, List.getElem?_take, if_pos (by omega)]
      exact List.getElem?_eq_getElem hql
     have gy : (P ++ (L.take u ++ y :: (L.drop u ++ (X.drop (t + 1) ++ S))))[j]? = some y := by
      rw [List.getElem?_append_right (by omega), List.getElem?_append_right (by rw [List.length_take]; omega), List.length_take, show j - P.length - min u L.length = 0 by have := HLL.out; omega]
      rfl
     have HSTEP := zH (show swp (P ++ (L.take u ++ y :: (L.drop u ++ (X.drop (t + 1) ++ S)))) j p = P ++ (L.take q ++ y :: (L.drop q ++ (X.drop (t + 1) ++ S))) by
      have h := swps_left P L (X.drop (t + 1) ++ S) y q hql
      rw [show P.length + q = p by omega, hp, hq] at h
      exact h)
     have HQX := zH (show ∀ z, z ∈ L.drop q → z = L[q] ∨ z ∈ L.drop u by
      intro z hz
      rw [List.drop_eq_getElem_cons hql, hq] at hz
      simpa using hz)
     have HINS := zH (fun h => Stb.ins_stop W (y := y) HSRT.out HALL.out (by have := HLL.out; omega) (Or.inr ⟨q, hq, hql, h⟩))
     have bj : (j : Int) < (N : Int) := by rw [← hlu]; have := (List.getElem?_eq_some_iff.1 gy).1; omega
     have bp : (p : Int) < (N : Int) := by omega
     have HE := zH (swp_eq gy gx)
     have HLj := zH (List.getElem?_eq_some_iff.1 gy).1
     have HLp := zH (List.getElem?_eq_some_iff.1 gx).1
     have Hx := zH gx
     have Hy := zH gy
     generalize L[q] = x at *
     generalize hrow : P ++ (L.take u ++ y :: (L.drop u ++ (X.drop (t + 1) ++ S))) = row at *
     have HQ := zH (And.intro hq hp)
     have HROW := zH hrow
     clear gx gy hql hu hq hp hj hPa hrow
     go_upto_region 4 with fail
     refine wp_region_held_drew (S := fun x => Ext wr x) (by kernel_rfl) (Ext.refl _).drew (fun _ => ?_)
     refine zv 0 (bs 17 1) (Ext.refl _).drew ?_
     refine zv 1 (bs 17 3) (Ext.refl _).drew ?_
     refine zv 2 (bs 17 7) (Ext.refl _).drew ?_
     refine zv 3 (bs 17 15) (Ext.refl _).drew ?_
     refine zv 4 (bs 17 31) (Ext.refl _).drew ?_
     refine zv 5 (bs 17 63) (Ext.refl _).drew ?_
     refine zv 6 (bs 17 127) (Ext.refl _).drew ?_
     refine zv 7 (bs 17 255) (Ext.refl _).drew ?_
     refine md_range (i := 8) (listed' := (bs 17 511)) (by rfl) (by kernel_rfl) (by kernel_rfl) (by kernel_rfl) _ _ (by rfl) g (j * 5) (enc y) _ (by intro _ _ _ h; exact h) (by rfl) (by rfl) (fun w1 hw1 => (HST.out.ext hw1).read Hy.out hk) Tryz.underlying54 (by rfl) (by rw [hk]; kernel_rfl) (Ext.refl _).drew (by kernel_rfl) ?_
     try simp only [Act.put, zA, zB, zC]
     refine zv 9 (bs 17 1023) (Ext.refl _).drew ?_
     refine zv 10 (bs 17 2047) (Ext.refl _).drew ?_
     refine zv 11 (bs 17 4095) (Ext.refl _).drew ?_
     refine zv 12 (bs 17 8191) (Ext.refl _).drew ?_
     refine md_range (i := 13) (listed' := (bs 17 16383)) (by rfl) (by kernel_rfl) (by kernel_rfl) (by kernel_rfl) _ _ (by rfl) g (p * 5) (enc x) _ (by intro _ _ _ h; exact h) (by rfl) (by rfl) (fun w1 hw1 => (HST.out.ext hw1).read Hx.out hk) Tryz.underlying54 (by rfl) (by rw [hk]; kernel_rfl) (Ext.refl _).drew (by kernel_rfl) ?_
     try simp only [Act.put, zA, zB, zC]
     refine mC 14 (bs 17 32767) (HC.out _ ((HST.out.ext (Ext.refl _).drew).own) y x) ?_
     rintro e w2 ⟨z, rfl, hz, hx2⟩
     have HX2 := zH (show Ext wr w2 from (Ext.refl _).drew.trans hx2)
     clear hx2
     refine ⟨_, rfl, HX2.out, ?_⟩
     try simp only [Act.put, zA, zB, zC]
     by_cases hlt : lt y x = true
     ·have HLT := zH hlt
      have hz2 : z < 0 := hz.2 hlt
      have hz3 : decide (z < 0) = true := by simpa using hz2
      clear hz
      refine zv 15 (bs 17 65535) HX2.out ?_
      refine zv 16 (bs 17 131071) HX2.out ?_
      refine wpAnyH_done (by kernel_rfl) ?_ _
      clear hlt hz2 hz3
      have HST := zH (HST.out.ext HX2.out)
      clear HX2
      have hN2 : row.length = N := hlu
      generalize w2 = wr at *
      go_upto_region 6 with fail
      refine wp_region_held_drew (S := fun x => Own g wr x) (by kernel_rfl) (Own.refl _ _).drew (fun _ => ?_)
      refine zv 0 (bs 18 1) (Own.refl _ _).drew ?_
      refine zv 1 (bs 18 3) (Own.refl _ _).drew ?_
      refine zv 2 (bs 18 7) (Own.refl _ _).drew ?_
      refine zv 3 (bs 18 15) (Own.refl _ _).drew ?_
      refine zv 4 (bs 18 31) (Own.refl _ _).drew ?_
      refine zv 5 (bs 18 63) (Own.refl _ _).drew ?_
      refine zv 6 (bs 18 127) (Own.refl _ _).drew ?_
      refine zv 7 (bs 18 255) (Own.refl _ _).drew ?_
      refine zv 8 (bs 18 511) (Own.refl _ _).drew ?_
      refine zv 10 (bs 18 1535) (Own.refl _ _).drew ?_
      refine zv 11 (bs 18 3583) (Own.refl _ _).drew ?_
      refine zv 12 (bs 18 7679) (Own.refl _ _).drew ?_
      refine md_loads2 (i := 9) (j := 13) (li := (bs 18 8191)) (lj := (bs 18 15871)) (listed' := (bs 18 16383)) (by rfl) (by rfl) (by kernel_rfl) (by kernel_rfl) (by kernel_rfl) (by kernel_rfl) (by kernel_rfl) (by kernel_rfl) (by kernel_rfl) 54 _ _ (by rfl) (by rfl) (by rfl) (by rfl) g (p * 5) (j * 5) (enc x) (enc y) _ Tryz.underlying54 (by rfl) (by rfl) (by rfl) (by rfl) (by rfl) (HST.out.ext (Ext.refl _).drew |>.read Hx.out hk) (HST.out.ext (Ext.refl _).drew |>.read Hy.out hk) (by rw [hk]; kernel_rfl) (by rw [hk]; kernel_rfl) (Own.refl _ _).drew (by rfl) ?_
      try simp only [Act.put, zA, zB, zC]
      refine zv 14 (bs 18 32767) (Own.refl _ _).drew ?_
      have s1_ := (HST.out.ext (Ext.refl _).drew).put (i := j) HLj.out hk x
      have s2_ := s1_.put (i := p) (by rw [List.length_set]; exact HLp.out) hk y
      refine md_rstore (i := 15) (listed' := (bs 18 65535)) (by rfl) (by kernel_rfl) (by rfl) 54 _ _ (by rfl) g (j * 5) (enc x) (by rfl) (by rfl) (by rw [hk]; exact (HST.out.ext (Ext.refl _).drew).there HLj.out hk) (by rw [hk]; kernel_rfl) (h1 x) (Own.setCells_l _ _ (Own.refl _ _).drew) (by kernel_rfl) ?_
      (try simp only [Act.put])
      refine zv 16 (bs 18 131071) (Own.setCells_l _ _ (Own.refl _ _).drew) ?_
      refine md_rstore (i := 17) (listed' := (bs 18 262143)) (by rfl) (by kernel_rfl) (by rfl) 54 _ _ (by rfl) g (p * 5) (enc y) (by rfl) (by rfl) (by rw [hk]; exact s1_.there (by rw [List.length_set]; exact HLp.out) hk) (by rw [hk]; kernel_rfl) (h1 y) (Own.setCells_l _ _ (Own.setCells_l _ _ (Own.refl _ _).drew)) (by kernel_rfl) ?_
      (try simp only [Act.put])
      refine wpAnyH_done (by kernel_rfl) ?_ _
      have HS2 := zH s2_
      clear s1_ s2_
      generalize (World.setCells _ g (p * 5) (enc y)) = w3 at *
      go_wp2_with fail
      go_roundg q
      case measure => have := HQ.out.1; omega
      case rel => exact ⟨q, p, by have := HQ.out; have := HU.out; omega, by omega, by have := HQ.out; have := HJ.out; omega, rfl, fun z hz => (HQX.out z hz).elim (fun h => by rw [h]; exact HLT.out) (HALL.out z), by rw [← HSTEP.out, HE.out]; exact HS2.out⟩
     have HLT := zH (eq_false_of_ne_true hlt)
     have hz2 : ¬ z < 0 := fun h => hlt (hz.1 h)
     have hz3 : decide (z < 0) = false := by simpa using hz2
     clear hz
     refine zv 15 (bs 17 65535) HX2.out ?_
     refine zv 16 (bs 17 131071) HX2.out ?_
     refine wpAnyH_done (by kernel_rfl) ?_ _
     clear hlt hz2 hz3
     have HR := zH (show Sw w0 w2 g T enc rest (P ++ (Stb.stab lt (X.take (t + 1)) ++ (X.drop (t + 1) ++ S))) by rw [HSN.out, HINS.out HLT.out]; have h := HST.out.ext HX2.out; rw [← HROW.out] at h; simpa using h)
     go_wp2_with fail
     go_roundg (b + 1 - (i + 1) + 1)
     case measure => omega
     case rel => exact ⟨t + 1, i + 1, by omega, Or.inl HTL.out, by have := HI.out; omega, by omega, by go_num, HR.out⟩
    obtain rfl : u = 0 := by omega
    have hja : ¬ (a : Int) < (j : Int) := by omega
    have hja2 : decide ((a : Int) < (j : Int)) = false := by simpa using hja
    have HINS := zH (Stb.ins_stop W (y := y) HSRT.out HALL.out (Nat.zero_le _) (Or.inl rfl))
    go_upto_region 4 with fail
    refine wp_region_held_drew (S := fun x => Ext wr x) (by kernel_rfl) (Ext.refl _).drew (fun _ => ?_)
    refine zv 0 (bs 17 1) (Ext.refl _).drew ?_
    refine zv 1 (bs 17 3) (Ext.refl _).drew ?_
    refine zv 2 (bs 17 7) (Ext.refl _).drew ?_
    refine zv 3 (bs 17 15) (Ext.refl _).drew ?_
    refine zs 4 (bs 17 31) (Ext.refl _).drew ?_
    refine zs 5 (bs 17 63) (Ext.refl _).drew ?_
    refine zs 6 (bs 17 127) (Ext.refl _).drew ?_
    refine zs 7 (bs 17 255) (Ext.refl _).drew ?_
    refine zs 8 (bs 17 511) (Ext.refl _).drew ?_
    refine zs 9 (bs 17 1023) (Ext.refl _).drew ?_
    refine zs 10 (bs 17 2047) (Ext.refl _).drew ?_
    refine zs 11 (bs 17 4095) (Ext.refl _).drew ?_
    refine zs 12 (bs 17 8191) (Ext.refl _).drew ?_
    refine zs 13 (bs 17 16383) (Ext.refl _).drew ?_
    refine zs 14 (bs 17 32767) (Ext.refl _).drew ?_
    refine zs 15 (bs 17 65535) (Ext.refl _).drew ?_
    refine zv 16 (bs 17 131071) (Ext.refl _).drew ?_
    refine wpAnyH_done (by kernel_rfl) ?_ _
    have HR := zH (show Sw w0 wr.drew g T enc rest (P ++ (Stb.stab lt (X.take (t + 1)) ++ (X.drop (t + 1) ++ S))) by rw [HSN.out, HINS.out]; have h := HST.out.ext (Ext.refl _).drew; simpa using h)
    go_wp2_with fail
    go_roundg (b + 1 - (i + 1) + 1)
    case measure => omega
    case rel => exact ⟨t + 1, i + 1, by omega, Or.inl HTL.out, by have := HI.out; omega, by omega, by go_num, HR.out⟩
  have HST := zH (show Sw w0 wr g T enc rest (P ++ (Stb.stab lt X ++ S)) by rw [List.take_of_length_le (by omega), List.drop_of_length_le (by omega)] at hst; exact hst)
  have hge : ¬ (i : Int) < (b : Int) := by omega
  clear hst
  go_wp2_with fail
  go_end0
  exact ⟨rfl, HST.out⟩

set_option maxRecDepth 20000 in
set_option maxHeartbeats 4000000 in
theorem symA_any {α : Type} (enc : α → List Value) (hk : ∀ x, (enc x).length = 5) (h1 : ∀ x, ∀ v, v ∈ enc x → v.oneCell' = true) (lt : α → α → Bool) (W : Stb.Wk lt) (w0 w : World) (g cap a m b N : Nat) (T : TypeId) (rest : List Value) (P B S : List α) (x : α) (hc : (∀ wr, Own g w0 wr → ∀ x y : α, Calls Tryz.prog 36 #[.agg (enc x).toArray, .agg (enc y).toArray] wr fun e w' => ∃ z : Int, e = .returned (.int .i64 z) ∧ (z < 0 ↔ lt x y = true) ∧ Ext wr w')) (hst : Sw w0 w g T enc rest (P ++ (x :: (B ++ S)))) (ha : P.length = a) (hm : a + 1 = m) (hb : m + B.length = b) (hB : Stb.Srt lt B) (hN : (P ++ (x :: (B ++ S))).length = N) (hsz : N ≤ 100000) :
  Calls Tryz.prog 88 #[.slice (some ⟨g, 0, none⟩) N cap, .int .i64 a, .int .i64 m, .int .i64 b, .func (.func 36) #[] #[]] w fun e w' => e = .returned (.tuple #[]) ∧ Sw w0 w' g T enc rest (P ++ (Stb.mrg lt [x] B ++ S)) := by
 have hlen : P.length + (1 + (B.length + S.length)) = N := by rw [← hN]; simp; omega
 have e1 : (m : Int) - (a : Int) = 1 := by omega
 have b1 : a ≤ 100000 := by omega
 have b2 : m ≤ 100000 := by omega
 have b3 : b ≤ 100000 := by omega
 have ba : (a : Int) < (N : Int) := by omega
 have wa_ : IntKind.i64.wrap (a : Int) = (a : Int) := by rw [IntKind.wrap_i64]; omega
 have gx0 : (P ++ (x :: (B ++ S)))[a]? = some x := by rw [← ha]; simp
 have gz : ∀ t z, B[t]? = some z → (P ++ (x :: (B ++ S)))[m + t]? = some z := fun t z h => by
  have h2 := get_mid (P ++ [x]) B S t (List.getElem?_eq_some_iff.1 h).1
  rw [show (P ++ [x]).length + t = m + t by simp; omega, h] at h2
  simpa using h2
 have HC := zH hc
 have HST0 := zH hst
 have HGZ := zH gz
 have Hx := zH gx0
 have HF := zH (And.intro ha (And.intro hm (And.intro hb hlen)))
 have HN := zH hN
 have HBS := zH hB
 have hbl : m + B.length = b := hb
 have hsl : b ≤ N := by omega
 clear hst hc ha hm hb hN hlen gz gx0 hB
 go_enter Tryz.func88, Tryz.ntmps88
 go_wp2_with fail
 go_loopg [10, 11] B.length (fun c u v wr => ∃ s e i j : Nat, s ≤ e ∧ e ≤ B.length ∧ c = e - s ∧ i = m + s ∧ j = m + e ∧ u = .int .i64 i ∧ v = .int .i64 j ∧ (s = 0 ∨ ∃ z, B[s - 1]? = some z ∧ lt z x = true) ∧ (B.length ≤ e ∨ ∃ z, B[e]? = some z ∧ lt z x = false) ∧ Sw w0 wr g T enc rest (P ++ (x :: (B ++ S))))
 case atStart => exact ⟨0, B.length, m, b, Nat.zero_le _, Nat.le_refl _, by omega, rfl, by omega, rfl, rfl, Or.inl rfl, Or.inl (Nat.le_refl _), HST0.out⟩
 case round =>
  clear HST0
  obtain ⟨s, e, i, j, hse, heB, rfl, hi, hj, rfl, rfl, h1s, h2e, hst⟩ := hrel
  have HST := zH hst
  have HI := zH (And.intro hi hj)
  have H1 := zH h1s
  have H2 := zH h2e
  have bi : i ≤ 100000 := by omega
  have bj : j ≤ 100000 := by omega
  clear hst h1s h2e
  by_cases hlt0 : s < e
  ·have hij : (i : Int) < (j : Int) := by omega
   obtain ⟨ss, hss⟩ : ∃ ss, ss = i + j := ⟨_, rfl⟩
   obtain ⟨h, hh⟩ : ∃ h, h = ss / 2 := ⟨_, rfl⟩
   have e3 : (i : Int) + (j : Int) = (ss : Int) := by omega
   obtain ⟨c, hcc⟩ : ∃ c, h = m + c := ⟨h - m, by omega⟩
   have hcb : s ≤ c ∧ c < e := by omega
   have wu : IntKind.u64.wrap (ss : Int) = (ss : Int) := by rw [IntKind.wrap_u64]; omega
   have ws : IntKind.i64.wrap (ss : Int) = (ss : Int) := by rw [IntKind.wrap_i64]; omega
   have wh : IntKind.i64.wrap (h : Int) = (h : Int) := by rw [IntKind.wrap_i64]; omega
   have wuh : IntKind.u64.wrap (h : Int) = (h : Int) := by rw [IntKind.wrap_u64]; omega
   have e2 : (ss : Int) / 2 = (h : Int) := by omega
   have bh : (h : Int) < (N : Int) := by omega
   obtain ⟨z0, hz0⟩ : ∃ z, B[c]? = some z := ⟨_, List.getElem?_eq_getElem (by omega)⟩
   have Hz0 := zH (show (P ++ (x :: (B ++ S)))[h]? = some z0 by rw [hcc]; exact HGZ.out c z0 hz0)
   have HZB := zH hz0
   have HH := zH (And.intro hcc hcb)
   clear hz0 hcc hcb hss hh hi hj
   generalize hrow : P ++ (x :: (B ++ S)) = row at *
   have HROW := zH hrow
   clear hrow
   go_upto_region 5 with fail
   refine wp_region_held_drew (S := fun x => Ext wr x) (by kernel_rfl) (Ext.refl _).drew (fun _ => ?_)
   refine zv 0 (bs 11 1) (Ext.refl _).drew ?_
   refine zv 1 (bs 11 3) (Ext.refl _).drew ?_
   refine zv 2 (bs 11 7) (Ext.refl _).drew ?_
   refine zv 3 (bs 11 15) (Ext.refl _).drew ?_
   refine md_range (i := 4) (listed' := (bs 11 31)) (by rfl) (by kernel_rfl) (by kernel_rfl) (by kernel_rfl) _ _ (by rfl) g (h * 5) (enc z0) _ (by intro _ _ _ h; exact h) (by rfl) (by rfl) (fun w1 hw1 => (HST.out.ext hw1).read Hz0.out hk) Tryz.underlying54 (by rfl) (by rw [hk]; kernel_rfl) (Ext.refl _).drew (by kernel_rfl) ?_
   try simp only [Act.put, zA, zB, zC]
   refine zv 5 (bs 11 63) (Ext.refl _).drew ?_
   refine zv 6 (bs 11 127) (Ext.refl _).drew ?_
   refine zv 7 (bs 11 255) (Ext.refl _).drew ?_
   refine md_range (i := 8) (listed' := (bs 11 511)) (by rfl) (by kernel_rfl) (by kernel_rfl) (by kernel_rfl) _ _ (by rfl) g (a * 5) (enc x) _ (by intro _ _ _ h; exact h) (by rfl) (by rfl) (fun w1 hw1 => (HST.out.ext hw1).read Hx.out hk) Tryz.underlying54 (by rfl) (by rw [hk]; kernel_rfl) (Ext.refl _).drew (by kernel_rfl) ?_
   try simp only [Act.put, zA, zB, zC]
   refine mC 9 (bs 11 1023) (HC.out _ ((HST.out.ext (Ext.refl _).drew).own) z0 x) ?_
   rintro e w2 ⟨z, rfl, hz, hx2⟩
   have HX2 := zH (show Ext wr w2 from (Ext.refl _).drew.trans hx2)
   clear hx2
   refine ⟨_, rfl, HX2.out, ?_⟩
   try simp only [Act.put, zA, zB, zC]
   by_cases hlt : lt z0 x = true
   ·have HLT := zH hlt
    have hz2 : z < 0 := hz.2 hlt
    have hz3 : decide (z < 0) = true := by simpa using hz2
    clear hz
    refine zv 10 (bs 11 2047) HX2.out ?_
    refine wpAnyH_done (by kernel_rfl) ?_ _
    clear hlt hz2 hz3
    have HST := zH (HST.out.ext HX2.out)
    go_wp2_with fail
    go_roundg (e - (c + 1))
    case measure => have := HH.out; omega
    case rel => exact ⟨c + 1, e, h + 1, j, by have := HH.out; omega, heB, rfl, by have := HH.out; omega, HI.out.2, by go_num, rfl, Or.inr ⟨z0, HZB.out, HLT.out⟩, H2.out, HST.out⟩
   have HLT := zH (eq_false_of_ne_true hlt)
   have hz2 : ¬ z < 0 := fun h => hlt (hz.1 h)
   have hz3 : decide (z < 0) = false := by simpa using hz2
   clear hz
   refine zv 10 (bs 11 2047) HX2.out ?_
   refine wpAnyH_done (by kernel_rfl) ?_ _
   clear hlt hz2 hz3
   have HST := zH (HST.out.ext HX2.out)
   go_wp2_with fail
   go_roundg (c - s)
   case measure => have := HH.out; omega
   case rel => exact ⟨s, c, i, h, by have := HH.out; omega, by have := HH.out; omega, rfl, HI.out.1, by have := HH.out; omega, rfl, rfl, H1.out, Or.inr ⟨z0, HZB.out, HLT.out⟩, HST.out⟩
  obtain rfl : s = e := by omega
  have hij : ¬ (i : Int) < (j : Int) := by omega
  have HM := zH (Stb.one_left W HBS.out H1.out H2.out)
  obtain ⟨im, him⟩ : ∃ im, im + 1 = i := ⟨i - 1, by have := HF.out; omega⟩
  have e4 : (i : Int) - 1 = (im : Int) := by omega
  have wim : IntKind.i64.wrap (im : Int) = (im : Int) := by rw [IntKind.wrap_i64]; omega
  have HIM := zH him
  clear hi hj him Hx
  go_wp2_with fail
  go_loopg [13] s (fun c v wr => ∃ t k : Nat, t ≤ s ∧ c = s - t ∧ k = a + t ∧ v = .int .i64 k ∧ Sw w0 wr g T enc rest (P ++ (B.take t ++ x :: (B.drop t ++ S))))
  case atStart => exact ⟨0, a, Nat.zero_le _, rfl, rfl, rfl, by simpa using HST.out⟩
  case round =>
   clear HST
   obtain ⟨t, k0, hts, rfl, hk0, rfl, hst⟩ := hrel
   by_cases hlt : t < s
   ·have hF := HF.out
    have hI := HI.out
    have hIM := HIM.out
    have hki : (k0 : Int) < (im : Int) := by omega
    obtain ⟨k1, hk1⟩ : ∃ k1, k1 = k0 + 1 := ⟨_, rfl⟩
    have e5 : (k0 : Int) + 1 = (k1 : Int) := by omega
    have wk : IntKind.i64.wrap (k1 : Int) = (k1 : Int) := by rw [IntKind.wrap_i64]; omega
    have wk0 : IntKind.i64.wrap (k0 : Int) = (k0 : Int) := by rw [IntKind.wrap_i64]; omega
    have bk1 : (k1 : Int) < (N : Int) := by omega
    have bk0 : (k0 : Int) < (N : Int) := by omega
    have htB : t < B.length := by omega
    have hsw := swps_right P B S x t htB
    rw [show P.length + t = k0 by omega, ← hk1] at hsw
    have hrl : (P ++ (B.take t ++ x :: (B.drop t ++ S))).length = N := by simp; omega
    have gx : (P ++ (B.take t ++ x :: (B.drop t ++ S)))[k0]? = some x := by
     rw [List.getElem?_append_right (by omega), List.getElem?_append_right (by rw [List.length_take]; omega), List.length_take, show k0 - P.length - min t B.length = 0 by omega]
     rfl
    obtain ⟨z0, hz0⟩ : ∃ z, (P ++ (B.take t ++ x :: (B.drop t ++ S)))[k1]? = some z := ⟨_, List.getElem?_eq_getElem (by omega)⟩
    have HE := zH ((swp_eq gx hz0).symm.trans hsw)
    have Hx := zH gx
    have Hz0 := zH hz0
    have HLk0 := zH (List.getElem?_eq_some_iff.1 gx).1
    have HLk1 := zH (List.getElem?_eq_some_iff.1 hz0).1
    have HST := zH hst
    generalize P ++ (B.take t ++ x :: (B.drop t ++ S)) = row at *
    have HK := zH (And.intro hk0 hk1)
    clear gx hz0 hsw hst hF hI hIM hk0 hk1
    go_upto_region 11 with fail
    refine wp_region_held_drew (S := fun x => Own g wr x) (by kernel_rfl) (Own.refl _ _).drew (fun _ => ?_)
    refine zv 0 (bs 18 1) (Own.refl _ _).drew ?_
    refine zv 1 (bs 18 3) (Own.refl _ _).drew ?_
    refine zv 2 (bs 18 7) (Own.refl _ _).drew ?_
    refine zv 3 (bs 18 15) (Own.refl _ _).drew ?_
    refine zv 4 (bs 18 31) (Own.refl _ _).drew ?_
    refine zv 5 (bs 18 63) (Own.refl _ _).drew ?_
    refine zv 6 (bs 18 127) (Own.refl _ _).drew ?_
    refine zv 7 (bs 18 255) (Own.refl _ _).drew ?_
    refine zv 8 (bs 18 511) (Own.refl _ _).drew ?_
    refine zv 10 (bs 18 1535) (Own.refl _ _).drew ?_
    refine zv 11 (bs 18 3583) (Own.refl _ _).drew ?_
    refine zv 12 (bs 18 7679) (Own.refl _ _).drew ?_
    refine md_loads2 (i := 9) (j := 13) (li := (bs 18 8191)) (lj := (bs 18 15871)) (listed' := (bs 18 16383)) (by rfl) (by rfl) (by kernel_rfl) (by kernel_rfl) (by kernel_rfl) (by kernel_rfl) (by kernel_rfl) (by kernel_rfl) (by kernel_rfl) 54 _ _ (by rfl) (by rfl) (by rfl) (by rfl) g (k1 * 5) (k0 * 5) (enc z0) (enc x) _ Tryz.underlying54 (by rfl) (by rfl) (by rfl) (by rfl) (by rfl) (HST.out.ext (Ext.refl _).drew |>.read Hz0.out hk) (HST.out.ext (Ext.refl _).drew |>.read Hx.out hk) (by rw [hk]; kernel_rfl) (by rw [hk]; kernel_rfl) (Own.refl _ _).drew (by rfl) ?_
    try simp only [Act.put, zA, zB, zC]
    refine zv 14 (bs 18 32767) (Own.refl _ _).drew ?_
    have s1_ := (HST.out.ext (Ext.refl _).drew).put (i := k0) HLk0.out hk z0
    have s2_ := s1_.put (i := k1) (by rw [List.length_set]; exact HLk1.out) hk x
    refine md_rstore (i := 15) (listed' := (bs 18 65535)) (by rfl) (by kernel_rfl) (by rfl) 54 _ _ (by rfl) g (k0 * 5) (enc z0) (by rfl) (by rfl) (by rw [hk]; exact (HST.out.ext (Ext.refl _).drew).there HLk0.out hk) (by rw [hk]; kernel_rfl) (h1 z0) (Own.setCells_l _ _ (Own.refl _ _).drew) (by kernel_rfl) ?_
    (try simp only [Act.put])
    refine zv 16 (bs 18 131071) (Own.setCells_l _ _ (Own.refl _ _).drew) ?_
    refine md_rstore (i := 17) (listed' := (bs 18 262143)) (by rfl) (by kernel_rfl) (by rfl) 54 _ _ (by rfl) g (k1 * 5) (enc x) (by rfl) (by rfl) (by rw [hk]; exact s1_.there (by rw [List.length_set]; exact HLk1.out) hk) (by rw [hk]; kernel_rfl) (h1 x) (Own.setCells_l _ _ (Own.setCells_l _ _ (Own.refl _ _).drew)) (by kernel_rfl) ?_
    (try simp only [Act.put])
    refine wpAnyH_done (by kernel_rfl) ?_ _
    have HS2 := zH s2_
    clear s1_ s2_
    generalize (World.setCells _ g (k1 * 5) (enc x)) = w3 at *
    go_wp2_with fail
    go_roundg (s - (t + 1))
    case measure => omega
    case rel => exact ⟨t + 1, k1, hlt, rfl, by have := HK.out; omega, rfl, by rw [← HE.out]; exact HS2.out⟩
   obtain rfl : t = s := by omega
   have HR := zH (show Sw w0 wr g T enc rest (P ++ (Stb.mrg lt [x] B ++ S)) by rw [HM.out]; simpa using hst)
   have hki : ¬ (k0 : Int) < (im : Int) := by have := HF.out; have := HI.out; have := HIM.out; omega
   clear hst
   go_wp2_with fail
   refine bodyPost_ret (results_none rfl _ _ _) rfl ?_
   exact ⟨rfl, HR.out⟩

set_option maxRecDepth 20000 in
set_option maxHeartbeats 4000000 in
theorem symB_any {α : Type} (enc : α → List Value) (hk : ∀ x, (enc x).length = 5) (h1 : ∀ x, ∀ v, v ∈ enc x → v.oneCell' = true) (lt : α → α → Bool) (W : Stb.Wk lt) (w0 w : World) (g cap a m b N : Nat) (T : TypeId) (rest : List Value) (P A S : List α) (y : α) (hc : (∀ wr, Own g w0 wr → ∀ x y : α, Calls Tryz.prog 36 #[.agg (enc x).toArray, .agg (enc y).toArray] wr fun e w' => ∃ z : Int, e = .returned (.int .i64 z) ∧ (z < 0 ↔ lt x y = true) ∧ Ext wr w')) (hst : Sw w0 w g T enc rest (P ++ (A ++ (y :: S)))) (ha : P.length = a) (hm : a + A.length = m) (hb : m + 1 = b) (hA1 : A.length ≠ 1) (hA : Stb.Srt lt A) (hN : (P ++ (A ++ (y :: S))).length = N) (hsz : N ≤ 100000) :
  Calls Tryz.prog 88 #[.slice (some ⟨g, 0, none⟩) N cap, .int .i64 a, .int .i64 m, .int .i64 b, .func (.func 36) #[] #[]] w fun e w' => e = .returned (.tuple #[]) ∧ Sw w0 w' g T enc rest (P ++ (Stb.mrg lt A [y] ++ S)) := by
 have hlen : P.length + (A.length + (1 + S.length)) = N := by rw [← hN]; simp; omega
 obtain ⟨d1, hd1⟩ : ∃ d1, a + d1 = m := ⟨A.length, hm⟩
 have e0 : (m : Int) - (a : Int) = (d1 : Int) := by omega
 have e0b : ((d1 : Int) == 1) = false := by simp; omega
 have wd : IntKind.i64.wrap (d1 : Int) = (d1 : Int) := by rw [IntKind.wrap_i64]; omega
 have e1 : (b : Int) - (m : Int) = 1 := by omega
 have b1 : a ≤ 100000 := by omega
 have b2 : m ≤ 100000 := by omega
 have b3 : b ≤ 100000 := by omega
 have ba : (m : Int) < (N : Int) := by omega
 have wa_ : IntKind.i64.wrap (m : Int) = (m : Int) := by rw [IntKind.wrap_i64]; omega
 have gy0 : (P ++ (A ++ (y :: S)))[m]? = some y := by
  rw [List.getElem?_append_right (by omega), List.getElem?_append_right (by omega), show m - P.length - A.length = 0 by omega]
  rfl
 have gz : ∀ t z, A[t]? = some z → (P ++ (A ++ (y :: S)))[a + t]? = some z := fun t z h => by
  have h2 := get_mid P A (y :: S) t (List.getElem?_eq_some_iff.1 h).1
  rw [show P.length + t = a + t by omega, h] at h2
  exact h2
 have HC := zH hc
 have HST0 := zH hst
 have HGZ := zH gz
 have Hy := zH gy0
 have HF := zH (And.intro ha (And.intro hm (And.intro hb hlen)))
 have HN := zH hN
 have HAS := zH hA
 have hbl : a + A.length = m := hm
 have hsl : m < N := by omega
 clear hst hc ha hm hb hN hlen gz gy0 hA hd1
 go_enter Tryz.func88, Tryz.ntmps88
 go_wp2_with fail
 go_loopg [14, 15] A.length (fun c u v wr => ∃ s e i j : Nat, s ≤ e ∧ e ≤ A.length ∧ c = e - s ∧ i = a + s ∧ j = a + e ∧ u = .int .i64 i ∧ v = .int .i64 j ∧ (s = 0 ∨ ∃ z, A[s - 1]? = some z ∧ lt y z = false) ∧ (A.length ≤ e ∨ ∃ z, A[e]? = some z ∧ lt y z = true) ∧ Sw w0 wr g T enc rest (P ++ (A ++ (y :: S))))
 case atStart => exact ⟨0, A.length, a, m, Nat.zero_le _, Nat.le_refl _, by omega, rfl, by omega, rfl, rfl, Or.inl rfl, Or.inl (Nat.le_refl _), HST0.out⟩
 case round =>
  clear HST0
  obtain ⟨s, e, i, j, hse, heB, rfl, hi, hj, rfl, rfl, h1s, h2e, hst⟩ := hrel
  have HST := zH hst
  have HI := zH (And.intro hi hj)
  have H1 := zH h1s
  have H2 := zH h2e
  have bi : i ≤ 100000 := by omega
  have bj : j ≤ 100000 := by omega
  clear hst h1s h2e
  by_cases hlt0 : s < e
  ·have hij : (i : Int) < (j : Int) := by omega
   obtain ⟨ss, hss⟩ : ∃ ss, ss = i + j := ⟨_, rfl⟩
   obtain ⟨h, hh⟩ : ∃ h, h = ss / 2 := ⟨_, rfl⟩
   have e3 : (i : Int) + (j : Int) = (ss : Int) := by omega
   obtain ⟨c, hcc⟩ : ∃ c, h = a + c := ⟨h - a, by omega⟩
   have hcb : s ≤ c ∧ c < e := by omega
   have wu : IntKind.u64.wrap (ss : Int) = (ss : Int) := by rw [IntKind.wrap_u64]; omega
   have ws : IntKind.i64.wrap (ss : Int) = (ss : Int) := by rw [IntKind.wrap_i64]; omega
   have wh : IntKind.i64.wrap (h : Int) = (h : Int) := by rw [IntKind.wrap_i64]; omega
   have wuh : IntKind.u64.wrap (h : Int) = (h : Int) := by rw [IntKind.wrap_u64]; omega
   have e2 : (ss : Int) / 2 = (h : Int) := by omega
   have bh : (h : Int) < (N : Int) := by omega
   obtain ⟨z0, hz0⟩ : ∃ z, A[c]? = some z := ⟨_, List.getElem?_eq_getElem (by omega)⟩
   have Hz0 := zH (show (P ++ (A ++ (y :: S)))[h]? = some z0 by rw [hcc]; exact HGZ.out c z0 hz0)
   have HZB := zH hz0
   have HH := zH (And.intro hcc hcb)
   clear hz0 hcc hcb hss hh hi hj
   generalize hrow : P ++ (A ++ (y :: S)) = row at *
   clear hrow
   go_upto_region 17 with fail
   refine wp_region_held_drew (S := fun x => Ext wr x) (by kernel_rfl) (Ext.refl _).drew (fun _ => ?_)
   refine zv 0 (bs 12 1) (Ext.refl _).drew ?_
   refine zv 1 (bs 12 3) (Ext.refl _).drew ?_
   refine zv 2 (bs 12 7) (Ext.refl _).drew ?_
   refine zv 3 (bs 12 15) (Ext.refl _).drew ?_
   refine md_range (i := 4) (listed' := (bs 12 31)) (by rfl) (by kernel_rfl) (by kernel_rfl) (by kernel_rfl) _ _ (by rfl) g (m * 5) (enc y) _ (by intro _ _ _ h; exact h) (by rfl) (by rfl) (fun w1 hw1 => (HST.out.ext hw1).read Hy.out hk) Tryz.underlying54 (by rfl) (by rw [hk]; kernel_rfl) (Ext.refl _).drew (by kernel_rfl) ?_
   try simp only [Act.put, zA, zB, zC]
   refine zv 5 (bs 12 63) (Ext.refl _).drew ?_
   refine zv 6 (bs 12 127) (Ext.refl _).drew ?_
   refine zv 7 (bs 12 255) (Ext.refl _).drew ?_
   refine md_range (i := 8) (listed' := (bs 12 511)) (by rfl) (by kernel_rfl) (by kernel_rfl) (by kernel_rfl) _ _ (by rfl) g (h * 5) (enc z0) _ (by intro _ _ _ h; exact h) (by rfl) (by rfl) (fun w1 hw1 => (HST.out.ext hw1).read Hz0.out hk) Tryz.underlying54 (by rfl) (by rw [hk]; kernel_rfl) (Ext.refl _).drew (by kernel_rfl) ?_
   try simp only [Act.put, zA, zB, zC]
   refine mC 9 (bs 12 1023) (HC.out _ ((HST.out.ext (Ext.refl _).drew).own) y z0) ?_
   rintro e w2 ⟨z, rfl, hz, hx2⟩
   have HX2 := zH (show Ext wr w2 from (Ext.refl _).drew.trans hx2)
   clear hx2
   refine ⟨_, rfl, HX2.out, ?_⟩
   try simp only [Act.put, zA, zB, zC]
   by_cases hlt : lt y z0 = true
   ·have HLT := zH hlt
    have hz2 : z < 0 := hz.2 hlt
    have hz3 : decide (z < 0) = true := by simpa using hz2
    clear hz
    refine zv 10 (bs 12 2047) HX2.out ?_
    refine zv 11 (bs 12 4095) HX2.out ?_
    refine wpAnyH_done (by kernel_rfl) ?_ _
    clear hlt hz2 hz3
    have HST := zH (HST.out.ext HX2.out)
    go_wp2_with fail
    go_roundg (c - s)
    case measure => have := HH.out; omega
    case rel => exact ⟨s, c, i, h, by have := HH.out; omega, by have := HH.out; omega, rfl, HI.out.1, by have := HH.out; omega, rfl, rfl, H1.out, Or.inr ⟨z0, HZB.out, HLT.out⟩, HST.out⟩
   have HLT := zH (eq_false_of_ne_true hlt)
   have hz2 : ¬ z < 0 := fun h => hlt (hz.1 h)
   have hz3 : decide (z < 0) = false := by simpa using hz2
   clear hz
   refine zv 10 (bs 12 2047) HX2.out ?_
   refine zv 11 (bs 12 4095) HX2.out ?_
   refine wpAnyH_done (by kernel_rfl) ?_ _
   clear hlt hz2 hz3
   have HST := zH (HST.out.ext HX2.out)
   go_wp2_with fail
   go_roundg (e - (c + 1))
   case measure => have := HH.out; omega
   case rel => exact ⟨c + 1, e, h + 1, j, by have := HH.out; omega, heB, rfl, by have := HH.out; omega, HI.out.2, by go_num, rfl, Or.inr ⟨z0, HZB.out, HLT.out⟩, H2.out, HST.out⟩
  obtain rfl : s = e := by omega
  have hij : ¬ (i : Int) < (j : Int) := by omega
  have HM := zH (Stb.one_right W HAS.out H1.out H2.out)
  clear hi hj Hy
  go_wp2_with fail
  go_loopg [17] (A.length - s) (fun c v wr => ∃ t k : Nat, s ≤ t ∧ t ≤ A.length ∧ c = t - s ∧ k = a + t ∧ v = .int .i64 k ∧ Sw w0 wr g T enc rest (P ++ (A.take t ++ y :: (A.drop t ++ S))))
  case atStart => exact ⟨A.length, m, heB, Nat.le_refl _, by omega, by omega, rfl, by simpa using HST.out⟩
  case round =>
   clear HST
   obtain ⟨t, k0, hts, htA, rfl, hk0, rfl, hst⟩ := hrel
   by_cases hlt : s < t
   ·have hF := HF.out
    have hI := HI.out
    have hki : (i : Int) < (k0 : Int) := by omega
    obtain ⟨k1, hk1⟩ : ∃ k1, k1 + 1 = k0 := ⟨k0 - 1, by omega⟩
    have e5 : (k0 : Int) - 1 = (k1 : Int) := by omega
    have wk : IntKind.i64.wrap (k1 : Int) = (k1 : Int) := by rw [IntKind.wrap_i64]; omega
    have wk0 : IntKind.i64.wrap (k0 : Int) = (k0 : Int) := by rw [IntKind.wrap_i64]; omega
    have bk1 : (k1 : Int) < (N : Int) := by omega
    have bk0 : (k0 : Int) < (N : Int) := by omega
    obtain ⟨q, hq⟩ : ∃ q, q + 1 = t := ⟨t - 1, by omega⟩
    have hsw := swps_left P A S y q (by omega)
    rw [show P.length + q = k1 by omega, hk1, hq] at hsw
    have hrl : (P ++ (A.take t ++ y :: (A.drop t ++ S))).length = N := by simp; omega
    have gx : (P ++ (A.take t ++ y :: (A.drop t ++ S)))[k0]? = some y := by
     rw [List.getElem?_append_right (by omega), List.getElem?_append_right (by rw [List.length_take]; omega), List.length_take, show k0 - P.length - min t A.length = 0 by omega]
     rfl
    obtain ⟨z0, hz0⟩ : ∃ z, (P ++ (A.take t ++ y :: (A.drop t ++ S)))[k1]? = some z := ⟨_, List.getElem?_eq_getElem (by omega)⟩
    have HE := zH ((swp_eq gx hz0).symm.trans hsw)
    have Hy := zH gx
    have Hz0 := zH hz0
    have HLk0 := zH (List.getElem?_eq_some_iff.1 gx).1
    have HLk1 := zH (List.getElem?_eq_some_iff.1 hz0).1
    have HST := zH hst
    generalize P ++ (A.take t ++ y :: (A.drop t ++ S)) = row at *
    have HK := zH (And.intro hk0 (And.intro hk1 hq))
    clear gx hz0 hsw hst hF hI hk0 hk1 hq
    go_upto_region 23 with fail
    refine wp_region_held_drew (S := fun x => Own g wr x) (by kernel_rfl) (Own.refl _ _).drew (fun _ => ?_)
    refine zv 0 (bs 18 1) (Own.refl _ _).drew ?_
    refine zv 1 (bs 18 3) (Own.refl _ _).drew ?_
    refine zv 2 (bs 18 7) (Own.refl _ _).drew ?_
    refine zv 3 (bs 18 15) (Own.refl _ _).drew ?_
    refine zv 4 (bs 18 31) (Own.refl _ _).drew ?_
    refine zv 5 (bs 18 63) (Own.refl _ _).drew ?_
    refine zv 6 (bs 18 127) (Own.refl _ _).drew ?_
    refine zv 7 (bs 18 255) (Own.refl _ _).drew ?_
    refine zv 8 (bs 18 511) (Own.refl _ _).drew ?_
    refine zv 10 (bs 18 1535) (Own.refl _ _).drew ?_
    refine zv 11 (bs 18 3583) (Own.refl _ _).drew ?_
    refine zv 12 (bs 18 7679) (Own.refl _ _).drew ?_
    refine md_loads2 (i := 9) (j := 13) (li := (bs 18 8191)) (lj := (bs 18 15871)) (listed' := (bs 18 16383)) (by rfl) (by rfl) (by kernel_rfl) (by kernel_rfl) (by kernel_rfl) (by kernel_rfl) (by kernel_rfl) (by kernel_rfl) (by kernel_rfl) 54 _ _ (by rfl) (by rfl) (by rfl) (by rfl) g (k1 * 5) (k0 * 5) (enc z0) (enc y) _ Tryz.underlying54 (by rfl) (by rfl) (by rfl) (by rfl) (by rfl) (HST.out.ext (Ext.refl _).drew |>.read Hz0.out hk) (HST.out.ext (Ext.refl _).drew |>.read Hy.out hk) (by rw [hk]; kernel_rfl) (by rw [hk]; kernel_rfl) (Own.refl _ _).drew (by rfl) ?_
    try simp only [Act.put, zA, zB, zC]
    refine zv 14 (bs 18 32767) (Own.refl _ _).drew ?_
    have s1_ := (HST.out.ext (Ext.refl _).drew).put (i := k0) HLk0.out hk z0
    have s2_ := s1_.put (i := k1) (by rw [List.length_set]; exact HLk1.out) hk y
    refine md_rstore (i := 15) (listed' := (bs 18 65535)) (by rfl) (by kernel_rfl) (by rfl) 54 _ _ (by rfl) g (k0 * 5) (enc z0) (by rfl) (by rfl) (by rw [hk]; exact (HST.out.ext (Ext.refl _).drew).there HLk0.out hk) (by rw [hk]; kernel_rfl) (h1 z0) (Own.setCells_l _ _ (Own.refl _ _).drew) (by kernel_rfl) ?_
    (try simp only [Act.put])
    refine zv 16 (bs 18 131071) (Own.setCells_l _ _ (Own.refl _ _).drew) ?_
    refine md_rstore (i := 17) (listed' := (bs 18 262143)) (by rfl) (by kernel_rfl) (by rfl) 54 _ _ (by rfl) g (k1 * 5) (enc y) (by rfl) (by rfl) (by rw [hk]; exact s1_.there (by rw [List.length_set]; exact HLk1.out) hk) (by rw [hk]; kernel_rfl) (h1 y) (Own.setCells_l _ _ (Own.setCells_l _ _ (Own.refl _ _).drew)) (by kernel_rfl) ?_
    (try simp only [Act.put])
    refine wpAnyH_done (by kernel_rfl) ?_ _
    have HS2 := zH s2_
    clear s1_ s2_
    generalize (World.setCells _ g (k1 * 5) (enc y)) = w3 at *
    go_wp2_with fail
    go_roundg (q - s)
    case measure => have := HK.out; omega
    case rel => exact ⟨q, k1, by have := HK.out; omega, by have := HK.out; omega, rfl, by have := HK.out; omega, rfl, by rw [← HE.out]; exact HS2.out⟩
   obtain rfl : t = s := by omega
   have HR := zH (show Sw w0 wr g T enc rest (P ++ (Stb.mrg lt A [y] ++ S)) by rw [HM.out]; simpa using hst)
   have hki : ¬ (i : Int) < (k0 : Int) := by have := HI.out; omega
   clear hst
   go_wp2_with fail
   refine bodyPost_ret (results_none rfl _ _ _) rfl ?_
   exact ⟨rfl, HR.out⟩
end Go.Proofs.YtmgibncehlpfkaaGreat.mrk
