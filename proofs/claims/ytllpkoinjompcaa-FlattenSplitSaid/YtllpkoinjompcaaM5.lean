/- In order: The law's helpers short, shortCurve, exactQuad; the reference's SamePoint. · The law's shortCurve; the program's Elevate. · The exact curves' contracts, said of whole values: the cells of a value are one letter. · Moves of a region, one an operation, each by a law with all its terms given: for walks that a program prints. Plain regions: mv_..; regions that draw their order: md_... · Small functions of vec and intmath, and of the references 11 and 15. · Loops over points: pieces, may, allValid, segments. · QuadSegments and CubicSegments of the program. · The reference's QuadSegments and CubicSegments. · The reference's QuadSegments, CubicSegments; the rounded quotients. · The validity of a parameter; QuadAt and CubicAt. · QuadAt of the program and of the reference. · CubicAt of the program. -/
import Derived.Test.YtllpkoinjompcaaM4
namespace Go.Proofs.Ytllpkoinjompcaa
open Go.RowKit
attribute [local go_sem ↓] Go.wp_at_zero Go.wp_at_succ run_max_ii run_min_ii

/-- A number has at most six digits in its fields. -/
def RV.short (a : RV) : Bool := decide (a.l ≤ 6) && decide (a.l2 ≤ 6)
theorem xshort_any (a : RV) (w : World) :
    Calls Try.prog 11 #[.agg #[.bool a.n, .slice a.p a.l a.c, .bool a.m, .slice a.p2 a.l2 a.c2]] w fun e w' => e = .returned (.bool a.short) ∧ Ext w w' := by
  have HG := Lib.hid (show ∀ x, Ext (w.alloc (.cells #[.bool a.n, .slice a.p a.l a.c, .bool a.m, .slice a.p2 a.l2 a.c2] 41)) x → x.cell? ⟨w.heap.size, 0, none⟩ = some (.bool a.n) ∧ x.cell? ⟨w.heap.size, 1, none⟩ = some (.slice a.p a.l a.c) ∧ x.cell? ⟨w.heap.size, 2, none⟩ = some (.bool a.m) ∧ x.cell? ⟨w.heap.size, 3, none⟩ = some (.slice a.p2 a.l2 a.c2) from fun x h => ⟨h.get (by simp), h.get (by simp), h.get (by simp), h.get (by simp)⟩)
  have gl := HG.out _ (Ext.refl _)
  by_cases hl : a.l ≤ 6
  · by_cases hl2 : a.l2 ≤ 6
    · have e1 : decide ((a.l : Int) ≤ 6) = true := by simp; omega
      have e2 : decide ((a.l2 : Int) ≤ 6) = true := by simp; omega
      have hr : a.short = true := by unfold RV.short; simp [hl, hl2]
      rw [hr]
      clear hr
      go_enter Try.func11, Try.ntmps11
      go_wp2_with fail
      go_ret
      exact ⟨rfl, (Ext.refl _).alloc _⟩
    · have e1 : decide ((a.l : Int) ≤ 6) = true := by simp; omega
      have e2 : decide ((a.l2 : Int) ≤ 6) = false := by simp; omega
      have hr : a.short = false := by unfold RV.short; simp [hl, hl2]
      rw [hr]
      clear hr
      go_enter Try.func11, Try.ntmps11
      go_wp2_with fail
      go_ret
      exact ⟨rfl, (Ext.refl _).alloc _⟩
  · have e1 : decide ((a.l : Int) ≤ 6) = false := by simp; omega
    have hr : a.short = false := by unfold RV.short; simp [hl]
    rw [hr]
    clear hr
    go_enter Try.func11, Try.ntmps11
    go_wp2_with fail
    go_ret
    exact ⟨rfl, (Ext.refl _).alloc _⟩

set_option maxRecDepth 20000 in
set_option maxHeartbeats 2000000 in
theorem exactQuad_any (a0 a1 b0 b1 c0 c1 d0 d1 : RV) (w : World) :
    Calls Try.prog 12 #[.agg #[.bool a0.n, .slice a0.p a0.l a0.c, .bool a0.m, .slice a0.p2 a0.l2 a0.c2, .bool a1.n, .slice a1.p a1.l a1.c, .bool a1.m, .slice a1.p2 a1.l2 a1.c2, .bool b0.n, .slice b0.p b0.l b0.c, .bool b0.m, .slice b0.p2 b0.l2 b0.c2, .bool b1.n, .slice b1.p b1.l b1.c, .bool b1.m, .slice b1.p2 b1.l2 b1.c2, .bool c0.n, .slice c0.p c0.l c0.c, .bool c0.m, .slice c0.p2 c0.l2 c0.c2, .bool c1.n, .slice c1.p c1.l c1.c, .bool c1.m, .slice c1.p2 c1.l2 c1.c2, .bool d0.n, .slice d0.p d0.l d0.c, .bool d0.m, .slice d0.p2 d0.l2 d0.c2, .bool d1.n, .slice d1.p d1.l d1.c, .bool d1.m, .slice d1.p2 d1.l2 d1.c2]] w fun e w' => e = .returned (.agg #[.bool a0.n, .slice a0.p a0.l a0.c, .bool a0.m, .slice a0.p2 a0.l2 a0.c2, .bool a1.n, .slice a1.p a1.l a1.c, .bool a1.m, .slice a1.p2 a1.l2 a1.c2, .bool b0.n, .slice b0.p b0.l b0.c, .bool b0.m, .slice b0.p2 b0.l2 b0.c2, .bool b1.n, .slice b1.p b1.l b1.c, .bool b1.m, .slice b1.p2 b1.l2 b1.c2, .bool c0.n, .slice c0.p c0.l c0.c, .bool c0.m, .slice c0.p2 c0.l2 c0.c2, .bool c1.n, .slice c1.p c1.l c1.c, .bool c1.m, .slice c1.p2 c1.l2 c1.c2]) ∧ Ext w w' := by
  have HG := Lib.hid (show ∀ x, Ext ((w.alloc (.cells #[.bool a0.n, .slice a0.p a0.l a0.c, .bool a0.m, .slice a0.p2 a0.l2 a0.c2, .bool a1.n, .slice a1.p a1.l a1.c, .bool a1.m, .slice a1.p2 a1.l2 a1.c2, .bool b0.n, .slice b0.p b0.l b0.c, .bool b0.m, .slice b0.p2 b0.l2 b0.c2, .bool b1.n, .slice b1.p b1.l b1.c, .bool b1.m, .slice b1.p2 b1.l2 b1.c2, .bool c0.n, .slice c0.p c0.l c0.c, .bool c0.m, .slice c0.p2 c0.l2 c0.c2, .bool c1.n, .slice c1.p c1.l c1.c, .bool c1.m, .slice c1.p2 c1.l2 c1.c2, .bool d0.n, .slice d0.p d0.l d0.c, .bool d0.m, .slice d0.p2 d0.l2 d0.c2, .bool d1.n, .slice d1.p d1.l d1.c, .bool d1.m, .slice d1.p2 d1.l2 d1.c2] 43)).alloc (.cells #[.bool RV.zero.n, .slice RV.zero.p RV.zero.l RV.zero.c, .bool RV.zero.m, .slice RV.zero.p2 RV.zero.l2 RV.zero.c2, .bool RV.zero.n, .slice RV.zero.p RV.zero.l RV.zero.c, .bool RV.zero.m, .slice RV.zero.p2 RV.zero.l2 RV.zero.c2, .bool RV.zero.n, .slice RV.zero.p RV.zero.l RV.zero.c, .bool RV.zero.m, .slice RV.zero.p2 RV.zero.l2 RV.zero.c2, .bool RV.zero.n, .slice RV.zero.p RV.zero.l RV.zero.c, .bool RV.zero.m, .slice RV.zero.p2 RV.zero.l2 RV.zero.c2, .bool RV.zero.n, .slice RV.zero.p RV.zero.l RV.zero.c, .bool RV.zero.m, .slice RV.zero.p2 RV.zero.l2 RV.zero.c2, .bool RV.zero.n, .slice RV.zero.p RV.zero.l RV.zero.c, .bool RV.zero.m, .slice RV.zero.p2 RV.zero.l2 RV.zero.c2] 46)) x → x.cell? ⟨w.heap.size, 0, none⟩ = some (.bool a0.n) ∧ x.cell? ⟨w.heap.size, 1, none⟩ = some (.slice a0.p a0.l a0.c) ∧ x.cell? ⟨w.heap.size, 2, none⟩ = some (.bool a0.m) ∧ x.cell? ⟨w.heap.size, 3, none⟩ = some (.slice a0.p2 a0.l2 a0.c2) ∧ x.cell? ⟨w.heap.size, 4, none⟩ = some (.bool a1.n) ∧ x.cell? ⟨w.heap.size, 5, none⟩ = some (.slice a1.p a1.l a1.c) ∧ x.cell? ⟨w.heap.size, 6, none⟩ = some (.bool a1.m) ∧ x.cell? ⟨w.heap.size, 7, none⟩ = some (.slice a1.p2 a1.l2 a1.c2) ∧ x.cell? ⟨w.heap.size, 8, none⟩ = some (.bool b0.n) ∧ x.cell? ⟨w.heap.size, 9, none⟩ = some (.slice b0.p b0.l b0.c) ∧ x.cell? ⟨w.heap.size, 10, none⟩ = some (.bool b0.m) ∧ x.cell? ⟨w.heap.size, 11, none⟩ = some (.slice b0.p2 b0.l2 b0.c2) ∧ x.cell? ⟨w.heap.size, 12, none⟩ = some (.bool b1.n) ∧ x.cell? ⟨w.heap.size, 13, none⟩ = some (.slice b1.p b1.l b1.c) ∧ x.cell? ⟨w.heap.size, 14, none⟩ = some (.bool b1.m) ∧ x.cell? ⟨w.heap.size, 15, none⟩ = some (.slice b1.p2 b1.l2 b1.c2) ∧ x.cell? ⟨w.heap.size, 16, none⟩ = some (.bool c0.n) ∧ x.cell? ⟨w.heap.size, 17, none⟩ = some (.slice c0.p c0.l c0.c) ∧ x.cell? ⟨w.heap.size, 18, none⟩ = some (.bool c0.m) ∧ x.cell? ⟨w.heap.size, 19, none⟩ = some (.slice c0.p2 c0.l2 c0.c2) ∧ x.cell? ⟨w.heap.size, 20, none⟩ = some (.bool c1.n) ∧ x.cell? ⟨w.heap.size, 21, none⟩ = some (.slice c1.p c1.l c1.c) ∧ x.cell? ⟨w.heap.size, 22, none⟩ = some (.bool c1.m) ∧ x.cell? ⟨w.heap.size, 23, none⟩ = some (.slice c1.p2 c1.l2 c1.c2) ∧ x.cell? ⟨w.heap.size, 24, none⟩ = some (.bool d0.n) ∧ x.cell? ⟨w.heap.size, 25, none⟩ = some (.slice d0.p d0.l d0.c) ∧ x.cell? ⟨w.heap.size, 26, none⟩ = some (.bool d0.m) ∧ x.cell? ⟨w.heap.size, 27, none⟩ = some (.slice d0.p2 d0.l2 d0.c2) ∧ x.cell? ⟨w.heap.size, 28, none⟩ = some (.bool d1.n) ∧ x.cell? ⟨w.heap.size, 29, none⟩ = some (.slice d1.p d1.l d1.c) ∧ x.cell? ⟨w.heap.size, 30, none⟩ = some (.bool d1.m) ∧ x.cell? ⟨w.heap.size, 31, none⟩ = some (.slice d1.p2 d1.l2 d1.c2) from fun x h => ⟨h.get (by simp), h.get (by simp), h.get (by simp), h.get (by simp), h.get (by simp), h.get (by simp), h.get (by simp), h.get (by simp), h.get (by simp), h.get (by simp), h.get (by simp), h.get (by simp), h.get (by simp), h.get (by simp), h.get (by simp), h.get (by simp), h.get (by simp), h.get (by simp), h.get (by simp), h.get (by simp), h.get (by simp), h.get (by simp), h.get (by simp), h.get (by simp), h.get (by simp), h.get (by simp), h.get (by simp), h.get (by simp), h.get (by simp), h.get (by simp), h.get (by simp), h.get (by simp)⟩)
  have gl := HG.out _ (Ext.refl _)
  have bR : Blk ((w.alloc (.cells #[.bool a0.n, .slice a0.p a0.l a0.c, .bool a0.m, .slice a0.p2 a0.l2 a0.c2, .bool a1.n, .slice a1.p a1.l a1.c, .bool a1.m, .slice a1.p2 a1.l2 a1.c2, .bool b0.n, .slice b0.p b0.l b0.c, .bool b0.m, .slice b0.p2 b0.l2 b0.c2, .bool b1.n, .slice b1.p b1.l b1.c, .bool b1.m, .slice b1.p2 b1.l2 b1.c2, .bool c0.n, .slice c0.p c0.l c0.c, .bool c0.m, .slice c0.p2 c0.l2 c0.c2, .bool c1.n, .slice c1.p c1.l c1.c, .bool c1.m, .slice c1.p2 c1.l2 c1.c2, .bool d0.n, .slice d0.p d0.l d0.c, .bool d0.m, .slice d0.p2 d0.l2 d0.c2, .bool d1.n, .slice d1.p d1.l d1.c, .bool d1.m, .slice d1.p2 d1.l2 d1.c2] 43)).alloc (.cells #[.bool RV.zero.n, .slice RV.zero.p RV.zero.l RV.zero.c, .bool RV.zero.m, .slice RV.zero.p2 RV.zero.l2 RV.zero.c2, .bool RV.zero.n, .slice RV.zero.p RV.zero.l RV.zero.c, .bool RV.zero.m, .slice RV.zero.p2 RV.zero.l2 RV.zero.c2, .bool RV.zero.n, .slice RV.zero.p RV.zero.l RV.zero.c, .bool RV.zero.m, .slice RV.zero.p2 RV.zero.l2 RV.zero.c2, .bool RV.zero.n, .slice RV.zero.p RV.zero.l RV.zero.c, .bool RV.zero.m, .slice RV.zero.p2 RV.zero.l2 RV.zero.c2, .bool RV.zero.n, .slice RV.zero.p RV.zero.l RV.zero.c, .bool RV.zero.m, .slice RV.zero.p2 RV.zero.l2 RV.zero.c2, .bool RV.zero.n, .slice RV.zero.p RV.zero.l RV.zero.c, .bool RV.zero.m, .slice RV.zero.p2 RV.zero.l2 RV.zero.c2] 46)) (w.heap.size + 1) 46 #[.bool RV.zero.n, .slice RV.zero.p RV.zero.l RV.zero.c, .bool RV.zero.m, .slice RV.zero.p2 RV.zero.l2 RV.zero.c2, .bool RV.zero.n, .slice RV.zero.p RV.zero.l RV.zero.c, .bool RV.zero.m, .slice RV.zero.p2 RV.zero.l2 RV.zero.c2, .bool RV.zero.n, .slice RV.zero.p RV.zero.l RV.zero.c, .bool RV.zero.m, .slice RV.zero.p2 RV.zero.l2 RV.zero.c2, .bool RV.zero.n, .slice RV.zero.p RV.zero.l RV.zero.c, .bool RV.zero.m, .slice RV.zero.p2 RV.zero.l2 RV.zero.c2, .bool RV.zero.n, .slice RV.zero.p RV.zero.l RV.zero.c, .bool RV.zero.m, .slice RV.zero.p2 RV.zero.l2 RV.zero.c2, .bool RV.zero.n, .slice RV.zero.p RV.zero.l RV.zero.c, .bool RV.zero.m, .slice RV.zero.p2 RV.zero.l2 RV.zero.c2] := Blk.new_at _ _ (by simp) _ _
  have hE : Ext w ((w.alloc (.cells #[.bool a0.n, .slice a0.p a0.l a0.c, .bool a0.m, .slice a0.p2 a0.l2 a0.c2, .bool a1.n, .slice a1.p a1.l a1.c, .bool a1.m, .slice a1.p2 a1.l2 a1.c2, .bool b0.n, .slice b0.p b0.l b0.c, .bool b0.m, .slice b0.p2 b0.l2 b0.c2, .bool b1.n, .slice b1.p b1.l b1.c, .bool b1.m, .slice b1.p2 b1.l2 b1.c2, .bool c0.n, .slice c0.p c0.l c0.c, .bool c0.m, .slice c0.p2 c0.l2 c0.c2, .bool c1.n, .slice c1.p c1.l c1.c, .bool c1.m, .slice c1.p2 c1.l2 c1.c2, .bool d0.n, .slice d0.p d0.l d0.c, .bool d0.m, .slice d0.p2 d0.l2 d0.c2, .bool d1.n, .slice d1.p d1.l d1.c, .bool d1.m, .slice d1.p2 d1.l2 d1.c2] 43)).alloc (.cells #[.bool RV.zero.n, .slice RV.zero.p RV.zero.l RV.zero.c, .bool RV.zero.m, .slice RV.zero.p2 RV.zero.l2 RV.zero.c2, .bool RV.zero.n, .slice RV.zero.p RV.zero.l RV.zero.c, .bool RV.zero.m, .slice RV.zero.p2 RV.zero.l2 RV.zero.c2, .bool RV.zero.n, .slice RV.zero.p RV.zero.l RV.zero.c, .bool RV.zero.m, .slice RV.zero.p2 RV.zero.l2 RV.zero.c2, .bool RV.zero.n, .slice RV.zero.p RV.zero.l RV.zero.c, .bool RV.zero.m, .slice RV.zero.p2 RV.zero.l2 RV.zero.c2, .bool RV.zero.n, .slice RV.zero.p RV.zero.l RV.zero.c, .bool RV.zero.m, .slice RV.zero.p2 RV.zero.l2 RV.zero.c2, .bool RV.zero.n, .slice RV.zero.p RV.zero.l RV.zero.c, .bool RV.zero.m, .slice RV.zero.p2 RV.zero.l2 RV.zero.c2] 46)) := ((Ext.refl _).alloc _).alloc _
  have hlt : w.heap.size ≤ w.heap.size + 1 := by omega
  go_enter Try.func12, Try.ntmps12
  go_upto_region 1 with fail
  obtain ⟨wa, hwa⟩ : ∃ wa, wa = ((w.alloc (.cells #[.bool a0.n, .slice a0.p a0.l a0.c, .bool a0.m, .slice a0.p2 a0.l2 a0.c2, .bool a1.n, .slice a1.p a1.l a1.c, .bool a1.m, .slice a1.p2 a1.l2 a1.c2, .bool b0.n, .slice b0.p b0.l b0.c, .bool b0.m, .slice b0.p2 b0.l2 b0.c2, .bool b1.n, .slice b1.p b1.l b1.c, .bool b1.m, .slice b1.p2 b1.l2 b1.c2, .bool c0.n, .slice c0.p c0.l c0.c, .bool c0.m, .slice c0.p2 c0.l2 c0.c2, .bool c1.n, .slice c1.p c1.l c1.c, .bool c1.m, .slice c1.p2 c1.l2 c1.c2, .bool d0.n, .slice d0.p d0.l d0.c, .bool d0.m, .slice d0.p2 d0.l2 d0.c2, .bool d1.n, .slice d1.p d1.l d1.c, .bool d1.m, .slice d1.p2 d1.l2 d1.c2] 43)).alloc (.cells #[.bool RV.zero.n, .slice RV.zero.p RV.zero.l RV.zero.c, .bool RV.zero.m, .slice RV.zero.p2 RV.zero.l2 RV.zero.c2, .bool RV.zero.n, .slice RV.zero.p RV.zero.l RV.zero.c, .bool RV.zero.m, .slice RV.zero.p2 RV.zero.l2 RV.zero.c2, .bool RV.zero.n, .slice RV.zero.p RV.zero.l RV.zero.c, .bool RV.zero.m, .slice RV.zero.p2 RV.zero.l2 RV.zero.c2, .bool RV.zero.n, .slice RV.zero.p RV.zero.l RV.zero.c, .bool RV.zero.m, .slice RV.zero.p2 RV.zero.l2 RV.zero.c2, .bool RV.zero.n, .slice RV.zero.p RV.zero.l RV.zero.c, .bool RV.zero.m, .slice RV.zero.p2 RV.zero.l2 RV.zero.c2, .bool RV.zero.n, .slice RV.zero.p RV.zero.l RV.zero.c, .bool RV.zero.m, .slice RV.zero.p2 RV.zero.l2 RV.zero.c2] 46)) := ⟨_, rfl⟩
  have hwa2 := hwa
  simp only [RV.zero] at hwa2
  rw [← hwa] at HG gl bR hE
  rw [← hwa2]
  clear hwa hwa2
  generalize w.heap.size + 1 = R at *
  refine wp_region_lit ?_
  refine wpList_val (v := ?v0) (w' := wa) rfl ?h0 ?r0
  case h0 => (go_simp <;> with_reducible rfl)
  (try simp only [Act.put, List.setIfInBounds_toArray, List.set_cons_zero, List.set_cons_succ])
  refine wpList_val (v := ?v1) (w' := wa) rfl ?h1 ?r1
  case h1 => (go_simp <;> with_reducible rfl)
  (try simp only [Act.put, List.setIfInBounds_toArray, List.set_cons_zero, List.set_cons_succ])
  refine wpList_val (v := ?v2) (w' := wa) rfl ?h2 ?r2
  case h2 => (go_simp <;> with_reducible rfl)
  (try simp only [Act.put, List.setIfInBounds_toArray, List.set_cons_zero, List.set_cons_succ])
  refine wpList_val (v := ?v3) (w' := wa) rfl ?h3 ?r3
  case h3 => (go_simp <;> with_reducible rfl)
  (try simp only [Act.put, List.setIfInBounds_toArray, List.set_cons_zero, List.set_cons_succ])
  refine wpList_val (v := ?v4) (w' := wa) rfl ?h4 ?r4
  case h4 => (go_simp <;> with_reducible rfl)
  (try simp only [Act.put, List.setIfInBounds_toArray, List.set_cons_zero, List.set_cons_succ])
  refine wpList_val (v := ?v5) (w' := wa) rfl ?h5 ?r5
  case h5 => (go_simp <;> with_reducible rfl)
  (try simp only [Act.put, List.setIfInBounds_toArray, List.set_cons_zero, List.set_cons_succ])
  refine wpList_val (v := ?v6) (w' := wa) rfl ?h6 ?r6
  case h6 => (go_simp <;> with_reducible rfl)
  (try simp only [Act.put, List.setIfInBounds_toArray, List.set_cons_zero, List.set_cons_succ])
  refine wpList_store_blk rfl _ _ _ rfl R _ _ #[.bool a0.n, .slice a0.p a0.l a0.c, .bool a0.m, .slice a0.p2 a0.l2 a0.c2, .bool a1.n, .slice a1.p a1.l a1.c, .bool a1.m, .slice a1.p2 a1.l2 a1.c2, .bool b0.n, .slice b0.p b0.l b0.c, .bool b0.m, .slice b0.p2 b0.l2 b0.c2, .bool b1.n, .slice b1.p b1.l b1.c, .bool b1.m, .slice b1.p2 b1.l2 b1.c2, .bool c0.n, .slice c0.p c0.l c0.c, .bool c0.m, .slice c0.p2 c0.l2 c0.c2, .bool c1.n, .slice c1.p c1.l c1.c, .bool c1.m, .slice c1.p2 c1.l2 c1.c2] (by rfl) (by rfl) bR rfl (by kernel_rfl) (all_oneCell_toArray (by simp [Value.oneCell'])) ?_
  (try simp only [Act.put, List.setIfInBounds_toArray, List.set_cons_zero, List.set_cons_succ])
  have hb := bR.setCells #[.bool a0.n, .slice a0.p a0.l a0.c, .bool a0.m, .slice a0.p2 a0.l2 a0.c2, .bool a1.n, .slice a1.p a1.l a1.c, .bool a1.m, .slice a1.p2 a1.l2 a1.c2, .bool b0.n, .slice b0.p b0.l b0.c, .bool b0.m, .slice b0.p2 b0.l2 b0.c2, .bool b1.n, .slice b1.p b1.l b1.c, .bool b1.m, .slice b1.p2 b1.l2 b1.c2, .bool c0.n, .slice c0.p c0.l c0.c, .bool c0.m, .slice c0.p2 c0.l2 c0.c2, .bool c1.n, .slice c1.p c1.l c1.c, .bool c1.m, .slice c1.p2 c1.l2 c1.c2] rfl
  have ho := Own.setCells wa R #[.bool a0.n, .slice a0.p a0.l a0.c, .bool a0.m, .slice a0.p2 a0.l2 a0.c2, .bool a1.n, .slice a1.p a1.l a1.c, .bool a1.m, .slice a1.p2 a1.l2 a1.c2, .bool b0.n, .slice b0.p b0.l b0.c, .bool b0.m, .slice b0.p2 b0.l2 b0.c2, .bool b1.n, .slice b1.p b1.l b1.c, .bool b1.m, .slice b1.p2 b1.l2 b1.c2, .bool c0.n, .slice c0.p c0.l c0.c, .bool c0.m, .slice c0.p2 c0.l2 c0.c2, .bool c1.n, .slice c1.p c1.l c1.c, .bool c1.m, .slice c1.p2 c1.l2 c1.c2]
  generalize wa.setCells R 0 (#[.bool a0.n, .slice a0.p a0.l a0.c, .bool a0.m, .slice a0.p2 a0.l2 a0.c2, .bool a1.n, .slice a1.p a1.l a1.c, .bool a1.m, .slice a1.p2 a1.l2 a1.c2, .bool b0.n, .slice b0.p b0.l b0.c, .bool b0.m, .slice b0.p2 b0.l2 b0.c2, .bool b1.n, .slice b1.p b1.l b1.c, .bool b1.m, .slice b1.p2 b1.l2 b1.c2, .bool c0.n, .slice c0.p c0.l c0.c, .bool c0.m, .slice c0.p2 c0.l2 c0.c2, .bool c1.n, .slice c1.p c1.l c1.c, .bool c1.m, .slice c1.p2 c1.l2 c1.c2] : Array Value).toList = wb at *
  go_wp2_with fail
  refine bodyPost_ret (v := .agg #[.bool a0.n, .slice a0.p a0.l a0.c, .bool a0.m, .slice a0.p2 a0.l2 a0.c2, .bool a1.n, .slice a1.p a1.l a1.c, .bool a1.m, .slice a1.p2 a1.l2 a1.c2, .bool b0.n, .slice b0.p b0.l b0.c, .bool b0.m, .slice b0.p2 b0.l2 b0.c2, .bool b1.n, .slice b1.p b1.l b1.c, .bool b1.m, .slice b1.p2 b1.l2 b1.c2, .bool c0.n, .slice c0.p c0.l c0.c, .bool c0.m, .slice c0.p2 c0.l2 c0.c2, .bool c1.n, .slice c1.p c1.l c1.c, .bool c1.m, .slice c1.p2 c1.l2 c1.c2]) ?_ rfl ⟨rfl, ho.ext hE hlt⟩
  exact results_cell1 rfl rfl (hb.loadVar rfl rfl rfl)

set_option maxHeartbeats 1000000 in
theorem samePoint_any (a b c d : RV) (x y : Rat) (L : Nat) (w : World) (ha : a.Is w x) (hb : b.Is w y) (hc : c.Is w x) (hd : d.Is w y) (hx : Nm.rl x ≤ L) (hy : Nm.rl y ≤ L) (hL : L ≤ 1000000) :
    Calls Try.prog 19 #[.agg #[.bool a.n, .slice a.p a.l a.c, .bool a.m, .slice a.p2 a.l2 a.c2, .bool b.n, .slice b.p b.l b.c, .bool b.m, .slice b.p2 b.l2 b.c2], .agg #[.bool c.n, .slice c.p c.l c.c, .bool c.m, .slice c.p2 c.l2 c.c2, .bool d.n, .slice d.p d.l d.c, .bool d.m, .slice d.p2 d.l2 d.c2]] w fun e w' => e = .returned (.bool true) ∧ Ext w w' := by
  have H1 := Lib.hid (fun W (e : Ext w W) => same_any a c x L W (ha.ext e) (hc.ext e) hx hL)
  have H2 := Lib.hid (fun W (e : Ext w W) => same_any b d y L W (hb.ext e) (hd.ext e) hy hL)
  have HG := Lib.hid (show ∀ x, Ext ((w.alloc (.cells #[.bool a.n, .slice a.p a.l a.c, .bool a.m, .slice a.p2 a.l2 a.c2, .bool b.n, .slice b.p b.l b.c, .bool b.m, .slice b.p2 b.l2 b.c2] 42)).alloc (.cells #[.bool c.n, .slice c.p c.l c.c, .bool c.m, .slice c.p2 c.l2 c.c2, .bool d.n, .slice d.p d.l d.c, .bool d.m, .slice d.p2 d.l2 d.c2] 42)) x → x.cell? ⟨w.heap.size, 0, none⟩ = some (.bool a.n) ∧ x.cell? ⟨w.heap.size, 1, none⟩ = some (.slice a.p a.l a.c) ∧ x.cell? ⟨w.heap.size, 2, none⟩ = some (.bool a.m) ∧ x.cell? ⟨w.heap.size, 3, none⟩ = some (.slice a.p2 a.l2 a.c2) ∧ x.cell? ⟨w.heap.size, 4, none⟩ = some (.bool b.n) ∧ x.cell? ⟨w.heap.size, 5, none⟩ = some (.slice b.p b.l b.c) ∧ x.cell? ⟨w.heap.size, 6, none⟩ = some (.bool b.m) ∧ x.cell? ⟨w.heap.size, 7, none⟩ = some (.slice b.p2 b.l2 b.c2) ∧ x.cell? ⟨w.heap.size + 1, 0, none⟩ = some (.bool c.n) ∧ x.cell? ⟨w.heap.size + 1, 1, none⟩ = some (.slice c.p c.l c.c) ∧ x.cell? ⟨w.heap.size + 1, 2, none⟩ = some (.bool c.m) ∧ x.cell? ⟨w.heap.size + 1, 3, none⟩ = some (.slice c.p2 c.l2 c.c2) ∧ x.cell? ⟨w.heap.size + 1, 4, none⟩ = some (.bool d.n) ∧ x.cell? ⟨w.heap.size + 1, 5, none⟩ = some (.slice d.p d.l d.c) ∧ x.cell? ⟨w.heap.size + 1, 6, none⟩ = some (.bool d.m) ∧ x.cell? ⟨w.heap.size + 1, 7, none⟩ = some (.slice d.p2 d.l2 d.c2) from fun x h => ⟨h.get (by simp), h.get (by simp), h.get (by simp), h.get (by simp), h.get (by simp), h.get (by simp), h.get (by simp), h.get (by simp), h.get (by simp), h.get (by simp), h.get (by simp), h.get (by simp), h.get (by simp), h.get (by simp), h.get (by simp), h.get (by simp)⟩)
  have HW := Lib.hid (show Ext w ((w.alloc (.cells #[.bool a.n, .slice a.p a.l a.c, .bool a.m, .slice a.p2 a.l2 a.c2, .bool b.n, .slice b.p b.l b.c, .bool b.m, .slice b.p2 b.l2 b.c2] 42)).alloc (.cells #[.bool c.n, .slice c.p c.l c.c, .bool c.m, .slice c.p2 c.l2 c.c2, .bool d.n, .slice d.p d.l d.c, .bool d.m, .slice d.p2 d.l2 d.c2] 42)) from ((Ext.refl _).alloc _).alloc _)
  clear ha hb hc hd hx hy
  go_enter Try.func19, Try.ntmps19
  go_wp2_with fail
  generalize ((w.alloc (.cells #[.bool a.n, .slice a.p a.l a.c, .bool a.m, .slice a.p2 a.l2 a.c2, .bool b.n, .slice b.p b.l b.c, .bool b.m, .slice b.p2 b.l2 b.c2] 42)).alloc (.cells #[.bool c.n, .slice c.p c.l c.c, .bool c.m, .slice c.p2 c.l2 c.c2, .bool d.n, .slice d.p d.l d.c, .bool d.m, .slice d.p2 d.l2 d.c2] 42)) = wa at *
  have gl := HG.out _ (Ext.refl _)
  go_wp2_with fail
  refine (H1.out _ HW.out).mono ?_
  rintro e wx ⟨rfl, hx1⟩
  clear gl
  have gl := HG.out _ hx1
  go_wp2_with fail
  refine (H2.out _ (HW.out.trans hx1)).mono ?_
  rintro e wy ⟨rfl, hx2⟩
  go_wp2_with fail
  go_ret
  exact ⟨rfl, HW.out.trans (hx1.trans hx2)⟩
end Go.Proofs.Ytllpkoinjompcaa

namespace Go.Proofs.Ytllpkoinjompcaa
open Go.RowKit
attribute [local go_sem ↓] Go.wp_at_zero Go.wp_at_succ run_max_ii run_min_ii

/-- All fields of a curve are short. -/
def shortC (a0 a1 b0 b1 c0 c1 d0 d1 : RV) : Bool := (a0.short && a1.short) && (b0.short && b1.short) && (c0.short && c1.short) && (d0.short && d1.short)
theorem not_false_b : (!false) = true := rfl
theorem not_true_b : (!true) = false := rfl

set_option maxRecDepth 20000 in
set_option maxHeartbeats 4000000 in
theorem shortCurve_any (a0 a1 b0 b1 c0 c1 d0 d1 : RV) (w : World) :
    Calls Try.prog 10 #[.agg #[.bool a0.n, .slice a0.p a0.l a0.c, .bool a0.m, .slice a0.p2 a0.l2 a0.c2, .bool a1.n, .slice a1.p a1.l a1.c, .bool a1.m, .slice a1.p2 a1.l2 a1.c2, .bool b0.n, .slice b0.p b0.l b0.c, .bool b0.m, .slice b0.p2 b0.l2 b0.c2, .bool b1.n, .slice b1.p b1.l b1.c, .bool b1.m, .slice b1.p2 b1.l2 b1.c2, .bool c0.n, .slice c0.p c0.l c0.c, .bool c0.m, .slice c0.p2 c0.l2 c0.c2, .bool c1.n, .slice c1.p c1.l c1.c, .bool c1.m, .slice c1.p2 c1.l2 c1.c2, .bool d0.n, .slice d0.p d0.l d0.c, .bool d0.m, .slice d0.p2 d0.l2 d0.c2, .bool d1.n, .slice d1.p d1.l d1.c, .bool d1.m, .slice d1.p2 d1.l2 d1.c2]] w fun e w' => e = .returned (.bool (shortC a0 a1 b0 b1 c0 c1 d0 d1)) ∧ Ext w w' := by
  have HG := Lib.hid (show ∀ x, Ext (w.alloc (.cells #[.bool a0.n, .slice a0.p a0.l a0.c, .bool a0.m, .slice a0.p2 a0.l2 a0.c2, .bool a1.n, .slice a1.p a1.l a1.c, .bool a1.m, .slice a1.p2 a1.l2 a1.c2, .bool b0.n, .slice b0.p b0.l b0.c, .bool b0.m, .slice b0.p2 b0.l2 b0.c2, .bool b1.n, .slice b1.p b1.l b1.c, .bool b1.m, .slice b1.p2 b1.l2 b1.c2, .bool c0.n, .slice c0.p c0.l c0.c, .bool c0.m, .slice c0.p2 c0.l2 c0.c2, .bool c1.n, .slice c1.p c1.l c1.c, .bool c1.m, .slice c1.p2 c1.l2 c1.c2, .bool d0.n, .slice d0.p d0.l d0.c, .bool d0.m, .slice d0.p2 d0.l2 d0.c2, .bool d1.n, .slice d1.p d1.l d1.c, .bool d1.m, .slice d1.p2 d1.l2 d1.c2] 43)) x → x.cell? ⟨w.heap.size, 0, none⟩ = some (.bool a0.n) ∧ x.cell? ⟨w.heap.size, 1, none⟩ = some (.slice a0.p a0.l a0.c) ∧ x.cell? ⟨w.heap.size, 2, none⟩ = some (.bool a0.m) ∧ x.cell? ⟨w.heap.size, 3, none⟩ = some (.slice a0.p2 a0.l2 a0.c2) ∧ x.cell? ⟨w.heap.size, 4, none⟩ = some (.bool a1.n) ∧ x.cell? ⟨w.heap.size, 5, none⟩ = some (.slice a1.p a1.l a1.c) ∧ x.cell? ⟨w.heap.size, 6, none⟩ = some (.bool a1.m) ∧ x.cell? ⟨w.heap.size, 7, none⟩ = some (.slice a1.p2 a1.l2 a1.c2) ∧ x.cell? ⟨w.heap.size, 8, none⟩ = some (.bool b0.n) ∧ x.cell? ⟨w.heap.size, 9, none⟩ = some (.slice b0.p b0.l b0.c) ∧ x.cell? ⟨w.heap.size, 10, none⟩ = some (.bool b0.m) ∧ x.cell? ⟨w.heap.size, 11, none⟩ = some (.slice b0.p2 b0.l2 b0.c2) ∧ x.cell? ⟨w.heap.size, 12, none⟩ = some (.bool b1.n) ∧ x.cell? ⟨w.heap.size, 13, none⟩ = some (.slice b1.p b1.l b1.c) ∧ x.cell? ⟨w.heap.size, 14, none⟩ = some (.bool b1.m) ∧ x.cell? ⟨w.heap.size, 15, none⟩ = some (.slice b1.p2 b1.l2 b1.c2) ∧ x.cell? ⟨w.heap.size, 16, none⟩ = some (.bool c0.n) ∧ x.cell? ⟨w.heap.size, 17, none⟩ = some (.slice c0.p c0.l c0.c) ∧ x.cell? ⟨w.heap.size, 18, none⟩ = some (.bool c0.m) ∧ x.cell? ⟨w.heap.size, 19, none⟩ = some (.slice c0.p2 c0.l2 c0.c2) ∧ x.cell? ⟨w.heap.size, 20, none⟩ = some (.bool c1.n) ∧ x.cell? ⟨w.heap.size, 21, none⟩ = some (.slice c1.p c1.l c1.c) ∧ x.cell? ⟨w.heap.size, 22, none⟩ = some (.bool c1.m) ∧ x.cell? ⟨w.heap.size, 23, none⟩ = some (.slice c1.p2 c1.l2 c1.c2) ∧ x.cell? ⟨w.heap.size, 24, none⟩ = some (.bool d0.n) ∧ x.cell? ⟨w.heap.size, 25, none⟩ = some (.slice d0.p d0.l d0.c) ∧ x.cell? ⟨w.heap.size, 26, none⟩ = some (.bool d0.m) ∧ x.cell? ⟨w.heap.size, 27, none⟩ = some (.slice d0.p2 d0.l2 d0.c2) ∧ x.cell? ⟨w.heap.size, 28, none⟩ = some (.bool d1.n) ∧ x.cell? ⟨w.heap.size, 29, none⟩ = some (.slice d1.p d1.l d1.c) ∧ x.cell? ⟨w.heap.size, 30, none⟩ = some (.bool d1.m) ∧ x.cell? ⟨w.heap.size, 31, none⟩ = some (.slice d1.p2 d1.l2 d1.c2) from fun x h => ⟨h.get (by simp), h.get (by simp), h.get (by simp), h.get (by simp), h.get (by simp), h.get (by simp), h.get (by simp), h.get (by simp), h.get (by simp), h.get (by simp), h.get (by simp), h.get (by simp), h.get (by simp), h.get (by simp), h.get (by simp), h.get (by simp), h.get (by simp), h.get (by simp), h.get (by simp), h.get (by simp), h.get (by simp), h.get (by simp), h.get (by simp), h.get (by simp), h.get (by simp), h.get (by simp), h.get (by simp), h.get (by simp), h.get (by simp), h.get (by simp), h.get (by simp), h.get (by simp)⟩)
  have HW := Lib.hid (show Ext w (w.alloc (.cells #[.bool a0.n, .slice a0.p a0.l a0.c, .bool a0.m, .slice a0.p2 a0.l2 a0.c2, .bool a1.n, .slice a1.p a1.l a1.c, .bool a1.m, .slice a1.p2 a1.l2 a1.c2, .bool b0.n, .slice b0.p b0.l b0.c, .bool b0.m, .slice b0.p2 b0.l2 b0.c2, .bool b1.n, .slice b1.p b1.l b1.c, .bool b1.m, .slice b1.p2 b1.l2 b1.c2, .bool c0.n, .slice c0.p c0.l c0.c, .bool c0.m, .slice c0.p2 c0.l2 c0.c2, .bool c1.n, .slice c1.p c1.l c1.c, .bool c1.m, .slice c1.p2 c1.l2 c1.c2, .bool d0.n, .slice d0.p d0.l d0.c, .bool d0.m, .slice d0.p2 d0.l2 d0.c2, .bool d1.n, .slice d1.p d1.l d1.c, .bool d1.m, .slice d1.p2 d1.l2 d1.c2] 43)) from (Ext.refl _).alloc _)
  have Ha0 := Lib.hid (fun W => xshort_any a0 W)
  have Ha1 := Lib.hid (fun W => xshort_any a1 W)
  have Hb0 := Lib.hid (fun W => xshort_any b0 W)
  have Hb1 := Lib.hid (fun W => xshort_any b1 W)
  have Hc0 := Lib.hid (fun W => xshort_any c0 W)
  have Hc1 := Lib.hid (fun W => xshort_any c1 W)
  have Hd0 := Lib.hid (fun W => xshort_any d0 W)
  have Hd1 := Lib.hid (fun W => xshort_any d1 W)
  obtain ⟨r, hr⟩ : ∃ r, r = shortC a0 a1 b0 b1 c0 c1 d0 d1 := ⟨_, rfl⟩
  rw [← hr]
  have HR := Lib.hid hr
  clear hr
  go_enter Try.func10, Try.ntmps10
  go_wp2_with fail
  generalize (w.alloc (.cells #[.bool a0.n, .slice a0.p a0.l a0.c, .bool a0.m, .slice a0.p2 a0.l2 a0.c2, .bool a1.n, .slice a1.p a1.l a1.c, .bool a1.m, .slice a1.p2 a1.l2 a1.c2, .bool b0.n, .slice b0.p b0.l b0.c, .bool b0.m, .slice b0.p2 b0.l2 b0.c2, .bool b1.n, .slice b1.p b1.l b1.c, .bool b1.m, .slice b1.p2 b1.l2 b1.c2, .bool c0.n, .slice c0.p c0.l c0.c, .bool c0.m, .slice c0.p2 c0.l2 c0.c2, .bool c1.n, .slice c1.p c1.l c1.c, .bool c1.m, .slice c1.p2 c1.l2 c1.c2, .bool d0.n, .slice d0.p d0.l d0.c, .bool d0.m, .slice d0.p2 d0.l2 d0.c2, .bool d1.n, .slice d1.p d1.l d1.c, .bool d1.m, .slice d1.p2 d1.l2 d1.c2] 43)) = wa at *
  generalize w.heap.size = BA at *
  go_loopw [4] (fun i wr => ∃ k : Nat, k ≤ 4 ∧ i = .int .i64 k ∧ (0 < k → a0.short = true ∧ a1.short = true) ∧ (1 < k → b0.short = true ∧ b1.short = true) ∧ (2 < k → c0.short = true ∧ c1.short = true) ∧ (3 < k → d0.short = true ∧ d1.short = true) ∧ Ext wa wr) (fun i _ => 4 - (intOf i).toNat)
  case atStart => exact ⟨0, by omega, rfl, by omega, by omega, by omega, by omega, Ext.refl _⟩
  case round =>
    obtain ⟨k, hk, rfl, h0, h1, h2, h3, he⟩ := hrel
    have HE := Lib.hid he
    have K0 := Lib.hid h0
    have K1 := Lib.hid h1
    have K2 := Lib.hid h2
    have K3 := Lib.hid h3
    have gl := HG.out _ he
    clear he h0 h1 h2 h3
    match k, hk, HE, K0, K1, K2, K3, gl with
    | 0, _, HE, K0, K1, K2, K3, gl =>
      go_wp2_with fail
      refine (Ha0.out _).mono ?_
      rintro e w1 ⟨rfl, he1⟩
      have HE1 := Lib.hid (HE.out.trans he1)
      clear gl
      have gl := HG.out _ HE1.out
      clear he1
      by_cases q0 : a0.short = true
      · rw [q0]
        go_wp2_with fail
        refine (Ha1.out _).mono ?_
        rintro e w2 ⟨rfl, he2⟩
        have HE2 := Lib.hid (HE1.out.trans he2)
        clear he2 gl
        by_cases q1 : a1.short = true
        · rw [q1]
          have Q := Lib.hid (And.intro q0 q1)
          clear q0 q1
          go_wp2_with fail
          go_roundw
          case rel => exact ⟨1, by omega, by go_num, fun _ => Q.out, by omega, by omega, by omega, HE2.out⟩
          case measure => simp [intOf]
        · rw [Bool.eq_false_iff.2 q1]
          have hr : r = false := by rw [HR.out]; unfold shortC; rw [Bool.eq_false_iff.2 q1]; simp
          clear q0 q1
          go_wp2_with fail
          go_ret
          exact ⟨ret_bool hr.symm, HW.out.trans HE2.out⟩
      · rw [Bool.eq_false_iff.2 q0]
        have hr : r = false := by rw [HR.out]; unfold shortC; rw [Bool.eq_false_iff.2 q0]; simp
        clear q0
        go_wp2_with fail
        go_ret
        exact ⟨ret_bool hr.symm, HW.out.trans HE1.out⟩
    | 1, _, HE, K0, K1, K2, K3, gl =>
      go_wp2_with fail
      refine (Hb0.out _).mono ?_
      rintro e w1 ⟨rfl, he1⟩
      have HE1 := Lib.hid (HE.out.trans he1)
      clear gl
      have gl := HG.out _ HE1.out
      clear he1
      by_cases q0 : b0.short = true
      · rw [q0]
        go_wp2_with fail
        refine (Hb1.out _).mono ?_
        rintro e w2 ⟨rfl, he2⟩
        have HE2 := Lib.hid (HE1.out.trans he2)
        clear he2 gl
        by_cases q1 : b1.short = true
        · rw [q1]
          have Q := Lib.hid (And.intro q0 q1)
          clear q0 q1
          go_wp2_with fail
          go_roundw
          case rel => exact ⟨2, by omega, by go_num, fun _ => K0.out (by omega), fun _ => Q.out, by omega, by omega, HE2.out⟩
          case measure => simp [intOf]
        · rw [Bool.eq_false_iff.2 q1]
          have hr : r = false := by rw [HR.out]; unfold shortC; rw [Bool.eq_false_iff.2 q1]; simp
          clear q0 q1
          go_wp2_with fail
          go_ret
          exact ⟨ret_bool hr.symm, HW.out.trans HE2.out⟩
      · rw [Bool.eq_false_iff.2 q0]
        have hr : r = false := by rw [HR.out]; unfold shortC; rw [Bool.eq_false_iff.2 q0]; simp
        clear q0
        go_wp2_with fail
        go_ret
        exact ⟨ret_bool hr.symm, HW.out.trans HE1.out⟩
    | 2, _, HE, K0, K1, K2, K3, gl =>
      go_wp2_with fail
      refine (Hc0.out _).mono ?_
      rintro e w1 ⟨rfl, he1⟩
      have HE1 := Lib.hid (HE.out.trans he1)
      clear gl
      have gl := HG.out _ HE1.out
      clear he1
      by_cases q0 : c0.short = true
      · rw [q0]
        go_wp2_with fail
        refine (Hc1.out _).mono ?_
        rintro e w2 ⟨rfl, he2⟩
        have HE2 := Lib.hid (HE1.out.trans he2)
        clear he2 gl
        by_cases q1 : c1.short = true
        · rw [q1]
          have Q := Lib.hid (And.intro q0 q1)
          clear q0 q1
          go_wp2_with fail
          go_roundw
          case rel => exact ⟨3, by omega, by go_num, fun _ => K0.out (by omega), fun _ => K1.out (by omega), fun _ => Q.out, by omega, HE2.out⟩
          case measure => simp [intOf]
        · rw [Bool.eq_false_iff.2 q1]
          have hr : r = false := by rw [HR.out]; unfold shortC; rw [Bool.eq_false_iff.2 q1]; simp
          clear q0 q1
          go_wp2_with fail
          go_ret
          exact ⟨ret_bool hr.symm, HW.out.trans HE2.out⟩
      · rw [Bool.eq_false_iff.2 q0]
        have hr : r = false := by rw [HR.out]; unfold shortC; rw [Bool.eq_false_iff.2 q0]; simp
        clear q0
        go_wp2_with fail
        go_ret
        exact ⟨ret_bool hr.symm, HW.out.trans HE1.out⟩
    | 3, _, HE, K0, K1, K2, K3, gl =>
      go_wp2_with fail
      refine (Hd0.out _).mono ?_
      rintro e w1 ⟨rfl, he1⟩
      have HE1 := Lib.hid (HE.out.trans he1)
      clear gl
      have gl := HG.out _ HE1.out
      clear he1
      by_cases q0 : d0.short = true
      · rw [q0]
        go_wp2_with fail
        refine (Hd1.out _).mono ?_
        rintro e w2 ⟨rfl, he2⟩
        have HE2 := Lib.hid (HE1.out.trans he2)
        clear he2 gl
        by_cases q1 : d1.short = true
        · rw [q1]
          have Q := Lib.hid (And.intro q0 q1)
          clear q0 q1
          go_wp2_with fail
          go_roundw
          case rel => exact ⟨4, by omega, by go_num, fun _ => K0.out (by omega), fun _ => K1.out (by omega), fun _ => K2.out (by omega), fun _ => Q.out, HE2.out⟩
          case measure => simp [intOf]
        · rw [Bool.eq_false_iff.2 q1]
          have hr : r = false := by rw [HR.out]; unfold shortC; rw [Bool.eq_false_iff.2 q1]; simp
          clear q0 q1
          go_wp2_with fail
          go_ret
          exact ⟨ret_bool hr.symm, HW.out.trans HE2.out⟩
      · rw [Bool.eq_false_iff.2 q0]
        have hr : r = false := by rw [HR.out]; unfold shortC; rw [Bool.eq_false_iff.2 q0]; simp
        clear q0
        go_wp2_with fail
        go_ret
        exact ⟨ret_bool hr.symm, HW.out.trans HE1.out⟩
    | 4, _, HE, K0, K1, K2, K3, gl =>
      have hr : r = true := by
        rw [HR.out]; unfold shortC
        rw [(K0.out (by omega)).1, (K0.out (by omega)).2, (K1.out (by omega)).1, (K1.out (by omega)).2, (K2.out (by omega)).1, (K2.out (by omega)).2, (K3.out (by omega)).1, (K3.out (by omega)).2]; rfl
      clear gl
      go_wp2_with fail
      go_ret
      exact ⟨ret_bool hr.symm, HW.out.trans HE.out⟩

/-- A cubic curve, normalized. -/
def RetC4 (x1 y1 x2 y2 x3 y3 x4 y4 : Rat) (w : World) (e : Ending) (w' : World) : Prop :=
  ∃ a b c d f g h i : RV, e = .returned (.agg #[.bool a.n, .slice a.p a.l a.c, .bool a.m, .slice a.p2 a.l2 a.c2, .bool b.n, .slice b.p b.l b.c, .bool b.m, .slice b.p2 b.l2 b.c2, .bool c.n, .slice c.p c.l c.c, .bool c.m, .slice c.p2 c.l2 c.c2, .bool d.n, .slice d.p d.l d.c, .bool d.m, .slice d.p2 d.l2 d.c2, .bool f.n, .slice f.p f.l f.c, .bool f.m, .slice f.p2 f.l2 f.c2, .bool g.n, .slice g.p g.l g.c, .bool g.m, .slice g.p2 g.l2 g.c2, .bool h.n, .slice h.p h.l h.c, .bool h.m, .slice h.p2 h.l2 h.c2, .bool i.n, .slice i.p i.l i.c, .bool i.m, .slice i.p2 i.l2 i.c2]) ∧ (a.Is w' x1 ∧ b.Is w' y1 ∧ c.Is w' x2 ∧ d.Is w' y2 ∧ f.Is w' x3 ∧ g.Is w' y3 ∧ h.Is w' x4 ∧ i.Is w' y4) ∧ Ext w w'
theorem divInt23 : Rat.divInt 2 3 = (2 : Rat) / 3 := by decide +kernel
theorem rl23 : Nm.rl ((2 : Rat) / 3) ≤ 1 := by
  have e1 : ((2 : Rat) / 3).num = 2 := by decide +kernel
  have e2 : ((2 : Rat) / 3).den = 3 := by decide +kernel
  unfold Nm.rl
  rw [e1, e2]
  have h1 : Nm.nl (Int.natAbs 2) ≤ 1 := Nm.nl_le (by decide)
  have h2 : Nm.nl 3 ≤ 1 := Nm.nl_le (by decide)
  omega
theorem noU32z : NoU #[.bool false, .slice none 0 0, .bool false, .slice none 0 0, .bool false, .slice none 0 0, .bool false, .slice none 0 0, .bool false, .slice none 0 0, .bool false, .slice none 0 0, .bool false, .slice none 0 0, .bool false, .slice none 0 0, .bool false, .slice none 0 0, .bool false, .slice none 0 0, .bool false, .slice none 0 0, .bool false, .slice none 0 0, .bool false, .slice none 0 0, .bool false, .slice none 0 0, .bool false, .slice none 0 0, .bool false, .slice none 0 0] := noU_of _ (by simp)

theorem RetRE.v {q : Rat} {w w' : World} {e : Ending} (h : RetRE q 0 w e w') : ∃ a : RV, e = .returned (.tuple #[.agg #[.bool a.n, .slice a.p a.l a.c, .bool a.m, .slice a.p2 a.l2 a.c2], .int .i64 0]) ∧ a.Is w' q ∧ Ext w w' := by
  obtain ⟨n, u, m, v, rfl, hc, he⟩ := h
  obtain ⟨p, l, c, p2, l2, c2, rfl, rfl⟩ := hc.form
  exact ⟨⟨n, p, l, c, m, p2, l2, c2⟩, rfl, hc, he⟩
set_option maxRecDepth 20000 in
set_option maxHeartbeats 8000000 in
theorem elevate_any (a0 a1 b0 b1 c0 c1 : RV) (L : Nat) (A0 A1 B0 B1 C0 C1 : Rat) (w : World) (hA0 : a0.In L w A0) (hA1 : a1.In L w A1) (hB0 : b0.In L w B0) (hB1 : b1.In L w B1) (hC0 : c0.In L w C0) (hC1 : c1.In L w C1) (h1 : 1 ≤ L) (hL : L ≤ 10000) :
      Calls Try.prog 22 #[.agg #[.bool a0.n, .slice a0.p a0.l a0.c, .bool a0.m, .slice a0.p2 a0.l2 a0.c2, .bool a1.n, .slice a1.p a1.l a1.c, .bool a1.m, .slice a1.p2 a1.l2 a1.c2, .bool b0.n, .slice b0.p b0.l b0.c, .bool b0.m, .slice b0.p2 b0.l2 b0.c2, .bool b1.n, .slice b1.p b1.l b1.c, .bool b1.m, .slice b1.p2 b1.l2 b1.c2, .bool c0.n, .slice c0.p c0.l c0.c, .bool c0.m, .slice c0.p2 c0.l2 c0.c2, .bool c1.n, .slice c1.p c1.l c1.c, .bool c1.m, .slice c1.p2 c1.l2 c1.c2]] w (RetC4 A0 A1 (lerpV A0 B0 ((2 : Rat) / 3)) (lerpV A1 B1 ((2 : Rat) / 3)) (lerpV C0 B0 ((2 : Rat) / 3)) (lerpV C1 B1 ((2 : Rat) / 3)) C0 C1 w) := by
  have HF := Lib.hid (fun W => rfromInts_any 2 3 W (by omega) (by omega) (by omega) (by omega) (by omega))
  have HR1 := Lib.hid (fun W (x : Ext w W) => reduced_any a0 a1 L A0 A1 W (hA0.ext x) (hA1.ext x) (by omega))
  have H1 := Lib.hid (fun W (t : RV) (x : Ext w W) (ht : t.Is W ((2 : Rat) / 3)) => mix_any a0 a1 b0 b1 t L A0 A1 B0 B1 ((2 : Rat) / 3) W (hA0.ext x) (hA1.ext x) (hB0.ext x) (hB1.ext x) (ht.isIn (Nat.le_trans rl23 h1)) h1 (by omega))
  have H2 := Lib.hid (fun W (t : RV) (x : Ext w W) (ht : t.Is W ((2 : Rat) / 3)) => mix_any c0 c1 b0 b1 t L C0 C1 B0 B1 ((2 : Rat) / 3) W (hC0.ext x) (hC1.ext x) (hB0.ext x) (hB1.ext x) (ht.isIn (Nat.le_trans rl23 h1)) h1 (by omega))
  have HR2 := Lib.hid (fun W (x : Ext w W) => reduced_any c0 c1 L C0 C1 W (hC0.ext x) (hC1.ext x) (by omega))
  rw [divInt23] at HF
  clear hA0 hA1 hB0 hB1 hC0 hC1
  generalize ((2 : Rat) / 3) = S at *
  go_enter Try.func22, Try.ntmps22
  go_wp2_with fail
  have bx0 : Blk ((w.alloc (.cells #[.bool a0.n, .slice a0.p a0.l a0.c, .bool a0.m, .slice a0.p2 a0.l2 a0.c2, .bool a1.n, .slice a1.p a1.l a1.c, .bool a1.m, .slice a1.p2 a1.l2 a1.c2, .bool b0.n, .slice b0.p b0.l b0.c, .bool b0.m, .slice b0.p2 b0.l2 b0.c2, .bool b1.n, .slice b1.p b1.l b1.c, .bool b1.m, .slice b1.p2 b1.l2 b1.c2, .bool c0.n, .slice c0.p c0.l c0.c, .bool c0.m, .slice c0.p2 c0.l2 c0.c2, .bool c1.n, .slice c1.p c1.l c1.c, .bool c1.m, .slice c1.p2 c1.l2 c1.c2] 46)).alloc (.cells #[.bool RV.zero.n, .slice RV.zero.p RV.zero.l RV.zero.c, .bool RV.zero.m, .slice RV.zero.p2 RV.zero.l2 RV.zero.c2, .bool RV.zero.n, .slice RV.zero.p RV.zero.l RV.zero.c, .bool RV.zero.m, .slice RV.zero.p2 RV.zero.l2 RV.zero.c2, .bool RV.zero.n, .slice RV.zero.p RV.zero.l RV.zero.c, .bool RV.zero.m, .slice RV.zero.p2 RV.zero.l2 RV.zero.c2, .bool RV.zero.n, .slice RV.zero.p RV.zero.l RV.zero.c, .bool RV.zero.m, .slice RV.zero.p2 RV.zero.l2 RV.zero.c2, .bool RV.zero.n, .slice RV.zero.p RV.zero.l RV.zero.c, .bool RV.zero.m, .slice RV.zero.p2 RV.zero.l2 RV.zero.c2, .bool RV.zero.n, .slice RV.zero.p RV.zero.l RV.zero.c, .bool RV.zero.m, .slice RV.zero.p2 RV.zero.l2 RV.zero.c2, .bool RV.zero.n, .slice RV.zero.p RV.zero.l RV.zero.c, .bool RV.zero.m, .slice RV.zero.p2 RV.zero.l2 RV.zero.c2, .bool RV.zero.n, .slice RV.zero.p RV.zero.l RV.zero.c, .bool RV.zero.m, .slice RV.zero.p2 RV.zero.l2 RV.zero.c2] 43)) (w.heap.size) 46 #[.bool a0.n, .slice a0.p a0.l a0.c, .bool a0.m, .slice a0.p2 a0.l2 a0.c2, .bool a1.n, .slice a1.p a1.l a1.c, .bool a1.m, .slice a1.p2 a1.l2 a1.c2, .bool b0.n, .slice b0.p b0.l b0.c, .bool b0.m, .slice b0.p2 b0.l2 b0.c2, .bool b1.n, .slice b1.p b1.l b1.c, .bool b1.m, .slice b1.p2 b1.l2 b1.c2, .bool c0.n, .slice c0.p c0.l c0.c, .bool c0.m, .slice c0.p2 c0.l2 c0.c2, .bool c1.n, .slice c1.p c1.l c1.c, .bool c1.m, .slice c1.p2 c1.l2 c1.c2] := Blk.ext (Blk.new_at w _ (by simp) _ _) ((Ext.refl _).alloc _)
  have bx1 : Blk ((w.alloc (.cells #[.bool a0.n, .slice a0.p a0.l a0.c, .bool a0.m, .slice a0.p2 a0.l2 a0.c2, .bool a1.n, .slice a1.p a1.l a1.c, .bool a1.m, .slice a1.p2 a1.l2 a1.c2, .bool b0.n, .slice b0.p b0.l b0.c, .bool b0.m, .slice b0.p2 b0.l2 b0.c2, .bool b1.n, .slice b1.p b1.l b1.c, .bool b1.m, .slice b1.p2 b1.l2 b1.c2, .bool c0.n, .slice c0.p c0.l c0.c, .bool c0.m, .slice c0.p2 c0.l2 c0.c2, .bool c1.n, .slice c1.p c1.l c1.c, .bool c1.m, .slice c1.p2 c1.l2 c1.c2] 46)).alloc (.cells #[.bool RV.zero.n, .slice RV.zero.p RV.zero.l RV.zero.c, .bool RV.zero.m, .slice RV.zero.p2 RV.zero.l2 RV.zero.c2, .bool RV.zero.n, .slice RV.zero.p RV.zero.l RV.zero.c, .bool RV.zero.m, .slice RV.zero.p2 RV.zero.l2 RV.zero.c2, .bool RV.zero.n, .slice RV.zero.p RV.zero.l RV.zero.c, .bool RV.zero.m, .slice RV.zero.p2 RV.zero.l2 RV.zero.c2, .bool RV.zero.n, .slice RV.zero.p RV.zero.l RV.zero.c, .bool RV.zero.m, .slice RV.zero.p2 RV.zero.l2 RV.zero.c2, .bool RV.zero.n, .slice RV.zero.p RV.zero.l RV.zero.c, .bool RV.zero.m, .slice RV.zero.p2 RV.zero.l2 RV.zero.c2, .bool RV.zero.n, .slice RV.zero.p RV.zero.l RV.zero.c, .bool RV.zero.m, .slice RV.zero.p2 RV.zero.l2 RV.zero.c2, .bool RV.zero.n, .slice RV.zero.p RV.zero.l RV.zero.c, .bool RV.zero.m, .slice RV.zero.p2 RV.zero.l2 RV.zero.c2, .bool RV.zero.n, .slice RV.zero.p RV.zero.l RV.zero.c, .bool RV.zero.m, .slice RV.zero.p2 RV.zero.l2 RV.zero.c2] 43)) (w.heap.size + 1) 43 #[.bool RV.zero.n, .slice RV.zero.p RV.zero.l RV.zero.c, .bool RV.zero.m, .slice RV.zero.p2 RV.zero.l2 RV.zero.c2, .bool RV.zero.n, .slice RV.zero.p RV.zero.l RV.zero.c, .bool RV.zero.m, .slice RV.zero.p2 RV.zero.l2 RV.zero.c2, .bool RV.zero.n, .slice RV.zero.p RV.zero.l RV.zero.c, .bool RV.zero.m, .slice RV.zero.p2 RV.zero.l2 RV.zero.c2, .bool RV.zero.n, .slice RV.zero.p RV.zero.l RV.zero.c, .bool RV.zero.m, .slice RV.zero.p2 RV.zero.l2 RV.zero.c2, .bool RV.zero.n, .slice RV.zero.p RV.zero.l RV.zero.c, .bool RV.zero.m, .slice RV.zero.p2 RV.zero.l2 RV.zero.c2, .bool RV.zero.n, .slice RV.zero.p RV.zero.l RV.zero.c, .bool RV.zero.m, .slice RV.zero.p2 RV.zero.l2 RV.zero.c2, .bool RV.zero.n, .slice RV.zero.p RV.zero.l RV.zero.c, .bool RV.zero.m, .slice RV.zero.p2 RV.zero.l2 RV.zero.c2, .bool RV.zero.n, .slice RV.zero.p RV.zero.l RV.zero.c, .bool RV.zero.m, .slice RV.zero.p2 RV.zero.l2 RV.zero.c2] := Blk.ext (Blk.new_at (w.alloc (.cells #[.bool a0.n, .slice a0.p a0.l a0.c, .bool a0.m, .slice a0.p2 a0.l2 a0.c2, .bool a1.n, .slice a1.p a1.l a1.c, .bool a1.m, .slice a1.p2 a1.l2 a1.c2, .bool b0.n, .slice b0.p b0.l b0.c, .bool b0.m, .slice b0.p2 b0.l2 b0.c2, .bool b1.n, .slice b1.p b1.l b1.c, .bool b1.m, .slice b1.p2 b1.l2 b1.c2, .bool c0.n, .slice c0.p c0.l c0.c, .bool c0.m, .slice c0.p2 c0.l2 c0.c2, .bool c1.n, .slice c1.p c1.l c1.c, .bool c1.m, .slice c1.p2 c1.l2 c1.c2] 46)) _ (by simp) _ _) (Ext.refl _)
  have hE : Ext w ((w.alloc (.cells #[.bool a0.n, .slice a0.p a0.l a0.c, .bool a0.m, .slice a0.p2 a0.l2 a0.c2, .bool a1.n, .slice a1.p a1.l a1.c, .bool a1.m, .slice a1.p2 a1.l2 a1.c2, .bool b0.n, .slice b0.p b0.l b0.c, .bool b0.m, .slice b0.p2 b0.l2 b0.c2, .bool b1.n, .slice b1.p b1.l b1.c, .bool b1.m, .slice b1.p2 b1.l2 b1.c2, .bool c0.n, .slice c0.p c0.l c0.c, .bool c0.m, .slice c0.p2 c0.l2 c0.c2, .bool c1.n, .slice c1.p c1.l c1.c, .bool c1.m, .slice c1.p2 c1.l2 c1.c2] 46)).alloc (.cells #[.bool RV.zero.n, .slice RV.zero.p RV.zero.l RV.zero.c, .bool RV.zero.m, .slice RV.zero.p2 RV.zero.l2 RV.zero.c2, .bool RV.zero.n, .slice RV.zero.p RV.zero.l RV.zero.c, .bool RV.zero.m, .slice RV.zero.p2 RV.zero.l2 RV.zero.c2, .bool RV.zero.n, .slice RV.zero.p RV.zero.l RV.zero.c, .bool RV.zero.m, .slice RV.zero.p2 RV.zero.l2 RV.zero.c2, .bool RV.zero.n, .slice RV.zero.p RV.zero.l RV.zero.c, .bool RV.zero.m, .slice RV.zero.p2 RV.zero.l2 RV.zero.c2, .bool RV.zero.n, .slice RV.zero.p RV.zero.l RV.zero.c, .bool RV.zero.m, .slice RV.zero.p2 RV.zero.l2 RV.zero.c2, .bool RV.zero.n, .slice RV.zero.p RV.zero.l RV.zero.c, .bool RV.zero.m, .slice RV.zero.p2 RV.zero.l2 RV.zero.c2, .bool RV.zero.n, .slice RV.zero.p RV.zero.l RV.zero.c, .bool RV.zero.m, .slice RV.zero.p2 RV.zero.l2 RV.zero.c2, .bool RV.zero.n, .slice RV.zero.p RV.zero.l RV.zero.c, .bool RV.zero.m, .slice RV.zero.p2 RV.zero.l2 RV.zero.c2] 43)) := (((Ext.refl _).alloc _).alloc _)
  have hz : ((w.alloc (.cells #[.bool a0.n, .slice a0.p a0.l a0.c, .bool a0.m, .slice a0.p2 a0.l2 a0.c2, .bool a1.n, .slice a1.p a1.l a1.c, .bool a1.m, .slice a1.p2 a1.l2 a1.c2, .bool b0.n, .slice b0.p b0.l b0.c, .bool b0.m, .slice b0.p2 b0.l2 b0.c2, .bool b1.n, .slice b1.p b1.l b1.c, .bool b1.m, .slice b1.p2 b1.l2 b1.c2, .bool c0.n, .slice c0.p c0.l c0.c, .bool c0.m, .slice c0.p2 c0.l2 c0.c2, .bool c1.n, .slice c1.p c1.l c1.c, .bool c1.m, .slice c1.p2 c1.l2 c1.c2] 46)).alloc (.cells #[.bool RV.zero.n, .slice RV.zero.p RV.zero.l RV.zero.c, .bool RV.zero.m, .slice RV.zero.p2 RV.zero.l2 RV.zero.c2, .bool RV.zero.n, .slice RV.zero.p RV.zero.l RV.zero.c, .bool RV.zero.m, .slice RV.zero.p2 RV.zero.l2 RV.zero.c2, .bool RV.zero.n, .slice RV.zero.p RV.zero.l RV.zero.c, .bool RV.zero.m, .slice RV.zero.p2 RV.zero.l2 RV.zero.c2, .bool RV.zero.n, .slice RV.zero.p RV.zero.l RV.zero.c, .bool RV.zero.m, .slice RV.zero.p2 RV.zero.l2 RV.zero.c2, .bool RV.zero.n, .slice RV.zero.p RV.zero.l RV.zero.c, .bool RV.zero.m, .slice RV.zero.p2 RV.zero.l2 RV.zero.c2, .bool RV.zero.n, .slice RV.zero.p RV.zero.l RV.zero.c, .bool RV.zero.m, .slice RV.zero.p2 RV.zero.l2 RV.zero.c2, .bool RV.zero.n, .slice RV.zero.p RV.zero.l RV.zero.c, .bool RV.zero.m, .slice RV.zero.p2 RV.zero.l2 RV.zero.c2, .bool RV.zero.n, .slice RV.zero.p RV.zero.l RV.zero.c, .bool RV.zero.m, .slice RV.zero.p2 RV.zero.l2 RV.zero.c2] 43)).heap.size = w.heap.size + 1 + 1 := by simp
  obtain ⟨wa, hwa⟩ : ∃ wa, wa = ((w.alloc (.cells #[.bool a0.n, .slice a0.p a0.l a0.c, .bool a0.m, .slice a0.p2 a0.l2 a0.c2, .bool a1.n, .slice a1.p a1.l a1.c, .bool a1.m, .slice a1.p2 a1.l2 a1.c2, .bool b0.n, .slice b0.p b0.l b0.c, .bool b0.m, .slice b0.p2 b0.l2 b0.c2, .bool b1.n, .slice b1.p b1.l b1.c, .bool b1.m, .slice b1.p2 b1.l2 b1.c2, .bool c0.n, .slice c0.p c0.l c0.c, .bool c0.m, .slice c0.p2 c0.l2 c0.c2, .bool c1.n, .slice c1.p c1.l c1.c, .bool c1.m, .slice c1.p2 c1.l2 c1.c2] 46)).alloc (.cells #[.bool RV.zero.n, .slice RV.zero.p RV.zero.l RV.zero.c, .bool RV.zero.m, .slice RV.zero.p2 RV.zero.l2 RV.zero.c2, .bool RV.zero.n, .slice RV.zero.p RV.zero.l RV.zero.c, .bool RV.zero.m, .slice RV.zero.p2 RV.zero.l2 RV.zero.c2, .bool RV.zero.n, .slice RV.zero.p RV.zero.l RV.zero.c, .bool RV.zero.m, .slice RV.zero.p2 RV.zero.l2 RV.zero.c2, .bool RV.zero.n, .slice RV.zero.p RV.zero.l RV.zero.c, .bool RV.zero.m, .slice RV.zero.p2 RV.zero.l2 RV.zero.c2, .bool RV.zero.n, .slice RV.zero.p RV.zero.l RV.zero.c, .bool RV.zero.m, .slice RV.zero.p2 RV.zero.l2 RV.zero.c2, .bool RV.zero.n, .slice RV.zero.p RV.zero.l RV.zero.c, .bool RV.zero.m, .slice RV.zero.p2 RV.zero.l2 RV.zero.c2, .bool RV.zero.n, .slice RV.zero.p RV.zero.l RV.zero.c, .bool RV.zero.m, .slice RV.zero.p2 RV.zero.l2 RV.zero.c2, .bool RV.zero.n, .slice RV.zero.p RV.zero.l RV.zero.c, .bool RV.zero.m, .slice RV.zero.p2 RV.zero.l2 RV.zero.c2] 43)) := ⟨_, rfl⟩
  have hwa2 := hwa
  simp only [RV.zero] at hwa2
  rw [← hwa] at hE hz bx0 bx1
  rw [← hwa2]
  have HE := Lib.hid hE
  clear hwa hwa2 hE
  have HB := Lib.hid (And.intro bx0 bx1)
  clear bx0 bx1
  have hlt : w.heap.size < w.heap.size + 1 ∧ w.heap.size + 1 < w.heap.size + 1 + 1 := by omega
  generalize hR : w.heap.size + 1 = R at *
  generalize hA : w.heap.size = BA at *
  have HLT := Lib.hid hlt
  have HZ := Lib.hid hz
  have HAA := Lib.hid hA
  clear hR hA hlt hz
  refine (HF.out _).mono ?_
  rintro e w1 hret
  obtain ⟨t, rfl, ht, he1⟩ := RetRE.v hret
  have HT := Lib.hid ht
  clear ht hret
  go_wp2_with fail
  have ke : Ext wa (w1.alloc (.cells #[.bool t.n, .slice t.p t.l t.c, .bool t.m, .slice t.p2 t.l2 t.c2] 41)) := he1.alloc _
  have j0 := HB.out.1.ext ke
  have jr := HB.out.2.ext ke
  have jt : Blk (w1.alloc (.cells #[.bool t.n, .slice t.p t.l t.c, .bool t.m, .slice t.p2 t.l2 t.c2] 41)) w1.heap.size 41 #[.bool t.n, .slice t.p t.l t.c, .bool t.m, .slice t.p2 t.l2 t.c2] := Blk.new_at w1 _ rfl _ _
  have HTT := Lib.hid (show t.Is (w1.alloc (.cells #[.bool t.n, .slice t.p t.l t.c, .bool t.m, .slice t.p2 t.l2 t.c2] 41)) S from HT.out.ext ((Ext.refl _).alloc _))
  have HEE := Lib.hid (HE.out.trans ke)
  have hne : BA ≠ R ∧ w1.heap.size ≠ R := by
    have h1 := HLT.out
    have h2 := HZ.out
    have h3 := he1.size
    omega
  clear ke he1
  generalize (w1.alloc (.cells #[.bool t.n, .slice t.p t.l t.c, .bool t.m, .slice t.p2 t.l2 t.c2] 41)) = wv at *
  generalize w1.heap.size = X at *
  have HJ := Lib.hid jr
  have gl : ∀ x, Own R wv x → x.cell? ⟨BA, 0, none⟩ = some (.bool a0.n) ∧ x.cell? ⟨BA, 1, none⟩ = some (.slice a0.p a0.l a0.c) ∧ x.cell? ⟨BA, 2, none⟩ = some (.bool a0.m) ∧ x.cell? ⟨BA, 3, none⟩ = some (.slice a0.p2 a0.l2 a0.c2) ∧ x.cell? ⟨BA, 4, none⟩ = some (.bool a1.n) ∧ x.cell? ⟨BA, 5, none⟩ = some (.slice a1.p a1.l a1.c) ∧ x.cell? ⟨BA, 6, none⟩ = some (.bool a1.m) ∧ x.cell? ⟨BA, 7, none⟩ = some (.slice a1.p2 a1.l2 a1.c2) ∧ x.cell? ⟨BA, 8, none⟩ = some (.bool b0.n) ∧ x.cell? ⟨BA, 9, none⟩ = some (.slice b0.p b0.l b0.c) ∧ x.cell? ⟨BA, 10, none⟩ = some (.bool b0.m) ∧ x.cell? ⟨BA, 11, none⟩ = some (.slice b0.p2 b0.l2 b0.c2) ∧ x.cell? ⟨BA, 12, none⟩ = some (.bool b1.n) ∧ x.cell? ⟨BA, 13, none⟩ = some (.slice b1.p b1.l b1.c) ∧ x.cell? ⟨BA, 14, none⟩ = some (.bool b1.m) ∧ x.cell? ⟨BA, 15, none⟩ = some (.slice b1.p2 b1.l2 b1.c2) ∧ x.cell? ⟨BA, 16, none⟩ = some (.bool c0.n) ∧ x.cell? ⟨BA, 17, none⟩ = some (.slice c0.p c0.l c0.c) ∧ x.cell? ⟨BA, 18, none⟩ = some (.bool c0.m) ∧ x.cell? ⟨BA, 19, none⟩ = some (.slice c0.p2 c0.l2 c0.c2) ∧ x.cell? ⟨BA, 20, none⟩ = some (.bool c1.n) ∧ x.cell? ⟨BA, 21, none⟩ = some (.slice c1.p c1.l c1.c) ∧ x.cell? ⟨BA, 22, none⟩ = some (.bool c1.m) ∧ x.cell? ⟨BA, 23, none⟩ = some (.slice c1.p2 c1.l2 c1.c2) ∧ x.cell? ⟨X, 0, none⟩ = some (.bool t.n) ∧ x.cell? ⟨X, 1, none⟩ = some (.slice t.p t.l t.c) ∧ x.cell? ⟨X, 2, none⟩ = some (.bool t.m) ∧ x.cell? ⟨X, 3, none⟩ = some (.slice t.p2 t.l2 t.c2) := fun x h => by
    have k0 := j0.own h hne.1
    have k1 := jt.own h hne.2
    exact ⟨k0.cell 0, k0.cell 1, k0.cell 2, k0.cell 3, k0.cell 4, k0.cell 5, k0.cell 6, k0.cell 7, k0.cell 8, k0.cell 9, k0.cell 10, k0.cell 11, k0.cell 12, k0.cell 13, k0.cell 14, k0.cell 15, k0.cell 16, k0.cell 17, k0.cell 18, k0.cell 19, k0.cell 20, k0.cell 21, k0.cell 22, k0.cell 23, k1.cell 0, k1.cell 1, k1.cell 2, k1.cell 3⟩
  clear j0 jr jt hne
  refine wp_region_held_drew (S := (fun x => Own R wv x)) (by kernel_rfl) (by (try dsimp only); (first | (with_reducible assumption) | (with_reducible exact Own.drew (Own.refl _ _)) | (with_reducible (apply Own.of_ext; assumption)))) (fun hH1_0 => ?_)
  refine wpAnyH_take_l (i := 0) (v := ?v1_0) rfl (by kernel_rfl) (by kernel_rfl) (by kernel_rfl) (fun _ _ _ h => h) (Or.inl ⟨by rfl, ?y1_0⟩) (by assumption) ?r1_0
  case y1_0 => (intro w hSw; (try dsimp only at hSw); go_simp <;> with_reducible rfl)
  (try simp only [Act.put, List.setIfInBounds_toArray, List.set_cons_zero, List.set_cons_succ])
  refine wpAnyH_take_l (i := 1) (v := ?v1_1) rfl (by kernel_rfl) (by kernel_rfl) (by kernel_rfl) (fun _ _ _ h => h) (Or.inl ⟨by rfl, ?y1_1⟩) (by assumption) ?r1_1
  case y1_1 => (intro w hSw; (try dsimp only at hSw); go_simp <;> with_reducible rfl)
  (try simp only [Act.put, List.setIfInBounds_toArray, List.set_cons_zero, List.set_cons_succ])
  refine wpAnyH_take_l (i := 3) (v := ?v1_3) rfl (by kernel_rfl) (by kernel_rfl) (by kernel_rfl) (fun _ _ _ h => h) (Or.inl ⟨by rfl, ?y1_3⟩) (by assumption) ?r1_3
  case y1_3 => (intro w hSw; (try dsimp only at hSw); go_simp <;> with_reducible rfl)
  (try simp only [Act.put, List.setIfInBounds_toArray, List.set_cons_zero, List.set_cons_succ])
  refine wpAnyH_take_l (i := 4) (v := ?v1_4) rfl (by kernel_rfl) (by kernel_rfl) (by kernel_rfl) (fun _ _ _ h => h) (Or.inl ⟨by rfl, ?y1_4⟩) (by assumption) ?r1_4
  case y1_4 => (intro w hSw; (try dsimp only at hSw); go_simp <;> with_reducible rfl)
  (try simp only [Act.put, List.setIfInBounds_toArray, List.set_cons_zero, List.set_cons_succ])
  refine wpAnyH_take_l (i := 5) (v := ?v1_5) rfl (by kernel_rfl) (by kernel_rfl) (by kernel_rfl) (fun _ _ _ h => h) (Or.inl ⟨by rfl, ?y1_5⟩) (by assumption) ?r1_5
  case y1_5 => (intro w hSw; (try dsimp only at hSw); go_simp <;> with_reducible rfl)
  (try simp only [Act.put, List.setIfInBounds_toArray, List.set_cons_zero, List.set_cons_succ])
  refine wpAnyH_take_l (i := 6) (v := ?v1_6) rfl (by kernel_rfl) (by kernel_rfl) (by kernel_rfl) (fun _ _ _ h => h) (Or.inl ⟨by rfl, ?y1_6⟩) (by assumption) ?r1_6
  case y1_6 => (intro w hSw; (try dsimp only at hSw); go_simp <;> with_reducible rfl)
  (try simp only [Act.put, List.setIfInBounds_toArray, List.set_cons_zero, List.set_cons_succ])
  refine wpAnyH_take_l (i := 7) (v := ?v1_7) rfl (by kernel_rfl) (by kernel_rfl) (by kernel_rfl) (fun _ _ _ h => h) (Or.inl ⟨by rfl, ?y1_7⟩) (by assumption) ?r1_7
  case y1_7 => (intro w hSw; (try dsimp only at hSw); go_simp <;> with_reducible rfl)
  (try simp only [Act.put, List.setIfInBounds_toArray, List.set_cons_zero, List.set_cons_succ])
  refine wpAnyH_take_l (i := 9) (v := ?v1_9) rfl (by kernel_rfl) (by kernel_rfl) (by kernel_rfl) (fun _ _ _ h => h) (Or.inl ⟨by rfl, ?y1_9⟩) (by assumption) ?r1_9
  case y1_9 => (intro w hSw; (try dsimp only at hSw); go_simp <;> with_reducible rfl)
  (try simp only [Act.put, List.setIfInBounds_toArray, List.set_cons_zero, List.set_cons_succ])
  refine wpAnyH_take_l (i := 10) (v := ?v1_10) rfl (by kernel_rfl) (by kernel_rfl) (by kernel_rfl) (fun _ _ _ h => h) (Or.inl ⟨by rfl, ?y1_10⟩) (by assumption) ?r1_10
  case y1_10 => (intro w hSw; (try dsimp only at hSw); go_simp <;> with_reducible rfl)
  (try simp only [Act.put, List.setIfInBounds_toArray, List.set_cons_zero, List.set_cons_succ])
  refine wpAnyH_take_l (i := 11) (v := ?v1_11) rfl (by kernel_rfl) (by kernel_rfl) (by kernel_rfl) (fun _ _ _ h => h) (Or.inl ⟨by rfl, ?y1_11⟩) (by assumption) ?r1_11
  case y1_11 => (intro w hSw; (try dsimp only at hSw); go_simp <;> with_reducible rfl)
  (try simp only [Act.put, List.setIfInBounds_toArray, List.set_cons_zero, List.set_cons_succ])
  refine wpAnyH_take_l (i := 12) (v := ?v1_12) rfl (by kernel_rfl) (by kernel_rfl) (by kernel_rfl) (fun _ _ _ h => h) (Or.inl ⟨by rfl, ?y1_12⟩) (by assumption) ?r1_12
  case y1_12 => (intro w hSw; (try dsimp only at hSw); go_simp <;> with_reducible rfl)
  (try simp only [Act.put, List.setIfInBounds_toArray, List.set_cons_zero, List.set_cons_succ])
  refine wpAnyH_take_l (i := 13) (v := ?v1_13) rfl (by kernel_rfl) (by kernel_rfl) (by kernel_rfl) (fun _ _ _ h => h) (Or.inl ⟨by rfl, ?y1_13⟩) (by assumption) ?r1_13
  case y1_13 => (intro w hSw; (try dsimp only at hSw); go_simp <;> with_reducible rfl)
  (try simp only [Act.put, List.setIfInBounds_toArray, List.set_cons_zero, List.set_cons_succ])
  refine wpAnyH_take_l (i := 15) (v := ?v1_15) rfl (by kernel_rfl) (by kernel_rfl) (by kernel_rfl) (fun _ _ _ h => h) (Or.inl ⟨by rfl, ?y1_15⟩) (by assumption) ?r1_15
  case y1_15 => (intro w hSw; (try dsimp only at hSw); go_simp <;> with_reducible rfl)
  (try simp only [Act.put, List.setIfInBounds_toArray, List.set_cons_zero, List.set_cons_succ])
  refine wpAnyH_take_l (i := 16) (v := ?v1_16) rfl (by kernel_rfl) (by kernel_rfl) (by kernel_rfl) (fun _ _ _ h => h) (Or.inl ⟨by rfl, ?y1_16⟩) (by assumption) ?r1_16
  case y1_16 => (intro w hSw; (try dsimp only at hSw); go_simp <;> with_reducible rfl)
  (try simp only [Act.put, List.setIfInBounds_toArray, List.set_cons_zero, List.set_cons_succ])
  refine wpAnyH_one_l (i := 2) rfl (by kernel_rfl) (fun K hK => ?_)
  go_simp
  (first | (go_at_call 45; ((with_reducible refine (HR1.out _ (HEE.out.trans (by first | assumption | exact Ext.drew (Ext.refl _)))).mono ?_)); rintro e wx ⟨u0, u1, rfl, hu0, hu1, hen1⟩; have hx1 : Ext wv wx := Ext.trans (by first | assumption | exact Ext.drew (Ext.refl _)) hen1) | (go_at_call 44; ((with_reducible refine (H1.out _ _ (HEE.out.trans (by first | assumption | exact Ext.drew (Ext.refl _))) (HTT.out.ext (by first | assumption | exact Ext.drew (Ext.refl _)))).mono ?_)); rintro e wy ⟨m0, m1, rfl, hm0, hm1, hen2⟩; have hx2 : Ext wv wy := Ext.trans (by first | assumption | exact Ext.drew (Ext.refl _)) hen2) | (go_at_call 44; ((with_reducible refine (H2.out _ _ (HEE.out.trans (by first | assumption | exact Ext.drew (Ext.refl _))) (HTT.out.ext (by first | assumption | exact Ext.drew (Ext.refl _)))).mono ?_)); rintro e wz ⟨n0, n1, rfl, hn0, hn1, hen3⟩; have hx3 : Ext wv wz := Ext.trans (by first | assumption | exact Ext.drew (Ext.refl _)) hen3) | (go_at_call 45; ((with_reducible refine (HR2.out _ (HEE.out.trans (by first | assumption | exact Ext.drew (Ext.refl _)))).mono ?_)); rintro e wf ⟨v0, v1, rfl, hv0, hv1, hen4⟩; have hx4 : Ext wv wf := Ext.trans (by first | assumption | exact Ext.drew (Ext.refl _)) hen4; clear gl; have XR := Blk.ext HJ.out hx4))
  refine hK.out _ _ (by (try dsimp only); (first | (with_reducible assumption) | (with_reducible exact Own.drew (Own.refl _ _)) | (with_reducible (apply Own.of_ext; assumption)))) (fun hH1_1 => ?_)
  clear hK K hH1_0
  (try simp only [Act.put, List.setIfInBounds_toArray, List.set_cons_zero, List.set_cons_succ])
  refine wpAnyH_one_l (i := 8) rfl (by kernel_rfl) (fun K hK => ?_)
  go_simp
  (first | (go_at_call 45; ((with_reducible refine (HR1.out _ (HEE.out.trans (by first | assumption | exact Ext.drew (Ext.refl _)))).mono ?_)); rintro e wx ⟨u0, u1, rfl, hu0, hu1, hen1⟩; have hx1 : Ext wv wx := Ext.trans (by first | assumption | exact Ext.drew (Ext.refl _)) hen1) | (go_at_call 44; ((with_reducible refine (H1.out _ _ (HEE.out.trans (by first | assumption | exact Ext.drew (Ext.refl _))) (HTT.out.ext (by first | assumption | exact Ext.drew (Ext.refl _)))).mono ?_)); rintro e wy ⟨m0, m1, rfl, hm0, hm1, hen2⟩; have hx2 : Ext wv wy := Ext.trans (by first | assumption | exact Ext.drew (Ext.refl _)) hen2) | (go_at_call 44; ((with_reducible refine (H2.out _ _ (HEE.out.trans (by first | assumption | exact Ext.drew (Ext.refl _))) (HTT.out.ext (by first | assumption | exact Ext.drew (Ext.refl _)))).mono ?_)); rintro e wz ⟨n0, n1, rfl, hn0, hn1, hen3⟩; have hx3 : Ext wv wz := Ext.trans (by first | assumption | exact Ext.drew (Ext.refl _)) hen3) | (go_at_call 45; ((with_reducible refine (HR2.out _ (HEE.out.trans (by first | assumption | exact Ext.drew (Ext.refl _)))).mono ?_)); rintro e wf ⟨v0, v1, rfl, hv0, hv1, hen4⟩; have hx4 : Ext wv wf := Ext.trans (by first | assumption | exact Ext.drew (Ext.refl _)) hen4; clear gl; have XR := Blk.ext HJ.out hx4))
  refine hK.out _ _ (by (try dsimp only); (first | (with_reducible assumption) | (with_reducible exact Own.drew (Own.refl _ _)) | (with_reducible (apply Own.of_ext; assumption)))) (fun hH1_2 => ?_)
  clear hK K hH1_1
  (try simp only [Act.put, List.setIfInBounds_toArray, List.set_cons_zero, List.set_cons_succ])
  refine wpAnyH_one_l (i := 14) rfl (by kernel_rfl) (fun K hK => ?_)
  go_simp
  (first | (go_at_call 45; ((with_reducible refine (HR1.out _ (HEE.out.trans (by first | assumption | exact Ext.drew (Ext.refl _)))).mono ?_)); rintro e wx ⟨u0, u1, rfl, hu0, hu1, hen1⟩; have hx1 : Ext wv wx := Ext.trans (by first | assumption | exact Ext.drew (Ext.refl _)) hen1) | (go_at_call 44; ((with_reducible refine (H1.out _ _ (HEE.out.trans (by first | assumption | exact Ext.drew (Ext.refl _))) (HTT.out.ext (by first | assumption | exact Ext.drew (Ext.refl _)))).mono ?_)); rintro e wy ⟨m0, m1, rfl, hm0, hm1, hen2⟩; have hx2 : Ext wv wy := Ext.trans (by first | assumption | exact Ext.drew (Ext.refl _)) hen2) | (go_at_call 44; ((with_reducible refine (H2.out _ _ (HEE.out.trans (by first | assumption | exact Ext.drew (Ext.refl _))) (HTT.out.ext (by first | assumption | exact Ext.drew (Ext.refl _)))).mono ?_)); rintro e wz ⟨n0, n1, rfl, hn0, hn1, hen3⟩; have hx3 : Ext wv wz := Ext.trans (by first | assumption | exact Ext.drew (Ext.refl _)) hen3) | (go_at_call 45; ((with_reducible refine (HR2.out _ (HEE.out.trans (by first | assumption | exact Ext.drew (Ext.refl _)))).mono ?_)); rintro e wf ⟨v0, v1, rfl, hv0, hv1, hen4⟩; have hx4 : Ext wv wf := Ext.trans (by first | assumption | exact Ext.drew (Ext.refl _)) hen4; clear gl; have XR := Blk.ext HJ.out hx4))
  refine hK.out _ _ (by (try dsimp only); (first | (with_reducible assumption) | (with_reducible exact Own.drew (Own.refl _ _)) | (with_reducible (apply Own.of_ext; assumption)))) (fun hH1_3 => ?_)
  clear hK K hH1_2
  (try simp only [Act.put, List.setIfInBounds_toArray, List.set_cons_zero, List.set_cons_succ])
  refine wpAnyH_one_l (i := 17) rfl (by kernel_rfl) (fun K hK => ?_)
  go_simp
  (first | (go_at_call 45; ((with_reducible refine (HR1.out _ (HEE.out.trans (by first | assumption | exact Ext.drew (Ext.refl _)))).mono ?_)); rintro e wx ⟨u0, u1, rfl, hu0, hu1, hen1⟩; have hx1 : Ext wv wx := Ext.trans (by first | assumption | exact Ext.drew (Ext.refl _)) hen1) | (go_at_call 44; ((with_reducible refine (H1.out _ _ (HEE.out.trans (by first | assumption | exact Ext.drew (Ext.refl _))) (HTT.out.ext (by first | assumption | exact Ext.drew (Ext.refl _)))).mono ?_)); rintro e wy ⟨m0, m1, rfl, hm0, hm1, hen2⟩; have hx2 : Ext wv wy := Ext.trans (by first | assumption | exact Ext.drew (Ext.refl _)) hen2) | (go_at_call 44; ((with_reducible refine (H2.out _ _ (HEE.out.trans (by first | assumption | exact Ext.drew (Ext.refl _))) (HTT.out.ext (by first | assumption | exact Ext.drew (Ext.refl _)))).mono ?_)); rintro e wz ⟨n0, n1, rfl, hn0, hn1, hen3⟩; have hx3 : Ext wv wz := Ext.trans (by first | assumption | exact Ext.drew (Ext.refl _)) hen3) | (go_at_call 45; ((with_reducible refine (HR2.out _ (HEE.out.trans (by first | assumption | exact Ext.drew (Ext.refl _)))).mono ?_)); rintro e wf ⟨v0, v1, rfl, hv0, hv1, hen4⟩; have hx4 : Ext wv wf := Ext.trans (by first | assumption | exact Ext.drew (Ext.refl _)) hen4; clear gl; have XR := Blk.ext HJ.out hx4))
  refine hK.out _ _ (by (try dsimp only); (first | (with_reducible assumption) | (with_reducible exact Own.drew (Own.refl _ _)) | (with_reducible (apply Own.of_ext; assumption)))) (fun hH1_4 => ?_)
  clear hK K hH1_3
  (try simp only [Act.put, List.setIfInBounds_toArray, List.set_cons_zero, List.set_cons_succ])
  refine wpAnyH_take_l (i := 18) (v := ?v1_18) rfl (by kernel_rfl) (by kernel_rfl) (by kernel_rfl) (fun _ _ _ h => h) (Or.inl ⟨by rfl, ?y1_18⟩) (by assumption) ?r1_18
  case y1_18 => (intro w hSw; (try dsimp only at hSw); go_simp <;> with_reducible rfl)
  (try simp only [Act.put, List.setIfInBounds_toArray, List.set_cons_zero, List.set_cons_succ])
  have o1 := Own.setCells wf R #[.bool u0.n, .slice u0.p u0.l u0.c, .bool u0.m, .slice u0.p2 u0.l2 u0.c2, .bool u1.n, .slice u1.p u1.l u1.c, .bool u1.m, .slice u1.p2 u1.l2 u1.c2, .bool m0.n, .slice m0.p m0.l m0.c, .bool m0.m, .slice m0.p2 m0.l2 m0.c2, .bool m1.n, .slice m1.p m1.l m1.c, .bool m1.m, .slice m1.p2 m1.l2 m1.c2, .bool n0.n, .slice n0.p n0.l n0.c, .bool n0.m, .slice n0.p2 n0.l2 n0.c2, .bool n1.n, .slice n1.p n1.l n1.c, .bool n1.m, .slice n1.p2 n1.l2 n1.c2, .bool v0.n, .slice v0.p v0.l v0.c, .bool v0.m, .slice v0.p2 v0.l2 v0.c2, .bool v1.n, .slice v1.p v1.l v1.c, .bool v1.m, .slice v1.p2 v1.l2 v1.c2]
  have BR := XR.setCells #[.bool u0.n, .slice u0.p u0.l u0.c, .bool u0.m, .slice u0.p2 u0.l2 u0.c2, .bool u1.n, .slice u1.p u1.l u1.c, .bool u1.m, .slice u1.p2 u1.l2 u1.c2, .bool m0.n, .slice m0.p m0.l m0.c, .bool m0.m, .slice m0.p2 m0.l2 m0.c2, .bool m1.n, .slice m1.p m1.l m1.c, .bool m1.m, .slice m1.p2 m1.l2 m1.c2, .bool n0.n, .slice n0.p n0.l n0.c, .bool n0.m, .slice n0.p2 n0.l2 n0.c2, .bool n1.n, .slice n1.p n1.l n1.c, .bool n1.m, .slice n1.p2 n1.l2 n1.c2, .bool v0.n, .slice v0.p v0.l v0.c, .bool v0.m, .slice v0.p2 v0.l2 v0.c2, .bool v1.n, .slice v1.p v1.l v1.c, .bool v1.m, .slice v1.p2 v1.l2 v1.c2] rfl
  have HS1 := Lib.hid (show Own R wv (wf.setCells R 0 (#[.bool u0.n, .slice u0.p u0.l u0.c, .bool u0.m, .slice u0.p2 u0.l2 u0.c2, .bool u1.n, .slice u1.p u1.l u1.c, .bool u1.m, .slice u1.p2 u1.l2 u1.c2, .bool m0.n, .slice m0.p m0.l m0.c, .bool m0.m, .slice m0.p2 m0.l2 m0.c2, .bool m1.n, .slice m1.p m1.l m1.c, .bool m1.m, .slice m1.p2 m1.l2 m1.c2, .bool n0.n, .slice n0.p n0.l n0.c, .bool n0.m, .slice n0.p2 n0.l2 n0.c2, .bool n1.n, .slice n1.p n1.l n1.c, .bool n1.m, .slice n1.p2 n1.l2 n1.c2, .bool v0.n, .slice v0.p v0.l v0.c, .bool v0.m, .slice v0.p2 v0.l2 v0.c2, .bool v1.n, .slice v1.p v1.l v1.c, .bool v1.m, .slice v1.p2 v1.l2 v1.c2] : Array Value).toList) from Own.then_ext' hx4 o1)
  refine wpAnyH_store_l (i := 19) (by rfl) (by kernel_rfl) (by rfl) _ _ _ (by rfl) R _ _ #[.bool u0.n, .slice u0.p u0.l u0.c, .bool u0.m, .slice u0.p2 u0.l2 u0.c2, .bool u1.n, .slice u1.p u1.l u1.c, .bool u1.m, .slice u1.p2 u1.l2 u1.c2, .bool m0.n, .slice m0.p m0.l m0.c, .bool m0.m, .slice m0.p2 m0.l2 m0.c2, .bool m1.n, .slice m1.p m1.l m1.c, .bool m1.m, .slice m1.p2 m1.l2 m1.c2, .bool n0.n, .slice n0.p n0.l n0.c, .bool n0.m, .slice n0.p2 n0.l2 n0.c2, .bool n1.n, .slice n1.p n1.l n1.c, .bool n1.m, .slice n1.p2 n1.l2 n1.c2, .bool v0.n, .slice v0.p v0.l v0.c, .bool v0.m, .slice v0.p2 v0.l2 v0.c2, .bool v1.n, .slice v1.p v1.l v1.c, .bool v1.m, .slice v1.p2 v1.l2 v1.c2] (by rfl) (by rfl) XR rfl (by kernel_rfl) (all_oneCell_toArray (by simp [Value.oneCell'])) HS1.out ?_
  (try simp only [Act.put, List.setIfInBounds_toArray, List.set_cons_zero, List.set_cons_succ])
  refine wpAnyH_done (by kernel_rfl) ?_ _
  have fin : ∀ (r : RV) (q : Rat), r.Is wf q → r.Is (wf.setCells R 0 (#[.bool u0.n, .slice u0.p u0.l u0.c, .bool u0.m, .slice u0.p2 u0.l2 u0.c2, .bool u1.n, .slice u1.p u1.l u1.c, .bool u1.m, .slice u1.p2 u1.l2 u1.c2, .bool m0.n, .slice m0.p m0.l m0.c, .bool m0.m, .slice m0.p2 m0.l2 m0.c2, .bool m1.n, .slice m1.p m1.l m1.c, .bool m1.m, .slice m1.p2 m1.l2 m1.c2, .bool n0.n, .slice n0.p n0.l n0.c, .bool n0.m, .slice n0.p2 n0.l2 n0.c2, .bool n1.n, .slice n1.p n1.l n1.c, .bool n1.m, .slice n1.p2 n1.l2 n1.c2, .bool v0.n, .slice v0.p v0.l v0.c, .bool v0.m, .slice v0.p2 v0.l2 v0.c2, .bool v1.n, .slice v1.p v1.l v1.c, .bool v1.m, .slice v1.p2 v1.l2 v1.c2] : Array Value).toList) q := fun r q h => h.own XR noU32z o1
  have ex := o1.ext (HEE.out.trans hx4) (by rw [HAA.out]; have := HLT.out; omega)
  generalize (wf.setCells R 0 (#[.bool u0.n, .slice u0.p u0.l u0.c, .bool u0.m, .slice u0.p2 u0.l2 u0.c2, .bool u1.n, .slice u1.p u1.l u1.c, .bool u1.m, .slice u1.p2 u1.l2 u1.c2, .bool m0.n, .slice m0.p m0.l m0.c, .bool m0.m, .slice m0.p2 m0.l2 m0.c2, .bool m1.n, .slice m1.p m1.l m1.c, .bool m1.m, .slice m1.p2 m1.l2 m1.c2, .bool n0.n, .slice n0.p n0.l n0.c, .bool n0.m, .slice n0.p2 n0.l2 n0.c2, .bool n1.n, .slice n1.p n1.l n1.c, .bool n1.m, .slice n1.p2 n1.l2 n1.c2, .bool v0.n, .slice v0.p v0.l v0.c, .bool v0.m, .slice v0.p2 v0.l2 v0.c2, .bool v1.n, .slice v1.p v1.l v1.c, .bool v1.m, .slice v1.p2 v1.l2 v1.c2] : Array Value).toList) = wg at *
  have HF2 := Lib.hid (And.intro fin ex)
  clear fin ex o1 HS1 XR
  go_wp2_with fail
  refine bodyPost_ret (v := .agg #[.bool u0.n, .slice u0.p u0.l u0.c, .bool u0.m, .slice u0.p2 u0.l2 u0.c2, .bool u1.n, .slice u1.p u1.l u1.c, .bool u1.m, .slice u1.p2 u1.l2 u1.c2, .bool m0.n, .slice m0.p m0.l m0.c, .bool m0.m, .slice m0.p2 m0.l2 m0.c2, .bool m1.n, .slice m1.p m1.l m1.c, .bool m1.m, .slice m1.p2 m1.l2 m1.c2, .bool n0.n, .slice n0.p n0.l n0.c, .bool n0.m, .slice n0.p2 n0.l2 n0.c2, .bool n1.n, .slice n1.p n1.l n1.c, .bool n1.m, .slice n1.p2 n1.l2 n1.c2, .bool v0.n, .slice v0.p v0.l v0.c, .bool v0.m, .slice v0.p2 v0.l2 v0.c2, .bool v1.n, .slice v1.p v1.l v1.c, .bool v1.m, .slice v1.p2 v1.l2 v1.c2]) ?_ rfl ⟨u0, u1, m0, m1, n0, n1, v0, v1, rfl, ⟨HF2.out.1 _ _ (hu0.ext (hen2.trans (hen3.trans hen4))), HF2.out.1 _ _ (hu1.ext (hen2.trans (hen3.trans hen4))), HF2.out.1 _ _ (hm0.ext (hen3.trans hen4)), HF2.out.1 _ _ (hm1.ext (hen3.trans hen4)), HF2.out.1 _ _ (hn0.ext hen4), HF2.out.1 _ _ (hn1.ext hen4), HF2.out.1 _ _ (hv0), HF2.out.1 _ _ (hv1)⟩, HF2.out.2⟩
  exact results_cell1 rfl rfl (BR.loadVar rfl rfl rfl)
end Go.Proofs.Ytllpkoinjompcaa

namespace Go.Proofs.Ytllpkoinjompcaa
open Go.RowKit

/-- The cells are a rational number, at most L digits each. -/
def NIn (L : Nat) (w : World) (cs : Array Value) (q : Rat) : Prop := ∃ a : RV, cs = #[.bool a.n, .slice a.p a.l a.c, .bool a.m, .slice a.p2 a.l2 a.c2] ∧ a.In L w q
/-- .. normalized. -/
def NIs (w : World) (cs : Array Value) (q : Rat) : Prop := ∃ a : RV, cs = #[.bool a.n, .slice a.p a.l a.c, .bool a.m, .slice a.p2 a.l2 a.c2] ∧ a.Is w q
theorem NIn.ext {L : Nat} {w w' : World} {cs : Array Value} {q : Rat} (h : NIn L w cs q) (e : Ext w w') : NIn L w' cs q := by obtain ⟨a, h1, h2⟩ := h; exact ⟨a, h1, h2.ext e⟩
theorem NIs.ext {w w' : World} {cs : Array Value} {q : Rat} (h : NIs w cs q) (e : Ext w w') : NIs w' cs q := by obtain ⟨a, h1, h2⟩ := h; exact ⟨a, h1, h2.ext e⟩
theorem NIs.isIn {L : Nat} {w : World} {cs : Array Value} {q : Rat} (h : NIs w cs q) (hl : Nm.rl q ≤ L) : NIn L w cs q := by obtain ⟨a, h1, h2⟩ := h; exact ⟨a, h1, h2.isIn hl⟩
theorem NIn.mono {L M : Nat} {w : World} {cs : Array Value} {q : Rat} (h : NIn L w cs q) (hl : L ≤ M) : NIn M w cs q := by obtain ⟨a, h1, h2⟩ := h; exact ⟨a, h1, h2.mono hl⟩
theorem NIn.rl {L : Nat} {w : World} {cs : Array Value} {q : Rat} (h : NIn L w cs q) (h1 : 1 ≤ L) : Nm.rl q ≤ L := by obtain ⟨a, _, h2⟩ := h; have := h2.rl; omega
theorem NIn.size {L : Nat} {w : World} {cs : Array Value} {q : Rat} (h : NIn L w cs q) : cs.size = 4 := by obtain ⟨a, rfl, _⟩ := h; rfl
theorem NIs.size {w : World} {cs : Array Value} {q : Rat} (h : NIs w cs q) : cs.size = 4 := by obtain ⟨a, rfl, _⟩ := h; rfl
theorem NIs.one {w : World} {cs : Array Value} {q : Rat} (h : NIs w cs q) : cs.all (·.oneCell') = true := by obtain ⟨a, rfl, _⟩ := h; exact all_oneCell_toArray (by simp [Value.oneCell'])

def PtIn (L : Nat) (w : World) (cs : Array Value) (A0 A1 : Rat) : Prop := ∃ a0 a1 : RV, cs = #[.bool a0.n, .slice a0.p a0.l a0.c, .bool a0.m, .slice a0.p2 a0.l2 a0.c2, .bool a1.n, .slice a1.p a1.l a1.c, .bool a1.m, .slice a1.p2 a1.l2 a1.c2] ∧ a0.In L w A0 ∧ a1.In L w A1
theorem PtIn.ext {L : Nat} {w : World} {cs : Array Value} {A0 A1 : Rat} {w' : World} (h : PtIn L w cs A0 A1) (x : Ext w w') : PtIn L w' cs A0 A1 := by obtain ⟨a0, a1, e, h0, h1⟩ := h; exact ⟨a0, a1, e, h0.ext x, h1.ext x⟩
theorem PtIn.size {L : Nat} {w : World} {cs : Array Value} {A0 A1 : Rat} (h : PtIn L w cs A0 A1) : cs.size = 8 := by obtain ⟨a0, a1, e, h0, h1⟩ := h; rw [e]; rfl
theorem PtIn.one {L : Nat} {w : World} {cs : Array Value} {A0 A1 : Rat} (h : PtIn L w cs A0 A1) : cs.all (·.oneCell') = true := by obtain ⟨a0, a1, e, h0, h1⟩ := h; rw [e]; exact all_oneCell_toArray (by simp [Value.oneCell'])
theorem PtIn.c0 {L : Nat} {w : World} {cs : Array Value} {A0 A1 : Rat} (h : PtIn L w cs A0 A1) : NIn L w (cs.extract 0 (0 + 4)) A0 := by obtain ⟨a0, a1, e, h0, h1⟩ := h; exact ⟨a0, by rw [e]; rfl, h0⟩
theorem PtIn.c1 {L : Nat} {w : World} {cs : Array Value} {A0 A1 : Rat} (h : PtIn L w cs A0 A1) : NIn L w (cs.extract 4 (4 + 4)) A1 := by obtain ⟨a0, a1, e, h0, h1⟩ := h; exact ⟨a1, by rw [e]; rfl, h1⟩
theorem PtIn.mono {L : Nat} {w : World} {cs : Array Value} {A0 A1 : Rat} {M : Nat} (h : PtIn L w cs A0 A1) (hl : L ≤ M) : PtIn M w cs A0 A1 := by obtain ⟨a0, a1, e, h0, h1⟩ := h; exact ⟨a0, a1, e, h0.mono hl, h1.mono hl⟩
def PtIs (w : World) (cs : Array Value) (A0 A1 : Rat) : Prop := ∃ a0 a1 : RV, cs = #[.bool a0.n, .slice a0.p a0.l a0.c, .bool a0.m, .slice a0.p2 a0.l2 a0.c2, .bool a1.n, .slice a1.p a1.l a1.c, .bool a1.m, .slice a1.p2 a1.l2 a1.c2] ∧ a0.Is w A0 ∧ a1.Is w A1
theorem PtIs.ext {w : World} {cs : Array Value} {A0 A1 : Rat} {w' : World} (h : PtIs w cs A0 A1) (x : Ext w w') : PtIs w' cs A0 A1 := by obtain ⟨a0, a1, e, h0, h1⟩ := h; exact ⟨a0, a1, e, h0.ext x, h1.ext x⟩
theorem PtIs.size {w : World} {cs : Array Value} {A0 A1 : Rat} (h : PtIs w cs A0 A1) : cs.size = 8 := by obtain ⟨a0, a1, e, h0, h1⟩ := h; rw [e]; rfl
theorem PtIs.one {w : World} {cs : Array Value} {A0 A1 : Rat} (h : PtIs w cs A0 A1) : cs.all (·.oneCell') = true := by obtain ⟨a0, a1, e, h0, h1⟩ := h; rw [e]; exact all_oneCell_toArray (by simp [Value.oneCell'])
theorem PtIs.map {w : World} {cs : Array Value} {A0 A1 : Rat} {w' : World} (h : PtIs w cs A0 A1) (x : ∀ (r : RV) (q : Rat), r.Is w q → r.Is w' q) : PtIs w' cs A0 A1 := by obtain ⟨a0, a1, e, h0, h1⟩ := h; exact ⟨a0, a1, e, x _ _ h0, x _ _ h1⟩
theorem PtIs.c0 {w : World} {cs : Array Value} {A0 A1 : Rat} (h : PtIs w cs A0 A1) : NIs w (cs.extract 0 (0 + 4)) A0 := by obtain ⟨a0, a1, e, h0, h1⟩ := h; exact ⟨a0, by rw [e]; rfl, h0⟩
theorem PtIs.c1 {w : World} {cs : Array Value} {A0 A1 : Rat} (h : PtIs w cs A0 A1) : NIs w (cs.extract 4 (4 + 4)) A1 := by obtain ⟨a0, a1, e, h0, h1⟩ := h; exact ⟨a1, by rw [e]; rfl, h1⟩
def Q3In (L : Nat) (w : World) (cs : Array Value) (A0 A1 B0 B1 C0 C1 : Rat) : Prop := ∃ a0 a1 b0 b1 c0 c1 : RV, cs = #[.bool a0.n, .slice a0.p a0.l a0.c, .bool a0.m, .slice a0.p2 a0.l2 a0.c2, .bool a1.n, .slice a1.p a1.l a1.c, .bool a1.m, .slice a1.p2 a1.l2 a1.c2, .bool b0.n, .slice b0.p b0.l b0.c, .bool b0.m, .slice b0.p2 b0.l2 b0.c2, .bool b1.n, .slice b1.p b1.l b1.c, .bool b1.m, .slice b1.p2 b1.l2 b1.c2, .bool c0.n, .slice c0.p c0.l c0.c, .bool c0.m, .slice c0.p2 c0.l2 c0.c2, .bool c1.n, .slice c1.p c1.l c1.c, .bool c1.m, .slice c1.p2 c1.l2 c1.c2] ∧ a0.In L w A0 ∧ a1.In L w A1 ∧ b0.In L w B0 ∧ b1.In L w B1 ∧ c0.In L w C0 ∧ c1.In L w C1
theorem Q3In.ext {L : Nat} {w : World} {cs : Array Value} {A0 A1 B0 B1 C0 C1 : Rat} {w' : World} (h : Q3In L w cs A0 A1 B0 B1 C0 C1) (x : Ext w w') : Q3In L w' cs A0 A1 B0 B1 C0 C1 := by obtain ⟨a0, a1, b0, b1, c0, c1, e, h0, h1, h2, h3, h4, h5⟩ := h; exact ⟨a0, a1, b0, b1, c0, c1, e, h0.ext x, h1.ext x, h2.ext x, h3.ext x, h4.ext x, h5.ext x⟩
theorem Q3In.size {L : Nat} {w : World} {cs : Array Value} {A0 A1 B0 B1 C0 C1 : Rat} (h : Q3In L w cs A0 A1 B0 B1 C0 C1) : cs.size = 24 := by obtain ⟨a0, a1, b0, b1, c0, c1, e, h0, h1, h2, h3, h4, h5⟩ := h; rw [e]; rfl
theorem Q3In.one {L : Nat} {w : World} {cs : Array Value} {A0 A1 B0 B1 C0 C1 : Rat} (h : Q3In L w cs A0 A1 B0 B1 C0 C1) : cs.all (·.oneCell') = true := by obtain ⟨a0, a1, b0, b1, c0, c1, e, h0, h1, h2, h3, h4, h5⟩ := h; rw [e]; exact all_oneCell_toArray (by simp [Value.oneCell'])
theorem Q3In.e0 {L : Nat} {w : World} {cs : Array Value} {A0 A1 B0 B1 C0 C1 : Rat} (h : Q3In L w cs A0 A1 B0 B1 C0 C1) : NIn L w (cs.extract 0 (0 + 4)) A0 := by obtain ⟨a0, a1, b0, b1, c0, c1, e, h0, h1, h2, h3, h4, h5⟩ := h; exact ⟨a0, by rw [e]; rfl, h0⟩
theorem Q3In.e1 {L : Nat} {w : World} {cs : Array Value} {A0 A1 B0 B1 C0 C1 : Rat} (h : Q3In L w cs A0 A1 B0 B1 C0 C1) : NIn L w (cs.extract 4 (4 + 4)) A1 := by obtain ⟨a0, a1, b0, b1, c0, c1, e, h0, h1, h2, h3, h4, h5⟩ := h; exact ⟨a1, by rw [e]; rfl, h1⟩
theorem Q3In.e2 {L : Nat} {w : World} {cs : Array Value} {A0 A1 B0 B1 C0 C1 : Rat} (h : Q3In L w cs A0 A1 B0 B1 C0 C1) : NIn L w (cs.extract 8 (8 + 4)) B0 := by obtain ⟨a0, a1, b0, b1, c0, c1, e, h0, h1, h2, h3, h4, h5⟩ := h; exact ⟨b0, by rw [e]; rfl, h2⟩
theorem Q3In.e3 {L : Nat} {w : World} {cs : Array Value} {A0 A1 B0 B1 C0 C1 : Rat} (h : Q3In L w cs A0 A1 B0 B1 C0 C1) : NIn L w (cs.extract 12 (12 + 4)) B1 := by obtain ⟨a0, a1, b0, b1, c0, c1, e, h0, h1, h2, h3, h4, h5⟩ := h; exact ⟨b1, by rw [e]; rfl, h3⟩
theorem Q3In.e4 {L : Nat} {w : World} {cs : Array Value} {A0 A1 B0 B1 C0 C1 : Rat} (h : Q3In L w cs A0 A1 B0 B1 C0 C1) : NIn L w (cs.extract 16 (16 + 4)) C0 := by obtain ⟨a0, a1, b0, b1, c0, c1, e, h0, h1, h2, h3, h4, h5⟩ := h; exact ⟨c0, by rw [e]; rfl, h4⟩
theorem Q3In.e5 {L : Nat} {w : World} {cs : Array Value} {A0 A1 B0 B1 C0 C1 : Rat} (h : Q3In L w cs A0 A1 B0 B1 C0 C1) : NIn L w (cs.extract 20 (20 + 4)) C1 := by obtain ⟨a0, a1, b0, b1, c0, c1, e, h0, h1, h2, h3, h4, h5⟩ := h; exact ⟨c1, by rw [e]; rfl, h5⟩
theorem Q3In.p0 {L : Nat} {w : World} {cs : Array Value} {A0 A1 B0 B1 C0 C1 : Rat} (h : Q3In L w cs A0 A1 B0 B1 C0 C1) : PtIn L w (cs.extract 0 (0 + 8)) A0 A1 := by obtain ⟨a0, a1, b0, b1, c0, c1, e, h0, h1, h2, h3, h4, h5⟩ := h; exact ⟨a0, a1, by rw [e]; rfl, h0, h1⟩
theorem Q3In.p1 {L : Nat} {w : World} {cs : Array Value} {A0 A1 B0 B1 C0 C1 : Rat} (h : Q3In L w cs A0 A1 B0 B1 C0 C1) : PtIn L w (cs.extract 8 (8 + 8)) B0 B1 := by obtain ⟨a0, a1, b0, b1, c0, c1, e, h0, h1, h2, h3, h4, h5⟩ := h; exact ⟨b0, b1, by rw [e]; rfl, h2, h3⟩
theorem Q3In.p2 {L : Nat} {w : World} {cs : Array Value} {A0 A1 B0 B1 C0 C1 : Rat} (h : Q3In L w cs A0 A1 B0 B1 C0 C1) : PtIn L w (cs.extract 16 (16 + 8)) C0 C1 := by obtain ⟨a0, a1, b0, b1, c0, c1, e, h0, h1, h2, h3, h4, h5⟩ := h; exact ⟨c0, c1, by rw [e]; rfl, h4, h5⟩
theorem Q3In.mono {L : Nat} {w : World} {cs : Array Value} {A0 A1 B0 B1 C0 C1 : Rat} {M : Nat} (h : Q3In L w cs A0 A1 B0 B1 C0 C1) (hl : L ≤ M) : Q3In M w cs A0 A1 B0 B1 C0 C1 := by obtain ⟨a0, a1, b0, b1, c0, c1, e, h0, h1, h2, h3, h4, h5⟩ := h; exact ⟨a0, a1, b0, b1, c0, c1, e, h0.mono hl, h1.mono hl, h2.mono hl, h3.mono hl, h4.mono hl, h5.mono hl⟩
def Q3Is (w : World) (cs : Array Value) (A0 A1 B0 B1 C0 C1 : Rat) : Prop := ∃ a0 a1 b0 b1 c0 c1 : RV, cs = #[.bool a0.n, .slice a0.p a0.l a0.c, .bool a0.m, .slice a0.p2 a0.l2 a0.c2, .bool a1.n, .slice a1.p a1.l a1.c, .bool a1.m, .slice a1.p2 a1.l2 a1.c2, .bool b0.n, .slice b0.p b0.l b0.c, .bool b0.m, .slice b0.p2 b0.l2 b0.c2, .bool b1.n, .slice b1.p b1.l b1.c, .bool b1.m, .slice b1.p2 b1.l2 b1.c2, .bool c0.n, .slice c0.p c0.l c0.c, .bool c0.m, .slice c0.p2 c0.l2 c0.c2, .bool c1.n, .slice c1.p c1.l c1.c, .bool c1.m, .slice c1.p2 c1.l2 c1.c2] ∧ a0.Is w A0 ∧ a1.Is w A1 ∧ b0.Is w B0 ∧ b1.Is w B1 ∧ c0.Is w C0 ∧ c1.Is w C1
theorem Q3Is.ext {w : World} {cs : Array Value} {A0 A1 B0 B1 C0 C1 : Rat} {w' : World} (h : Q3Is w cs A0 A1 B0 B1 C0 C1) (x : Ext w w') : Q3Is w' cs A0 A1 B0 B1 C0 C1 := by obtain ⟨a0, a1, b0, b1, c0, c1, e, h0, h1, h2, h3, h4, h5⟩ := h; exact ⟨a0, a1, b0, b1, c0, c1, e, h0.ext x, h1.ext x, h2.ext x, h3.ext x, h4.ext x, h5.ext x⟩
theorem Q3Is.size {w : World} {cs : Array Value} {A0 A1 B0 B1 C0 C1 : Rat} (h : Q3Is w cs A0 A1 B0 B1 C0 C1) : cs.size = 24 := by obtain ⟨a0, a1, b0, b1, c0, c1, e, h0, h1, h2, h3, h4, h5⟩ := h; rw [e]; rfl
theorem Q3Is.one {w : World} {cs : Array Value} {A0 A1 B0 B1 C0 C1 : Rat} (h : Q3Is w cs A0 A1 B0 B1 C0 C1) : cs.all (·.oneCell') = true := by obtain ⟨a0, a1, b0, b1, c0, c1, e, h0, h1, h2, h3, h4, h5⟩ := h; rw [e]; exact all_oneCell_toArray (by simp [Value.oneCell'])
theorem Q3Is.map {w : World} {cs : Array Value} {A0 A1 B0 B1 C0 C1 : Rat} {w' : World} (h : Q3Is w cs A0 A1 B0 B1 C0 C1) (x : ∀ (r : RV) (q : Rat), r.Is w q → r.Is w' q) : Q3Is w' cs A0 A1 B0 B1 C0 C1 := by obtain ⟨a0, a1, b0, b1, c0, c1, e, h0, h1, h2, h3, h4, h5⟩ := h; exact ⟨a0, a1, b0, b1, c0, c1, e, x _ _ h0, x _ _ h1, x _ _ h2, x _ _ h3, x _ _ h4, x _ _ h5⟩
theorem Q3Is.e0 {w : World} {cs : Array Value} {A0 A1 B0 B1 C0 C1 : Rat} (h : Q3Is w cs A0 A1 B0 B1 C0 C1) : NIs w (cs.extract 0 (0 + 4)) A0 := by obtain ⟨a0, a1, b0, b1, c0, c1, e, h0, h1, h2, h3, h4, h5⟩ := h; exact ⟨a0, by rw [e]; rfl, h0⟩
theorem Q3Is.e1 {w : World} {cs : Array Value} {A0 A1 B0 B1 C0 C1 : Rat} (h : Q3Is w cs A0 A1 B0 B1 C0 C1) : NIs w (cs.extract 4 (4 + 4)) A1 := by obtain ⟨a0, a1, b0, b1, c0, c1, e, h0, h1, h2, h3, h4, h5⟩ := h; exact ⟨a1, by rw [e]; rfl, h1⟩
theorem Q3Is.e2 {w : World} {cs : Array Value} {A0 A1 B0 B1 C0 C1 : Rat} (h : Q3Is w cs A0 A1 B0 B1 C0 C1) : NIs w (cs.extract 8 (8 + 4)) B0 := by obtain ⟨a0, a1, b0, b1, c0, c1, e, h0, h1, h2, h3, h4, h5⟩ := h; exact ⟨b0, by rw [e]; rfl, h2⟩
theorem Q3Is.e3 {w : World} {cs : Array Value} {A0 A1 B0 B1 C0 C1 : Rat} (h : Q3Is w cs A0 A1 B0 B1 C0 C1) : NIs w (cs.extract 12 (12 + 4)) B1 := by obtain ⟨a0, a1, b0, b1, c0, c1, e, h0, h1, h2, h3, h4, h5⟩ := h; exact ⟨b1, by rw [e]; rfl, h3⟩
theorem Q3Is.e4 {w : World} {cs : Array Value} {A0 A1 B0 B1 C0 C1 : Rat} (h : Q3Is w cs A0 A1 B0 B1 C0 C1) : NIs w (cs.extract 16 (16 + 4)) C0 := by obtain ⟨a0, a1, b0, b1, c0, c1, e, h0, h1, h2, h3, h4, h5⟩ := h; exact ⟨c0, by rw [e]; rfl, h4⟩
theorem Q3Is.e5 {w : World} {cs : Array Value} {A0 A1 B0 B1 C0 C1 : Rat} (h : Q3Is w cs A0 A1 B0 B1 C0 C1) : NIs w (cs.extract 20 (20 + 4)) C1 := by obtain ⟨a0, a1, b0, b1, c0, c1, e, h0, h1, h2, h3, h4, h5⟩ := h; exact ⟨c1, by rw [e]; rfl, h5⟩
theorem Q3Is.p0 {w : World} {cs : Array Value} {A0 A1 B0 B1 C0 C1 : Rat} (h : Q3Is w cs A0 A1 B0 B1 C0 C1) : PtIs w (cs.extract 0 (0 + 8)) A0 A1 := by obtain ⟨a0, a1, b0, b1, c0, c1, e, h0, h1, h2, h3, h4, h5⟩ := h; exact ⟨a0, a1, by rw [e]; rfl, h0, h1⟩
theorem Q3Is.p1 {w : World} {cs : Array Value} {A0 A1 B0 B1 C0 C1 : Rat} (h : Q3Is w cs A0 A1 B0 B1 C0 C1) : PtIs w (cs.extract 8 (8 + 8)) B0 B1 := by obtain ⟨a0, a1, b0, b1, c0, c1, e, h0, h1, h2, h3, h4, h5⟩ := h; exact ⟨b0, b1, by rw [e]; rfl, h2, h3⟩
theorem Q3Is.p2 {w : World} {cs : Array Value} {A0 A1 B0 B1 C0 C1 : Rat} (h : Q3Is w cs A0 A1 B0 B1 C0 C1) : PtIs w (cs.extract 16 (16 + 8)) C0 C1 := by obtain ⟨a0, a1, b0, b1, c0, c1, e, h0, h1, h2, h3, h4, h5⟩ := h; exact ⟨c0, c1, by rw [e]; rfl, h4, h5⟩
def C4In (L : Nat) (w : World) (cs : Array Value) (A0 A1 B0 B1 C0 C1 D0 D1 : Rat) : Prop := ∃ a0 a1 b0 b1 c0 c1 d0 d1 : RV, cs = #[.bool a0.n, .slice a0.p a0.l a0.c, .bool a0.m, .slice a0.p2 a0.l2 a0.c2, .bool a1.n, .slice a1.p a1.l a1.c, .bool a1.m, .slice a1.p2 a1.l2 a1.c2, .bool b0.n, .slice b0.p b0.l b0.c, .bool b0.m, .slice b0.p2 b0.l2 b0.c2, .bool b1.n, .slice b1.p b1.l b1.c, .bool b1.m, .slice b1.p2 b1.l2 b1.c2, .bool c0.n, .slice c0.p c0.l c0.c, .bool c0.m, .slice c0.p2 c0.l2 c0.c2, .bool c1.n, .slice c1.p c1.l c1.c, .bool c1.m, .slice c1.p2 c1.l2 c1.c2, .bool d0.n, .slice d0.p d0.l d0.c, .bool d0.m, .slice d0.p2 d0.l2 d0.c2, .bool d1.n, .slice d1.p d1.l d1.c, .bool d1.m, .slice d1.p2 d1.l2 d1.c2] ∧ a0.In L w A0 ∧ a1.In L w A1 ∧ b0.In L w B0 ∧ b1.In L w B1 ∧ c0.In L w C0 ∧ c1.In L w C1 ∧ d0.In L w D0 ∧ d1.In L w D1
theorem C4In.ext {L : Nat} {w : World} {cs : Array Value} {A0 A1 B0 B1 C0 C1 D0 D1 : Rat} {w' : World} (h : C4In L w cs A0 A1 B0 B1 C0 C1 D0 D1) (x : Ext w w') : C4In L w' cs A0 A1 B0 B1 C0 C1 D0 D1 := by obtain ⟨a0, a1, b0, b1, c0, c1, d0, d1, e, h0, h1, h2, h3, h4, h5, h6, h7⟩ := h; exact ⟨a0, a1, b0, b1, c0, c1, d0, d1, e, h0.ext x, h1.ext x, h2.ext x, h3.ext x, h4.ext x, h5.ext x, h6.ext x, h7.ext x⟩
theorem C4In.size {L : Nat} {w : World} {cs : Array Value} {A0 A1 B0 B1 C0 C1 D0 D1 : Rat} (h : C4In L w cs A0 A1 B0 B1 C0 C1 D0 D1) : cs.size = 32 := by obtain ⟨a0, a1, b0, b1, c0, c1, d0, d1, e, h0, h1, h2, h3, h4, h5, h6, h7⟩ := h; rw [e]; rfl
theorem C4In.one {L : Nat} {w : World} {cs : Array Value} {A0 A1 B0 B1 C0 C1 D0 D1 : Rat} (h : C4In L w cs A0 A1 B0 B1 C0 C1 D0 D1) : cs.all (·.oneCell') = true := by obtain ⟨a0, a1, b0, b1, c0, c1, d0, d1, e, h0, h1, h2, h3, h4, h5, h6, h7⟩ := h; rw [e]; exact all_oneCell_toArray (by simp [Value.oneCell'])
theorem C4In.e0 {L : Nat} {w : World} {cs : Array Value} {A0 A1 B0 B1 C0 C1 D0 D1 : Rat} (h : C4In L w cs A0 A1 B0 B1 C0 C1 D0 D1) : NIn L w (cs.extract 0 (0 + 4)) A0 := by obtain ⟨a0, a1, b0, b1, c0, c1, d0, d1, e, h0, h1, h2, h3, h4, h5, h6, h7⟩ := h; exact ⟨a0, by rw [e]; rfl, h0⟩
theorem C4In.e1 {L : Nat} {w : World} {cs : Array Value} {A0 A1 B0 B1 C0 C1 D0 D1 : Rat} (h : C4In L w cs A0 A1 B0 B1 C0 C1 D0 D1) : NIn L w (cs.extract 4 (4 + 4)) A1 := by obtain ⟨a0, a1, b0, b1, c0, c1, d0, d1, e, h0, h1, h2, h3, h4, h5, h6, h7⟩ := h; exact ⟨a1, by rw [e]; rfl, h1⟩
theorem C4In.e2 {L : Nat} {w : World} {cs : Array Value} {A0 A1 B0 B1 C0 C1 D0 D1 : Rat} (h : C4In L w cs A0 A1 B0 B1 C0 C1 D0 D1) : NIn L w (cs.extract 8 (8 + 4)) B0 := by obtain ⟨a0, a1, b0, b1, c0, c1, d0, d1, e, h0, h1, h2, h3, h4, h5, h6, h7⟩ := h; exact ⟨b0, by rw [e]; rfl, h2⟩
theorem C4In.e3 {L : Nat} {w : World} {cs : Array Value} {A0 A1 B0 B1 C0 C1 D0 D1 : Rat} (h : C4In L w cs A0 A1 B0 B1 C0 C1 D0 D1) : NIn L w (cs.extract 12 (12 + 4)) B1 := by obtain ⟨a0, a1, b0, b1, c0, c1, d0, d1, e, h0, h1, h2, h3, h4, h5, h6, h7⟩ := h; exact ⟨b1, by rw [e]; rfl, h3⟩
theorem C4In.e4 {L : Nat} {w : World} {cs : Array Value} {A0 A1 B0 B1 C0 C1 D0 D1 : Rat} (h : C4In L w cs A0 A1 B0 B1 C0 C1 D0 D1) : NIn L w (cs.extract 16 (16 + 4)) C0 := by obtain ⟨a0, a1, b0, b1, c0, c1, d0, d1, e, h0, h1, h2, h3, h4, h5, h6, h7⟩ := h; exact ⟨c0, by rw [e]; rfl, h4⟩
theorem C4In.e5 {L : Nat} {w : World} {cs : Array Value} {A0 A1 B0 B1 C0 C1 D0 D1 : Rat} (h : C4In L w cs A0 A1 B0 B1 C0 C1 D0 D1) : NIn L w (cs.extract 20 (20 + 4)) C1 := by obtain ⟨a0, a1, b0, b1, c0, c1, d0, d1, e, h0, h1, h2, h3, h4, h5, h6, h7⟩ := h; exact ⟨c1, by rw [e]; rfl, h5⟩
theorem C4In.e6 {L : Nat} {w : World} {cs : Array Value} {A0 A1 B0 B1 C0 C1 D0 D1 : Rat} (h : C4In L w cs A0 A1 B0 B1 C0 C1 D0 D1) : NIn L w (cs.extract 24 (24 + 4)) D0 := by obtain ⟨a0, a1, b0, b1, c0, c1, d0, d1, e, h0, h1, h2, h3, h4, h5, h6, h7⟩ := h; exact ⟨d0, by rw [e]; rfl, h6⟩
theorem C4In.e7 {L : Nat} {w : World} {cs : Array Value} {A0 A1 B0 B1 C0 C1 D0 D1 : Rat} (h : C4In L w cs A0 A1 B0 B1 C0 C1 D0 D1) : NIn L w (cs.extract 28 (28 + 4)) D1 := by obtain ⟨a0, a1, b0, b1, c0, c1, d0, d1, e, h0, h1, h2, h3, h4, h5, h6, h7⟩ := h; exact ⟨d1, by rw [e]; rfl, h7⟩
theorem C4In.p0 {L : Nat} {w : World} {cs : Array Value} {A0 A1 B0 B1 C0 C1 D0 D1 : Rat} (h : C4In L w cs A0 A1 B0 B1 C0 C1 D0 D1) : PtIn L w (cs.extract 0 (0 + 8)) A0 A1 := by obtain ⟨a0, a1, b0, b1, c0, c1, d0, d1, e, h0, h1, h2, h3, h4, h5, h6, h7⟩ := h; exact ⟨a0, a1, by rw [e]; rfl, h0, h1⟩
theorem C4In.p1 {L : Nat} {w : World} {cs : Array Value} {A0 A1 B0 B1 C0 C1 D0 D1 : Rat} (h : C4In L w cs A0 A1 B0 B1 C0 C1 D0 D1) : PtIn L w (cs.extract 8 (8 + 8)) B0 B1 := by obtain ⟨a0, a1, b0, b1, c0, c1, d0, d1, e, h0, h1, h2, h3, h4, h5, h6, h7⟩ := h; exact ⟨b0, b1, by rw [e]; rfl, h2, h3⟩
theorem C4In.p2 {L : Nat} {w : World} {cs : Array Value} {A0 A1 B0 B1 C0 C1 D0 D1 : Rat} (h : C4In L w cs A0 A1 B0 B1 C0 C1 D0 D1) : PtIn L w (cs.extract 16 (16 + 8)) C0 C1 := by obtain ⟨a0, a1, b0, b1, c0, c1, d0, d1, e, h0, h1, h2, h3, h4, h5, h6, h7⟩ := h; exact ⟨c0, c1, by rw [e]; rfl, h4, h5⟩
theorem C4In.p3 {L : Nat} {w : World} {cs : Array Value} {A0 A1 B0 B1 C0 C1 D0 D1 : Rat} (h : C4In L w cs A0 A1 B0 B1 C0 C1 D0 D1) : PtIn L w (cs.extract 24 (24 + 8)) D0 D1 := by obtain ⟨a0, a1, b0, b1, c0, c1, d0, d1, e, h0, h1, h2, h3, h4, h5, h6, h7⟩ := h; exact ⟨d0, d1, by rw [e]; rfl, h6, h7⟩
theorem C4In.mono {L : Nat} {w : World} {cs : Array Value} {A0 A1 B0 B1 C0 C1 D0 D1 : Rat} {M : Nat} (h : C4In L w cs A0 A1 B0 B1 C0 C1 D0 D1) (hl : L ≤ M) : C4In M w cs A0 A1 B0 B1 C0 C1 D0 D1 := by obtain ⟨a0, a1, b0, b1, c0, c1, d0, d1, e, h0, h1, h2, h3, h4, h5, h6, h7⟩ := h; exact ⟨a0, a1, b0, b1, c0, c1, d0, d1, e, h0.mono hl, h1.mono hl, h2.mono hl, h3.mono hl, h4.mono hl, h5.mono hl, h6.mono hl, h7.mono hl⟩
def C4Is (w : World) (cs : Array Value) (A0 A1 B0 B1 C0 C1 D0 D1 : Rat) : Prop := ∃ a0 a1 b0 b1 c0 c1 d0 d1 : RV, cs = #[.bool a0.n, .slice a0.p a0.l a0.c, .bool a0.m, .slice a0.p2 a0.l2 a0.c2, .bool a1.n, .slice a1.p a1.l a1.c, .bool a1.m, .slice a1.p2 a1.l2 a1.c2, .bool b0.n, .slice b0.p b0.l b0.c, .bool b0.m, .slice b0.p2 b0.l2 b0.c2, .bool b1.n, .slice b1.p b1.l b1.c, .bool b1.m, .slice b1.p2 b1.l2 b1.c2, .bool c0.n, .slice c0.p c0.l c0.c, .bool c0.m, .slice c0.p2 c0.l2 c0.c2, .bool c1.n, .slice c1.p c1.l c1.c, .bool c1.m, .slice c1.p2 c1.l2 c1.c2, .bool d0.n, .slice d0.p d0.l d0.c, .bool d0.m, .slice d0.p2 d0.l2 d0.c2, .bool d1.n, .slice d1.p d1.l d1.c, .bool d1.m, .slice d1.p2 d1.l2 d1.c2] ∧ a0.Is w A0 ∧ a1.Is w A1 ∧ b0.Is w B0 ∧ b1.Is w B1 ∧ c0.Is w C0 ∧ c1.Is w C1 ∧ d0.Is w D0 ∧ d1.Is w D1
theorem C4Is.ext {w : World} {cs : Array Value} {A0 A1 B0 B1 C0 C1 D0 D1 : Rat} {w' : World} (h : C4Is w cs A0 A1 B0 B1 C0 C1 D0 D1) (x : Ext w w') : C4Is w' cs A0 A1 B0 B1 C0 C1 D0 D1 := by obtain ⟨a0, a1, b0, b1, c0, c1, d0, d1, e, h0, h1, h2, h3, h4, h5, h6, h7⟩ := h; exact ⟨a0, a1, b0, b1, c0, c1, d0, d1, e, h0.ext x, h1.ext x, h2.ext x, h3.ext x, h4.ext x, h5.ext x, h6.ext x, h7.ext x⟩
theorem C4Is.size {w : World} {cs : Array Value} {A0 A1 B0 B1 C0 C1 D0 D1 : Rat} (h : C4Is w cs A0 A1 B0 B1 C0 C1 D0 D1) : cs.size = 32 := by obtain ⟨a0, a1, b0, b1, c0, c1, d0, d1, e, h0, h1, h2, h3, h4, h5, h6, h7⟩ := h; rw [e]; rfl
theorem C4Is.one {w : World} {cs : Array Value} {A0 A1 B0 B1 C0 C1 D0 D1 : Rat} (h : C4Is w cs A0 A1 B0 B1 C0 C1 D0 D1) : cs.all (·.oneCell') = true := by obtain ⟨a0, a1, b0, b1, c0, c1, d0, d1, e, h0, h1, h2, h3, h4, h5, h6, h7⟩ := h; rw [e]; exact all_oneCell_toArray (by simp [Value.oneCell'])
theorem C4Is.map {w : World} {cs : Array Value} {A0 A1 B0 B1 C0 C1 D0 D1 : Rat} {w' : World} (h : C4Is w cs A0 A1 B0 B1 C0 C1 D0 D1) (x : ∀ (r : RV) (q : Rat), r.Is w q → r.Is w' q) : C4Is w' cs A0 A1 B0 B1 C0 C1 D0 D1 := by obtain ⟨a0, a1, b0, b1, c0, c1, d0, d1, e, h0, h1, h2, h3, h4, h5, h6, h7⟩ := h; exact ⟨a0, a1, b0, b1, c0, c1, d0, d1, e, x _ _ h0, x _ _ h1, x _ _ h2, x _ _ h3, x _ _ h4, x _ _ h5, x _ _ h6, x _ _ h7⟩
theorem C4Is.e0 {w : World} {cs : Array Value} {A0 A1 B0 B1 C0 C1 D0 D1 : Rat} (h : C4Is w cs A0 A1 B0 B1 C0 C1 D0 D1) : NIs w (cs.extract 0 (0 + 4)) A0 := by obtain ⟨a0, a1, b0, b1, c0, c1, d0, d1, e, h0, h1, h2, h3, h4, h5, h6, h7⟩ := h; exact ⟨a0, by rw [e]; rfl, h0⟩
theorem C4Is.e1 {w : World} {cs : Array Value} {A0 A1 B0 B1 C0 C1 D0 D1 : Rat} (h : C4Is w cs A0 A1 B0 B1 C0 C1 D0 D1) : NIs w (cs.extract 4 (4 + 4)) A1 := by obtain ⟨a0, a1, b0, b1, c0, c1, d0, d1, e, h0, h1, h2, h3, h4, h5, h6, h7⟩ := h; exact ⟨a1, by rw [e]; rfl, h1⟩
theorem C4Is.e2 {w : World} {cs : Array Value} {A0 A1 B0 B1 C0 C1 D0 D1 : Rat} (h : C4Is w cs A0 A1 B0 B1 C0 C1 D0 D1) : NIs w (cs.extract 8 (8 + 4)) B0 := by obtain ⟨a0, a1, b0, b1, c0, c1, d0, d1, e, h0, h1, h2, h3, h4, h5, h6, h7⟩ := h; exact ⟨b0, by rw [e]; rfl, h2⟩
theorem C4Is.e3 {w : World} {cs : Array Value} {A0 A1 B0 B1 C0 C1 D0 D1 : Rat} (h : C4Is w cs A0 A1 B0 B1 C0 C1 D0 D1) : NIs w (cs.extract 12 (12 + 4)) B1 := by obtain ⟨a0, a1, b0, b1, c0, c1, d0, d1, e, h0, h1, h2, h3, h4, h5, h6, h7⟩ := h; exact ⟨b1, by rw [e]; rfl, h3⟩
theorem C4Is.e4 {w : World} {cs : Array Value} {A0 A1 B0 B1 C0 C1 D0 D1 : Rat} (h : C4Is w cs A0 A1 B0 B1 C0 C1 D0 D1) : NIs w (cs.extract 16 (16 + 4)) C0 := by obtain ⟨a0, a1, b0, b1, c0, c1, d0, d1, e, h0, h1, h2, h3, h4, h5, h6, h7⟩ := h; exact ⟨c0, by rw [e]; rfl, h4⟩
theorem C4Is.e5 {w : World} {cs : Array Value} {A0 A1 B0 B1 C0 C1 D0 D1 : Rat} (h : C4Is w cs A0 A1 B0 B1 C0 C1 D0 D1) : NIs w (cs.extract 20 (20 + 4)) C1 := by obtain ⟨a0, a1, b0, b1, c0, c1, d0, d1, e, h0, h1, h2, h3, h4, h5, h6, h7⟩ := h; exact ⟨c1, by rw [e]; rfl, h5⟩
theorem C4Is.e6 {w : World} {cs : Array Value} {A0 A1 B0 B1 C0 C1 D0 D1 : Rat} (h : C4Is w cs A0 A1 B0 B1 C0 C1 D0 D1) : NIs w (cs.extract 24 (24 + 4)) D0 := by obtain ⟨a0, a1, b0, b1, c0, c1, d0, d1, e, h0, h1, h2, h3, h4, h5, h6, h7⟩ := h; exact ⟨d0, by rw [e]; rfl, h6⟩
theorem C4Is.e7 {w : World} {cs : Array Value} {A0 A1 B0 B1 C0 C1 D0 D1 : Rat} (h : C4Is w cs A0 A1 B0 B1 C0 C1 D0 D1) : NIs w (cs.extract 28 (28 + 4)) D1 := by obtain ⟨a0, a1, b0, b1, c0, c1, d0, d1, e, h0, h1, h2, h3, h4, h5, h6, h7⟩ := h; exact ⟨d1, by rw [e]; rfl, h7⟩
theorem C4Is.p0 {w : World} {cs : Array Value} {A0 A1 B0 B1 C0 C1 D0 D1 : Rat} (h : C4Is w cs A0 A1 B0 B1 C0 C1 D0 D1) : PtIs w (cs.extract 0 (0 + 8)) A0 A1 := by obtain ⟨a0, a1, b0, b1, c0, c1, d0, d1, e, h0, h1, h2, h3, h4, h5, h6, h7⟩ := h; exact ⟨a0, a1, by rw [e]; rfl, h0, h1⟩
theorem C4Is.p1 {w : World} {cs : Array Value} {A0 A1 B0 B1 C0 C1 D0 D1 : Rat} (h : C4Is w cs A0 A1 B0 B1 C0 C1 D0 D1) : PtIs w (cs.extract 8 (8 + 8)) B0 B1 := by obtain ⟨a0, a1, b0, b1, c0, c1, d0, d1, e, h0, h1, h2, h3, h4, h5, h6, h7⟩ := h; exact ⟨b0, b1, by rw [e]; rfl, h2, h3⟩
theorem C4Is.p2 {w : World} {cs : Array Value} {A0 A1 B0 B1 C0 C1 D0 D1 : Rat} (h : C4Is w cs A0 A1 B0 B1 C0 C1 D0 D1) : PtIs w (cs.extract 16 (16 + 8)) C0 C1 := by obtain ⟨a0, a1, b0, b1, c0, c1, d0, d1, e, h0, h1, h2, h3, h4, h5, h6, h7⟩ := h; exact ⟨c0, c1, by rw [e]; rfl, h4, h5⟩
theorem C4Is.p3 {w : World} {cs : Array Value} {A0 A1 B0 B1 C0 C1 D0 D1 : Rat} (h : C4Is w cs A0 A1 B0 B1 C0 C1 D0 D1) : PtIs w (cs.extract 24 (24 + 8)) D0 D1 := by obtain ⟨a0, a1, b0, b1, c0, c1, d0, d1, e, h0, h1, h2, h3, h4, h5, h6, h7⟩ := h; exact ⟨d0, d1, by rw [e]; rfl, h6, h7⟩

theorem maxL {L : Nat} (h : 1 ≤ L) : max L 1 = L := by omega
section
variable {L : Nat} {w : World} {cs ct : Array Value}

theorem oEvalQuad {A0 A1 B0 B1 C0 C1 S : Rat} (hp : Q3In L w cs A0 A1 B0 B1 C0 C1) (ht : NIn L w ct S) (h1 : 1 ≤ L) (hL : L ≤ 3000) :
    Calls Try.prog 20 #[.agg cs, .agg ct] w fun e w' => ∃ c, e = .returned (.agg c) ∧ PtIs w' c (quadV A0 B0 C0 S) (quadV A1 B1 C1 S) ∧ Ext w w' := by
  obtain ⟨a0, a1, b0, b1, c0, c1, rfl, ha0, ha1, hb0, hb1, hc0, hc1⟩ := hp
  obtain ⟨t, rfl, ht⟩ := ht
  refine (evalQuad_any a0 a1 b0 b1 c0 c1 t L A0 A1 B0 B1 C0 C1 S w ha0 ha1 hb0 hb1 hc0 hc1 ht h1 hL).mono ?_
  rintro e w' ⟨u, v, rfl, k1, k2, k3⟩
  exact ⟨_, rfl, ⟨u, v, rfl, k1, k2⟩, k3⟩

theorem oEvalCubic {A0 A1 B0 B1 C0 C1 D0 D1 S : Rat} (hp : C4In L w cs A0 A1 B0 B1 C0 C1 D0 D1) (ht : NIn L w ct S) (h1 : 1 ≤ L) (hL : L ≤ 800) :
    Calls Try.prog 21 #[.agg cs, .agg ct] w fun e w' => ∃ c, e = .returned (.agg c) ∧ PtIs w' c (cubicV A0 B0 C0 D0 S) (cubicV A1 B1 C1 D1 S) ∧ Ext w w' := by
  obtain ⟨a0, a1, b0, b1, c0, c1, d0, d1, rfl, ha0, ha1, hb0, hb1, hc0, hc1, hd0, hd1⟩ := hp
  obtain ⟨t, rfl, ht⟩ := ht
  refine (evalCubic_any a0 a1 b0 b1 c0 c1 d0 d1 t L A0 A1 B0 B1 C0 C1 D0 D1 S w ha0 ha1 hb0 hb1 hc0 hc1 hd0 hd1 ht h1 hL).mono ?_
  rintro e w' ⟨u, v, rfl, k1, k2, k3⟩
  exact ⟨_, rfl, ⟨u, v, rfl, k1, k2⟩, k3⟩

theorem oSplitQuad {A0 A1 B0 B1 C0 C1 S : Rat} (hp : Q3In L w cs A0 A1 B0 B1 C0 C1) (ht : NIn L w ct S) (h1 : 1 ≤ L) (hL : L ≤ 800) :
    Calls Try.prog 17 #[.agg cs, .agg ct] w fun e w' => ∃ c1 c2, e = .returned (.tuple #[.agg c1, .agg c2]) ∧ Q3In (4 * (4 * L + 2) + 2) w' c1 A0 A1 (lerpV A0 B0 S) (lerpV A1 B1 S) (lerpV (lerpV A0 B0 S) (lerpV B0 C0 S) S) (lerpV (lerpV A1 B1 S) (lerpV B1 C1 S) S) ∧ Q3In (4 * (4 * L + 2) + 2) w' c2 (lerpV (lerpV A0 B0 S) (lerpV B0 C0 S) S) (lerpV (lerpV A1 B1 S) (lerpV B1 C1 S) S) (lerpV B0 C0 S) (lerpV B1 C1 S) C0 C1 ∧ Ext w w' := by
  have hs := ht.rl h1
  obtain ⟨a0, a1, b0, b1, c0, c1, rfl, ha0, ha1, hb0, hb1, hc0, hc1⟩ := hp
  obtain ⟨t, rfl, ht⟩ := ht
  refine (splitQuad_any a0 a1 b0 b1 c0 c1 t L A0 A1 B0 B1 C0 C1 S w ha0 ha1 hb0 hb1 hc0 hc1 ht h1 hL).mono ?_
  rintro e w' ⟨u0, u1, u2, u3, u4, u5, v0, v1, v2, v3, v4, v5, rfl, ⟨xu0, xu1, xu2, xu3, xu4, xu5⟩, ⟨xv0, xv1, xv2, xv3, xv4, xv5⟩, hx⟩
  have ra0 := ha0.rl
  rw [maxL h1] at ra0
  have ra1 := ha1.rl
  rw [maxL h1] at ra1
  have rb0 := hb0.rl
  rw [maxL h1] at rb0
  have rb1 := hb1.rl
  rw [maxL h1] at rb1
  have rc0 := hc0.rl
  rw [maxL h1] at rc0
  have rc1 := hc1.rl
  rw [maxL h1] at rc1
  have l00 := rl_lerpV (a := A0) (b := B0) (t := S) (L := L) ra0 rb0 hs
  have l10 := rl_lerpV (a := B0) (b := C0) (t := S) (L := L) rb0 rc0 hs
  have m00 := rl_lerpV (a := (lerpV A0 B0 S)) (b := (lerpV B0 C0 S)) (t := S) (L := 4 * L + 2) l00 l10 (by omega)
  have l01 := rl_lerpV (a := A1) (b := B1) (t := S) (L := L) ra1 rb1 hs
  have l11 := rl_lerpV (a := B1) (b := C1) (t := S) (L := L) rb1 rc1 hs
  have m01 := rl_lerpV (a := (lerpV A1 B1 S)) (b := (lerpV B1 C1 S)) (t := S) (L := 4 * L + 2) l01 l11 (by omega)
  exact ⟨_, _, rfl, ⟨u0, u1, u2, u3, u4, u5, rfl, xu0.isIn (by omega), xu1.isIn (by omega), xu2.isIn (by omega), xu3.isIn (by omega), xu4.isIn (by omega), xu5.isIn (by omega)⟩, ⟨v0, v1, v2, v3, v4, v5, rfl, xv0.isIn (by omega), xv1.isIn (by omega), xv2.isIn (by omega), xv3.isIn (by omega), xv4.isIn (by omega), xv5.isIn (by omega)⟩, hx⟩

theorem oSplitCubic {A0 A1 B0 B1 C0 C1 D0 D1 S : Rat} (hp : C4In L w cs A0 A1 B0 B1 C0 C1 D0 D1) (ht : NIn L w ct S) (h1 : 1 ≤ L) (hL : L ≤ 200) :
    Calls Try.prog 18 #[.agg cs, .agg ct] w fun e w' => ∃ c1 c2, e = .returned (.tuple #[.agg c1, .agg c2]) ∧ C4In (4 * (4 * (4 * L + 2) + 2) + 2) w' c1 A0 A1 (lerpV A0 B0 S) (lerpV A1 B1 S) (lerpV (lerpV A0 B0 S) (lerpV B0 C0 S) S) (lerpV (lerpV A1 B1 S) (lerpV B1 C1 S) S) (lerpV (lerpV (lerpV A0 B0 S) (lerpV B0 C0 S) S) (lerpV (lerpV B0 C0 S) (lerpV C0 D0 S) S) S) (lerpV (lerpV (lerpV A1 B1 S) (lerpV B1 C1 S) S) (lerpV (lerpV B1 C1 S) (lerpV C1 D1 S) S) S) ∧ C4In (4 * (4 * (4 * L + 2) + 2) + 2) w' c2 (lerpV (lerpV (lerpV A0 B0 S) (lerpV B0 C0 S) S) (lerpV (lerpV B0 C0 S) (lerpV C0 D0 S) S) S) (lerpV (lerpV (lerpV A1 B1 S) (lerpV B1 C1 S) S) (lerpV (lerpV B1 C1 S) (lerpV C1 D1 S) S) S) (lerpV (lerpV B0 C0 S) (lerpV C0 D0 S) S) (lerpV (lerpV B1 C1 S) (lerpV C1 D1 S) S) (lerpV C0 D0 S) (lerpV C1 D1 S) D0 D1 ∧ Ext w w' := by
  have hs := ht.rl h1
  obtain ⟨a0, a1, b0, b1, c0, c1, d0, d1, rfl, ha0, ha1, hb0, hb1, hc0, hc1, hd0, hd1⟩ := hp
  obtain ⟨t, rfl, ht⟩ := ht
  refine (splitCubic_any a0 a1 b0 b1 c0 c1 d0 d1 t L A0 A1 B0 B1 C0 C1 D0 D1 S w ha0 ha1 hb0 hb1 hc0 hc1 hd0 hd1 ht h1 hL).mono ?_
  rintro e w' ⟨u0, u1, u2, u3, u4, u5, u6, u7, v0, v1, v2, v3, v4, v5, v6, v7, rfl, ⟨xu0, xu1, xu2, xu3, xu4, xu5, xu6, xu7⟩, ⟨xv0, xv1, xv2, xv3, xv4, xv5, xv6, xv7⟩, hx⟩
  have ra0 := ha0.rl
  rw [maxL h1] at ra0
  have ra1 := ha1.rl
  rw [maxL h1] at ra1
  have rb0 := hb0.rl
  rw [maxL h1] at rb0
  have rb1 := hb1.rl
  rw [maxL h1] at rb1
  have rc0 := hc0.rl
  rw [maxL h1] at rc0
  have rc1 := hc1.rl
  rw [maxL h1] at rc1
  have rd0 := hd0.rl
  rw [maxL h1] at rd0
  have rd1 := hd1.rl
  rw [maxL h1] at rd1
  have l00 := rl_lerpV (a := A0) (b := B0) (t := S) (L := L) ra0 rb0 hs
  have l10 := rl_lerpV (a := B0) (b := C0) (t := S) (L := L) rb0 rc0 hs
  have l20 := rl_lerpV (a := C0) (b := D0) (t := S) (L := L) rc0 rd0 hs
  have m00 := rl_lerpV (a := (lerpV A0 B0 S)) (b := (lerpV B0 C0 S)) (t := S) (L := 4 * L + 2) l00 l10 (by omega)
  have m10 := rl_lerpV (a := (lerpV B0 C0 S)) (b := (lerpV C0 D0 S)) (t := S) (L := 4 * L + 2) l10 l20 (by omega)
  have n00 := rl_lerpV (a := (lerpV (lerpV A0 B0 S) (lerpV B0 C0 S) S)) (b := (lerpV (lerpV B0 C0 S) (lerpV C0 D0 S) S)) (t := S) (L := 4 * (4 * L + 2) + 2) m00 m10 (by omega)
  have l01 := rl_lerpV (a := A1) (b := B1) (t := S) (L := L) ra1 rb1 hs
  have l11 := rl_lerpV (a := B1) (b := C1) (t := S) (L := L) rb1 rc1 hs
  have l21 := rl_lerpV (a := C1) (b := D1) (t := S) (L := L) rc1 rd1 hs
  have m01 := rl_lerpV (a := (lerpV A1 B1 S)) (b := (lerpV B1 C1 S)) (t := S) (L := 4 * L + 2) l01 l11 (by omega)
  have m11 := rl_lerpV (a := (lerpV B1 C1 S)) (b := (lerpV C1 D1 S)) (t := S) (L := 4 * L + 2) l11 l21 (by omega)
  have n01 := rl_lerpV (a := (lerpV (lerpV A1 B1 S) (lerpV B1 C1 S) S)) (b := (lerpV (lerpV B1 C1 S) (lerpV C1 D1 S) S)) (t := S) (L := 4 * (4 * L + 2) + 2) m01 m11 (by omega)
  exact ⟨_, _, rfl, ⟨u0, u1, u2, u3, u4, u5, u6, u7, rfl, xu0.isIn (by omega), xu1.isIn (by omega), xu2.isIn (by omega), xu3.isIn (by omega), xu4.isIn (by omega), xu5.isIn (by omega), xu6.isIn (by omega), xu7.isIn (by omega)⟩, ⟨v0, v1, v2, v3, v4, v5, v6, v7, rfl, xv0.isIn (by omega), xv1.isIn (by omega), xv2.isIn (by omega), xv3.isIn (by omega), xv4.isIn (by omega), xv5.isIn (by omega), xv6.isIn (by omega), xv7.isIn (by omega)⟩, hx⟩

theorem oElevate {A0 A1 B0 B1 C0 C1 : Rat} (hp : Q3In L w cs A0 A1 B0 B1 C0 C1) (h1 : 1 ≤ L) (hL : L ≤ 10000) :
    Calls Try.prog 22 #[.agg cs] w fun e w' => ∃ c1, e = .returned (.agg c1) ∧ C4In (4 * L + 2) w' c1 A0 A1 (lerpV A0 B0 ((2 : Rat) / 3)) (lerpV A1 B1 ((2 : Rat) / 3)) (lerpV C0 B0 ((2 : Rat) / 3)) (lerpV C1 B1 ((2 : Rat) / 3)) C0 C1 ∧ Ext w w' := by
  have hs : Nm.rl ((2 : Rat) / 3) ≤ L := Nat.le_trans rl23 h1
  obtain ⟨a0, a1, b0, b1, c0, c1, rfl, ha0, ha1, hb0, hb1, hc0, hc1⟩ := hp
  refine (elevate_any a0 a1 b0 b1 c0 c1 L A0 A1 B0 B1 C0 C1 w ha0 ha1 hb0 hb1 hc0 hc1 h1 hL).mono ?_
  rintro e w' ⟨u0, u1, u2, u3, u4, u5, u6, u7, rfl, ⟨xu0, xu1, xu2, xu3, xu4, xu5, xu6, xu7⟩, hx⟩
  have ra0 := ha0.rl
  rw [maxL h1] at ra0
  have ra1 := ha1.rl
  rw [maxL h1] at ra1
  have rb0 := hb0.rl
  rw [maxL h1] at rb0
  have rb1 := hb1.rl
  rw [maxL h1] at rb1
  have rc0 := hc0.rl
  rw [maxL h1] at rc0
  have rc1 := hc1.rl
  rw [maxL h1] at rc1
  have l00 := rl_lerpV (a := A0) (b := B0) (t := ((2 : Rat) / 3)) (L := L) ra0 rb0 hs
  have l10 := rl_lerpV (a := C0) (b := B0) (t := ((2 : Rat) / 3)) (L := L) rc0 rb0 hs
  have l01 := rl_lerpV (a := A1) (b := B1) (t := ((2 : Rat) / 3)) (L := L) ra1 rb1 hs
  have l11 := rl_lerpV (a := C1) (b := B1) (t := ((2 : Rat) / 3)) (L := L) rc1 rb1 hs
  exact ⟨_, rfl, ⟨u0, u1, u2, u3, u4, u5, u6, u7, rfl, xu0.isIn (by omega), xu1.isIn (by omega), xu2.isIn (by omega), xu3.isIn (by omega), xu4.isIn (by omega), xu5.isIn (by omega), xu6.isIn (by omega), xu7.isIn (by omega)⟩, hx⟩

theorem oExactQuad {A0 A1 B0 B1 C0 C1 D0 D1 : Rat} (hp : C4In L w cs A0 A1 B0 B1 C0 C1 D0 D1) :
    Calls Try.prog 12 #[.agg cs] w fun e w' => ∃ c1, e = .returned (.agg c1) ∧ Q3In L w' c1 A0 A1 B0 B1 C0 C1 ∧ Ext w w' := by
  obtain ⟨a0, a1, b0, b1, c0, c1, d0, d1, rfl, ha0, ha1, hb0, hb1, hc0, hc1, hd0, hd1⟩ := hp
  refine (exactQuad_any a0 a1 b0 b1 c0 c1 d0 d1 w).mono ?_
  rintro e w' ⟨rfl, hx⟩
  exact ⟨_, rfl, ⟨a0, a1, b0, b1, c0, c1, rfl, ha0.ext hx, ha1.ext hx, hb0.ext hx, hb1.ext hx, hc0.ext hx, hc1.ext hx⟩, hx⟩

theorem oSamePoint {x y : Rat} (hp : PtIs w cs x y) (hq : PtIs w ct x y) (hx : Nm.rl x ≤ L) (hy : Nm.rl y ≤ L) (hL : L ≤ 1000000) :
    Calls Try.prog 19 #[.agg cs, .agg ct] w fun e w' => e = .returned (.bool true) ∧ Ext w w' := by
  obtain ⟨a, b, rfl, h1, h2⟩ := hp
  obtain ⟨c, d, rfl, h3, h4⟩ := hq
  exact samePoint_any a b c d x y L w h1 h2 h3 h4 hx hy hL

theorem r03Mul {q r : Rat} (hp : NIn L w cs q) (hq : NIn L w ct r) (hL : L ≤ 3000) :
    Calls Try.prog 13 #[.agg cs, .agg ct] w fun e w' => ∃ c, e = .returned (.agg c) ∧ NIs w' c (q * r) ∧ Ext w w' := by
  obtain ⟨a, rfl, h1⟩ := hp
  obtain ⟨b, rfl, h2⟩ := hq
  refine (r3mul_any _ _ _ _ _ _ _ _ L q r w h1 h2 (by omega)).mono ?_
  intro e w' h
  obtain ⟨x, rfl, k1, k2⟩ := RetR.v h
  exact ⟨_, rfl, ⟨x, rfl, k1⟩, k2⟩

theorem r03Add {q r : Rat} (hp : NIn L w cs q) (hq : NIn L w ct r) (hL : L ≤ 3000) :
    Calls Try.prog 14 #[.agg cs, .agg ct] w fun e w' => ∃ c, e = .returned (.agg c) ∧ NIs w' c (q + r) ∧ Ext w w' := by
  obtain ⟨a, rfl, h1⟩ := hp
  obtain ⟨b, rfl, h2⟩ := hq
  refine (r3add_any _ _ _ _ _ _ _ _ L q r w h1 h2 (by omega)).mono ?_
  intro e w' h
  obtain ⟨x, rfl, k1, k2⟩ := RetR.v h
  exact ⟨_, rfl, ⟨x, rfl, k1⟩, k2⟩

theorem r03Sub {q r : Rat} (hp : NIn L w cs q) (hq : NIn L w ct r) (hL : L ≤ 3000) :
    Calls Try.prog 15 #[.agg cs, .agg ct] w fun e w' => ∃ c, e = .returned (.agg c) ∧ NIs w' c (q - r) ∧ Ext w w' := by
  obtain ⟨a, rfl, h1⟩ := hp
  obtain ⟨b, rfl, h2⟩ := hq
  refine (r3sub_any _ _ _ _ _ _ _ _ L q r w h1 h2 (by omega)).mono ?_
  intro e w' h
  obtain ⟨x, rfl, k1, k2⟩ := RetR.v h
  exact ⟨_, rfl, ⟨x, rfl, k1⟩, k2⟩

theorem r03FromInt (a : Int) (w : World) (h1 : -9223372036854775808 ≤ a) (h2 : a ≤ 9223372036854775807) :
    Calls Try.prog 16 #[.int .i64 a] w fun e w' => ∃ c, e = .returned (.agg c) ∧ NIs w' c (a : Rat) ∧ Ext w w' := by
  refine (r3fromInt_any a w h1 h2).mono ?_
  intro e w' h
  obtain ⟨x, rfl, k1, k2⟩ := RetR.v h
  exact ⟨_, rfl, ⟨x, rfl, k1⟩, k2⟩

end
end Go.Proofs.Ytllpkoinjompcaa

namespace Go.Proofs.Ytllpkoinjompcaa
open Go.RowKit

theorem wp_call_op {P : Program} {op : Oper} {a : Act} {w : World} {K : Act → World → Prop} {Q : Exit → Act → World → Prop} {f : FuncId} {args : Array Value} {Φ : Ending → World → Prop}
    (hv : (execOp a.eval op).run P w = .ok (.enter f args) w) (hc : Calls P f args w Φ) (h : ∀ e w', Φ e w' → ∃ v, e = .returned v ∧ K (a.put op.dst v) w') : op.wp P a w K Q := by
  unfold Oper.wp
  rw [hv]
  simp only [Oper.upon]
  refine Calls.mono hc fun e w' he => ?_
  obtain ⟨v, rfl, hk⟩ := h e w' he
  exact hk

section
variable {P : Program} {ops : Array Oper} {rest : List Oper} {op : Oper} {a : Act} {w w' : World} {Q : Exit → Act → World → Prop} {v : Value}

theorem wpList_if (hw : Region.wanted op (yielded ops a.tmps) = true) (h : op.wp P a w (wpList P ops Q rest) Q) : wpList P ops Q (op :: rest) a w := by
  rw [wpList, if_pos hw]
  exact .inl h
theorem mv_skip (hw : Region.wanted op (yielded ops a.tmps) = false) (h : wpList P ops Q rest (a.put op.dst undef) w) : wpList P ops Q (op :: rest) a w := by
  rw [wpList, if_neg (by rw [hw]; exact Bool.false_ne_true)]
  exact h
theorem mv_val (hw : Region.wanted op (yielded ops a.tmps) = true) (hv : (execOp a.eval op).run P w = .ok (.value v) w') (h : wpList P ops Q rest (a.put op.dst v) w') : wpList P ops Q (op :: rest) a w :=
  wpList_if hw (by unfold Oper.wp; rw [hv]; exact h)
theorem mv_call {f : FuncId} {args : Array Value} {Φ : Ending → World → Prop} (hw : Region.wanted op (yielded ops a.tmps) = true) (hv : (execOp a.eval op).run P w = .ok (.enter f args) w) (hc : Calls P f args w Φ)
    (h : ∀ e w', Φ e w' → ∃ v, e = .returned v ∧ wpList P ops Q rest (a.put op.dst v) w') : wpList P ops Q (op :: rest) a w := wpList_if hw (wp_call_op hv hc h)
theorem mv_load (hw : Region.wanted op (yielded ops a.tmps) = true) (ty : TypeId) (x : Operand) (ho : op.op = .load ty x) (g : Nat) (t : TypeId) (cs : Array Value) (d : TypeDesc) (hx : a.eval x = .pointer (some ⟨g, 0, none⟩)) (hb : Blk w g t cs)
    (hu : P.underlying ty = some d) (hd : d.isRow = true) (hi : (P.info? ty).map (·.size) = some cs.size) (h : wpList P ops Q rest (a.put op.dst (.agg cs)) w) : wpList P ops Q (op :: rest) a w :=
  wpList_if hw (wp_load_mid ty x ho g 0 hx cs.toList d hb.range hu hd (by simpa using hi) (by simpa using h))
theorem mv_store (hw : Region.wanted op (yielded ops a.tmps) = true) (ty : TypeId) (x y : Operand) (ho : op.op = .store ty x y) (g : Nat) (t : TypeId) (cs0 cs : Array Value) (hx : a.eval x = .pointer (some ⟨g, 0, none⟩)) (hy : a.eval y = .agg cs)
    (hb : Blk w g t cs0) (hl : cs.size = cs0.size) (hi : (P.info? ty).map (·.size) = some cs.size) (h1 : cs.all (·.oneCell') = true)
    (h : wpList P ops Q rest (a.put op.dst undef) (w.setCells g 0 cs.toList)) : wpList P ops Q (op :: rest) a w :=
  wpList_if hw (wp_store_blk ty x y ho g t cs0 cs hx hy hb hl hi h1 h)
theorem Blk.part {w : World} {g : Nat} {t : TypeId} {cs : Array Value} (h : Blk w g t cs) (o n : Nat) : w.rangeAt g o (cs.extract o (o + n)).toList := World.rangeAt_of_block h o n
/-- A part of a block is read. -/
theorem mv_part (hw : Region.wanted op (yielded ops a.tmps) = true) (ty : TypeId) (x : Operand) (ho : op.op = .load ty x) (g o n : Nat) (t : TypeId) (cs : Array Value) (d : TypeDesc) (hx : a.eval x = .pointer (some ⟨g, o, none⟩)) (hb : Blk w g t cs)
    (hu : P.underlying ty = some d) (hd : d.isRow = true) (hi : (P.info? ty).map (·.size) = some n) (hn : o + n ≤ cs.size) (h : wpList P ops Q rest (a.put op.dst (.agg (cs.extract o (o + n)))) w) : wpList P ops Q (op :: rest) a w :=
  wpList_if hw (wp_load_mid ty x ho g o hx (cs.extract o (o + n)).toList d (hb.part o n) hu hd (by rw [hi]; congr 1; simp; omega) (by rw [Array.toArray_toList]; exact h))
end

section
variable {P : Program} {l : List Oper} {Q : Exit → Act → World → Prop} {md : Region.Mode} {S : World → Prop} {i : Nat} {oi : Oper} {fuel : Nat} {listed listed' : Array Bool} {a : Act} {w w' : World} {v : Value}

/-- Two (three) new variables are stored into: what stood before them stands; digits stand everywhere. -/
theorem stored_one {wb w : World} {T : TypeId} {X1 : Nat} {zs c1 : Array Value} (hn : NoU zs) (hx : Ext wb w) (B1 : Blk w X1 T zs) (z1 : wb.heap.size ≤ X1) (h1 : c1.size = zs.size) :
    Ext wb (w.setCells X1 0 c1.toList) ∧ Blk (w.setCells X1 0 c1.toList) X1 T c1 ∧ (∀ (r : RV) (q : Rat), r.Is w q → r.Is (w.setCells X1 0 c1.toList) q) := by
  have o1 := Own.setCells w X1 c1
  exact ⟨o1.ext hx z1, B1.setCells c1 h1, fun r q h => h.own B1 hn o1⟩
theorem stored_two {wb w : World} {T : TypeId} {X1 X2 : Nat} {zs c1 c2 : Array Value} (hn : NoU zs) (hx : Ext wb w) (B1 : Blk w X1 T zs) (B2 : Blk w X2 T zs) (z1 : wb.heap.size ≤ X1) (z2 : wb.heap.size ≤ X2) (n12 : X1 ≠ X2) (h1 : c1.size = zs.size) (h2 : c2.size = zs.size) :
    Blk (w.setCells X1 0 c1.toList) X2 T zs ∧ Ext wb ((w.setCells X1 0 c1.toList).setCells X2 0 c2.toList) ∧ Blk ((w.setCells X1 0 c1.toList).setCells X2 0 c2.toList) X1 T c1 ∧ Blk ((w.setCells X1 0 c1.toList).setCells X2 0 c2.toList) X2 T c2 ∧ Ext wb (w.setCells X1 0 c1.toList) ∧
    (∀ (r : RV) (q : Rat), r.Is w q → r.Is ((w.setCells X1 0 c1.toList).setCells X2 0 c2.toList) q) := by
  obtain ⟨e1, b1, f1⟩ := stored_one hn hx B1 z1 h1
  have B2' := B2.own (Own.setCells w X1 c1) (Ne.symm n12)
  obtain ⟨e2, b2, f2⟩ := stored_one hn e1 B2' z2 h2
  exact ⟨B2', e2, b1.own (Own.setCells _ X2 c2) n12, b2, e1, fun r q h => f2 r q (f1 r q h)⟩
theorem stored_three {wb w : World} {T : TypeId} {X1 X2 X3 : Nat} {zs c1 c2 c3 : Array Value} (hn : NoU zs) (hx : Ext wb w) (B1 : Blk w X1 T zs) (B2 : Blk w X2 T zs) (B3 : Blk w X3 T zs) (z1 : wb.heap.size ≤ X1) (z2 : wb.heap.size ≤ X2) (z3 : wb.heap.size ≤ X3)
    (n12 : X1 ≠ X2) (n13 : X1 ≠ X3) (n23 : X2 ≠ X3) (h1 : c1.size = zs.size) (h2 : c2.size = zs.size) (h3 : c3.size = zs.size) :
    Blk (w.setCells X1 0 c1.toList) X2 T zs ∧ Blk ((w.setCells X1 0 c1.toList).setCells X2 0 c2.toList) X3 T zs ∧ Ext wb (((w.setCells X1 0 c1.toList).setCells X2 0 c2.toList).setCells X3 0 c3.toList) ∧
    Blk (((w.setCells X1 0 c1.toList).setCells X2 0 c2.toList).setCells X3 0 c3.toList) X1 T c1 ∧ Blk (((w.setCells X1 0 c1.toList).setCells X2 0 c2.toList).setCells X3 0 c3.toList) X2 T c2 ∧ Blk (((w.setCells X1 0 c1.toList).setCells X2 0 c2.toList).setCells X3 0 c3.toList) X3 T c3 ∧
    Ext wb (w.setCells X1 0 c1.toList) ∧ Ext wb ((w.setCells X1 0 c1.toList).setCells X2 0 c2.toList) ∧
    (∀ (r : RV) (q : Rat), r.Is w q → r.Is (((w.setCells X1 0 c1.toList).setCells X2 0 c2.toList).setCells X3 0 c3.toList) q) := by
  obtain ⟨k1, e2, b1, b2, e1, f2⟩ := stored_two hn hx B1 B2 z1 z2 n12 h1 h2
  have B3' := (B3.own (Own.setCells w X1 c1) (Ne.symm n13)).own (Own.setCells (w.setCells X1 0 c1.toList) X2 c2) (Ne.symm n23)
  obtain ⟨e3, b3, f3⟩ := stored_one hn e2 B3' z3 h3
  exact ⟨k1, B3', e3, b1.own (Own.setCells _ X3 c3) n13, b2.own (Own.setCells _ X3 c3) n23, b3, e1, e2, fun r q h => f3 r q (f2 r q h)⟩

/-- A variable is made and a row stored into it: all that stood stands. -/
theorem new_var (w : World) (T : TypeId) (zs cs : Array Value) (hl : cs.size = zs.size) : Ext w ((w.alloc (.cells zs T)).setCells w.heap.size 0 cs.toList) ∧ Blk ((w.alloc (.cells zs T)).setCells w.heap.size 0 cs.toList) w.heap.size T cs :=
  ⟨(Own.setCells _ _ cs).ext ((Ext.refl w).alloc _) (Nat.le_refl _), Blk.setCells (Blk.new_at w _ rfl _ _) cs hl⟩

/-- Two variables of one type are made, a row stored into each. -/
theorem new_var2 (w : World) (T : TypeId) (zs c1 c2 : Array Value) (h1 : c1.size = zs.size) (h2 : c2.size = zs.size) :
    Blk ((w.alloc (.cells zs T)).alloc (.cells zs T)) w.heap.size T zs ∧ Blk (((w.alloc (.cells zs T)).alloc (.cells zs T)).setCells w.heap.size 0 c1.toList) (w.alloc (.cells zs T)).heap.size T zs ∧
    Ext w ((((w.alloc (.cells zs T)).alloc (.cells zs T)).setCells w.heap.size 0 c1.toList).setCells (w.alloc (.cells zs T)).heap.size 0 c2.toList) ∧
    Blk ((((w.alloc (.cells zs T)).alloc (.cells zs T)).setCells w.heap.size 0 c1.toList).setCells (w.alloc (.cells zs T)).heap.size 0 c2.toList) w.heap.size T c1 ∧
    Blk ((((w.alloc (.cells zs T)).alloc (.cells zs T)).setCells w.heap.size 0 c1.toList).setCells (w.alloc (.cells zs T)).heap.size 0 c2.toList) (w.alloc (.cells zs T)).heap.size T c2 := by
  have b1 := (Blk.new w T zs).alloc (.cells zs T)
  have b2 := Blk.new (w.alloc (.cells zs T)) T zs
  have o1 := Own.setCells ((w.alloc (.cells zs T)).alloc (.cells zs T)) w.heap.size c1
  have o2 := Own.setCells (((w.alloc (.cells zs T)).alloc (.cells zs T)).setCells w.heap.size 0 c1.toList) (w.alloc (.cells zs T)).heap.size c2
  have ne : (w.alloc (.cells zs T)).heap.size ≠ w.heap.size := by simp
  have b2' := b2.own o1 ne
  exact ⟨b1, b2', o2.ext (o1.ext (((Ext.refl w).alloc _).alloc _) (Nat.le_refl _)) (by simp), (b1.setCells c1 h1).own o2 ne.symm, b2'.setCells c2 h2⟩

/-- Taken first: it yields a value and leaves the world. -/
theorem md_val (hi : l[i]? = some oi) (hs : Region.noSelect l.toArray = true) (hf : Region.free md l.toArray listed i = true) (hr : (Region.ready md l.toArray listed).contains i = true)
    (hQ : ∀ c a w, Q (.panic c) (a.put oi.dst v) w → Q (.panic c) a w) (hw : Region.wanted oi (yielded l.toArray a.tmps) = true) (hv : ∀ w, S w → (execOp a.eval oi).run P w = .ok (.value v) w) (hS : S w)
    (hl : listed.setIfInBounds i true = listed') (h : wpAnyH P md l.toArray Q S fuel listed' (a.put oi.dst v) w) : wpAnyH P md l.toArray Q S (fuel + 1) listed a w :=
  wpAnyH_take_l hi hs hf hr hQ (Or.inl ⟨hw, hv⟩) hS (by rw [hl]; exact h)
/-- Taken first: a variable that is a whole block is read. -/
theorem md_load (hi : l[i]? = some oi) (hs : Region.noSelect l.toArray = true) (hf : Region.free md l.toArray listed i = true) (hr : (Region.ready md l.toArray listed).contains i = true)
    (ty : TypeId) (x : Operand) (ho : oi.op = .load ty x) (g : Nat) (t : TypeId) (cs : Array Value) (d : TypeDesc)
    (hQ : ∀ c a w, Q (.panic c) (a.put oi.dst (.agg cs)) w → Q (.panic c) a w) (hw : Region.wanted oi (yielded l.toArray a.tmps) = true) (hx : a.eval x = .pointer (some ⟨g, 0, none⟩)) (hb : ∀ w, S w → Blk w g t cs)
    (hu : P.underlying ty = some d) (hd : d.isRow = true) (hz : (P.info? ty).map (·.size) = some cs.size) (hS : S w)
    (hl : listed.setIfInBounds i true = listed') (h : wpAnyH P md l.toArray Q S fuel listed' (a.put oi.dst (.agg cs)) w) : wpAnyH P md l.toArray Q S (fuel + 1) listed a w :=
  wpAnyH_take_l (v := .agg cs) hi hs hf hr hQ (by
    have h2 := yieldsIf_load_mid (P := P) (ops := l.toArray) (S := S) hw ty x ho g 0 hx cs.toList d (fun w hw => (hb w hw).range) hu hd (by simpa using hz)
    simpa using h2) hS (by rw [hl]; exact h)
/-- Taken first: a part of a block is read. -/
theorem md_part (hi : l[i]? = some oi) (hs : Region.noSelect l.toArray = true) (hf : Region.free md l.toArray listed i = true) (hr : (Region.ready md l.toArray listed).contains i = true)
    (ty : TypeId) (x : Operand) (ho : oi.op = .load ty x) (g o n : Nat) (t : TypeId) (cs : Array Value) (d : TypeDesc)
    (hQ : ∀ c a w, Q (.panic c) (a.put oi.dst (.agg (cs.extract o (o + n)))) w → Q (.panic c) a w) (hw : Region.wanted oi (yielded l.toArray a.tmps) = true) (hx : a.eval x = .pointer (some ⟨g, o, none⟩)) (hb : ∀ w, S w → Blk w g t cs)
    (hu : P.underlying ty = some d) (hd : d.isRow = true) (hz : (P.info? ty).map (·.size) = some n) (hn : o + n ≤ cs.size) (hS : S w)
    (hl : listed.setIfInBounds i true = listed') (h : wpAnyH P md l.toArray Q S fuel listed' (a.put oi.dst (.agg (cs.extract o (o + n)))) w) : wpAnyH P md l.toArray Q S (fuel + 1) listed a w :=
  wpAnyH_take_l (v := .agg (cs.extract o (o + n))) hi hs hf hr hQ (by
    have h2 := yieldsIf_load_mid (P := P) (ops := l.toArray) (S := S) hw ty x ho g o hx (cs.extract o (o + n)).toList d (fun w hw => (hb w hw).part o n) hu hd (by rw [hz]; congr 1; simp; omega)
    rw [Array.toArray_toList] at h2
    exact h2) hS (by rw [hl]; exact h)
/-- A guard that is false. -/
theorem md_skip (hi : l[i]? = some oi) (hs : Region.noSelect l.toArray = true) (hf : Region.free md l.toArray listed i = true) (hr : (Region.ready md l.toArray listed).contains i = true)
    (hQ : ∀ c a w, Q (.panic c) (a.put oi.dst undef) w → Q (.panic c) a w) (hn : Region.wanted oi (yielded l.toArray a.tmps) = false) (hS : S w)
    (hl : listed.setIfInBounds i true = listed') (h : wpAnyH P md l.toArray Q S fuel listed' (a.put oi.dst undef) w) : wpAnyH P md l.toArray Q S (fuel + 1) listed a w :=
  wpAnyH_skip_l hi hs hf hr hQ hn hS (by rw [hl]; exact h)
/-- The one operation that may come up is a call. -/
theorem md_call {f : FuncId} {args : Array Value} {Φ : Ending → World → Prop} (hi : l[i]? = some oi) (hr : Region.ready md l.toArray listed = [i]) (hw : Region.wanted oi (yielded l.toArray a.tmps) = true)
    (hv : (execOp a.eval oi).run P w = .ok (.enter f args) w) (hc : Calls P f args w Φ) (hl : listed.setIfInBounds i true = listed')
    (h : ∀ e w', Φ e w' → ∃ v, e = .returned v ∧ S w' ∧ wpAnyH P md l.toArray Q S fuel listed' (a.put oi.dst v) w') : wpAnyH P md l.toArray Q S (fuel + 1) listed a w :=
  wpAnyH_one_l hi hr (fun K hK => by
    rw [if_pos hw]
    refine wp_call_op hv hc fun e w' he => ?_
    obtain ⟨v, hv, hS, hh⟩ := h e w' he
    exact ⟨v, hv, hK.out _ _ hS (fun _ => by rw [hl]; exact hh)⟩)
/-- The one operation that may come up yields a value. -/
theorem md_one (hi : l[i]? = some oi) (hr : Region.ready md l.toArray listed = [i]) (hw : Region.wanted oi (yielded l.toArray a.tmps) = true)
    (hv : (execOp a.eval oi).run P w = .ok (.value v) w') (hS : S w') (hl : listed.setIfInBounds i true = listed')
    (h : wpAnyH P md l.toArray Q S fuel listed' (a.put oi.dst v) w') : wpAnyH P md l.toArray Q S (fuel + 1) listed a w :=
  wpAnyH_one_l hi hr (fun K hK => by
    rw [if_pos hw]
    unfold Oper.wp
    rw [hv]
    exact hK.out _ _ hS (fun _ => by rw [hl]; exact h))
theorem md_store (hi : l[i]? = some oi) (hr : Region.ready md l.toArray listed = [i]) (hg : oi.guard = none) (ty : TypeId) (x y : Operand) (ho : oi.op = .store ty x y)
    (g : Nat) (t : TypeId) (cs0 cs : Array Value) (hx : a.eval x = .pointer (some ⟨g, 0, none⟩)) (hy : a.eval y = .agg cs) (hb : Blk w g t cs0) (hl0 : cs.size = cs0.size)
    (hz : (P.info? ty).map (·.size) = some cs.size) (h1 : cs.all (·.oneCell') = true) (hS : S (w.setCells g 0 cs.toList)) (hl : listed.setIfInBounds i true = listed')
    (h : wpAnyH P md l.toArray Q S fuel listed' (a.put oi.dst undef) (w.setCells g 0 cs.toList)) : wpAnyH P md l.toArray Q S (fuel + 1) listed a w :=
  wpAnyH_store_l hi hr hg ty x y ho g t cs0 cs hx hy hb hl0 hz h1 hS (by rw [hl]; exact h)
/-- Either a call or the making of a variable may come up. -/
theorem md_call_or {f : FuncId} {args : Array Value} {Φ : Ending → World → Prop} {j : Nat} {oj : Oper} {u : Value} {wj : World} {lj : Array Bool} (hi : l[i]? = some oi) (hj : l[j]? = some oj) (hr : Region.ready md l.toArray listed = [i, j])
    (hw : Region.wanted oi (yielded l.toArray a.tmps) = true) (hv : (execOp a.eval oi).run P w = .ok (.enter f args) w) (hc : Calls P f args w Φ) (hl : listed.setIfInBounds i true = listed')
    (hwj : Region.wanted oj (yielded l.toArray a.tmps) = true) (hvj : (execOp a.eval oj).run P w = .ok (.value u) wj) (hSj : S wj) (hlj : listed.setIfInBounds j true = lj)
    (h : ∀ e w', Φ e w' → ∃ v, e = .returned v ∧ S w' ∧ wpAnyH P md l.toArray Q S fuel listed' (a.put oi.dst v) w') (h2 : wpAnyH P md l.toArray Q S fuel lj (a.put oj.dst u) wj) : wpAnyH P md l.toArray Q S (fuel + 1) listed a w :=
  wpAnyH_ready hr (by simp) (AllReadyH.cons (by rw [List.getElem?_toArray]; exact hi) (fun K hK => by
    rw [if_pos hw]
    refine wp_call_op hv hc fun e w' he => ?_
    obtain ⟨v, hv, hS, hh⟩ := h e w' he
    exact ⟨v, hv, hK.out _ _ hS (fun _ => by rw [hl]; exact hh)⟩) (AllReadyH.cons (by rw [List.getElem?_toArray]; exact hj) (fun K hK => by
    rw [if_pos hwj]
    unfold Oper.wp
    rw [hvj]
    exact hK.out _ _ hSj (fun _ => by rw [hlj]; exact h2)) AllReadyH.nil))
end
end Go.Proofs.Ytllpkoinjompcaa

namespace Go.Proofs.Ytllpkoinjompcaa
open Go.RowKit
attribute [local go_sem ↓] Go.wp_at_zero Go.wp_at_succ run_eql_point run_neq_point

def clampI (n lo hi : Int) : Int := if n < lo then lo else if hi < n then hi else n

theorem clamp_any (n lo hi : Int) (w : World) :
    Calls Try.prog 145 #[.int .i64 n, .int .i64 lo, .int .i64 hi] w fun e w' => e = .returned (.int .i64 (clampI n lo hi)) ∧ w = w' := by
  go_enter Try.func145, Try.ntmps145
  go_wp2_with fail
  all_goals go_ret
  all_goals refine ⟨ret_int ?_, rfl⟩
  all_goals unfold clampI
  · rw [if_pos ‹_›]
  · rw [if_neg (by omega), if_pos ‹_›]
  · rw [if_neg (by omega), if_neg (by omega)]

theorem held_any (n : Int) (w : World) :
    Calls Try.prog 137 #[.int .i64 n] w fun e w' => e = .returned (.int .i64 (clampI n (-1048576) 1048576)) ∧ w = w' := by
  go_enter Try.func137, Try.ntmps137
  go_wp2_with (go_at_call 145; refine (clamp_any _ _ _ _).mono ?_; rintro e w' ⟨rfl, rfl⟩)
  go_ret
  exact ⟨rfl, rfl⟩

theorem hold_any (x y : Int) (w : World) :
    Calls Try.prog 113 #[.agg #[.int .i64 x, .int .i64 y]] w fun e w' => e = .returned (.agg #[.int .i64 (clampI x (-1048576) 1048576), .int .i64 (clampI y (-1048576) 1048576)]) ∧ Ext w w' := by
  go_enter Try.func113, Try.ntmps113
  go_wp2_with fail
  go_region_held3 (fun w' => w'.cell? ⟨w.heap.size, 0, none⟩ = some (.int .i64 x) ∧ w'.cell? ⟨w.heap.size, 1, none⟩ = some (.int .i64 y)) (go_keep)
    (first | (go_at_call 137; refine (held_any _ _).mono ?_; rintro e w' ⟨rfl, rfl⟩))
  go_wp2_with fail
  refine bodyPost_ret (v := .agg #[.int .i64 (clampI x (-1048576) 1048576), .int .i64 (clampI y (-1048576) 1048576)]) (by simp [results, Try.results113, go_sem]) rfl ⟨rfl, ?_⟩
  exact ((((Ext.refl _).alloc _).alloc _).drew)

theorem eq_clamp (x : Int) : (clampI x (-1048576) 1048576 == x) = decide (-1048576 ≤ x ∧ x ≤ 1048576) := by
  rw [Bool.eq_iff_iff]
  unfold clampI
  simp only [beq_iff_eq, decide_eq_true_eq]
  split
  · omega
  · split <;> omega

def okPt (x y : Int) : Bool := decide (-1048576 ≤ x ∧ x ≤ 1048576) && decide (-1048576 ≤ y ∧ y ≤ 1048576)

theorem valid_any (x y : Int) (w : World) :
    Calls Try.prog 89 #[.agg #[.int .i64 x, .int .i64 y]] w fun e w' => e = .returned (.bool (okPt x y)) ∧ Ext w w' := by
  have h0 : ∀ w', Ext (w.alloc (.cells #[.int .i64 x, .int .i64 y] 33)) w' → w'.cell? ⟨w.heap.size, 0, none⟩ = some (.int .i64 x) := fun w' h => h.get (by simp)
  have h1 : ∀ w', Ext (w.alloc (.cells #[.int .i64 x, .int .i64 y] 33)) w' → w'.cell? ⟨w.heap.size, 1, none⟩ = some (.int .i64 y) := fun w' h => h.get (by simp)
  go_enter Try.func89, Try.ntmps89
  go_wp2_with fail
  go_region_held3 (fun w' => Ext (w.alloc (.cells #[.int .i64 x, .int .i64 y] 33)) w') (first | assumption | exact Ext.drew (Ext.refl _) | (apply Ext.via; assumption; assumption))
    (first | (go_at_call 113; refine (hold_any _ _ _).mono ?_; rintro e w' ⟨rfl, hb⟩))
  go_wp2_with fail
  go_ret
  refine ⟨?_, ((Ext.refl _).alloc _).trans ‹_›⟩
  rw [eq_clamp, eq_clamp]; rfl

theorem rvalid_any (x y : Int) (w : World) :
    Calls Try.prog 118 #[.agg #[.int .i64 x, .int .i64 y]] w fun e w' => e = .returned (.bool (okPt x y)) ∧ Ext w w' := by
  have hp : ∀ b, okPt x y = b → (fun (e : Ending) (w' : World) => e = .returned (.bool b) ∧ Ext w w') = (fun (e : Ending) (w' : World) => e = .returned (.bool (okPt x y)) ∧ Ext w w') := fun b h => by rw [h]
  by_cases hx : -1048576 ≤ x
  · by_cases hx2 : x ≤ 1048576
    · by_cases hy : -1048576 ≤ y
      · rw [← hp (decide (y ≤ 1048576)) (by simp [okPt, hx, hx2, hy])]
        clear hp
        go_enter Try.func118, Try.ntmps118
        go_wp2_with fail
        go_ret
        exact ⟨rfl, (Ext.refl _).alloc _⟩
      · rw [← hp false (by simp [okPt, hy])]
        clear hp
        go_enter Try.func118, Try.ntmps118
        go_wp2_with fail
        go_ret
        exact ⟨rfl, (Ext.refl _).alloc _⟩
    · rw [← hp false (by simp [okPt, hx2])]
      clear hp
      go_enter Try.func118, Try.ntmps118
      go_wp2_with fail
      go_ret
      exact ⟨rfl, (Ext.refl _).alloc _⟩
  · rw [← hp false (by simp [okPt, hx])]
    clear hp
    go_enter Try.func118, Try.ntmps118
    go_wp2_with fail
    go_ret
    exact ⟨rfl, (Ext.refl _).alloc _⟩

end Go.Proofs.Ytllpkoinjompcaa

namespace Go.Proofs.Ytllpkoinjompcaa
open Go.RowKit
attribute [local go_sem ↓] Go.wp_at_zero Go.wp_at_succ run_eql_point run_neq_point

/-- The points ps lie in block b from offset off on, two cells each. -/
def PtsAt (w : World) (b off : Nat) (ps : List (Int × Int)) : Prop :=
  ∀ i, i < ps.length → w.cell? ⟨b, off + i * 2, none⟩ = some (.int .i64 (ps.getD i (0, 0)).1) ∧ w.cell? ⟨b, off + i * 2 + 1, none⟩ = some (.int .i64 (ps.getD i (0, 0)).2)

theorem PtsAt.ext {w w' : World} {b off : Nat} {ps : List (Int × Int)} (h : PtsAt w b off ps) (e : Ext w w') : PtsAt w' b off ps :=
  fun i hi => ⟨e.get (h i hi).1, e.get (h i hi).2⟩

def okAll (ps : List (Int × Int)) : Bool := ps.all fun p => okPt p.1 p.2

theorem okAll_take_succ (ps : List (Int × Int)) (k : Nat) (hk : k < ps.length) :
    okAll (ps.take (k + 1)) = (okAll (ps.take k) && okPt (ps.getD k (0, 0)).1 (ps.getD k (0, 0)).2) := by
  unfold okAll
  rw [List.take_succ_eq_append_getElem hk, List.all_append]
  simp [List.getD, hk]

/-- The least number of segments from k on, among the next 'fuel' numbers. -/
def least (need tol : Int) : Nat → Nat → Option Nat
  | _, 0 => none
  | k, f + 1 => if need ≤ 16 * k * k * k * k * tol * tol then some k else least need tol (k + 1) f

def piecesV (need tol : Int) (ps : List (Int × Int)) : Int × Int :=
  if tol < 1 ∨ 256 < tol then (0, 2) else if okAll ps = false then (0, 6) else
    match least need tol 1 64 with
    | some k => (k, 0)
    | none => (0, 11)

theorem okAll_stop (ps : List (Int × Int)) (k : Nat) (hk : k < ps.length) (h : okPt ps[k].1 ps[k].2 = false) : okAll ps = false := by
  unfold okAll
  rw [List.all_eq_false]
  exact ⟨ps[k], List.getElem_mem hk, by simp [h]⟩
theorem okAll_step (ps : List (Int × Int)) (k : Nat) (hk : k < ps.length) (h0 : okAll (ps.take k) = true) (h : okPt ps[k].1 ps[k].2 = true) : okAll (ps.take (k + 1)) = true := by
  rw [okAll_take_succ ps k hk, h0]
  simp [List.getD, hk, h]
theorem okAll_end (ps : List (Int × Int)) (k : Nat) (hk : k ≤ ps.length) (hge : ¬ k < ps.length) (h0 : okAll (ps.take k) = true) : okAll ps = true := by
  rwa [List.take_of_length_le (by omega)] at h0

theorem allValid_any (b off cap : Nat) (ps : List (Int × Int)) (w : World) (hn : ps.length ≤ 4096) (hp : PtsAt w b off ps) :
    Calls Try.prog 140 #[.slice (some ⟨b, off, none⟩) ps.length cap] w fun e w' => e = .returned (.bool (okAll ps)) ∧ Ext w w' := by
  go_enter Try.func140, Try.ntmps140
  go_wp2_with fail
  go_loopw [3] (fun i wr => ∃ k : Nat, k ≤ ps.length ∧ i = .int .i64 k ∧ okAll (ps.take k) = true ∧ Ext w wr) (fun i _ => ps.length - (intOf i).toNat)
  case atStart => exact ⟨0, Nat.zero_le _, rfl, rfl, Ext.refl _⟩
  case round =>
    obtain ⟨k, hk, rfl, ho, he⟩ := hrel
    have HO := Lib.hid ho
    clear ho
    by_cases hlt : k < ps.length
    · obtain ⟨c0, c1⟩ := hp.ext he k hlt
      go_wp2_with (go_at_call 118; refine (rvalid_any _ _ _).mono ?_; rintro e w' ⟨rfl, hb⟩)
      · have hf : (!okPt ps[k].1 ps[k].2) = true := by assumption
        go_ret
        exact ⟨ret_bool (okAll_stop ps k hlt (by simpa using hf)).symm, he.trans ‹_›⟩
      · have hf : (!okPt ps[k].1 ps[k].2) = false := by assumption
        go_roundw
        case rel => exact ⟨k + 1, hlt, by go_num, okAll_step ps k hlt HO.out (by simpa using hf), he.trans ‹_›⟩
        case measure => simp [intOf]; omega
    · go_wp2_with fail
      go_ret
      exact ⟨ret_bool (okAll_end ps k hk hlt HO.out).symm, he⟩

theorem least_step (need tol : Int) (k f : Nat) (h : ¬ need ≤ 16 * k * k * k * k * tol * tol) : least need tol k (f + 1) = least need tol (k + 1) f := by
  rw [least, if_neg h]
theorem least_hit (need tol : Int) (k f : Nat) (h : need ≤ 16 * k * k * k * k * tol * tol) : least need tol k (f + 1) = some k := by
  rw [least, if_pos h]

/-- The products of the search stay small. -/
theorem least_bounds (k : Nat) (tol : Int) (hk : k ≤ 64) (h1 : 1 ≤ tol) (h2 : tol ≤ 256) :
    0 ≤ 16 * (k : Int) * k ∧ 16 * (k : Int) * k ≤ 65536 ∧ 0 ≤ 16 * (k : Int) * k * k ∧ 16 * (k : Int) * k * k ≤ 4194304 ∧ 0 ≤ 16 * (k : Int) * k * k * k ∧ 16 * (k : Int) * k * k * k ≤ 268435456 ∧
    0 ≤ 16 * (k : Int) * k * k * k * tol ∧ 16 * (k : Int) * k * k * k * tol ≤ 68719476736 ∧ 0 ≤ 16 * (k : Int) * k * k * k * tol * tol ∧ 16 * (k : Int) * k * k * k * tol * tol ≤ 17592186044416 := by
  have hk0 : (0 : Int) ≤ k := by omega
  have hk1 : (k : Int) ≤ 64 := by omega
  have mb : ∀ a b A B : Int, 0 ≤ a → a ≤ A → 0 ≤ b → b ≤ B → 0 ≤ a * b ∧ a * b ≤ A * B := fun a b A B ha hA hb hB =>
    ⟨Int.mul_nonneg ha hb, Int.mul_le_mul hA hB hb (by omega)⟩
  have a1 := mb (16 * k) k 1024 64 (by omega) (by omega) hk0 hk1
  have a2 := mb _ k 65536 64 a1.1 (by omega) hk0 hk1
  have a3 := mb _ k 4194304 64 a2.1 (by omega) hk0 hk1
  have a4 := mb _ tol 268435456 256 a3.1 (by omega) (by omega) h2
  have a5 := mb _ tol 68719476736 256 a4.1 (by omega) (by omega) h2
  omega

theorem pieces_any (need tol : Int) (b off cap : Nat) (ps : List (Int × Int)) (w : World) (hn : ps.length ≤ 4096) (hp : PtsAt w b off ps) :
    Calls Try.prog 56 #[.int .i64 need, .int .i64 tol, .slice (some ⟨b, off, none⟩) ps.length cap] w fun e w' =>
      e = .returned (.tuple #[.int .i64 (piecesV need tol ps).1, .int .i64 (piecesV need tol ps).2]) ∧ Ext w w' := by
  by_cases ht : tol < 1 ∨ 256 < tol
  · have hv : piecesV need tol ps = (0, 2) := by unfold piecesV; rw [if_pos ht]
    rw [hv]
    clear hv
    rcases ht with ht | ht
    · go_enter Try.func56, Try.ntmps56
      go_wp2_with fail
      go_ret2
      exact ⟨rfl, Ext.refl _⟩
    · have ht' : ¬ tol < 1 := by omega
      go_enter Try.func56, Try.ntmps56
      go_wp2_with fail
      go_ret2
      exact ⟨rfl, Ext.refl _⟩
  have t1 : 1 ≤ tol := by omega
  have t2 : tol ≤ 256 := by omega
  have v1 : okAll ps = false → piecesV need tol ps = (0, 6) := fun h => by unfold piecesV; rw [if_neg ht, if_pos h]
  have v2 : ∀ k : Nat, okAll ps = true → least need tol 1 64 = some k → piecesV need tol ps = ((k : Int), 0) := fun k h hl => by unfold piecesV; rw [if_neg ht, if_neg (by simp [h]), hl]
  have v3 : okAll ps = true → least need tol 1 64 = none → piecesV need tol ps = (0, 11) := fun h hl => by unfold piecesV; rw [if_neg ht, if_neg (by simp [h]), hl]
  have H1 := Lib.hid v1
  have H2 := Lib.hid v2
  have H3 := Lib.hid v3
  clear v1 v2 v3 ht
  have d1 : decide (tol < 1) = false := by simp; omega
  have d2 : decide (256 < tol) = false := by simp; omega
  go_enter Try.func56, Try.ntmps56
  go_wp2_with fail
  go_loopw [19] (fun i wr => ∃ k : Nat, k ≤ ps.length ∧ i = .int .i64 k ∧ okAll (ps.take k) = true ∧ Ext w wr) (fun i _ => ps.length - (intOf i).toNat)
  case atStart => exact ⟨0, Nat.zero_le _, rfl, rfl, Ext.refl _⟩
  case round =>
    obtain ⟨k, hk, rfl, ho, he⟩ := hrel
    have HO := Lib.hid ho
    clear ho
    by_cases hlt : k < ps.length
    · obtain ⟨c0, c1⟩ := hp.ext he k hlt
      go_wp2_with (go_at_call 89; refine (valid_any _ _ _).mono ?_; rintro e w' ⟨rfl, hb⟩)
      · have hf : (!okPt ps[k].1 ps[k].2) = true := by assumption
        go_ret2
        rw [H1.out (okAll_stop ps k hlt (by simpa using hf))]
        exact ⟨rfl, (he.alloc _).trans ‹_›⟩
      · have hf : (!okPt ps[k].1 ps[k].2) = false := by assumption
        go_roundw
        case rel => exact ⟨k + 1, hlt, by go_num, okAll_step ps k hlt HO.out (by simpa using hf), (he.alloc _).trans ‹_›⟩
        case measure => simp [intOf]; omega
    · have HK := Lib.hid (okAll_end ps k hk hlt HO.out)
      clear HO
      go_wp2_with fail
      go_loop [10] (fun i => ∃ j : Nat, 1 ≤ j ∧ j ≤ 65 ∧ i = .int .i64 j ∧ least need tol 1 64 = least need tol j (65 - j)) (fun i => 65 - (intOf i).toNat)
      case atStart => exact ⟨1, Nat.le_refl _, by omega, rfl, rfl⟩
      case round =>
        obtain ⟨j, hj1, hj2, rfl, hl⟩ := hrel
        have HL := Lib.hid hl
        clear hl
        by_cases hj : j ≤ 64
        · have bd := least_bounds j tol hj t1 t2
          by_cases hit : need ≤ 16 * (j : Int) * j * j * j * tol * tol
          · have hr : least need tol 1 64 = some j := by
              rw [HL.out, show 65 - j = (64 - j) + 1 by omega]; exact least_hit _ _ _ _ hit
            have HR := Lib.hid hr
            clear hr
            go_wp2_with fail
            go_ret2
            rw [H2.out j HK.out HR.out]
            exact ⟨rfl, he⟩
          · have hr : least need tol 1 64 = least need tol (j + 1) (65 - (j + 1)) := by
              rw [HL.out, show 65 - j = (64 - j) + 1 by omega, least_step _ _ _ _ hit, show 64 - j = 65 - (j + 1) by omega]
            have HR := Lib.hid hr
            clear hr
            go_wp2_with fail
            go_round
            case rel => exact ⟨j + 1, by omega, by omega, by go_num, HR.out⟩
            case measure => simp [intOf]; omega
        · have hr : least need tol 1 64 = none := by
            rw [HL.out, show 65 - j = 0 by omega]; rfl
          have HR := Lib.hid hr
          clear hr
          go_wp2_with fail
          go_ret2
          rw [H3.out HK.out HR.out]
          exact ⟨rfl, he⟩

def sqD (a b c : Int × Int) : Int := (a.1 - 2 * b.1 + c.1) * (a.1 - 2 * b.1 + c.1) + (a.2 - 2 * b.2 + c.2) * (a.2 - 2 * b.2 + c.2)

theorem sq_bound (x : Int) (h1 : -4194304 ≤ x) (h2 : x ≤ 4194304) : 0 ≤ x * x ∧ x * x ≤ 17592186044416 := by
  have h : x * x ≤ 4194304 * 4194304 := by
    by_cases hx : 0 ≤ x
    · exact Int.mul_le_mul h2 h2 hx (by omega)
    · have := Int.mul_le_mul (a := -x) (c := 4194304) (b := -x) (d := 4194304) (by omega) (by omega) (by omega) (by omega)
      rw [Int.neg_mul_neg] at this
      exact this
  refine ⟨?_, by omega⟩
  by_cases hx : 0 ≤ x
  · exact Int.mul_nonneg hx hx
  · have := Int.mul_nonneg (a := -x) (b := -x) (by omega) (by omega)
    rw [Int.neg_mul_neg] at this
    exact this

/-- Valid points: their second difference is in range, and so are the products. -/
theorem okPt_iff (x y : Int) : okPt x y = true ↔ (-1048576 ≤ x ∧ x ≤ 1048576) ∧ -1048576 ≤ y ∧ y ≤ 1048576 := by simp [okPt]

def SquareSays (a b c : Int × Int) (w : World) (e : Ending) (w' : World) : Prop :=
  ∃ n : Int, e = .returned (.int .i64 n) ∧ (okAll [a, b, c] = true → n = sqD a b c) ∧ Ext w w'

theorem square_any (a b c : Int × Int) (w : World) :
    Calls Try.prog 57 #[.agg #[.int .i64 a.1, .int .i64 a.2], .agg #[.int .i64 b.1, .int .i64 b.2], .agg #[.int .i64 c.1, .int .i64 c.2]] w (SquareSays a b c w) := by
  obtain ⟨ax, ay⟩ := a
  obtain ⟨bx, bt⟩ := b
  obtain ⟨cx, cy⟩ := c
  by_cases hv : okAll [(ax, ay), (bx, bt), (cx, cy)] = true
  · have hb : ((-1048576 ≤ ax ∧ ax ≤ 1048576) ∧ -1048576 ≤ ay ∧ ay ≤ 1048576) ∧ ((-1048576 ≤ bx ∧ bx ≤ 1048576) ∧ -1048576 ≤ bt ∧ bt ≤ 1048576) ∧ ((-1048576 ≤ cx ∧ cx ≤ 1048576) ∧ -1048576 ≤ cy ∧ cy ≤ 1048576) := by
      simpa [okAll, okPt_iff] using hv
    have b1 := sq_bound (ax - 2 * bx + cx) (by omega) (by omega)
    have b2 := sq_bound (ay - 2 * bt + cy) (by omega) (by omega)
    clear hv
    go_enter Try.func57, Try.ntmps57
    go_wp2_with fail
    go_quiet (fail)
    go_wp2_with fail
    go_ret
    exact ⟨_, rfl, fun _ => rfl, ((((Ext.refl _).alloc _).alloc _).alloc _).drewN _⟩
  · have HV := Lib.hid hv
    clear hv
    go_enter Try.func57, Try.ntmps57
    go_wp2_with fail
    go_quiet (fail)
    go_wp2_with fail
    go_ret
    exact ⟨_, rfl, fun h => absurd h HV.out, ((((Ext.refl _).alloc _).alloc _).alloc _).drewN _⟩

theorem piecesV_bad (n m tol : Int) (ps : List (Int × Int)) (h : okAll ps = false) : piecesV n tol ps = piecesV m tol ps := by
  unfold piecesV
  simp [h]

/-- A point as a value. -/
abbrev ptV (a : Int × Int) : Array Value := #[.int .i64 a.1, .int .i64 a.2]

def quadSegV (a b c : Int × Int) (tol : Int) : Int × Int := piecesV (sqD a b c) tol [a, b, c]
def cubicSegV (a b c d : Int × Int) (tol : Int) : Int × Int := piecesV (9 * max (sqD a b c) (sqD b c d)) tol [a, b, c, d]

theorem pts3 {w : World} {g : Nat} {a b c : Int × Int} (h0 : w.cell? ⟨g, 0, none⟩ = some (.int .i64 a.1)) (h1 : w.cell? ⟨g, 1, none⟩ = some (.int .i64 a.2)) (h2 : w.cell? ⟨g, 2, none⟩ = some (.int .i64 b.1))
    (h3 : w.cell? ⟨g, 3, none⟩ = some (.int .i64 b.2)) (h4 : w.cell? ⟨g, 4, none⟩ = some (.int .i64 c.1)) (h5 : w.cell? ⟨g, 5, none⟩ = some (.int .i64 c.2)) : PtsAt w g 0 [a, b, c] := by
  intro i hi
  match i, hi with
  | 0, _ => exact ⟨h0, h1⟩
  | 1, _ => exact ⟨h2, h3⟩
  | 2, _ => exact ⟨h4, h5⟩
theorem pts4 {w : World} {g : Nat} {a b c d : Int × Int} (h0 : w.cell? ⟨g, 0, none⟩ = some (.int .i64 a.1)) (h1 : w.cell? ⟨g, 1, none⟩ = some (.int .i64 a.2)) (h2 : w.cell? ⟨g, 2, none⟩ = some (.int .i64 b.1))
    (h3 : w.cell? ⟨g, 3, none⟩ = some (.int .i64 b.2)) (h4 : w.cell? ⟨g, 4, none⟩ = some (.int .i64 c.1)) (h5 : w.cell? ⟨g, 5, none⟩ = some (.int .i64 c.2))
    (h6 : w.cell? ⟨g, 6, none⟩ = some (.int .i64 d.1)) (h7 : w.cell? ⟨g, 7, none⟩ = some (.int .i64 d.2)) : PtsAt w g 0 [a, b, c, d] := by
  intro i hi
  match i, hi with
  | 0, _ => exact ⟨h0, h1⟩
  | 1, _ => exact ⟨h2, h3⟩
  | 2, _ => exact ⟨h4, h5⟩
  | 3, _ => exact ⟨h6, h7⟩

def PiecesSays (need tol : Int) (ps : List (Int × Int)) (w : World) (e : Ending) (w' : World) : Prop :=
  e = .returned (.tuple #[.int .i64 (piecesV need tol ps).1, .int .i64 (piecesV need tol ps).2]) ∧ Ext w w'

theorem pieces_len (need tol : Int) (n b off cap : Nat) (ps : List (Int × Int)) (w : World) (hl : ps.length = n) (hn : n ≤ 4096) (hp : PtsAt w b off ps) :
    Calls Try.prog 56 #[.int .i64 need, .int .i64 tol, .slice (some ⟨b, off, none⟩) n cap] w (PiecesSays need tol ps w) := by
  subst hl
  exact pieces_any need tol b off cap ps w hn hp

end Go.Proofs.Ytllpkoinjompcaa

namespace Go.Proofs.Ytllpkoinjompcaa
open Go.RowKit
attribute [local go_sem ↓] Go.wp_at_zero Go.wp_at_succ run_eql_point run_neq_point run_max_ii run_min_ii

theorem quadSeg_any (a b c : Int × Int) (tol : Int) (w : World) :
    Calls Try.prog 28 #[.agg #[.int .i64 a.1, .int .i64 a.2, .int .i64 b.1, .int .i64 b.2, .int .i64 c.1, .int .i64 c.2], .int .i64 tol] w fun e w' =>
      e = .returned (.tuple #[.int .i64 (quadSegV a b c tol).1, .int .i64 (quadSegV a b c tol).2]) ∧ Ext w w' := by
  have g : ∀ w', Ext (w.alloc (.cells #[.int .i64 a.1, .int .i64 a.2, .int .i64 b.1, .int .i64 b.2, .int .i64 c.1, .int .i64 c.2] 67)) w' →
      w'.cell? ⟨w.heap.size, 0, none⟩ = some (.int .i64 a.1) ∧ w'.cell? ⟨w.heap.size, 1, none⟩ = some (.int .i64 a.2) ∧ w'.cell? ⟨w.heap.size, 2, none⟩ = some (.int .i64 b.1) ∧
      w'.cell? ⟨w.heap.size, 3, none⟩ = some (.int .i64 b.2) ∧ w'.cell? ⟨w.heap.size, 4, none⟩ = some (.int .i64 c.1) ∧ w'.cell? ⟨w.heap.size, 5, none⟩ = some (.int .i64 c.2) := fun w' h =>
    ⟨h.get (by simp), h.get (by simp), h.get (by simp), h.get (by simp), h.get (by simp), h.get (by simp)⟩
  have hps : ∀ w', Ext (w.alloc (.cells #[.int .i64 a.1, .int .i64 a.2, .int .i64 b.1, .int .i64 b.2, .int .i64 c.1, .int .i64 c.2] 67)) w' → PtsAt w' w.heap.size 0 [a, b, c] := fun w' h => by
    obtain ⟨h0, h1, h2, h3, h4, h5⟩ := g w' h
    exact pts3 h0 h1 h2 h3 h4 h5
  have HP := Lib.hid hps
  clear hps
  go_enter Try.func28, Try.ntmps28
  go_wp2_with fail
  go_region_held3 (fun w' => Ext (w.alloc (.cells #[.int .i64 a.1, .int .i64 a.2, .int .i64 b.1, .int .i64 b.2, .int .i64 c.1, .int .i64 c.2] 67)) w') (first | assumption | exact Ext.drew (Ext.refl _) | (apply Ext.via; assumption; assumption))
    (first | (go_at_call 57; refine (square_any a b c _).mono ?_; rintro e w' ⟨n, rfl, hn, hb⟩) | (go_at_call 56; refine (pieces_len _ tol 3 w.heap.size 0 3 [a, b, c] _ rfl (by omega) (HP.out _ (by assumption))).mono ?_; rintro e w' ⟨rfl, hb2⟩))
  go_wp2_with fail
  go_ret2
  have hq : quadSegV a b c tol = piecesV n tol [a, b, c] := by
    unfold quadSegV
    by_cases hv : okAll [a, b, c] = true
    · rw [hn hv]
    · exact piecesV_bad _ _ _ _ (by simpa using hv)
  rw [hq]
  exact ⟨rfl, ((Ext.refl _).alloc _).trans ‹_›⟩

theorem okAll_cons (p : Int × Int) (ps : List (Int × Int)) : okAll (p :: ps) = (okPt p.1 p.2 && okAll ps) := rfl
theorem okAll_nil : okAll [] = true := rfl

theorem sqD_bound (a b c : Int × Int) (h : okAll [a, b, c] = true) : 0 ≤ sqD a b c ∧ sqD a b c ≤ 35184372088832 := by
  have hb : ((-1048576 ≤ a.1 ∧ a.1 ≤ 1048576) ∧ -1048576 ≤ a.2 ∧ a.2 ≤ 1048576) ∧ ((-1048576 ≤ b.1 ∧ b.1 ≤ 1048576) ∧ -1048576 ≤ b.2 ∧ b.2 ≤ 1048576) ∧ ((-1048576 ≤ c.1 ∧ c.1 ≤ 1048576) ∧ -1048576 ≤ c.2 ∧ c.2 ≤ 1048576) := by
    simpa [okAll, okPt_iff] using h
  have b1 := sq_bound (a.1 - 2 * b.1 + c.1) (by omega) (by omega)
  have b2 := sq_bound (a.2 - 2 * b.2 + c.2) (by omega) (by omega)
  unfold sqD
  omega

theorem cubic_close {a b c d : Int × Int} {tol n m : Int} (hn : okAll [a, b, c] = true → n = sqD a b c) (hm : okAll [b, c, d] = true → m = sqD b c d) :
    cubicSegV a b c d tol = piecesV (IntKind.i64.wrap (9 * max n m)) tol [a, b, c, d] := by
  unfold cubicSegV
  by_cases hv : okAll [a, b, c, d] = true
  · have h1 : okAll [a, b, c] = true := by simp [okAll] at hv ⊢; simp [hv]
    have h2 : okAll [b, c, d] = true := by simp [okAll] at hv ⊢; simp [hv]
    have b1 := sqD_bound a b c h1
    have b2 := sqD_bound b c d h2
    rw [hn h1, hm h2, IntWalk.i64_in _ (by omega)]
  · exact piecesV_bad _ _ _ _ (by simpa using hv)

theorem cubicSeg_any (a b c d : Int × Int) (tol : Int) (w : World) :
    Calls Try.prog 93 #[.agg #[.int .i64 a.1, .int .i64 a.2, .int .i64 b.1, .int .i64 b.2, .int .i64 c.1, .int .i64 c.2, .int .i64 d.1, .int .i64 d.2], .int .i64 tol] w fun e w' =>
      e = .returned (.tuple #[.int .i64 (cubicSegV a b c d tol).1, .int .i64 (cubicSegV a b c d tol).2]) ∧ Ext w w' := by
  have g : ∀ w', Ext (w.alloc (.cells #[.int .i64 a.1, .int .i64 a.2, .int .i64 b.1, .int .i64 b.2, .int .i64 c.1, .int .i64 c.2, .int .i64 d.1, .int .i64 d.2] 109)) w' →
      w'.cell? ⟨w.heap.size, 0, none⟩ = some (.int .i64 a.1) ∧ w'.cell? ⟨w.heap.size, 1, none⟩ = some (.int .i64 a.2) ∧ w'.cell? ⟨w.heap.size, 2, none⟩ = some (.int .i64 b.1) ∧ w'.cell? ⟨w.heap.size, 3, none⟩ = some (.int .i64 b.2) ∧ w'.cell? ⟨w.heap.size, 4, none⟩ = some (.int .i64 c.1) ∧ w'.cell? ⟨w.heap.size, 5, none⟩ = some (.int .i64 c.2) ∧ w'.cell? ⟨w.heap.size, 6, none⟩ = some (.int .i64 d.1) ∧ w'.cell? ⟨w.heap.size, 7, none⟩ = some (.int .i64 d.2) := fun w' h =>
    ⟨h.get (by simp), h.get (by simp), h.get (by simp), h.get (by simp), h.get (by simp), h.get (by simp), h.get (by simp), h.get (by simp)⟩
  have hps : ∀ w', Ext (w.alloc (.cells #[.int .i64 a.1, .int .i64 a.2, .int .i64 b.1, .int .i64 b.2, .int .i64 c.1, .int .i64 c.2, .int .i64 d.1, .int .i64 d.2] 109)) w' → PtsAt w' w.heap.size 0 [a, b, c, d] := fun w' h => by
    obtain ⟨h0, h1, h2, h3, h4, h5, h6, h7⟩ := g w' h
    exact pts4 h0 h1 h2 h3 h4 h5 h6 h7
  have HP := Lib.hid hps
  clear hps
  go_enter Try.func93, Try.ntmps93
  go_wp2_with fail
  go_region_held3 (fun w' => Ext (w.alloc (.cells #[.int .i64 a.1, .int .i64 a.2, .int .i64 b.1, .int .i64 b.2, .int .i64 c.1, .int .i64 c.2, .int .i64 d.1, .int .i64 d.2] 109)) w') (first | assumption | exact Ext.drew (Ext.refl _) | (apply Ext.via; assumption; assumption))
    (first | (go_at_call 57; refine (square_any (_, _) (_, _) (_, _) _).mono ?_; rintro e w' ⟨n, rfl, hn, hb⟩) | (go_at_call 56; refine (pieces_len _ tol 4 w.heap.size 0 4 [a, b, c, d] _ rfl (by omega) (HP.out _ (by assumption))).mono ?_; rintro e w' ⟨rfl, hb2⟩))
  go_wp2_with fail
  go_ret2
  rw [cubic_close (a := a) (b := b) (c := c) (d := d) (by assumption) (by assumption)]
  exact ⟨rfl, ((Ext.refl _).alloc _).trans ‹_›⟩
end Go.Proofs.Ytllpkoinjompcaa

namespace Go.Proofs.Ytllpkoinjompcaa
open Go.RowKit
attribute [local go_sem ↓] Go.wp_at_zero Go.wp_at_succ run_eql_point run_neq_point run_max_ii run_min_ii

theorem validTol_any (t : Int) (w : World) :
    Calls Try.prog 36 #[.int .i64 t] w fun e w' => e = .returned (.bool (decide (1 ≤ t) && decide (t ≤ 256))) ∧ w = w' := by
  by_cases h1 : 1 ≤ t
  · by_cases h2 : t ≤ 256
    · go_enter Try.func36, Try.ntmps36
      go_wp2_with fail
      go_ret
      exact ⟨ret_bool (by simp; omega), rfl⟩
    · go_enter Try.func36, Try.ntmps36
      go_wp2_with fail
      go_ret
      exact ⟨ret_bool (by simp; omega), rfl⟩
  · go_enter Try.func36, Try.ntmps36
    go_wp2_with fail
    go_ret
    exact ⟨ret_bool (by simp; omega), rfl⟩

theorem bend_any (ax ay bx bt cx cy : Int) (w : World) (hv : okAll [(ax, ay), (bx, bt), (cx, cy)] = true) :
    Calls Try.prog 146 #[.agg #[.int .i64 ax, .int .i64 ay], .agg #[.int .i64 bx, .int .i64 bt], .agg #[.int .i64 cx, .int .i64 cy]] w fun e w' =>
      e = .returned (.int .i64 (sqD (ax, ay) (bx, bt) (cx, cy))) ∧ Ext w w' := by
  have hb : ((-1048576 ≤ ax ∧ ax ≤ 1048576) ∧ -1048576 ≤ ay ∧ ay ≤ 1048576) ∧ ((-1048576 ≤ bx ∧ bx ≤ 1048576) ∧ -1048576 ≤ bt ∧ bt ≤ 1048576) ∧ ((-1048576 ≤ cx ∧ cx ≤ 1048576) ∧ -1048576 ≤ cy ∧ cy ≤ 1048576) := by
    simpa [okAll, okPt_iff] using hv
  have b1 := sq_bound (ax - 2 * bx + cx) (by omega) (by omega)
  have b2 := sq_bound (ay - 2 * bt + cy) (by omega) (by omega)
  clear hv
  go_enter Try.func146, Try.ntmps146
  go_wp2_with fail
  go_ret
  exact ⟨rfl, (((Ext.refl _).alloc _).alloc _).alloc _⟩

theorem bend_pts (a b c : Int × Int) (w : World) (hv : okAll [a, b, c] = true) :
    Calls Try.prog 146 #[.agg #[.int .i64 a.1, .int .i64 a.2], .agg #[.int .i64 b.1, .int .i64 b.2], .agg #[.int .i64 c.1, .int .i64 c.2]] w fun e w' =>
      e = .returned (.int .i64 (sqD a b c)) ∧ Ext w w' := bend_any a.1 a.2 b.1 b.2 c.1 c.2 w hv

/-- What 'segments' looks at: the largest second difference of three or four points. -/
def bends (ps : List (Int × Int)) : Int := match ps with
  | [a, b, c] => sqD a b c
  | [a, b, c, d] => max (sqD a b c) (sqD b c d)
  | _ => 0

theorem pts3_get {w w' : World} {g : Nat} {a b c : Int × Int} (hp : PtsAt w g 0 [a, b, c]) (h : Ext w w') :
    w'.cell? ⟨g, 0, none⟩ = some (.int .i64 a.1) ∧ w'.cell? ⟨g, 1, none⟩ = some (.int .i64 a.2) ∧ w'.cell? ⟨g, 2, none⟩ = some (.int .i64 b.1) ∧
      w'.cell? ⟨g, 3, none⟩ = some (.int .i64 b.2) ∧ w'.cell? ⟨g, 4, none⟩ = some (.int .i64 c.1) ∧ w'.cell? ⟨g, 5, none⟩ = some (.int .i64 c.2) := by
  have q := hp.ext h
  have q0 := q 0 (by simp)
  have q1 := q 1 (by simp)
  have q2 := q 2 (by simp)
  exact ⟨q0.1, q0.2, q1.1, q1.2, q2.1, q2.2⟩
theorem pts4_get {w w' : World} {g : Nat} {a b c d : Int × Int} (hp : PtsAt w g 0 [a, b, c, d]) (h : Ext w w') :
    w'.cell? ⟨g, 0, none⟩ = some (.int .i64 a.1) ∧ w'.cell? ⟨g, 1, none⟩ = some (.int .i64 a.2) ∧ w'.cell? ⟨g, 2, none⟩ = some (.int .i64 b.1) ∧
      w'.cell? ⟨g, 3, none⟩ = some (.int .i64 b.2) ∧ w'.cell? ⟨g, 4, none⟩ = some (.int .i64 c.1) ∧ w'.cell? ⟨g, 5, none⟩ = some (.int .i64 c.2) ∧
      w'.cell? ⟨g, 6, none⟩ = some (.int .i64 d.1) ∧ w'.cell? ⟨g, 7, none⟩ = some (.int .i64 d.2) := by
  have q := hp.ext h
  have q0 := q 0 (by simp)
  have q1 := q 1 (by simp)
  have q2 := q 2 (by simp)
  have q3 := q 3 (by simp)
  exact ⟨q0.1, q0.2, q1.1, q1.2, q2.1, q2.2, q3.1, q3.2⟩

theorem piecesV_some {need tol : Int} {ps : List (Int × Int)} {k : Nat} (t1 : 1 ≤ tol) (t2 : tol ≤ 256) (h : okAll ps = true) (hl : least need tol 1 64 = some k) : piecesV need tol ps = ((k : Int), 0) := by
  unfold piecesV
  rw [if_neg (by omega), if_neg (by simp [h]), hl]
theorem piecesV_none {need tol : Int} {ps : List (Int × Int)} (t1 : 1 ≤ tol) (t2 : tol ≤ 256) (h : okAll ps = true) (hl : least need tol 1 64 = none) : piecesV need tol ps = (0, 11) := by
  unfold piecesV
  rw [if_neg (by omega), if_neg (by simp [h]), hl]

theorem segs3 (a b c : Int × Int) (tol : Int) (g cap : Nat) (w : World) (hp : PtsAt w g 0 [a, b, c]) :
    Calls Try.prog 138 #[.slice (some ⟨g, 0, none⟩) 3 cap, .int .i64 tol, .int .i64 1] w fun e w' =>
      e = .returned (.tuple #[.int .i64 (quadSegV a b c tol).1, .int .i64 (quadSegV a b c tol).2]) ∧ Ext w w' := by
  unfold quadSegV
  by_cases ht : tol < 1 ∨ 256 < tol
  · have hv : piecesV (sqD a b c) tol [a, b, c] = (0, 2) := by unfold piecesV; rw [if_pos ht]
    rw [hv]
    clear hv
    have hd : (!(decide (1 ≤ tol) && decide (tol ≤ 256))) = true := by rcases ht with h | h <;> simp <;> omega
    go_enter Try.func138, Try.ntmps138
    go_wp2_with (go_at_call 36; refine (validTol_any _ _).mono ?_; rintro e w' ⟨rfl, rfl⟩)
    go_ret2
    exact ⟨rfl, Ext.refl _⟩
  have t1 : 1 ≤ tol := by omega
  have t2 : tol ≤ 256 := by omega
  have d1 : decide (1 ≤ tol) = true := by simpa using t1
  have d2 : decide (tol ≤ 256) = true := by simpa using t2
  by_cases hv : okAll [a, b, c] = true
  · have g0 : ∀ w', Ext w w' → w'.cell? ⟨g, 0, none⟩ = some (.int .i64 a.1) ∧ w'.cell? ⟨g, 1, none⟩ = some (.int .i64 a.2) ∧ w'.cell? ⟨g, 2, none⟩ = some (.int .i64 b.1) ∧
      w'.cell? ⟨g, 3, none⟩ = some (.int .i64 b.2) ∧ w'.cell? ⟨g, 4, none⟩ = some (.int .i64 c.1) ∧ w'.cell? ⟨g, 5, none⟩ = some (.int .i64 c.2) := fun w' h => pts3_get hp h
    have HV := Lib.hid hv
    have b0 := sqD_bound a b c hv
    clear ht
    go_enter Try.func138, Try.ntmps138
    go_wp2_with (first | (go_at_call 36; refine (validTol_any _ _).mono ?_; rintro e w' ⟨rfl, rfl⟩) | (go_at_call 140; refine (allValid_any g 0 cap [a, b, c] _ (by simp) hp).mono ?_; rintro e w' ⟨rfl, hb⟩))
    go_region_held3 (fun w' => Ext w w') (first | assumption | (exact Ext.drew (by assumption)) | (apply Ext.via; assumption; assumption))
      (first | (go_at_call 146; refine (bend_pts a b c _ HV.out).mono ?_; rintro e w' ⟨rfl, hb⟩))
    go_wp2_with fail
    go_loop [9] (fun i => ∃ j : Nat, 1 ≤ j ∧ j ≤ 65 ∧ i = .int .i64 j ∧ least (sqD a b c) tol 1 64 = least (sqD a b c) tol j (65 - j)) (fun i => 65 - (intOf i).toNat)
    case atStart => exact ⟨1, Nat.le_refl _, by omega, rfl, rfl⟩
    case round =>
      obtain ⟨j, hj1, hj2, rfl, hl⟩ := hrel
      have HL := Lib.hid hl
      clear hl
      by_cases hj : j ≤ 64
      · have bd := least_bounds j tol hj t1 t2
        by_cases hit : sqD a b c ≤ 16 * (j : Int) * j * j * j * tol * tol
        · have hr : least (sqD a b c) tol 1 64 = some j := by
            rw [HL.out, show 65 - j = (64 - j) + 1 by omega]; exact least_hit _ _ _ _ hit
          have HR := Lib.hid (piecesV_some t1 t2 HV.out hr)
          clear hr
          go_wp2_with fail
          go_ret2
          rw [HR.out]
          exact ⟨rfl, by assumption⟩
        · have hr : least (sqD a b c) tol 1 64 = least (sqD a b c) tol (j + 1) (65 - (j + 1)) := by
            rw [HL.out, show 65 - j = (64 - j) + 1 by omega, least_step _ _ _ _ hit, show 64 - j = 65 - (j + 1) by omega]
          have HR := Lib.hid hr
          clear hr
          go_wp2_with fail
          go_round
          case rel => exact ⟨j + 1, by omega, by omega, by go_num, HR.out⟩
          case measure => simp [intOf]; omega
      · have hr : least (sqD a b c) tol 1 64 = none := by
          rw [HL.out, show 65 - j = 0 by omega]; rfl
        have HR := Lib.hid (piecesV_none t1 t2 HV.out hr)
        clear hr
        go_wp2_with fail
        go_ret2
        rw [HR.out]
        exact ⟨rfl, by assumption⟩
  · have hvf : okAll [a, b, c] = false := by simpa using hv
    have hr : piecesV (sqD a b c) tol [a, b, c] = (0, 6) := by unfold piecesV; rw [if_neg ht, if_pos hvf]
    rw [hr]
    clear hr ht hv
    go_enter Try.func138, Try.ntmps138
    go_wp2_with (first | (go_at_call 36; refine (validTol_any _ _).mono ?_; rintro e w' ⟨rfl, rfl⟩) | (go_at_call 140; refine (allValid_any g 0 cap [a, b, c] _ (by simp) hp).mono ?_; rintro e w' ⟨rfl, hb⟩))
    go_ret2
    exact ⟨rfl, ‹_›⟩
theorem segs4 (a b c d : Int × Int) (tol : Int) (g cap : Nat) (w : World) (hp : PtsAt w g 0 [a, b, c, d]) :
    Calls Try.prog 138 #[.slice (some ⟨g, 0, none⟩) 4 cap, .int .i64 tol, .int .i64 9] w fun e w' =>
      e = .returned (.tuple #[.int .i64 (cubicSegV a b c d tol).1, .int .i64 (cubicSegV a b c d tol).2]) ∧ Ext w w' := by
  unfold cubicSegV
  by_cases ht : tol < 1 ∨ 256 < tol
  · have hv : piecesV (9 * max (sqD a b c) (sqD b c d)) tol [a, b, c, d] = (0, 2) := by unfold piecesV; rw [if_pos ht]
    rw [hv]
    clear hv
    have hd : (!(decide (1 ≤ tol) && decide (tol ≤ 256))) = true := by rcases ht with h | h <;> simp <;> omega
    go_enter Try.func138, Try.ntmps138
    go_wp2_with (go_at_call 36; refine (validTol_any _ _).mono ?_; rintro e w' ⟨rfl, rfl⟩)
    go_ret2
    exact ⟨rfl, Ext.refl _⟩
  have t1 : 1 ≤ tol := by omega
  have t2 : tol ≤ 256 := by omega
  have d1 : decide (1 ≤ tol) = true := by simpa using t1
  have d2 : decide (tol ≤ 256) = true := by simpa using t2
  by_cases hv : okAll [a, b, c, d] = true
  · have g0 : ∀ w', Ext w w' → w'.cell? ⟨g, 0, none⟩ = some (.int .i64 a.1) ∧ w'.cell? ⟨g, 1, none⟩ = some (.int .i64 a.2) ∧ w'.cell? ⟨g, 2, none⟩ = some (.int .i64 b.1) ∧
      w'.cell? ⟨g, 3, none⟩ = some (.int .i64 b.2) ∧ w'.cell? ⟨g, 4, none⟩ = some (.int .i64 c.1) ∧ w'.cell? ⟨g, 5, none⟩ = some (.int .i64 c.2) ∧
      w'.cell? ⟨g, 6, none⟩ = some (.int .i64 d.1) ∧ w'.cell? ⟨g, 7, none⟩ = some (.int .i64 d.2) := fun w' h => pts4_get hp h
    have HV := Lib.hid hv
    have v1 : okAll [a, b, c] = true := by simp [okAll] at hv ⊢; simp [hv]
    have v2 : okAll [b, c, d] = true := by simp [okAll] at hv ⊢; simp [hv]
    have b0 := sqD_bound a b c v1
    have b1 := sqD_bound b c d v2
    have V1 := Lib.hid v1
    have V2 := Lib.hid v2
    clear v1 v2
    clear ht
    go_enter Try.func138, Try.ntmps138
    go_wp2_with (first | (go_at_call 36; refine (validTol_any _ _).mono ?_; rintro e w' ⟨rfl, rfl⟩) | (go_at_call 140; refine (allValid_any g 0 cap [a, b, c, d] _ (by simp) hp).mono ?_; rintro e w' ⟨rfl, hb⟩))
    go_region_held3 (fun w' => Ext w w') (first | assumption | (exact Ext.drew (by assumption)) | (apply Ext.via; assumption; assumption))
      (first | (go_at_call 146; refine (bend_pts a b c _ V1.out).mono ?_; rintro e w' ⟨rfl, hb⟩))
    go_wp2_with fail

    go_region_held3 (fun w' => Ext w w') (first | assumption | (exact Ext.drew (by assumption)) | (apply Ext.via; assumption; assumption))
      (first | (go_at_call 146; refine (bend_pts b c d _ V2.out).mono ?_; rintro e w' ⟨rfl, hb⟩))
    go_wp2_with fail
    go_loop [9] (fun i => ∃ j : Nat, 1 ≤ j ∧ j ≤ 65 ∧ i = .int .i64 j ∧ least (9 * max (sqD a b c) (sqD b c d)) tol 1 64 = least (9 * max (sqD a b c) (sqD b c d)) tol j (65 - j)) (fun i => 65 - (intOf i).toNat)
    case atStart => exact ⟨1, Nat.le_refl _, by omega, rfl, rfl⟩
    case round =>
      obtain ⟨j, hj1, hj2, rfl, hl⟩ := hrel
      have HL := Lib.hid hl
      clear hl
      by_cases hj : j ≤ 64
      · have bd := least_bounds j tol hj t1 t2
        by_cases hit : 9 * max (sqD a b c) (sqD b c d) ≤ 16 * (j : Int) * j * j * j * tol * tol
        · have hr : least (9 * max (sqD a b c) (sqD b c d)) tol 1 64 = some j := by
            rw [HL.out, show 65 - j = (64 - j) + 1 by omega]; exact least_hit _ _ _ _ hit
          have HR := Lib.hid (piecesV_some t1 t2 HV.out hr)
          clear hr
          go_wp2_with fail
          go_ret2
          rw [HR.out]
          exact ⟨rfl, by assumption⟩
        · have hr : least (9 * max (sqD a b c) (sqD b c d)) tol 1 64 = least (9 * max (sqD a b c) (sqD b c d)) tol (j + 1) (65 - (j + 1)) := by
            rw [HL.out, show 65 - j = (64 - j) + 1 by omega, least_step _ _ _ _ hit, show 64 - j = 65 - (j + 1) by omega]
          have HR := Lib.hid hr
          clear hr
          go_wp2_with fail
          go_round
          case rel => exact ⟨j + 1, by omega, by omega, by go_num, HR.out⟩
          case measure => simp [intOf]; omega
      · have hr : least (9 * max (sqD a b c) (sqD b c d)) tol 1 64 = none := by
          rw [HL.out, show 65 - j = 0 by omega]; rfl
        have HR := Lib.hid (piecesV_none t1 t2 HV.out hr)
        clear hr
        go_wp2_with fail
        go_ret2
        rw [HR.out]
        exact ⟨rfl, by assumption⟩
  · have hvf : okAll [a, b, c, d] = false := by simpa using hv
    have hr : piecesV (9 * max (sqD a b c) (sqD b c d)) tol [a, b, c, d] = (0, 6) := by unfold piecesV; rw [if_neg ht, if_pos hvf]
    rw [hr]
    clear hr ht hv
    go_enter Try.func138, Try.ntmps138
    go_wp2_with (first | (go_at_call 36; refine (validTol_any _ _).mono ?_; rintro e w' ⟨rfl, rfl⟩) | (go_at_call 140; refine (allValid_any g 0 cap [a, b, c, d] _ (by simp) hp).mono ?_; rintro e w' ⟨rfl, hb⟩))
    go_ret2
    exact ⟨rfl, ‹_›⟩
end Go.Proofs.Ytllpkoinjompcaa

namespace Go.Proofs.Ytllpkoinjompcaa
open Go.RowKit
attribute [local go_sem ↓] Go.wp_at_zero Go.wp_at_succ run_eql_point run_neq_point run_max_ii run_min_ii

theorem rquadSeg_any (a b c : Int × Int) (tol : Int) (w : World) :
    Calls Try.prog 119 #[.agg #[.int .i64 a.1, .int .i64 a.2, .int .i64 b.1, .int .i64 b.2, .int .i64 c.1, .int .i64 c.2], .int .i64 tol] w fun e w' =>
      e = .returned (.tuple #[.int .i64 (quadSegV a b c tol).1, .int .i64 (quadSegV a b c tol).2]) ∧ Ext w w' := by
  go_enter Try.func119, Try.ntmps119
  go_wp2_with (go_at_call 138; refine (segs3 a b c tol _ 3 _ (pts3 (by simp) (by simp) (by simp) (by simp) (by simp) (by simp))).mono ?_; rintro e w' ⟨rfl, hb⟩)
  go_ret2
  exact ⟨rfl, (((Ext.refl _).alloc _).alloc _).trans ‹_›⟩

theorem rcubicSeg_any (a b c d : Int × Int) (tol : Int) (w : World) :
    Calls Try.prog 121 #[.agg #[.int .i64 a.1, .int .i64 a.2, .int .i64 b.1, .int .i64 b.2, .int .i64 c.1, .int .i64 c.2, .int .i64 d.1, .int .i64 d.2], .int .i64 tol] w fun e w' =>
      e = .returned (.tuple #[.int .i64 (cubicSegV a b c d tol).1, .int .i64 (cubicSegV a b c d tol).2]) ∧ Ext w w' := by
  go_enter Try.func121, Try.ntmps121
  go_wp2_with (go_at_call 138; refine (segs4 a b c d tol _ 4 _ (pts4 (by simp) (by simp) (by simp) (by simp) (by simp) (by simp) (by simp) (by simp))).mono ?_; rintro e w' ⟨rfl, hb⟩)
  go_ret2
  exact ⟨rfl, (((Ext.refl _).alloc _).alloc _).trans ‹_›⟩

/-- a/b rounded to the nearest integer, halves up. -/
def nearV (a b : Int) : Int := (2 * a + b) / (2 * b)

theorem quo_floor (x y : Int) (hy : 1 ≤ y) : (0 ≤ x.tmod y → x.tdiv y = x / y) ∧ (x.tmod y < 0 → x.tdiv y - 1 = x / y) ∧ (x.tmod y < 0 → x < 0) ∧ (0 ≤ x → x.tdiv y = x / y ∧ 0 ≤ x.tmod y) := by
  by_cases hx : 0 ≤ x
  · have h1 : x.tdiv y = x / y := Int.tdiv_eq_ediv_of_nonneg hx
    have h2 : 0 ≤ x.tmod y := Int.tmod_nonneg _ hx
    exact ⟨fun _ => h1, fun h => by omega, fun h => by omega, fun _ => ⟨h1, h2⟩⟩
  · have e := Int.mul_tdiv_add_tmod x y
    have e2 := Int.mul_ediv_add_emod x y
    have m0 := Int.emod_nonneg x (b := y) (by omega)
    have m1 := Int.emod_lt_of_pos x (b := y) (by omega)
    have t0 : x.tmod y ≤ 0 := by
      have := Int.tmod_nonneg (a := -x) y (by omega)
      rw [Int.neg_tmod] at this
      omega
    have t1 : -y < x.tmod y := by
      have := Int.tmod_lt_of_pos (-x) (b := y) (by omega)
      rw [Int.neg_tmod] at this
      omega
    refine ⟨fun h => ?_, fun h => ?_, fun _ => by omega, fun h => by omega⟩
    · have h0 : x.tmod y = 0 := by omega
      have hm : y * (x.tdiv y - x / y) = x % y := by rw [Int.mul_sub]; omega
      have : x.tdiv y - x / y = 0 := by
        by_cases hp : 1 ≤ x.tdiv y - x / y
        · have := Int.mul_le_mul_of_nonneg_left hp (show 0 ≤ y by omega); omega
        · by_cases hn : x.tdiv y - x / y ≤ -1
          · have := Int.mul_le_mul_of_nonneg_left hn (show 0 ≤ y by omega); omega
          · omega
      omega
    · have hm : y * (x.tdiv y - x / y) = x % y - x.tmod y := by rw [Int.mul_sub]; omega
      have : x.tdiv y - x / y = 1 := by
        by_cases hp : 2 ≤ x.tdiv y - x / y
        · have := Int.mul_le_mul_of_nonneg_left hp (show 0 ≤ y by omega); omega
        · by_cases hn : x.tdiv y - x / y ≤ 0
          · have := Int.mul_le_mul_of_nonneg_left hn (show 0 ≤ y by omega); omega
          · omega
      omega

theorem tdiv_bound (x y B : Int) (h1 : -B ≤ x) (h2 : x ≤ B) : -B ≤ x.tdiv y ∧ x.tdiv y ≤ B := by
  have := Int.natAbs_tdiv_le_natAbs x y
  omega

theorem near_any (a b : Int) (w : World) (h1 : 1 ≤ b) (h2 : b ≤ 1099511627776) (h3 : -1152921504606846976 ≤ a) (h4 : a ≤ 1152921504606846976) :
    Calls Try.prog 63 #[.int .i64 a, .int .i64 b] w fun e w' => e = .returned (.int .i64 (nearV a b)) ∧ w = w' := by
  have q := quo_floor (2 * a + b) (2 * b) (by omega)
  have bq := tdiv_bound (2 * a + b) (2 * b) 3458764513820540928 (by omega) (by omega)
  have e1 : (2 * a + b).tmod (2 * b) < 0 → nearV a b = (2 * a + b).tdiv (2 * b) - 1 := fun h => (q.2.1 h).symm
  have e2 : 0 ≤ (2 * a + b).tmod (2 * b) → nearV a b = (2 * a + b).tdiv (2 * b) := fun h => (q.1 h).symm
  have E1 := Lib.hid e1
  have E2 := Lib.hid e2
  clear e1 e2 q
  by_cases hr : (2 * a + b).tmod (2 * b) < 0
  · have d0 : ((2 * b) == 0) = false := by simp; omega
    go_enter Try.func63, Try.ntmps63
    go_wp2_with fail
    go_ret
    exact ⟨ret_int (E1.out hr).symm, rfl⟩
  · have d0 : ((2 * b) == 0) = false := by simp; omega
    go_enter Try.func63, Try.ntmps63
    go_wp2_with fail
    go_ret
    exact ⟨ret_int (E2.out (by omega)).symm, rfl⟩

theorem round_any (n d : Int) (w : World) (h1 : 1 ≤ d) (h2 : d ≤ 1099511627776) (h3 : -1152921504606846976 ≤ n) (h4 : n ≤ 1152921504606846976) :
    Calls Try.prog 141 #[.int .i64 n, .int .i64 d] w fun e w' => e = .returned (.int .i64 (nearV n d)) ∧ w = w' := by
  have q := quo_floor (2 * n + d) (2 * d) (by omega)
  have bq := tdiv_bound (2 * n + d) (2 * d) 3458764513820540928 (by omega) (by omega)
  have d0 : ((2 * d) == 0) = false := by simp; omega
  by_cases hx : 2 * n + d < 0
  · by_cases hr : (2 * n + d).tmod (2 * d) = 0
    · have E1 := Lib.hid (show nearV n d = (2 * n + d).tdiv (2 * d) from (q.1 (by omega)).symm)
      clear q
      have r0 : ((2 * n + d).tmod (2 * d) == 0) = true := by simpa using hr
      have r1 : ((2 * n + d).tmod (2 * d) != 0) = false := by simpa using hr
      clear hr
      go_enter Try.func141, Try.ntmps141
      go_wp2_with fail
      go_ret
      exact ⟨ret_int E1.out.symm, rfl⟩
    · have E1 := Lib.hid (show nearV n d = (2 * n + d).tdiv (2 * d) - 1 from (q.2.1 (by
        have := Int.tmod_nonneg (a := -(2 * n + d)) (2 * d) (by omega)
        rw [Int.neg_tmod] at this
        omega)).symm)
      clear q
      have r0 : ((2 * n + d).tmod (2 * d) == 0) = false := by simpa using hr
      have r1 : ((2 * n + d).tmod (2 * d) != 0) = true := by simpa using hr
      clear hr
      go_enter Try.func141, Try.ntmps141
      go_wp2_with fail
      go_ret
      exact ⟨ret_int E1.out.symm, rfl⟩
  · have E1 := Lib.hid (show nearV n d = (2 * n + d) / (2 * d) from rfl)
    clear q bq
    go_enter Try.func141, Try.ntmps141
    go_wp2_with fail
    go_ret
    exact ⟨ret_int E1.out.symm, rfl⟩
end Go.Proofs.Ytllpkoinjompcaa

namespace Go.Proofs.Ytllpkoinjompcaa
open Go.RowKit
attribute [local go_sem ↓] Go.wp_at_zero Go.wp_at_succ run_eql_point run_neq_point run_max_ii run_min_ii

def parV (i n : Int) : Bool := decide (1 ≤ n) && (decide (n ≤ 64) && (decide (0 ≤ i) && decide (i ≤ n)))

theorem parV_iff (i n : Int) : parV i n = true ↔ 1 ≤ n ∧ n ≤ 64 ∧ 0 ≤ i ∧ i ≤ n := by simp [parV]

theorem par_any (i n : Int) (w : World) :
    Calls Try.prog 139 #[.int .i64 i, .int .i64 n] w fun e w' => e = .returned (.bool (parV i n)) ∧ w = w' := by
  by_cases h : 1 ≤ n ∧ n ≤ 64 ∧ 0 ≤ i ∧ i ≤ n
  · rw [show parV i n = true from (parV_iff i n).2 h]
    obtain ⟨h1, h2, h3, h4⟩ := h
    go_enter Try.func139, Try.ntmps139
    go_wp2_with fail
    go_ret
    exact ⟨ret_bool (by simp <;> omega), rfl⟩
  · rw [show parV i n = false by rw [← Bool.not_eq_true, parV_iff]; exact h]
    by_cases h1 : 1 ≤ n
    · by_cases h2 : n ≤ 64
      · by_cases h3 : 0 ≤ i
        · have h4 : ¬ i ≤ n := by omega
          clear h
          go_enter Try.func139, Try.ntmps139
          go_wp2_with fail
          go_ret
          exact ⟨ret_bool (by simp <;> omega), rfl⟩
        · clear h
          go_enter Try.func139, Try.ntmps139
          go_wp2_with fail
          go_ret
          exact ⟨ret_bool (by simp <;> omega), rfl⟩
      · clear h
        go_enter Try.func139, Try.ntmps139
        go_wp2_with fail
        go_ret
        exact ⟨ret_bool (by simp <;> omega), rfl⟩
    · clear h
      go_enter Try.func139, Try.ntmps139
      go_wp2_with fail
      go_ret
      exact ⟨ret_bool (by simp <;> omega), rfl⟩

def MayB (ps : List (Int × Int)) (i n : Int) : Bool := okAll ps && parV i n

theorem may_any (b off cap : Nat) (ps : List (Int × Int)) (i n : Int) (w : World) (hn : ps.length ≤ 4096) (hp : PtsAt w b off ps) :
    Calls Try.prog 61 #[.slice (some ⟨b, off, none⟩) ps.length cap, .int .i64 i, .int .i64 n] w fun e w' => e = .returned (.bool (MayB ps i n)) ∧ Ext w w' := by
  go_enter Try.func61, Try.ntmps61
  go_wp2_with fail
  go_loopw [11] (fun x wr => ∃ k : Nat, k ≤ ps.length ∧ x = .int .i64 k ∧ okAll (ps.take k) = true ∧ Ext w wr) (fun x _ => ps.length - (intOf x).toNat)
  case atStart => exact ⟨0, Nat.zero_le _, rfl, rfl, Ext.refl _⟩
  case round =>
    obtain ⟨k, hk, rfl, ho, he⟩ := hrel
    have HO := Lib.hid ho
    clear ho
    by_cases hlt : k < ps.length
    · obtain ⟨c0, c1⟩ := hp.ext he k hlt
      go_wp2_with (go_at_call 89; refine (valid_any _ _ _).mono ?_; rintro e w' ⟨rfl, hb⟩)
      · have hf : (!okPt ps[k].1 ps[k].2) = true := by assumption
        go_ret
        exact ⟨ret_bool (by unfold MayB; rw [okAll_stop ps k hlt (by simpa using hf)]; rfl), (he.alloc _).trans ‹_›⟩
      · have hf : (!okPt ps[k].1 ps[k].2) = false := by assumption
        go_roundw
        case rel => exact ⟨k + 1, hlt, by go_num, okAll_step ps k hlt HO.out (by simpa using hf), (he.alloc _).trans ‹_›⟩
        case measure => simp [intOf]; omega
    · have e : MayB ps i n = parV i n := by unfold MayB; rw [okAll_end ps k hk hlt HO.out]; rfl
      have E := Lib.hid e
      clear HO e
      by_cases h1 : 1 ≤ n
      · by_cases h2 : n ≤ 64
        · by_cases h3 : 0 ≤ i
          · go_wp2_with fail
            all_goals go_ret
            all_goals exact ⟨ret_bool (by rw [E.out]; simp [parV, h1, h2, h3]), he⟩
          · go_wp2_with fail
            all_goals go_ret
            all_goals exact ⟨ret_bool (by rw [E.out]; simp [parV] <;> omega), he⟩
        · go_wp2_with fail
          all_goals go_ret
          all_goals exact ⟨ret_bool (by rw [E.out]; simp [parV] <;> omega), he⟩
      · go_wp2_with fail
        all_goals go_ret
        all_goals exact ⟨ret_bool (by rw [E.out]; simp [parV] <;> omega), he⟩

def MaySays (ps : List (Int × Int)) (i n : Int) (w : World) (e : Ending) (w' : World) : Prop := e = .returned (.bool (MayB ps i n)) ∧ Ext w w'

theorem may_len (l b off cap : Nat) (ps : List (Int × Int)) (i n : Int) (w : World) (hl : ps.length = l) (hn : l ≤ 4096) (hp : PtsAt w b off ps) :
    Calls Try.prog 61 #[.slice (some ⟨b, off, none⟩) l cap, .int .i64 i, .int .i64 n] w (MaySays ps i n w) := by
  subst hl
  exact may_any b off cap ps i n w hn hp
end Go.Proofs.Ytllpkoinjompcaa

namespace Go.Proofs.Ytllpkoinjompcaa
open Go.RowKit
attribute [local go_sem ↓] Go.wp_at_zero Go.wp_at_succ run_eql_point run_neq_point run_max_ii run_min_ii

theorem mulB (x y X Y : Int) (h1 : -X ≤ x) (h2 : x ≤ X) (h3 : -Y ≤ y) (h4 : y ≤ Y) : -(X * Y) ≤ x * y ∧ x * y ≤ X * Y := by
  have a := Int.natAbs_mul x y
  have b : x.natAbs * y.natAbs ≤ X.natAbs * Y.natAbs := Nat.mul_le_mul (by omega) (by omega)
  have c : ((X.natAbs * Y.natAbs : Nat) : Int) = X * Y := by
    rw [Int.natCast_mul, Int.natAbs_of_nonneg (by omega), Int.natAbs_of_nonneg (by omega)]
  omega

/-- A coordinate of a quadratic curve at i/n. -/
def qv (i n a b c : Int) : Int := nearV ((n - i) * (n - i) * a + 2 * i * (n - i) * b + i * i * c) (n * n)

theorem sq64 (i : Int) (h0 : 0 ≤ i) (h1 : i ≤ 64) : 0 ≤ i * i ∧ i * i ≤ 4096 := by
  have := mulB i i 64 64 (by omega) h1 (by omega) h1
  exact ⟨Int.mul_nonneg h0 h0, by omega⟩

/-- All that the quadratic polynomial's walk wants to know of sizes. -/
theorem qbounds (i k n a b c : Int) (hi : 0 ≤ i ∧ i ≤ 64) (hk : 0 ≤ k ∧ k ≤ 64) (hn : 1 ≤ n ∧ n ≤ 64) (ha : -1048576 ≤ a ∧ a ≤ 1048576) (hb : -1048576 ≤ b ∧ b ≤ 1048576) (hc : -1048576 ≤ c ∧ c ≤ 1048576) :
    (0 ≤ k * k ∧ k * k ≤ 4096) ∧ (-4294967296 ≤ k * k * a ∧ k * k * a ≤ 4294967296) ∧ (-8192 ≤ 2 * i * k ∧ 2 * i * k ≤ 8192) ∧ (-8589934592 ≤ 2 * i * k * b ∧ 2 * i * k * b ≤ 8589934592) ∧
    (0 ≤ i * i ∧ i * i ≤ 4096) ∧ (-4294967296 ≤ i * i * c ∧ i * i * c ≤ 4294967296) ∧ (1 ≤ n * n ∧ n * n ≤ 4096) := by
  have s1 := sq64 k hk.1 hk.2
  have s2 := sq64 i hi.1 hi.2
  have s3 := sq64 n (by omega) hn.2
  have m1 := mulB (k * k) a 4096 1048576 (by omega) s1.2 ha.1 ha.2
  have m2 := mulB (2 * i) k 128 64 (by omega) (by omega) (by omega) hk.2
  have m3 := mulB (2 * i * k) b 8192 1048576 (by omega) (by omega) hb.1 hb.2
  have m4 := mulB (i * i) c 4096 1048576 (by omega) s2.2 hc.1 hc.2
  have m5 : 1 * 1 ≤ n * n := Int.mul_le_mul hn.1 hn.1 (by omega) (by omega)
  omega

theorem quadAt1_any (i k n a b c : Int) (pk pi pn : Addr) (w : World) (hi : 0 ≤ i ∧ i ≤ 64) (hk : 0 ≤ k ∧ k ≤ 64) (hn : 1 ≤ n ∧ n ≤ 64) (ha : -1048576 ≤ a ∧ a ≤ 1048576) (hb : -1048576 ≤ b ∧ b ≤ 1048576) (hc : -1048576 ≤ c ∧ c ≤ 1048576)
    (ck : w.cell? pk = some (.int .i64 k)) (ci : w.cell? pi = some (.int .i64 i)) (cn : w.cell? pn = some (.int .i64 n)) :
    Calls Try.prog 62 #[.int .i64 a, .int .i64 b, .int .i64 c, .pointer (some pk), .pointer (some pi), .pointer (some pn)] w fun e w' =>
      e = .returned (.int .i64 (nearV (k * k * a + 2 * i * k * b + i * i * c) (n * n))) ∧ w = w' := by
  have B := qbounds i k n a b c hi hk hn ha hb hc
  clear ha hb hc
  go_enter Try.func62, Try.ntmps62
  go_wp2_with (go_at_call 63; refine (near_any _ _ _ (by omega) (by omega) (by omega) (by omega)).mono ?_; rintro e w' ⟨rfl, rfl⟩)
  go_ret
  exact ⟨rfl, rfl⟩

def quadAtV (a b c : Int × Int) (i n : Int) : Int × Int := if MayB [a, b, c] i n = true then (qv i n a.1 b.1 c.1, qv i n a.2 b.2 c.2) else (0, 0)

theorem quadAt_any (a b c : Int × Int) (i n : Int) (w : World) :
    Calls Try.prog 31 #[.agg #[.int .i64 a.1, .int .i64 a.2, .int .i64 b.1, .int .i64 b.2, .int .i64 c.1, .int .i64 c.2], .int .i64 i, .int .i64 n] w fun e w' =>
      e = .returned (.agg #[.int .i64 (quadAtV a b c i n).1, .int .i64 (quadAtV a b c i n).2]) ∧ Ext w w' := by
  have g : ∀ w', Ext ((((w.alloc (.cells #[.int .i64 a.1, .int .i64 a.2, .int .i64 b.1, .int .i64 b.2, .int .i64 c.1, .int .i64 c.2] 67)).alloc (.cells #[.int .i64 i] 3)).alloc (.cells #[.int .i64 n] 3)).alloc (.cells #[.int .i64 0, .int .i64 0] 33)) w' →
      w'.cell? ⟨w.heap.size, 0, none⟩ = some (.int .i64 a.1) ∧ w'.cell? ⟨w.heap.size, 1, none⟩ = some (.int .i64 a.2) ∧ w'.cell? ⟨w.heap.size, 2, none⟩ = some (.int .i64 b.1) ∧
      w'.cell? ⟨w.heap.size, 3, none⟩ = some (.int .i64 b.2) ∧ w'.cell? ⟨w.heap.size, 4, none⟩ = some (.int .i64 c.1) ∧ w'.cell? ⟨w.heap.size, 5, none⟩ = some (.int .i64 c.2) ∧
      w'.cell? ⟨w.heap.size + 1, 0, none⟩ = some (.int .i64 i) ∧ w'.cell? ⟨w.heap.size + 2, 0, none⟩ = some (.int .i64 n) ∧
      w'.cell? ⟨w.heap.size + 3, 0, none⟩ = some (.int .i64 0) ∧ w'.cell? ⟨w.heap.size + 3, 1, none⟩ = some (.int .i64 0) ∧
      w'.frozen? ⟨w.heap.size + 3, 0, none⟩ = false ∧ w'.frozen? ⟨w.heap.size + 3, 1, none⟩ = false := fun w' h => by
    have e1 : Ext (w.alloc (.cells #[.int .i64 a.1, .int .i64 a.2, .int .i64 b.1, .int .i64 b.2, .int .i64 c.1, .int .i64 c.2] 67)) w' := ((((Ext.refl _).alloc _).alloc _).alloc _).trans h
    have e2 : Ext ((w.alloc (.cells #[.int .i64 a.1, .int .i64 a.2, .int .i64 b.1, .int .i64 b.2, .int .i64 c.1, .int .i64 c.2] 67)).alloc (.cells #[.int .i64 i] 3)) w' := (((Ext.refl _).alloc _).alloc _).trans h
    have e3 : Ext (((w.alloc (.cells #[.int .i64 a.1, .int .i64 a.2, .int .i64 b.1, .int .i64 b.2, .int .i64 c.1, .int .i64 c.2] 67)).alloc (.cells #[.int .i64 i] 3)).alloc (.cells #[.int .i64 n] 3)) w' := ((Ext.refl _).alloc _).trans h
    exact ⟨e1.get (by simp), e1.get (by simp), e1.get (by simp), e1.get (by simp), e1.get (by simp), e1.get (by simp), e2.get (by simp), e3.get (by rw [World.cell?_alloc_at _ _ _ _ (by simp)]; rfl), h.get (by rw [World.cell?_alloc_at _ _ _ _ (by simp)]; rfl), h.get (by rw [World.cell?_alloc_at _ _ _ _ (by simp)]; rfl), (h.frozen (by simp)).trans (World.frozen?_alloc_at _ _ _ _ (by simp)), (h.frozen (by simp)).trans (World.frozen?_alloc_at _ _ _ _ (by simp))⟩
  have HP := Lib.hid (fun w' h => have q := g w' h; pts3 q.1 q.2.1 q.2.2.1 q.2.2.2.1 q.2.2.2.2.1 q.2.2.2.2.2.1)
  by_cases hm : MayB [a, b, c] i n = true
  · have hv : quadAtV a b c i n = (qv i n a.1 b.1 c.1, qv i n a.2 b.2 c.2) := by unfold quadAtV; rw [if_pos hm]
    rw [hv]
    clear hv
    have ho : okAll [a, b, c] = true ∧ parV i n = true := by unfold MayB at hm; simpa using hm
    have bi := (parV_iff i n).1 ho.2
    have hb : ((-1048576 ≤ a.1 ∧ a.1 ≤ 1048576) ∧ -1048576 ≤ a.2 ∧ a.2 ≤ 1048576) ∧ ((-1048576 ≤ b.1 ∧ b.1 ≤ 1048576) ∧ -1048576 ≤ b.2 ∧ b.2 ≤ 1048576) ∧ ((-1048576 ≤ c.1 ∧ c.1 ≤ 1048576) ∧ -1048576 ≤ c.2 ∧ c.2 ≤ 1048576) := by
      simpa [okAll, okPt_iff] using ho.1
    have HB := Lib.hid hb
    clear hb ho
    go_enter Try.func31, Try.ntmps31
    go_wp2_with fail
    go_region_held3 (fun w' => Ext ((((w.alloc (.cells #[.int .i64 a.1, .int .i64 a.2, .int .i64 b.1, .int .i64 b.2, .int .i64 c.1, .int .i64 c.2] 67)).alloc (.cells #[.int .i64 i] 3)).alloc (.cells #[.int .i64 n] 3)).alloc (.cells #[.int .i64 0, .int .i64 0] 33)) w') (first | assumption | exact Ext.drew (Ext.refl _) | (apply Ext.via; assumption; assumption))
      (first | (go_at_call 61; refine (may_len 3 w.heap.size 0 3 [a, b, c] i n _ rfl (by omega) (HP.out _ (by assumption))).mono ?_; rintro e w' ⟨rfl, hb⟩))
    have hne : w.heap.size + 3 < w'.heap.size := by have := Ext.size (by assumption : Ext ((((w.alloc (.cells #[.int .i64 a.1, .int .i64 a.2, .int .i64 b.1, .int .i64 b.2, .int .i64 c.1, .int .i64 c.2] 67)).alloc (.cells #[.int .i64 i] 3)).alloc (.cells #[.int .i64 n] 3)).alloc (.cells #[.int .i64 0, .int .i64 0] 33)) w'); simp at this; omega
    have hne1 : ¬ w'.heap.size = w.heap.size + 3 := by omega
    have hne2 : ¬ w.heap.size + 3 = w'.heap.size := by omega
    go_wp2_with fail
    have gk := g _ (by assumption : Ext ((((w.alloc (.cells #[.int .i64 a.1, .int .i64 a.2, .int .i64 b.1, .int .i64 b.2, .int .i64 c.1, .int .i64 c.2] 67)).alloc (.cells #[.int .i64 i] 3)).alloc (.cells #[.int .i64 n] 3)).alloc (.cells #[.int .i64 0, .int .i64 0] 33)) w')
    have g2 : ∀ x, Own (w.heap.size + 3) w' x → x.cell? ⟨w.heap.size, 0, none⟩ = some (.int .i64 a.1) ∧ x.cell? ⟨w.heap.size, 1, none⟩ = some (.int .i64 a.2) ∧ x.cell? ⟨w.heap.size, 2, none⟩ = some (.int .i64 b.1) ∧
      x.cell? ⟨w.heap.size, 3, none⟩ = some (.int .i64 b.2) ∧ x.cell? ⟨w.heap.size, 4, none⟩ = some (.int .i64 c.1) ∧ x.cell? ⟨w.heap.size, 5, none⟩ = some (.int .i64 c.2) ∧
      x.cell? ⟨w.heap.size + 1, 0, none⟩ = some (.int .i64 i) ∧ x.cell? ⟨w.heap.size + 2, 0, none⟩ = some (.int .i64 n) := fun x h => by
      obtain ⟨k0, k1, k2, k3, k4, k5, k6, k7, _⟩ := gk
      exact ⟨h.get k0 (by simp), h.get k1 (by simp), h.get k2 (by simp), h.get k3 (by simp), h.get k4 (by simp), h.get k5 (by simp), h.get k6 (by simp), h.get k7 (by simp)⟩
    go_region_held3 (fun x => Own (w.heap.size + 3) w' x ∧ x.cell? ⟨w'.heap.size, 0, none⟩ = some (.int .i64 (n - i))) (first | assumption | (refine ⟨?_, ?_⟩ <;> (first | ((repeat (first | exact Own.refl _ _ | apply Own.drew | apply Own.alloc | apply Own.set_at)); done) | (simp; done) | (refine (cell_last _ _ _ _ _ (by simp [World.setCell])).trans rfl))))
      (first | (go_at_call 62; go_split_ands; refine (quadAt1_any i (n - i) n _ _ _ _ _ _ _ (by omega) (by omega) (by omega) ?_ ?_ ?_ (by simp [*]) (by simp [*]) (by simp [*])).mono ?_ <;> (first | (rintro e w' ⟨rfl, rfl⟩) | (have hb := HB.out; omega))))
    go_wp2_with fail
    refine bodyPost_ret (v := .agg #[.int .i64 (qv i n a.1 b.1 c.1), .int .i64 (qv i n a.2 b.2 c.2)]) ?_ rfl ⟨rfl, ?_⟩
    · unfold qv
      simp [results, Try.results31, go_sem, *]
    · refine Ext.drew (Ext.alloc (Ext.setCell (Ext.setCell ?_ (by simp; omega) _) (by simp; omega) _) _)
      exact ((Ext.refl w).alloc _ |>.alloc _ |>.alloc _ |>.alloc _ |>.drew).trans hb
  · have hv : quadAtV a b c i n = (0, 0) := by unfold quadAtV; rw [if_neg hm]
    rw [hv]
    clear hv
    have hmf : MayB [a, b, c] i n = false := by simpa using hm
    clear hm
    go_enter Try.func31, Try.ntmps31
    go_wp2_with fail
    go_region_held3 (fun w' => Ext ((((w.alloc (.cells #[.int .i64 a.1, .int .i64 a.2, .int .i64 b.1, .int .i64 b.2, .int .i64 c.1, .int .i64 c.2] 67)).alloc (.cells #[.int .i64 i] 3)).alloc (.cells #[.int .i64 n] 3)).alloc (.cells #[.int .i64 0, .int .i64 0] 33)) w') (first | assumption | exact Ext.drew (Ext.refl _) | (apply Ext.via; assumption; assumption))
      (first | (go_at_call 61; refine (may_len 3 w.heap.size 0 3 [a, b, c] i n _ rfl (by omega) (HP.out _ (by assumption))).mono ?_; rintro e w' ⟨rfl, hb⟩))
    go_wp2_with fail
    refine bodyPost_ret (v := .agg #[.int .i64 0, .int .i64 0]) ?_ rfl ⟨rfl, ?_⟩
    · simp [results, Try.results31, go_sem, *]
    · exact ((Ext.refl w).alloc _ |>.alloc _ |>.alloc _ |>.alloc _ |>.trans (by assumption)).setCell (by simp; omega) _ |>.setCell (by simp; omega) _
end Go.Proofs.Ytllpkoinjompcaa

namespace Go.Proofs.Ytllpkoinjompcaa
open Go.RowKit
attribute [local go_sem ↓] Go.wp_at_zero Go.wp_at_succ run_eql_point run_neq_point run_max_ii run_min_ii

/-- A coordinate of a cubic curve at i/n. -/
def cv (i n a b c d : Int) : Int := nearV ((n - i) * (n - i) * (n - i) * a + 3 * i * (n - i) * (n - i) * b + 3 * i * i * (n - i) * c + i * i * i * d) (n * n * n)

theorem cbounds (i k n a b c d : Int) (hi : 0 ≤ i ∧ i ≤ 64) (hk : 0 ≤ k ∧ k ≤ 64) (hn : 1 ≤ n ∧ n ≤ 64) (ha : -1048576 ≤ a ∧ a ≤ 1048576) (hb : -1048576 ≤ b ∧ b ≤ 1048576) (hc : -1048576 ≤ c ∧ c ≤ 1048576) (hd : -1048576 ≤ d ∧ d ≤ 1048576) :
    (0 ≤ k * k ∧ k * k ≤ 4096) ∧ (0 ≤ k * k * k ∧ k * k * k ≤ 262144) ∧ (-274877906944 ≤ k * k * k * a ∧ k * k * k * a ≤ 274877906944) ∧
    (0 ≤ 3 * i * k ∧ 3 * i * k ≤ 12288) ∧ (0 ≤ 3 * i * k * k ∧ 3 * i * k * k ≤ 786432) ∧ (-824633720832 ≤ 3 * i * k * k * b ∧ 3 * i * k * k * b ≤ 824633720832) ∧
    (0 ≤ 3 * i * i ∧ 3 * i * i ≤ 12288) ∧ (0 ≤ 3 * i * i * k ∧ 3 * i * i * k ≤ 786432) ∧ (-824633720832 ≤ 3 * i * i * k * c ∧ 3 * i * i * k * c ≤ 824633720832) ∧
    (0 ≤ i * i ∧ i * i ≤ 4096) ∧ (0 ≤ i * i * i ∧ i * i * i ≤ 262144) ∧ (-274877906944 ≤ i * i * i * d ∧ i * i * i * d ≤ 274877906944) ∧ (1 ≤ n * n ∧ n * n ≤ 4096) ∧ (1 ≤ n * n * n ∧ n * n * n ≤ 262144) := by
  have mb : ∀ x y A B : Int, 0 ≤ x → x ≤ A → 0 ≤ y → y ≤ B → 0 ≤ x * y ∧ x * y ≤ A * B := fun x y A B hx hA hy hB =>
    ⟨Int.mul_nonneg hx hy, Int.mul_le_mul hA hB hy (by omega)⟩
  have k2 := mb k k 64 64 hk.1 hk.2 hk.1 hk.2
  have k3 := mb (k * k) k 4096 64 k2.1 (by omega) hk.1 hk.2
  have i2 := mb i i 64 64 hi.1 hi.2 hi.1 hi.2
  have i3 := mb (i * i) i 4096 64 i2.1 (by omega) hi.1 hi.2
  have n2 := mb n n 64 64 (by omega) hn.2 (by omega) hn.2
  have n3 := mb (n * n) n 4096 64 n2.1 (by omega) (by omega) hn.2
  have a1 := mb (3 * i) k 192 64 (by omega) (by omega) hk.1 hk.2
  have a2 := mb (3 * i * k) k 12288 64 a1.1 (by omega) hk.1 hk.2
  have c1 := mb (3 * i) i 192 64 (by omega) (by omega) hi.1 hi.2
  have c2 := mb (3 * i * i) k 12288 64 c1.1 (by omega) hk.1 hk.2
  have m1 := mulB (k * k * k) a 262144 1048576 (by omega) (by omega) ha.1 ha.2
  have m2 := mulB (3 * i * k * k) b 786432 1048576 (by omega) (by omega) hb.1 hb.2
  have m3 := mulB (3 * i * i * k) c 786432 1048576 (by omega) (by omega) hc.1 hc.2
  have m4 := mulB (i * i * i) d 262144 1048576 (by omega) (by omega) hd.1 hd.2
  have n4 : 1 * 1 ≤ n * n := Int.mul_le_mul hn.1 hn.1 (by omega) (by omega)
  have n5 : 1 * 1 ≤ n * n * n := Int.mul_le_mul (by omega) hn.1 (by omega) (by omega)
  omega

theorem cubicAt1_any (i k n a b c d : Int) (pk pi pn : Addr) (w : World) (hi : 0 ≤ i ∧ i ≤ 64) (hk : 0 ≤ k ∧ k ≤ 64) (hn : 1 ≤ n ∧ n ≤ 64) (ha : -1048576 ≤ a ∧ a ≤ 1048576) (hb : -1048576 ≤ b ∧ b ≤ 1048576) (hc : -1048576 ≤ c ∧ c ≤ 1048576) (hd : -1048576 ≤ d ∧ d ≤ 1048576)
    (ck : w.cell? pk = some (.int .i64 k)) (ci : w.cell? pi = some (.int .i64 i)) (cn : w.cell? pn = some (.int .i64 n)) :
    Calls Try.prog 114 #[.int .i64 a, .int .i64 b, .int .i64 c, .int .i64 d, .pointer (some pk), .pointer (some pi), .pointer (some pn)] w fun e w' =>
      e = .returned (.int .i64 (nearV (k * k * k * a + 3 * i * k * k * b + 3 * i * i * k * c + i * i * i * d) (n * n * n))) ∧ w = w' := by
  have B := cbounds i k n a b c d hi hk hn ha hb hc hd
  clear ha hb hc hd
  go_enter Try.func114, Try.ntmps114
  go_wp2_with (go_at_call 63; refine (near_any _ _ _ (by omega) (by omega) (by omega) (by omega)).mono ?_; rintro e w' ⟨rfl, rfl⟩)
  go_ret
  exact ⟨rfl, rfl⟩

def cubicAtV (a b c d : Int × Int) (i n : Int) : Int × Int := if MayB [a, b, c, d] i n = true then (cv i n a.1 b.1 c.1 d.1, cv i n a.2 b.2 c.2 d.2) else (0, 0)

set_option maxHeartbeats 1000000 in
theorem cubicAt_any (a b c d : Int × Int) (i n : Int) (w : World) :
    Calls Try.prog 95 #[.agg #[.int .i64 a.1, .int .i64 a.2, .int .i64 b.1, .int .i64 b.2, .int .i64 c.1, .int .i64 c.2, .int .i64 d.1, .int .i64 d.2], .int .i64 i, .int .i64 n] w fun e w' =>
      e = .returned (.agg #[.int .i64 (cubicAtV a b c d i n).1, .int .i64 (cubicAtV a b c d i n).2]) ∧ Ext w w' := by
  have g : ∀ w', Ext ((((w.alloc (.cells #[.int .i64 a.1, .int .i64 a.2, .int .i64 b.1, .int .i64 b.2, .int .i64 c.1, .int .i64 c.2, .int .i64 d.1, .int .i64 d.2] 109)).alloc (.cells #[.int .i64 i] 3)).alloc (.cells #[.int .i64 n] 3)).alloc (.cells #[.int .i64 0, .int .i64 0] 33)) w' →
      w'.cell? ⟨w.heap.size, 0, none⟩ = some (.int .i64 a.1) ∧ w'.cell? ⟨w.heap.size, 1, none⟩ = some (.int .i64 a.2) ∧ w'.cell? ⟨w.heap.size, 2, none⟩ = some (.int .i64 b.1) ∧
      w'.cell? ⟨w.heap.size, 3, none⟩ = some (.int .i64 b.2) ∧ w'.cell? ⟨w.heap.size, 4, none⟩ = some (.int .i64 c.1) ∧ w'.cell? ⟨w.heap.size, 5, none⟩ = some (.int .i64 c.2) ∧ w'.cell? ⟨w.heap.size, 6, none⟩ = some (.int .i64 d.1) ∧ w'.cell? ⟨w.heap.size, 7, none⟩ = some (.int .i64 d.2) ∧
      w'.cell? ⟨w.heap.size + 1, 0, none⟩ = some (.int .i64 i) ∧ w'.cell? ⟨w.heap.size + 2, 0, none⟩ = some (.int .i64 n) ∧
      w'.cell? ⟨w.heap.size + 3, 0, none⟩ = some (.int .i64 0) ∧ w'.cell? ⟨w.heap.size + 3, 1, none⟩ = some (.int .i64 0) ∧
      w'.frozen? ⟨w.heap.size + 3, 0, none⟩ = false ∧ w'.frozen? ⟨w.heap.size + 3, 1, none⟩ = false := fun w' h => by
    have e1 : Ext (w.alloc (.cells #[.int .i64 a.1, .int .i64 a.2, .int .i64 b.1, .int .i64 b.2, .int .i64 c.1, .int .i64 c.2, .int .i64 d.1, .int .i64 d.2] 109)) w' := ((((Ext.refl _).alloc _).alloc _).alloc _).trans h
    have e2 : Ext ((w.alloc (.cells #[.int .i64 a.1, .int .i64 a.2, .int .i64 b.1, .int .i64 b.2, .int .i64 c.1, .int .i64 c.2, .int .i64 d.1, .int .i64 d.2] 109)).alloc (.cells #[.int .i64 i] 3)) w' := (((Ext.refl _).alloc _).alloc _).trans h
    have e3 : Ext (((w.alloc (.cells #[.int .i64 a.1, .int .i64 a.2, .int .i64 b.1, .int .i64 b.2, .int .i64 c.1, .int .i64 c.2, .int .i64 d.1, .int .i64 d.2] 109)).alloc (.cells #[.int .i64 i] 3)).alloc (.cells #[.int .i64 n] 3)) w' := ((Ext.refl _).alloc _).trans h
    exact ⟨e1.get (by simp), e1.get (by simp), e1.get (by simp), e1.get (by simp), e1.get (by simp), e1.get (by simp), e1.get (by simp), e1.get (by simp), e2.get (by simp), e3.get (by rw [World.cell?_alloc_at _ _ _ _ (by simp)]; rfl), h.get (by rw [World.cell?_alloc_at _ _ _ _ (by simp)]; rfl), h.get (by rw [World.cell?_alloc_at _ _ _ _ (by simp)]; rfl), (h.frozen (by simp)).trans (World.frozen?_alloc_at _ _ _ _ (by simp)), (h.frozen (by simp)).trans (World.frozen?_alloc_at _ _ _ _ (by simp))⟩
  have HP := Lib.hid (fun w' h => have q := g w' h; pts4 q.1 q.2.1 q.2.2.1 q.2.2.2.1 q.2.2.2.2.1 q.2.2.2.2.2.1 q.2.2.2.2.2.2.1 q.2.2.2.2.2.2.2.1)
  by_cases hm : MayB [a, b, c, d] i n = true
  · have hv : cubicAtV a b c d i n = (cv i n a.1 b.1 c.1 d.1, cv i n a.2 b.2 c.2 d.2) := by unfold cubicAtV; rw [if_pos hm]
    rw [hv]
    clear hv
    have ho : okAll [a, b, c, d] = true ∧ parV i n = true := by unfold MayB at hm; simpa using hm
    have bi := (parV_iff i n).1 ho.2
    have hb : ((-1048576 ≤ a.1 ∧ a.1 ≤ 1048576) ∧ -1048576 ≤ a.2 ∧ a.2 ≤ 1048576) ∧ ((-1048576 ≤ b.1 ∧ b.1 ≤ 1048576) ∧ -1048576 ≤ b.2 ∧ b.2 ≤ 1048576) ∧ ((-1048576 ≤ c.1 ∧ c.1 ≤ 1048576) ∧ -1048576 ≤ c.2 ∧ c.2 ≤ 1048576) ∧ ((-1048576 ≤ d.1 ∧ d.1 ≤ 1048576) ∧ -1048576 ≤ d.2 ∧ d.2 ≤ 1048576) := by
      simpa [okAll, okPt_iff] using ho.1
    have HB := Lib.hid hb
    clear hb ho
    go_enter Try.func95, Try.ntmps95
    go_wp2_with fail
    go_region_held3 (fun w' => Ext ((((w.alloc (.cells #[.int .i64 a.1, .int .i64 a.2, .int .i64 b.1, .int .i64 b.2, .int .i64 c.1, .int .i64 c.2, .int .i64 d.1, .int .i64 d.2] 109)).alloc (.cells #[.int .i64 i] 3)).alloc (.cells #[.int .i64 n] 3)).alloc (.cells #[.int .i64 0, .int .i64 0] 33)) w') (first | assumption | exact Ext.drew (Ext.refl _) | (apply Ext.via; assumption; assumption))
      (first | (go_at_call 61; refine (may_len 4 w.heap.size 0 4 [a, b, c, d] i n _ rfl (by omega) (HP.out _ (by assumption))).mono ?_; rintro e w' ⟨rfl, hb⟩))
    have hne : w.heap.size + 3 < w'.heap.size := by have := Ext.size (by assumption : Ext ((((w.alloc (.cells #[.int .i64 a.1, .int .i64 a.2, .int .i64 b.1, .int .i64 b.2, .int .i64 c.1, .int .i64 c.2, .int .i64 d.1, .int .i64 d.2] 109)).alloc (.cells #[.int .i64 i] 3)).alloc (.cells #[.int .i64 n] 3)).alloc (.cells #[.int .i64 0, .int .i64 0] 33)) w'); simp at this; omega
    have hne1 : ¬ w'.heap.size = w.heap.size + 3 := by omega
    have hne2 : ¬ w.heap.size + 3 = w'.heap.size := by omega
    go_wp2_with fail
    have gk := g _ (by assumption : Ext ((((w.alloc (.cells #[.int .i64 a.1, .int .i64 a.2, .int .i64 b.1, .int .i64 b.2, .int .i64 c.1, .int .i64 c.2, .int .i64 d.1, .int .i64 d.2] 109)).alloc (.cells #[.int .i64 i] 3)).alloc (.cells #[.int .i64 n] 3)).alloc (.cells #[.int .i64 0, .int .i64 0] 33)) w')
    have g2 : ∀ x, Own (w.heap.size + 3) w' x → x.cell? ⟨w.heap.size, 0, none⟩ = some (.int .i64 a.1) ∧ x.cell? ⟨w.heap.size, 1, none⟩ = some (.int .i64 a.2) ∧ x.cell? ⟨w.heap.size, 2, none⟩ = some (.int .i64 b.1) ∧
      x.cell? ⟨w.heap.size, 3, none⟩ = some (.int .i64 b.2) ∧ x.cell? ⟨w.heap.size, 4, none⟩ = some (.int .i64 c.1) ∧ x.cell? ⟨w.heap.size, 5, none⟩ = some (.int .i64 c.2) ∧ x.cell? ⟨w.heap.size, 6, none⟩ = some (.int .i64 d.1) ∧ x.cell? ⟨w.heap.size, 7, none⟩ = some (.int .i64 d.2) ∧
      x.cell? ⟨w.heap.size + 1, 0, none⟩ = some (.int .i64 i) ∧ x.cell? ⟨w.heap.size + 2, 0, none⟩ = some (.int .i64 n) := fun x h => by
      obtain ⟨k0, k1, k2, k3, k4, k5, k6, k7, k8, k9, _⟩ := gk
      exact ⟨h.get k0 (by simp), h.get k1 (by simp), h.get k2 (by simp), h.get k3 (by simp), h.get k4 (by simp), h.get k5 (by simp), h.get k6 (by simp), h.get k7 (by simp), h.get k8 (by simp), h.get k9 (by simp)⟩
    go_region_held3 (fun x => Own (w.heap.size + 3) w' x ∧ x.cell? ⟨w'.heap.size, 0, none⟩ = some (.int .i64 (n - i))) (first | assumption | (refine ⟨?_, ?_⟩ <;> (first | ((repeat (first | exact Own.refl _ _ | apply Own.drew | apply Own.alloc | apply Own.set_at)); done) | (simp; done) | (refine (cell_last _ _ _ _ _ (by simp [World.setCell])).trans rfl))))
      (first | (go_at_call 114; go_split_ands; refine (cubicAt1_any i (n - i) n _ _ _ _ _ _ _ _ (by omega) (by omega) (by omega) ?_ ?_ ?_ ?_ (by simp [*]) (by simp [*]) (by simp [*])).mono ?_ <;> (first | (rintro e w' ⟨rfl, rfl⟩) | (have hb := HB.out; omega))))
    go_wp2_with fail
    refine bodyPost_ret (v := .agg #[.int .i64 (cv i n a.1 b.1 c.1 d.1), .int .i64 (cv i n a.2 b.2 c.2 d.2)]) ?_ rfl ⟨rfl, ?_⟩
    · unfold cv
      simp [results, Try.results95, go_sem, *]
    · refine Ext.drew (Ext.alloc (Ext.setCell (Ext.setCell ?_ (by simp; omega) _) (by simp; omega) _) _)
      exact ((Ext.refl w).alloc _ |>.alloc _ |>.alloc _ |>.alloc _ |>.drew).trans hb
  · have hv : cubicAtV a b c d i n = (0, 0) := by unfold cubicAtV; rw [if_neg hm]
    rw [hv]
    clear hv
    have hmf : MayB [a, b, c, d] i n = false := by simpa using hm
    clear hm
    go_enter Try.func95, Try.ntmps95
    go_wp2_with fail
    go_region_held3 (fun w' => Ext ((((w.alloc (.cells #[.int .i64 a.1, .int .i64 a.2, .int .i64 b.1, .int .i64 b.2, .int .i64 c.1, .int .i64 c.2, .int .i64 d.1, .int .i64 d.2] 109)).alloc (.cells #[.int .i64 i] 3)).alloc (.cells #[.int .i64 n] 3)).alloc (.cells #[.int .i64 0, .int .i64 0] 33)) w') (first | assumption | exact Ext.drew (Ext.refl _) | (apply Ext.via; assumption; assumption))
      (first | (go_at_call 61; refine (may_len 4 w.heap.size 0 4 [a, b, c, d] i n _ rfl (by omega) (HP.out _ (by assumption))).mono ?_; rintro e w' ⟨rfl, hb⟩))
    go_wp2_with fail
    refine bodyPost_ret (v := .agg #[.int .i64 0, .int .i64 0]) ?_ rfl ⟨rfl, ?_⟩
    · simp [results, Try.results95, go_sem, *]
    · exact ((Ext.refl w).alloc _ |>.alloc _ |>.alloc _ |>.alloc _ |>.trans (by assumption)).setCell (by simp; omega) _ |>.setCell (by simp; omega) _
end Go.Proofs.Ytllpkoinjompcaa
