/- QuadAt and CubicAt of the reference. -/
import Derived.Test.YtkepeihlggkadaaFlatH
namespace Go.Proofs.Ytkepeihlggkadaa
open Go.RowKit
attribute [local go_sem ↓] Go.wp_at_zero Go.wp_at_succ run_eql_point run_neq_point run_max_ii run_min_ii

theorem allValid_len (l b off cap : Nat) (ps : List (Int × Int)) (w : World) (hl : ps.length = l) (hn : l ≤ 4096) (hp : PtsAt w b off ps) :
    Calls Try.prog 55 #[.slice (some ⟨b, off, none⟩) l cap] w fun e w' => e = .returned (.bool (okAll ps)) ∧ Ext w w' := by
  subst hl
  exact allValid_any b off cap ps w hn hp

set_option maxHeartbeats 1000000 in
theorem rquadAt_any (a b c : Int × Int) (i n : Int) (w : World) :
    Calls Try.prog 18 #[.agg #[.int .i64 a.1, .int .i64 a.2, .int .i64 b.1, .int .i64 b.2, .int .i64 c.1, .int .i64 c.2], .int .i64 i, .int .i64 n] w fun e w' =>
      e = .returned (.agg #[.int .i64 (quadAtV a b c i n).1, .int .i64 (quadAtV a b c i n).2]) ∧ Ext w w' := by
  have g : ∀ w', Ext ((w.alloc (.cells #[.int .i64 a.1, .int .i64 a.2, .int .i64 b.1, .int .i64 b.2, .int .i64 c.1, .int .i64 c.2] 28)).alloc (.cells #[.int .i64 0, .int .i64 0] 23)) w' → w'.cell? ⟨w.heap.size, 0, none⟩ = some (.int .i64 a.1) ∧ w'.cell? ⟨w.heap.size, 1, none⟩ = some (.int .i64 a.2) ∧ w'.cell? ⟨w.heap.size, 2, none⟩ = some (.int .i64 b.1) ∧ w'.cell? ⟨w.heap.size, 3, none⟩ = some (.int .i64 b.2) ∧ w'.cell? ⟨w.heap.size, 4, none⟩ = some (.int .i64 c.1) ∧ w'.cell? ⟨w.heap.size, 5, none⟩ = some (.int .i64 c.2) ∧ w'.cell? ⟨w.heap.size + 1, 0, none⟩ = some (.int .i64 0) ∧ w'.cell? ⟨w.heap.size + 1, 1, none⟩ = some (.int .i64 0) ∧
      w'.frozen? ⟨w.heap.size + 1, 0, none⟩ = false ∧ w'.frozen? ⟨w.heap.size + 1, 1, none⟩ = false := fun w' h => by
    have e1 : Ext (w.alloc (.cells #[.int .i64 a.1, .int .i64 a.2, .int .i64 b.1, .int .i64 b.2, .int .i64 c.1, .int .i64 c.2] 28)) w' := ((Ext.refl _).alloc _).trans h
    exact ⟨e1.get (by simp), e1.get (by simp), e1.get (by simp), e1.get (by simp), e1.get (by simp), e1.get (by simp), h.get (by simp), h.get (by simp), (h.frozen (by simp)).trans (World.frozen?_alloc_at _ _ _ _ (by simp)), (h.frozen (by simp)).trans (World.frozen?_alloc_at _ _ _ _ (by simp))⟩
  have HG := Lib.hid g
  clear g
  by_cases hp : parV i n = true
  · by_cases hm : okAll [a, b, c] = true
    · have hv : quadAtV a b c i n = (qv i n a.1 b.1 c.1, qv i n a.2 b.2 c.2) := by unfold quadAtV MayB; rw [if_pos (by simp [hm, hp])]
      rw [hv]
      clear hv
      have bi := (parV_iff i n).1 hp
      have hb : ((-1048576 ≤ a.1 ∧ a.1 ≤ 1048576) ∧ -1048576 ≤ a.2 ∧ a.2 ≤ 1048576) ∧ ((-1048576 ≤ b.1 ∧ b.1 ≤ 1048576) ∧ -1048576 ≤ b.2 ∧ b.2 ≤ 1048576) ∧ ((-1048576 ≤ c.1 ∧ c.1 ≤ 1048576) ∧ -1048576 ≤ c.2 ∧ c.2 ≤ 1048576) := by
        simpa [okAll, okPt_iff] using hm
      have B1 := qbounds i (n - i) n a.1 b.1 c.1 (by omega) (by omega) (by omega) hb.1.1 hb.2.1.1 hb.2.2.1
      have B2 := qbounds i (n - i) n a.2 b.2 c.2 (by omega) (by omega) (by omega) hb.1.2 hb.2.1.2 hb.2.2.2
      clear hb
      go_enter Try.func18, Try.ntmps18
      go_wp2_with (first | (go_at_call 54; refine (par_any _ _ _).mono ?_; rintro e w' ⟨rfl, rfl⟩) | (go_at_call 55; refine (allValid_len 3 _ 0 3 [a, b, c] _ rfl (by omega) (pts3 ((cell_last _ _ _ _ _ (by simp)).trans rfl) ((cell_last _ _ _ _ _ (by simp)).trans rfl) ((cell_last _ _ _ _ _ (by simp)).trans rfl) ((cell_last _ _ _ _ _ (by simp)).trans rfl) ((cell_last _ _ _ _ _ (by simp)).trans rfl) ((cell_last _ _ _ _ _ (by simp)).trans rfl))).mono ?_; rintro e w' ⟨rfl, hb⟩; have gk := HG.out _ (((Ext.refl _).alloc _).trans hb)) | (go_at_call 56; refine (round_any _ _ _ (by omega) (by omega) (by omega) (by omega)).mono ?_; rintro e w' ⟨rfl, rfl⟩))
      refine bodyPost_ret (v := .agg #[.int .i64 (qv i n a.1 b.1 c.1), .int .i64 (qv i n a.2 b.2 c.2)]) ?_ rfl ⟨rfl, ?_⟩
      · unfold qv
        simp [results, Try.results18, go_sem, *]
      · exact Ext.setCell (Ext.setCell (((((Ext.refl _).alloc _).alloc _).alloc _).trans (by assumption)) (by simp) _) (by simp) _
    · have hv : quadAtV a b c i n = (0, 0) := by unfold quadAtV MayB; rw [if_neg (by simp [hm])]
      rw [hv]
      clear hv
      have hmf : okAll [a, b, c] = false := by simpa using hm
      clear hm
      go_enter Try.func18, Try.ntmps18
      go_wp2_with (first | (go_at_call 54; refine (par_any _ _ _).mono ?_; rintro e w' ⟨rfl, rfl⟩) | (go_at_call 55; refine (allValid_len 3 _ 0 3 [a, b, c] _ rfl (by omega) (pts3 ((cell_last _ _ _ _ _ (by simp)).trans rfl) ((cell_last _ _ _ _ _ (by simp)).trans rfl) ((cell_last _ _ _ _ _ (by simp)).trans rfl) ((cell_last _ _ _ _ _ (by simp)).trans rfl) ((cell_last _ _ _ _ _ (by simp)).trans rfl) ((cell_last _ _ _ _ _ (by simp)).trans rfl))).mono ?_; rintro e w' ⟨rfl, hb⟩; have gk := HG.out _ (((Ext.refl _).alloc _).trans hb)) | (go_at_call 56; refine (round_any _ _ _ (by omega) (by omega) (by omega) (by omega)).mono ?_; rintro e w' ⟨rfl, rfl⟩))
      refine bodyPost_ret (v := .agg #[.int .i64 0, .int .i64 0]) ?_ rfl ⟨rfl, ?_⟩
      · simp [results, Try.results18, go_sem, *]
      · exact Ext.setCell (Ext.setCell (((((Ext.refl _).alloc _).alloc _).alloc _).trans (by assumption)) (by simp) _) (by simp) _
  · have hv : quadAtV a b c i n = (0, 0) := by unfold quadAtV MayB; rw [if_neg (by simp [hp])]
    rw [hv]
    clear hv
    have hpf : parV i n = false := by simpa using hp
    clear hp
    go_enter Try.func18, Try.ntmps18
    go_wp2_with (first | (go_at_call 54; refine (par_any _ _ _).mono ?_; rintro e w' ⟨rfl, rfl⟩) | (go_at_call 55; refine (allValid_len 3 _ 0 3 [a, b, c] _ rfl (by omega) (pts3 ((cell_last _ _ _ _ _ (by simp)).trans rfl) ((cell_last _ _ _ _ _ (by simp)).trans rfl) ((cell_last _ _ _ _ _ (by simp)).trans rfl) ((cell_last _ _ _ _ _ (by simp)).trans rfl) ((cell_last _ _ _ _ _ (by simp)).trans rfl) ((cell_last _ _ _ _ _ (by simp)).trans rfl))).mono ?_; rintro e w' ⟨rfl, hb⟩; have gk := HG.out _ (((Ext.refl _).alloc _).trans hb)) | (go_at_call 56; refine (round_any _ _ _ (by omega) (by omega) (by omega) (by omega)).mono ?_; rintro e w' ⟨rfl, rfl⟩))
    refine bodyPost_ret (v := .agg #[.int .i64 0, .int .i64 0]) ?_ rfl ⟨rfl, ?_⟩
    · simp [results, Try.results18, go_sem, *]
    · exact ((Ext.refl _).alloc _).alloc _

set_option maxHeartbeats 1000000 in
theorem rcubicAt_any (a b c d : Int × Int) (i n : Int) (w : World) :
    Calls Try.prog 20 #[.agg #[.int .i64 a.1, .int .i64 a.2, .int .i64 b.1, .int .i64 b.2, .int .i64 c.1, .int .i64 c.2, .int .i64 d.1, .int .i64 d.2], .int .i64 i, .int .i64 n] w fun e w' =>
      e = .returned (.agg #[.int .i64 (cubicAtV a b c d i n).1, .int .i64 (cubicAtV a b c d i n).2]) ∧ Ext w w' := by
  have g : ∀ w', Ext ((w.alloc (.cells #[.int .i64 a.1, .int .i64 a.2, .int .i64 b.1, .int .i64 b.2, .int .i64 c.1, .int .i64 c.2, .int .i64 d.1, .int .i64 d.2] 24)).alloc (.cells #[.int .i64 0, .int .i64 0] 23)) w' → w'.cell? ⟨w.heap.size, 0, none⟩ = some (.int .i64 a.1) ∧ w'.cell? ⟨w.heap.size, 1, none⟩ = some (.int .i64 a.2) ∧ w'.cell? ⟨w.heap.size, 2, none⟩ = some (.int .i64 b.1) ∧ w'.cell? ⟨w.heap.size, 3, none⟩ = some (.int .i64 b.2) ∧ w'.cell? ⟨w.heap.size, 4, none⟩ = some (.int .i64 c.1) ∧ w'.cell? ⟨w.heap.size, 5, none⟩ = some (.int .i64 c.2) ∧ w'.cell? ⟨w.heap.size, 6, none⟩ = some (.int .i64 d.1) ∧ w'.cell? ⟨w.heap.size, 7, none⟩ = some (.int .i64 d.2) ∧ w'.cell? ⟨w.heap.size + 1, 0, none⟩ = some (.int .i64 0) ∧ w'.cell? ⟨w.heap.size + 1, 1, none⟩ = some (.int .i64 0) ∧
      w'.frozen? ⟨w.heap.size + 1, 0, none⟩ = false ∧ w'.frozen? ⟨w.heap.size + 1, 1, none⟩ = false := fun w' h => by
    have e1 : Ext (w.alloc (.cells #[.int .i64 a.1, .int .i64 a.2, .int .i64 b.1, .int .i64 b.2, .int .i64 c.1, .int .i64 c.2, .int .i64 d.1, .int .i64 d.2] 24)) w' := ((Ext.refl _).alloc _).trans h
    exact ⟨e1.get (by simp), e1.get (by simp), e1.get (by simp), e1.get (by simp), e1.get (by simp), e1.get (by simp), e1.get (by simp), e1.get (by simp), h.get (by simp), h.get (by simp), (h.frozen (by simp)).trans (World.frozen?_alloc_at _ _ _ _ (by simp)), (h.frozen (by simp)).trans (World.frozen?_alloc_at _ _ _ _ (by simp))⟩
  have HG := Lib.hid g
  clear g
  by_cases hp : parV i n = true
  · by_cases hm : okAll [a, b, c, d] = true
    · have hv : cubicAtV a b c d i n = (cv i n a.1 b.1 c.1 d.1, cv i n a.2 b.2 c.2 d.2) := by unfold cubicAtV MayB; rw [if_pos (by simp [hm, hp])]
      rw [hv]
      clear hv
      have bi := (parV_iff i n).1 hp
      have hb : ((-1048576 ≤ a.1 ∧ a.1 ≤ 1048576) ∧ -1048576 ≤ a.2 ∧ a.2 ≤ 1048576) ∧ ((-1048576 ≤ b.1 ∧ b.1 ≤ 1048576) ∧ -1048576 ≤ b.2 ∧ b.2 ≤ 1048576) ∧ ((-1048576 ≤ c.1 ∧ c.1 ≤ 1048576) ∧ -1048576 ≤ c.2 ∧ c.2 ≤ 1048576) ∧ ((-1048576 ≤ d.1 ∧ d.1 ≤ 1048576) ∧ -1048576 ≤ d.2 ∧ d.2 ≤ 1048576) := by
        simpa [okAll, okPt_iff] using hm
      have B1 := cbounds i (n - i) n a.1 b.1 c.1 d.1 (by omega) (by omega) (by omega) hb.1.1 hb.2.1.1 hb.2.2.1.1 hb.2.2.2.1
      have B2 := cbounds i (n - i) n a.2 b.2 c.2 d.2 (by omega) (by omega) (by omega) hb.1.2 hb.2.1.2 hb.2.2.1.2 hb.2.2.2.2
      clear hb
      go_enter Try.func20, Try.ntmps20
      go_wp2_with (first | (go_at_call 54; refine (par_any _ _ _).mono ?_; rintro e w' ⟨rfl, rfl⟩) | (go_at_call 55; refine (allValid_len 4 _ 0 4 [a, b, c, d] _ rfl (by omega) (pts4 ((cell_last _ _ _ _ _ (by simp)).trans rfl) ((cell_last _ _ _ _ _ (by simp)).trans rfl) ((cell_last _ _ _ _ _ (by simp)).trans rfl) ((cell_last _ _ _ _ _ (by simp)).trans rfl) ((cell_last _ _ _ _ _ (by simp)).trans rfl) ((cell_last _ _ _ _ _ (by simp)).trans rfl) ((cell_last _ _ _ _ _ (by simp)).trans rfl) ((cell_last _ _ _ _ _ (by simp)).trans rfl))).mono ?_; rintro e w' ⟨rfl, hb⟩; have gk := HG.out _ (((Ext.refl _).alloc _).trans hb)) | (go_at_call 56; refine (round_any _ _ _ (by omega) (by omega) (by omega) (by omega)).mono ?_; rintro e w' ⟨rfl, rfl⟩))
      refine bodyPost_ret (v := .agg #[.int .i64 (cv i n a.1 b.1 c.1 d.1), .int .i64 (cv i n a.2 b.2 c.2 d.2)]) ?_ rfl ⟨rfl, ?_⟩
      · unfold cv
        simp [results, Try.results20, go_sem, *]
      · exact Ext.setCell (Ext.setCell (((((Ext.refl _).alloc _).alloc _).alloc _).trans (by assumption)) (by simp) _) (by simp) _
    · have hv : cubicAtV a b c d i n = (0, 0) := by unfold cubicAtV MayB; rw [if_neg (by simp [hm])]
      rw [hv]
      clear hv
      have hmf : okAll [a, b, c, d] = false := by simpa using hm
      clear hm
      go_enter Try.func20, Try.ntmps20
      go_wp2_with (first | (go_at_call 54; refine (par_any _ _ _).mono ?_; rintro e w' ⟨rfl, rfl⟩) | (go_at_call 55; refine (allValid_len 4 _ 0 4 [a, b, c, d] _ rfl (by omega) (pts4 ((cell_last _ _ _ _ _ (by simp)).trans rfl) ((cell_last _ _ _ _ _ (by simp)).trans rfl) ((cell_last _ _ _ _ _ (by simp)).trans rfl) ((cell_last _ _ _ _ _ (by simp)).trans rfl) ((cell_last _ _ _ _ _ (by simp)).trans rfl) ((cell_last _ _ _ _ _ (by simp)).trans rfl) ((cell_last _ _ _ _ _ (by simp)).trans rfl) ((cell_last _ _ _ _ _ (by simp)).trans rfl))).mono ?_; rintro e w' ⟨rfl, hb⟩; have gk := HG.out _ (((Ext.refl _).alloc _).trans hb)) | (go_at_call 56; refine (round_any _ _ _ (by omega) (by omega) (by omega) (by omega)).mono ?_; rintro e w' ⟨rfl, rfl⟩))
      refine bodyPost_ret (v := .agg #[.int .i64 0, .int .i64 0]) ?_ rfl ⟨rfl, ?_⟩
      · simp [results, Try.results20, go_sem, *]
      · exact Ext.setCell (Ext.setCell (((((Ext.refl _).alloc _).alloc _).alloc _).trans (by assumption)) (by simp) _) (by simp) _
  · have hv : cubicAtV a b c d i n = (0, 0) := by unfold cubicAtV MayB; rw [if_neg (by simp [hp])]
    rw [hv]
    clear hv
    have hpf : parV i n = false := by simpa using hp
    clear hp
    go_enter Try.func20, Try.ntmps20
    go_wp2_with (first | (go_at_call 54; refine (par_any _ _ _).mono ?_; rintro e w' ⟨rfl, rfl⟩) | (go_at_call 55; refine (allValid_len 4 _ 0 4 [a, b, c, d] _ rfl (by omega) (pts4 ((cell_last _ _ _ _ _ (by simp)).trans rfl) ((cell_last _ _ _ _ _ (by simp)).trans rfl) ((cell_last _ _ _ _ _ (by simp)).trans rfl) ((cell_last _ _ _ _ _ (by simp)).trans rfl) ((cell_last _ _ _ _ _ (by simp)).trans rfl) ((cell_last _ _ _ _ _ (by simp)).trans rfl) ((cell_last _ _ _ _ _ (by simp)).trans rfl) ((cell_last _ _ _ _ _ (by simp)).trans rfl))).mono ?_; rintro e w' ⟨rfl, hb⟩; have gk := HG.out _ (((Ext.refl _).alloc _).trans hb)) | (go_at_call 56; refine (round_any _ _ _ (by omega) (by omega) (by omega) (by omega)).mono ?_; rintro e w' ⟨rfl, rfl⟩))
    refine bodyPost_ret (v := .agg #[.int .i64 0, .int .i64 0]) ?_ rfl ⟨rfl, ?_⟩
    · simp [results, Try.results20, go_sem, *]
    · exact ((Ext.refl _).alloc _).alloc _

end Go.Proofs.Ytkepeihlggkadaa
