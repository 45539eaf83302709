/- CubicAt of the program. -/
import Derived.Test.YtkepeihlggkadaaFlatG
namespace Go.Proofs.Ytkepeihlggkadaa
open Go.RowKit
attribute [local go_sem ↓] Go.wp_at_zero Go.wp_at_succ run_eql_point run_neq_point run_max_ii run_min_ii

/-- A coordinate of a cubic curve at i/n. -/
def cv (i n a b c d : Int) : Int := nearV ((n - i) * (n - i) * (n - i) * a + 3 * i * (n - i) * (n - i) * b + 3 * i * i * (n - i) * c + i * i * i * d) (n * n * n)

theorem cbounds (i k n a b c d : Int) (hi : 0 ≤ i ∧ i ≤ 64) (hk : 0 ≤ k ∧ k ≤ 64) (hn : 1 ≤ n ∧ n ≤ 64) (ha : -1048576 ≤ a ∧ a ≤ 1048576) (hb : -1048576 ≤ b ∧ b ≤ 1048576) (hc : -1048576 ≤ c ∧ c ≤ 1048576) (hd : -1048576 ≤ d ∧ d ≤ 1048576) :
    (0 ≤ k * k ∧ k * k ≤ 4096) ∧ (0 ≤ k * k * k ∧ k * k * k ≤ 262144) ∧ (-274877906944 ≤ k * k * k * a ∧ k * k * k * a ≤ 274877906944) ∧
    (0 ≤ 3 * i * k ∧ 3 * i * k ≤ 12288) ∧ (0 ≤ 3 * i * k * k ∧ 3 * i * k * k ≤ 786432) ∧ (-824633720832 ≤ 3 * i * k * k * b ∧ 3 * i * k * k * b ≤ 824633720832) ∧
    (0 ≤ 3 * i * i ∧ 3 * i * i ≤ 12288) ∧ (0 ≤ 3 * i * i * k ∧ 3 * i * i * k ≤ 786432) ∧ (-824633720832 ≤ 3 * i * i * k * c ∧ 3 * i * i * k * c ≤ 824633720832) ∧
    (0 ≤ i * i ∧ i * i ≤ 4096) ∧ (0 ≤ i * i * i ∧ i * i * i ≤ 262144) ∧ (-274877906944 ≤ i * i * i * d ∧ i * i * i * d ≤ 274877906944) ∧ (1 ≤ n * n ∧ n * n ≤ 4096) ∧ (1 ≤ n * n * n ∧ n * n * n ≤ 262144) := by
  have mb : ∀ x y A B : Int, 0 ≤ x → x ≤ A → 0 ≤ y → y ≤ B → 0 ≤ x * y ∧ x * y ≤ A * B := fun x y A B hx hA hy hB =>
    ⟨Int.mul_nonneg hx hy, Int.mul_le_mul hA hB hy (by omega)⟩
  have k2 := mb k k 64 64 hk.1 hk.2 hk.1 hk.2
  have k3 := mb (k * k) k 4096 64 k2.1 (by omega) hk.1 hk.2
  have i2 := mb i i 64 64 hi.1 hi.2 hi.1 hi.2
  have i3 := mb (i * i) i 4096 64 i2.1 (by omega) hi.1 hi.2
  have n2 := mb n n 64 64 (by omega) hn.2 (by omega) hn.2
  have n3 := mb (n * n) n 4096 64 n2.1 (by omega) (by omega) hn.2
  have a1 := mb (3 * i) k 192 64 (by omega) (by omega) hk.1 hk.2
  have a2 := mb (3 * i * k) k 12288 64 a1.1 (by omega) hk.1 hk.2
  have c1 := mb (3 * i) i 192 64 (by omega) (by omega) hi.1 hi.2
  have c2 := mb (3 * i * i) k 12288 64 c1.1 (by omega) hk.1 hk.2
  have m1 := mulB (k * k * k) a 262144 1048576 (by omega) (by omega) ha.1 ha.2
  have m2 := mulB (3 * i * k * k) b 786432 1048576 (by omega) (by omega) hb.1 hb.2
  have m3 := mulB (3 * i * i * k) c 786432 1048576 (by omega) (by omega) hc.1 hc.2
  have m4 := mulB (i * i * i) d 262144 1048576 (by omega) (by omega) hd.1 hd.2
  have n4 : 1 * 1 ≤ n * n := Int.mul_le_mul hn.1 hn.1 (by omega) (by omega)
  have n5 : 1 * 1 ≤ n * n * n := Int.mul_le_mul (by omega) hn.1 (by omega) (by omega)
  omega

theorem cubicAt1_any (i k n a b c d : Int) (pk pi pn : Addr) (w : World) (hi : 0 ≤ i ∧ i ≤ 64) (hk : 0 ≤ k ∧ k ≤ 64) (hn : 1 ≤ n ∧ n ≤ 64) (ha : -1048576 ≤ a ∧ a ≤ 1048576) (hb : -1048576 ≤ b ∧ b ≤ 1048576) (hc : -1048576 ≤ c ∧ c ≤ 1048576) (hd : -1048576 ≤ d ∧ d ≤ 1048576)
    (ck : w.cell? pk = some (.int .i64 k)) (ci : w.cell? pi = some (.int .i64 i)) (cn : w.cell? pn = some (.int .i64 n)) :
    Calls Try.prog 57 #[.int .i64 a, .int .i64 b, .int .i64 c, .int .i64 d, .pointer (some pk), .pointer (some pi), .pointer (some pn)] w fun e w' =>
      e = .returned (.int .i64 (nearV (k * k * k * a + 3 * i * k * k * b + 3 * i * i * k * c + i * i * i * d) (n * n * n))) ∧ w = w' := by
  have B := cbounds i k n a b c d hi hk hn ha hb hc hd
  clear ha hb hc hd
  go_enter Try.func57, Try.ntmps57
  go_wp2_with (go_at_call 53; refine (near_any _ _ _ (by omega) (by omega) (by omega) (by omega)).mono ?_; rintro e w' ⟨rfl, rfl⟩)
  go_ret
  exact ⟨rfl, rfl⟩

def cubicAtV (a b c d : Int × Int) (i n : Int) : Int × Int := if MayB [a, b, c, d] i n = true then (cv i n a.1 b.1 c.1 d.1, cv i n a.2 b.2 c.2 d.2) else (0, 0)

set_option maxHeartbeats 1000000 in
theorem cubicAt_any (a b c d : Int × Int) (i n : Int) (w : World) :
    Calls Try.prog 19 #[.agg #[.int .i64 a.1, .int .i64 a.2, .int .i64 b.1, .int .i64 b.2, .int .i64 c.1, .int .i64 c.2, .int .i64 d.1, .int .i64 d.2], .int .i64 i, .int .i64 n] w fun e w' =>
      e = .returned (.agg #[.int .i64 (cubicAtV a b c d i n).1, .int .i64 (cubicAtV a b c d i n).2]) ∧ Ext w w' := by
  have g : ∀ w', Ext ((((w.alloc (.cells #[.int .i64 a.1, .int .i64 a.2, .int .i64 b.1, .int .i64 b.2, .int .i64 c.1, .int .i64 c.2, .int .i64 d.1, .int .i64 d.2] 24)).alloc (.cells #[.int .i64 i] 3)).alloc (.cells #[.int .i64 n] 3)).alloc (.cells #[.int .i64 0, .int .i64 0] 23)) w' →
      w'.cell? ⟨w.heap.size, 0, none⟩ = some (.int .i64 a.1) ∧ w'.cell? ⟨w.heap.size, 1, none⟩ = some (.int .i64 a.2) ∧ w'.cell? ⟨w.heap.size, 2, none⟩ = some (.int .i64 b.1) ∧
      w'.cell? ⟨w.heap.size, 3, none⟩ = some (.int .i64 b.2) ∧ w'.cell? ⟨w.heap.size, 4, none⟩ = some (.int .i64 c.1) ∧ w'.cell? ⟨w.heap.size, 5, none⟩ = some (.int .i64 c.2) ∧ w'.cell? ⟨w.heap.size, 6, none⟩ = some (.int .i64 d.1) ∧ w'.cell? ⟨w.heap.size, 7, none⟩ = some (.int .i64 d.2) ∧
      w'.cell? ⟨w.heap.size + 1, 0, none⟩ = some (.int .i64 i) ∧ w'.cell? ⟨w.heap.size + 2, 0, none⟩ = some (.int .i64 n) ∧
      w'.cell? ⟨w.heap.size + 3, 0, none⟩ = some (.int .i64 0) ∧ w'.cell? ⟨w.heap.size + 3, 1, none⟩ = some (.int .i64 0) ∧
      w'.frozen? ⟨w.heap.size + 3, 0, none⟩ = false ∧ w'.frozen? ⟨w.heap.size + 3, 1, none⟩ = false := fun w' h => by
    have e1 : Ext (w.alloc (.cells #[.int .i64 a.1, .int .i64 a.2, .int .i64 b.1, .int .i64 b.2, .int .i64 c.1, .int .i64 c.2, .int .i64 d.1, .int .i64 d.2] 24)) w' := ((((Ext.refl _).alloc _).alloc _).alloc _).trans h
    have e2 : Ext ((w.alloc (.cells #[.int .i64 a.1, .int .i64 a.2, .int .i64 b.1, .int .i64 b.2, .int .i64 c.1, .int .i64 c.2, .int .i64 d.1, .int .i64 d.2] 24)).alloc (.cells #[.int .i64 i] 3)) w' := (((Ext.refl _).alloc _).alloc _).trans h
    have e3 : Ext (((w.alloc (.cells #[.int .i64 a.1, .int .i64 a.2, .int .i64 b.1, .int .i64 b.2, .int .i64 c.1, .int .i64 c.2, .int .i64 d.1, .int .i64 d.2] 24)).alloc (.cells #[.int .i64 i] 3)).alloc (.cells #[.int .i64 n] 3)) w' := ((Ext.refl _).alloc _).trans h
    exact ⟨e1.get (by simp), e1.get (by simp), e1.get (by simp), e1.get (by simp), e1.get (by simp), e1.get (by simp), e1.get (by simp), e1.get (by simp), e2.get (by simp), e3.get (by rw [World.cell?_alloc_at _ _ _ _ (by simp)]; rfl), h.get (by rw [World.cell?_alloc_at _ _ _ _ (by simp)]; rfl), h.get (by rw [World.cell?_alloc_at _ _ _ _ (by simp)]; rfl), (h.frozen (by simp)).trans (World.frozen?_alloc_at _ _ _ _ (by simp)), (h.frozen (by simp)).trans (World.frozen?_alloc_at _ _ _ _ (by simp))⟩
  have HP := Lib.hid (fun w' h => have q := g w' h; pts4 q.1 q.2.1 q.2.2.1 q.2.2.2.1 q.2.2.2.2.1 q.2.2.2.2.2.1 q.2.2.2.2.2.2.1 q.2.2.2.2.2.2.2.1)
  by_cases hm : MayB [a, b, c, d] i n = true
  · have hv : cubicAtV a b c d i n = (cv i n a.1 b.1 c.1 d.1, cv i n a.2 b.2 c.2 d.2) := by unfold cubicAtV; rw [if_pos hm]
    rw [hv]
    clear hv
    have ho : okAll [a, b, c, d] = true ∧ parV i n = true := by unfold MayB at hm; simpa using hm
    have bi := (parV_iff i n).1 ho.2
    have hb : ((-1048576 ≤ a.1 ∧ a.1 ≤ 1048576) ∧ -1048576 ≤ a.2 ∧ a.2 ≤ 1048576) ∧ ((-1048576 ≤ b.1 ∧ b.1 ≤ 1048576) ∧ -1048576 ≤ b.2 ∧ b.2 ≤ 1048576) ∧ ((-1048576 ≤ c.1 ∧ c.1 ≤ 1048576) ∧ -1048576 ≤ c.2 ∧ c.2 ≤ 1048576) ∧ ((-1048576 ≤ d.1 ∧ d.1 ≤ 1048576) ∧ -1048576 ≤ d.2 ∧ d.2 ≤ 1048576) := by
      simpa [okAll, okPt_iff] using ho.1
    have HB := Lib.hid hb
    clear hb ho
    go_enter Try.func19, Try.ntmps19
    go_wp2_with fail
    go_region_held3 (fun w' => Ext ((((w.alloc (.cells #[.int .i64 a.1, .int .i64 a.2, .int .i64 b.1, .int .i64 b.2, .int .i64 c.1, .int .i64 c.2, .int .i64 d.1, .int .i64 d.2] 24)).alloc (.cells #[.int .i64 i] 3)).alloc (.cells #[.int .i64 n] 3)).alloc (.cells #[.int .i64 0, .int .i64 0] 23)) w') (first | assumption | exact Ext.drew (Ext.refl _) | (apply Ext.via; assumption; assumption))
      (first | (go_at_call 51; refine (may_len 4 w.heap.size 0 4 [a, b, c, d] i n _ rfl (by omega) (HP.out _ (by assumption))).mono ?_; rintro e w' ⟨rfl, hb⟩))
    have hne : w.heap.size + 3 < w'.heap.size := by have := Ext.size (by assumption : Ext ((((w.alloc (.cells #[.int .i64 a.1, .int .i64 a.2, .int .i64 b.1, .int .i64 b.2, .int .i64 c.1, .int .i64 c.2, .int .i64 d.1, .int .i64 d.2] 24)).alloc (.cells #[.int .i64 i] 3)).alloc (.cells #[.int .i64 n] 3)).alloc (.cells #[.int .i64 0, .int .i64 0] 23)) w'); simp at this; omega
    have hne1 : ¬ w'.heap.size = w.heap.size + 3 := by omega
    have hne2 : ¬ w.heap.size + 3 = w'.heap.size := by omega
    go_wp2_with fail
    have gk := g _ (by assumption : Ext ((((w.alloc (.cells #[.int .i64 a.1, .int .i64 a.2, .int .i64 b.1, .int .i64 b.2, .int .i64 c.1, .int .i64 c.2, .int .i64 d.1, .int .i64 d.2] 24)).alloc (.cells #[.int .i64 i] 3)).alloc (.cells #[.int .i64 n] 3)).alloc (.cells #[.int .i64 0, .int .i64 0] 23)) w')
    have g2 : ∀ x, Own (w.heap.size + 3) w' x → x.cell? ⟨w.heap.size, 0, none⟩ = some (.int .i64 a.1) ∧ x.cell? ⟨w.heap.size, 1, none⟩ = some (.int .i64 a.2) ∧ x.cell? ⟨w.heap.size, 2, none⟩ = some (.int .i64 b.1) ∧
      x.cell? ⟨w.heap.size, 3, none⟩ = some (.int .i64 b.2) ∧ x.cell? ⟨w.heap.size, 4, none⟩ = some (.int .i64 c.1) ∧ x.cell? ⟨w.heap.size, 5, none⟩ = some (.int .i64 c.2) ∧ x.cell? ⟨w.heap.size, 6, none⟩ = some (.int .i64 d.1) ∧ x.cell? ⟨w.heap.size, 7, none⟩ = some (.int .i64 d.2) ∧
      x.cell? ⟨w.heap.size + 1, 0, none⟩ = some (.int .i64 i) ∧ x.cell? ⟨w.heap.size + 2, 0, none⟩ = some (.int .i64 n) := fun x h => by
      obtain ⟨k0, k1, k2, k3, k4, k5, k6, k7, k8, k9, _⟩ := gk
      exact ⟨h.get k0 (by simp), h.get k1 (by simp), h.get k2 (by simp), h.get k3 (by simp), h.get k4 (by simp), h.get k5 (by simp), h.get k6 (by simp), h.get k7 (by simp), h.get k8 (by simp), h.get k9 (by simp)⟩
    go_region_held3 (fun x => Own (w.heap.size + 3) w' x ∧ x.cell? ⟨w'.heap.size, 0, none⟩ = some (.int .i64 (n - i))) (first | assumption | (refine ⟨?_, ?_⟩ <;> (first | ((repeat (first | exact Own.refl _ _ | apply Own.drew | apply Own.alloc | apply Own.set_at)); done) | (simp; done) | (refine (cell_last _ _ _ _ _ (by simp [World.setCell])).trans rfl))))
      (first | (go_at_call 57; go_split_ands; refine (cubicAt1_any i (n - i) n _ _ _ _ _ _ _ _ (by omega) (by omega) (by omega) ?_ ?_ ?_ ?_ (by simp [*]) (by simp [*]) (by simp [*])).mono ?_ <;> (first | (rintro e w' ⟨rfl, rfl⟩) | (have hb := HB.out; omega))))
    go_wp2_with fail
    refine bodyPost_ret (v := .agg #[.int .i64 (cv i n a.1 b.1 c.1 d.1), .int .i64 (cv i n a.2 b.2 c.2 d.2)]) ?_ rfl ⟨rfl, ?_⟩
    · unfold cv
      simp [results, Try.results19, go_sem, *]
    · refine Ext.drew (Ext.alloc (Ext.setCell (Ext.setCell ?_ (by simp; omega) _) (by simp; omega) _) _)
      exact ((Ext.refl w).alloc _ |>.alloc _ |>.alloc _ |>.alloc _ |>.drew).trans hb
  · have hv : cubicAtV a b c d i n = (0, 0) := by unfold cubicAtV; rw [if_neg hm]
    rw [hv]
    clear hv
    have hmf : MayB [a, b, c, d] i n = false := by simpa using hm
    clear hm
    go_enter Try.func19, Try.ntmps19
    go_wp2_with fail
    go_region_held3 (fun w' => Ext ((((w.alloc (.cells #[.int .i64 a.1, .int .i64 a.2, .int .i64 b.1, .int .i64 b.2, .int .i64 c.1, .int .i64 c.2, .int .i64 d.1, .int .i64 d.2] 24)).alloc (.cells #[.int .i64 i] 3)).alloc (.cells #[.int .i64 n] 3)).alloc (.cells #[.int .i64 0, .int .i64 0] 23)) w') (first | assumption | exact Ext.drew (Ext.refl _) | (apply Ext.via; assumption; assumption))
      (first | (go_at_call 51; refine (may_len 4 w.heap.size 0 4 [a, b, c, d] i n _ rfl (by omega) (HP.out _ (by assumption))).mono ?_; rintro e w' ⟨rfl, hb⟩))
    go_wp2_with fail
    refine bodyPost_ret (v := .agg #[.int .i64 0, .int .i64 0]) ?_ rfl ⟨rfl, ?_⟩
    · simp [results, Try.results19, go_sem, *]
    · exact ((Ext.refl w).alloc _ |>.alloc _ |>.alloc _ |>.alloc _ |>.trans (by assumption)).setCell (by simp; omega) _ |>.setCell (by simp; omega) _
end Go.Proofs.Ytkepeihlggkadaa
