/- Contracts that the claim stands on: XVecO to XLevels. -/
import Derived.Deep.Upon
import Derived.Test.YtaeeeailoiioaacGreatM6
namespace Go.Proofs.YtaeeeailoiioaacGreat
open Go.RowKit
attribute [local go_sem ↓] Go.wp_at_zero Go.wp_at_succ run_max_ii run_min_ii
theorem mul_bd {a b : Int} (h1 : -2097152 ≤ a ∧ a ≤ 2097152) (h2 : -2097152 ≤ b ∧ b ≤ 2097152) : -4398046511104 ≤ a * b ∧ a * b ≤ 4398046511104 := by
  have h : (a * b).natAbs ≤ 2097152 * 2097152 := by rw [Int.natAbs_mul]; exact Nat.mul_le_mul (by omega) (by omega)
  omega
theorem clamp1_pos (c : Int) : 0 < clampI c (-1) 1 ↔ 0 < c := by
  unfold clampI
  split
  · omega
  split <;> omega
theorem okPt_out {x y : Int} (h : okPt x y = true) : (-1048576 ≤ x ∧ x ≤ 1048576) ∧ (-1048576 ≤ y ∧ y ≤ 1048576) := by simpa [okPt] using h
theorem clampx_any (n lo hi : Int) (w : World) : Calls Tryz.prog 69 #[.int .i64 n, .int .i64 lo, .int .i64 hi] w fun e w' => e = .returned (.int .i64 (clampI n lo hi)) ∧ Ext w w' :=
  (clamp_any n lo hi w).mono fun e w' h => ⟨h.1, by rw [← h.2]; exact Ext.refl _⟩
set_option maxRecDepth 20000 in
set_option maxHeartbeats 4000000 in
theorem sub2_any (x y a b : Int) (w : World) (hv : okPt x y = true) (hu : okPt a b = true) :
  Calls Tryz.prog 71 #[.agg #[.int .i64 x, .int .i64 y], .agg #[.int .i64 a, .int .i64 b]] w fun e w' => e = .returned (.agg #[.int .i64 (x - a), .int .i64 (y - b)]) ∧ Ext w w' := by
 have hv2 : (-1048576 ≤ x ∧ x ≤ 1048576) ∧ (-1048576 ≤ y ∧ y ≤ 1048576) := by simpa [okPt] using hv
 have hu2 : (-1048576 ≤ a ∧ a ≤ 1048576) ∧ (-1048576 ≤ b ∧ b ≤ 1048576) := by simpa [okPt] using hu
 have c1 : clampI x (-1048576) 1048576 = x := by have h := eq_clamp x; rw [decide_eq_true hv2.1] at h; simpa using h
 have c2 : clampI y (-1048576) 1048576 = y := by have h := eq_clamp y; rw [decide_eq_true hv2.2] at h; simpa using h
 have c3 : clampI a (-1048576) 1048576 = a := by have h := eq_clamp a; rw [decide_eq_true hu2.1] at h; simpa using h
 have c4 : clampI b (-1048576) 1048576 = b := by have h := eq_clamp b; rw [decide_eq_true hu2.2] at h; simpa using h
 have wx : IntKind.i64.wrap (x - a) = x - a := by rw [IntKind.wrap_i64]; omega
 have wy : IntKind.i64.wrap (y - b) = y - b := by rw [IntKind.wrap_i64]; omega
 clear hv hv2 hu hu2
 go_enter Tryz.func71, Tryz.ntmps71
 go_upto_region 1 with fail
 have hE : Ext w (((w.alloc (.cells #[.int .i64 x, .int .i64 y] 44)).alloc (.cells #[.int .i64 a, .int .i64 b] 44)).alloc (.cells #[.int .i64 0, .int .i64 0] 44)) := (((Ext.refl _).alloc _).alloc _).alloc _
 have hB2 : Blk (((w.alloc (.cells #[.int .i64 x, .int .i64 y] 44)).alloc (.cells #[.int .i64 a, .int .i64 b] 44)).alloc (.cells #[.int .i64 0, .int .i64 0] 44)) w.heap.size 44 #[.int .i64 x, .int .i64 y] := ((Blk.new w _ _).alloc _).alloc _
 have hB3 : Blk (((w.alloc (.cells #[.int .i64 x, .int .i64 y] 44)).alloc (.cells #[.int .i64 a, .int .i64 b] 44)).alloc (.cells #[.int .i64 0, .int .i64 0] 44)) (w.heap.size + 1) 44 #[.int .i64 a, .int .i64 b] := Blk.alloc (by have h := Blk.new (w.alloc (.cells #[.int .i64 x, .int .i64 y] 44)) 44 #[.int .i64 a, .int .i64 b]; simpa using h) _
 have hB4 : Blk (((w.alloc (.cells #[.int .i64 x, .int .i64 y] 44)).alloc (.cells #[.int .i64 a, .int .i64 b] 44)).alloc (.cells #[.int .i64 0, .int .i64 0] 44)) (w.heap.size + 1 + 1) 44 #[.int .i64 0, .int .i64 0] := by have h := Blk.new ((w.alloc (.cells #[.int .i64 x, .int .i64 y] 44)).alloc (.cells #[.int .i64 a, .int .i64 b] 44)) 44 #[.int .i64 0, .int .i64 0]; simpa using h
 have n23 : w.heap.size ≠ w.heap.size + 1 := by omega
 have n24 : w.heap.size ≠ w.heap.size + 1 + 1 := by omega
 have n34 : w.heap.size + 1 ≠ w.heap.size + 1 + 1 := by omega
 have z3 : w.heap.size ≤ w.heap.size + 1 := by omega
 have z4 : w.heap.size ≤ w.heap.size + 1 + 1 := by omega
 generalize (((w.alloc (.cells #[.int .i64 x, .int .i64 y] 44)).alloc (.cells #[.int .i64 a, .int .i64 b] 44)).alloc (.cells #[.int .i64 0, .int .i64 0] 44)) = wa at *
 generalize w.heap.size + 1 + 1 = X4 at *
 generalize w.heap.size + 1 = X3 at *
 have z2 : w.heap.size ≤ w.heap.size := Nat.le_refl _
 generalize hX2 : w.heap.size = X2 at hB2 n23 n24 ⊢
 have z22 : w.heap.size ≤ X2 := by omega
 clear hX2 z2
 refine wp_region_held_drew (S := fun q => Ext w q ∧ Blk q X2 44 #[.int .i64 x, .int .i64 y] ∧ Blk q X3 44 #[.int .i64 a, .int .i64 b] ∧ Blk q X4 44 #[.int .i64 0, .int .i64 0]) (by kernel_rfl) ⟨hE.drew, hB2, hB3, hB4⟩ (fun _ => ?_)
 refine mL 0 (bs 6 1) (fun q hq => hq.2.1) Tryz.underlying44 (by kernel_rfl) ⟨hE.drew, hB2, hB3, hB4⟩ ?_
 refine zl 2 (bs 6 5) (fun q hq => hq.2.2.1) Tryz.underlying44 (by kernel_rfl) ⟨hE.drew, hB2, hB3, hB4⟩ ?_
 refine mC 1 (bs 6 7) (hold_any x y _) ?_
 rintro e w1 ⟨rfl, h1⟩
 rw [c1, c2]
 have k1 : Ext w w1 ∧ Blk w1 X2 44 #[.int .i64 x, .int .i64 y] ∧ Blk w1 X3 44 #[.int .i64 a, .int .i64 b] ∧ Blk w1 X4 44 #[.int .i64 0, .int .i64 0] := ⟨hE.drew.trans h1, (show Blk wa.drew X2 _ _ from hB2).ext h1, (show Blk wa.drew X3 _ _ from hB3).ext h1, (show Blk wa.drew X4 _ _ from hB4).ext h1⟩
 refine ⟨_, rfl, k1, ?_⟩
 try simp only [Act.put, zA, zB, zC]
 refine mC 3 (bs 6 15) (hold_any a b _) ?_
 rintro e w2 ⟨rfl, h2⟩
 rw [c3, c4]
 have k2 : Ext w w2 ∧ Blk w2 X2 44 #[.int .i64 x, .int .i64 y] ∧ Blk w2 X3 44 #[.int .i64 a, .int .i64 b] ∧ Blk w2 X4 44 #[.int .i64 0, .int .i64 0] := ⟨k1.1.trans h2, k1.2.1.ext h2, k1.2.2.1.ext h2, k1.2.2.2.ext h2⟩
 refine ⟨_, rfl, k2, ?_⟩
 try simp only [Act.put, zA, zB, zC]
 have o1 := Own.setCells w2 X2 #[.int .i64 x, .int .i64 y]
 have k3 : Ext w (w2.setCells X2 0 (#[.int .i64 x, .int .i64 y] : Array Value).toList) ∧ Blk (w2.setCells X2 0 (#[.int .i64 x, .int .i64 y] : Array Value).toList) X2 44 #[.int .i64 x, .int .i64 y] ∧ Blk (w2.setCells X2 0 (#[.int .i64 x, .int .i64 y] : Array Value).toList) X3 44 #[.int .i64 a, .int .i64 b] ∧ Blk (w2.setCells X2 0 (#[.int .i64 x, .int .i64 y] : Array Value).toList) X4 44 #[.int .i64 0, .int .i64 0] := ⟨o1.ext k2.1 z22, k2.2.1.setCells #[.int .i64 x, .int .i64 y] rfl, k2.2.2.1.own o1 (Ne.symm n23), k2.2.2.2.own o1 (Ne.symm n24)⟩
 refine mO 4 (bs 6 31) #[.int .i64 x, .int .i64 y] k2.2.1 rfl (by kernel_rfl) (all_oneCell_toArray (by simp [Value.oneCell'])) k3 ?_
 (try simp only [Act.put])
 generalize w2.setCells X2 0 (#[.int .i64 x, .int .i64 y] : Array Value).toList = w3 at *
 have o2 := Own.setCells w3 X3 #[.int .i64 a, .int .i64 b]
 have k4 : Ext w (w3.setCells X3 0 (#[.int .i64 a, .int .i64 b] : Array Value).toList) ∧ Blk (w3.setCells X3 0 (#[.int .i64 a, .int .i64 b] : Array Value).toList) X2 44 #[.int .i64 x, .int .i64 y] ∧ Blk (w3.setCells X3 0 (#[.int .i64 a, .int .i64 b] : Array Value).toList) X3 44 #[.int .i64 a, .int .i64 b] ∧ Blk (w3.setCells X3 0 (#[.int .i64 a, .int .i64 b] : Array Value).toList) X4 44 #[.int .i64 0, .int .i64 0] := ⟨o2.ext k3.1 z3, k3.2.1.own o2 n23, k3.2.2.1.setCells #[.int .i64 a, .int .i64 b] rfl, k3.2.2.2.own o2 (Ne.symm n34)⟩
 refine mO 5 (bs 6 63) #[.int .i64 a, .int .i64 b] k3.2.2.1 rfl (by kernel_rfl) (all_oneCell_toArray (by simp [Value.oneCell'])) k4 ?_
 (try simp only [Act.put])
 generalize w3.setCells X3 0 (#[.int .i64 a, .int .i64 b] : Array Value).toList = w4 at *
 refine wpAnyH_done (by kernel_rfl) ?_ _
 have d0 := k4.2.1.cell 0
 have d1 := k4.2.1.cell 1
 have d2 := k4.2.2.1.cell 0
 have d3 := k4.2.2.1.cell 1
 simp at d0 d1 d2 d3
 have K4 := zH k4
 clear k1 k2 k3 k4 h1 h2 hB2 hB3 hB4 hE o1 o2
 go_upto_region 2 with fail
 refine wp_region_lit ?_
 refine qV (.pointer (some ⟨X2, 0, none⟩)) ?_
 refine zq (.int .i64 x) ?_
 refine qV (.pointer (some ⟨X3, 0, none⟩)) ?_
 refine zq (.int .i64 a) ?_
 refine qV (.int .i64 (x - a)) ?_
 refine zq (.pointer (some ⟨X2, 1, none⟩)) ?_
 refine qV (.int .i64 y) ?_
 refine zq (.pointer (some ⟨X3, 1, none⟩)) ?_
 refine qV (.int .i64 b) ?_
 refine zq (.int .i64 (y - b)) ?_
 refine zq (.agg #[.int .i64 (x - a), .int .i64 (y - b)]) ?_
 refine pO #[.int .i64 (x - a), .int .i64 (y - b)] K4.out.2.2.2 rfl (by kernel_rfl) (all_oneCell_toArray (by simp [Value.oneCell'])) ?_
 (try simp only [Act.put])
 have o3 := Own.setCells w4 X4 #[.int .i64 (x - a), .int .i64 (y - b)]
 have hx4 := o3.ext K4.out.1 z4
 have hb4 := K4.out.2.2.2.setCells #[.int .i64 (x - a), .int .i64 (y - b)] rfl
 generalize w4.setCells X4 0 (#[.int .i64 (x - a), .int .i64 (y - b)] : Array Value).toList = w5 at *
 clear o3
 go_wp2_with fail
 refine bodyPost_ret (v := .agg #[.int .i64 (x - a), .int .i64 (y - b)]) ?_ rfl ⟨rfl, hx4⟩
 exact results_cell1 rfl rfl (hb4.loadVar rfl rfl (by rfl))
set_option maxRecDepth 20000 in
set_option maxHeartbeats 4000000 in
theorem vcross_any (a b c d : Int) (w : World) (ha : -2097152 ≤ a ∧ a ≤ 2097152) (hb : -2097152 ≤ b ∧ b ≤ 2097152) (hc : -2097152 ≤ c ∧ c ≤ 2097152) (hd : -2097152 ≤ d ∧ d ≤ 2097152) :
  Calls Tryz.prog 70 #[.agg #[.int .i64 a, .int .i64 b], .agg #[.int .i64 c, .int .i64 d]] w fun e w' => e = .returned (.int .i64 (a * d - b * c)) ∧ Ext w w' := by
 have m1 := mul_bd ha hd
 have m2 := mul_bd hb hc
 go_enter Tryz.func70, Tryz.ntmps70
 have H0 := zH (Hp.start w)
 go_upto_region 0 with fail
 refine wp_region_lit ?_
 refine mv_alloc (T := 44) (zs := [.int .i64 a, .int .i64 b]) (by rfl) (by go_simp) H0.out (by simp [NoUL]) ?_
 intro X1 w2 hh hx hge
 have H3 := zH (show Hp w w2 [.blk X1 44 [.int .i64 a, .int .i64 b]] from hh)
 clear hh hx hge
 try simp only [Act.put, zA, zB, zC]
 refine mv_alloc (T := 44) (zs := [.int .i64 c, .int .i64 d]) (by rfl) (by go_simp) H3.out (by simp [NoUL]) ?_
 intro X6 w7 hh hx hge
 have H8 := zH (show Hp w w7 [.blk X1 44 [.int .i64 a, .int .i64 b], .blk X6 44 [.int .i64 c, .int .i64 d]] from hh)
 clear hh hx hge
 try simp only [Act.put, zA, zB, zC]
 refine zq (.int .i64 0) ?_
 go_upto_region 1 with fail
 refine wp_region_lit ?_
 refine zq (.pointer (some ⟨X1, 0, none⟩)) ?_
 refine ze X1 0 (.int .i64 a) (H8.out.range (i := 0) (by rfl) 0 1) ?_
 refine zq (.pointer (some ⟨X6, 1, none⟩)) ?_
 refine ze X6 1 (.int .i64 d) (H8.out.range (i := 1) (by rfl) 1 1) ?_
 refine zp (w' := w7) (.int .i64 (a * d)) (by exact ez3 (by have ob0 := m1.1; have ob1 := m1.2; have ob2 := m2.1; have ob3 := m2.2; omega)) ?_
 refine zq (.pointer (some ⟨X1, 1, none⟩)) ?_
 refine ze X1 1 (.int .i64 b) (H8.out.range (i := 0) (by rfl) 1 1) ?_
 refine zq (.pointer (some ⟨X6, 0, none⟩)) ?_
 refine ze X6 0 (.int .i64 c) (H8.out.range (i := 1) (by rfl) 0 1) ?_
 refine zp (w' := w7) (.int .i64 (b * c)) (by exact ez3 (by have ob0 := m1.1; have ob1 := m1.2; have ob2 := m2.1; have ob3 := m2.2; omega)) ?_
 refine zp (w' := w7) (.int .i64 ((a * d) - (b * c))) (by exact ez2 (by have ob0 := m1.1; have ob1 := m1.2; have ob2 := m2.1; have ob3 := m2.2; omega)) ?_
 refine zq (.int .i64 ((a * d) - (b * c))) ?_
 go_wp2_with fail
 go_ret
 exact ⟨rfl, H8.out.ext⟩
set_option maxRecDepth 20000 in
set_option maxHeartbeats 4000000 in
theorem orient_any (a b p : Int × Int) (w : World) (ha : okPt a.1 a.2 = true) (hb : okPt b.1 b.2 = true) (hp : okPt p.1 p.2 = true) :
  Calls Tryz.prog 43 #[.agg #[.int .i64 a.1, .int .i64 a.2], .agg #[.int .i64 b.1, .int .i64 b.2], .agg #[.int .i64 p.1, .int .i64 p.2]] w fun e w' => e = .returned (.int .i64 (clampI (crossP a b p) (-1) 1)) ∧ Ext w w' := by
 have oa := okPt_out ha
 have ob := okPt_out hb
 have op := okPt_out hp
 go_enter Tryz.func43, Tryz.ntmps43
 have H0 := zH (Hp.start w)
 go_upto_region 0 with fail
 refine wp_region_lit ?_
 refine mv_alloc (T := 44) (zs := [.int .i64 a.1, .int .i64 a.2]) (by rfl) (by go_simp) H0.out (by simp [NoUL]) ?_
 intro X20 w21 hh hx hge
 have H22 := zH (show Hp w w21 [.blk X20 44 [.int .i64 a.1, .int .i64 a.2]] from hh)
 clear hh hx hge
 try simp only [Act.put, zA, zB, zC]
 refine mv_alloc (T := 44) (zs := [.int .i64 b.1, .int .i64 b.2]) (by rfl) (by go_simp) H22.out (by simp [NoUL]) ?_
 intro X25 w26 hh hx hge
 have H27 := zH (show Hp w w26 [.blk X20 44 [.int .i64 a.1, .int .i64 a.2], .blk X25 44 [.int .i64 b.1, .int .i64 b.2]] from hh)
 clear hh hx hge
 try simp only [Act.put, zA, zB, zC]
 refine mv_alloc (T := 44) (zs := [.int .i64 p.1, .int .i64 p.2]) (by rfl) (by go_simp) H27.out (by simp [NoUL]) ?_
 intro X30 w31 hh hx hge
 have H32 := zH (show Hp w w31 [.blk X20 44 [.int .i64 a.1, .int .i64 a.2], .blk X25 44 [.int .i64 b.1, .int .i64 b.2], .blk X30 44 [.int .i64 p.1, .int .i64 p.2]] from hh)
 clear hh hx hge
 try simp only [Act.put, zA, zB, zC]
 refine zq (.int .i64 0) ?_
 go_upto_region 1 with fail
 refine zy ?_
 have H36 := zH (H32.out.step (Ext.refl w31).drew)
 refine mR 0 (bs 9 1) X25 (0) [.int .i64 b.1, .int .i64 b.2] (fun x hx => range_ext (show World.rangeAt w31 X25 (0) [.int .i64 b.1, .int .i64 b.2] from (H32.out.range (i := 1) (by rfl) 0 2)) hx) Tryz.underlying44 zb ?_
 refine mR 1 (bs 9 3) X20 (0) [.int .i64 a.1, .int .i64 a.2] (fun x hx => range_ext (show World.rangeAt w31 X20 (0) [.int .i64 a.1, .int .i64 a.2] from (H32.out.range (i := 0) (by rfl) 0 2)) hx) Tryz.underlying44 zb ?_
 refine zg 3 (bs 9 11) X30 (0) [.int .i64 p.1, .int .i64 p.2] (H32.out.range (i := 2) (by rfl) 0 2) Tryz.underlying44 zb ?_
 refine zg 4 (bs 9 27) X20 (0) [.int .i64 a.1, .int .i64 a.2] (H32.out.range (i := 0) (by rfl) 0 2) Tryz.underlying44 zb ?_
 refine mC 2 (bs 9 31) (sub2_any b.1 b.2 a.1 a.2 _ hb ha) ?_
 rintro e w38 ⟨rfl, hx⟩
 have H39 := zH (H36.out.step hx)
 have S41 := zH (show Ext w31 w38 from zb.trans hx)
 clear hx
 refine zm S41.out ?_
 refine mC 5 (bs 9 63) (sub2_any p.1 p.2 a.1 a.2 _ hp ha) ?_
 rintro e w42 ⟨rfl, hx⟩
 have H43 := zH (H39.out.step hx)
 have S45 := zH (S41.out.trans hx)
 clear hx
 refine zm S45.out ?_
 refine mC 6 (bs 9 127) (vcross_any (b.1 - a.1) (b.2 - a.2) (p.1 - a.1) (p.2 - a.2) _ ⟨(by have ob0 := oa.1.1; have ob1 := oa.1.2; have ob2 := oa.2.1; have ob3 := oa.2.2; have ob4 := ob.1.1; have ob5 := ob.1.2; have ob6 := ob.2.1; have ob7 := ob.2.2; have ob8 := op.1.1; have ob9 := op.1.2; have ob10 := op.2.1; have ob11 := op.2.2; omega), (by have ob0 := oa.1.1; have ob1 := oa.1.2; have ob2 := oa.2.1; have ob3 := oa.2.2; have ob4 := ob.1.1; have ob5 := ob.1.2; have ob6 := ob.2.1; have ob7 := ob.2.2; have ob8 := op.1.1; have ob9 := op.1.2; have ob10 := op.2.1; have ob11 := op.2.2; omega)⟩ ⟨(by have ob0 := oa.1.1; have ob1 := oa.1.2; have ob2 := oa.2.1; have ob3 := oa.2.2; have ob4 := ob.1.1; have ob5 := ob.1.2; have ob6 := ob.2.1; have ob7 := ob.2.2; have ob8 := op.1.1; have ob9 := op.1.2; have ob10 := op.2.1; have ob11 := op.2.2; omega), (by have ob0 := oa.1.1; have ob1 := oa.1.2; have ob2 := oa.2.1; have ob3 := oa.2.2; have ob4 := ob.1.1; have ob5 := ob.1.2; have ob6 := ob.2.1; have ob7 := ob.2.2; have ob8 := op.1.1; have ob9 := op.1.2; have ob10 := op.2.1; have ob11 := op.2.2; omega)⟩ ⟨(by have ob0 := oa.1.1; have ob1 := oa.1.2; have ob2 := oa.2.1; have ob3 := oa.2.2; have ob4 := ob.1.1; have ob5 := ob.1.2; have ob6 := ob.2.1; have ob7 := ob.2.2; have ob8 := op.1.1; have ob9 := op.1.2; have ob10 := op.2.1; have ob11 := op.2.2; omega), (by have ob0 := oa.1.1; have ob1 := oa.1.2; have ob2 := oa.2.1; have ob3 := oa.2.2; have ob4 := ob.1.1; have ob5 := ob.1.2; have ob6 := ob.2.1; have ob7 := ob.2.2; have ob8 := op.1.1; have ob9 := op.1.2; have ob10 := op.2.1; have ob11 := op.2.2; omega)⟩ ⟨(by have ob0 := oa.1.1; have ob1 := oa.1.2; have ob2 := oa.2.1; have ob3 := oa.2.2; have ob4 := ob.1.1; have ob5 := ob.1.2; have ob6 := ob.2.1; have ob7 := ob.2.2; have ob8 := op.1.1; have ob9 := op.1.2; have ob10 := op.2.1; have ob11 := op.2.2; omega), (by have ob0 := oa.1.1; have ob1 := oa.1.2; have ob2 := oa.2.1; have ob3 := oa.2.2; have ob4 := ob.1.1; have ob5 := ob.1.2; have ob6 := ob.2.1; have ob7 := ob.2.2; have ob8 := op.1.1; have ob9 := op.1.2; have ob10 := op.2.1; have ob11 := op.2.2; omega)⟩) ?_
 rintro e w46 ⟨rfl, hx⟩
 have H47 := zH (H43.out.step hx)
 have S49 := zH (S45.out.trans hx)
 clear hx
 refine zm S49.out ?_
 refine mC 7 (bs 9 255) (clampx_any ((b.1 - a.1) * (p.2 - a.2) - (b.2 - a.2) * (p.1 - a.1)) (-1) 1 _) ?_
 rintro e w50 ⟨rfl, hx⟩
 have H51 := zH (H47.out.step hx)
 have S53 := zH (S49.out.trans hx)
 clear hx
 refine zm S53.out ?_
 refine zx 8 (bs 9 511) (.int .i64 (clampI ((b.1 - a.1) * (p.2 - a.2) - (b.2 - a.2) * (p.1 - a.1)) (-1) 1)) S53.out ?_
 refine wpAnyH_done (by kernel_rfl) ?_ _
 go_wp2_with fail
 go_ret
 exact ⟨rfl, H51.out.ext⟩

end Go.Proofs.YtaeeeailoiioaacGreat

namespace Go.Proofs.YtaeeeailoiioaacGreat
open Go.RowKit
attribute [local go_sem ↓] Go.wp_at_zero Go.wp_at_succ run_eql_point run_neq_point
set_option maxRecDepth 20000 in
set_option maxHeartbeats 4000000 in
theorem r16Valid_any (u : Value) (rs : List Ring) (w : World) (hu : RingsV w u rs) (hn : rs.length ≤ 100000) (hr : ∀ r, r ∈ rs → r.length ≤ 100000) :
    Calls Tryz.prog 16 #[u] w fun e w' => e = .returned (.bool (okR rs)) ∧ Ext w w' := by
  obtain ⟨A, cu, rfl, hA⟩ := hu
  have HA := zH hA
  have HR := zH hr
  clear hA hr
  go_enter Tryz.func16, Tryz.ntmps16
  go_wp2_with fail
  go_loopg [3, 4] rs.length (fun c n i wr => ∃ k m : Nat, k ≤ rs.length ∧ c = rs.length - k ∧ i = .int .i64 k ∧ n = .int .i64 m ∧ m = tot (rs.take k) ∧ m ≤ 4096 ∧ (∀ i r, i < k → rs[i]? = some r → okAll r = true) ∧ Ext w wr)
  case atStart => exact ⟨0, 0, Nat.zero_le _, rfl, rfl, rfl, rfl, Nat.zero_le _, fun i r h => absurd h (Nat.not_lt_zero _), Ext.refl _⟩
  case round =>
    obtain ⟨k, m, hk, rfl, rfl, rfl, hm, hm2, ho, hx⟩ := hrel
    have HO := zH ho
    have HX := zH hx
    have HM := zH hm
    clear ho hx hm
    by_cases hlt : k < rs.length
    · obtain ⟨r, hr⟩ : ∃ r, rs[k]? = some r := ⟨_, List.getElem?_eq_getElem hlt⟩
      obtain ⟨g, off, rfl, hp⟩ := HA.out (by omega)
      obtain ⟨B, cb, h1, h2⟩ := hp k r hr
      have c1 := HX.out.get h1
      have HC1 := zH c1
      have HP := zH (h2.ext HX.out)
      have HRL := zH (HR.out r (List.mem_of_getElem? hr))
      have HRK := zH hr
      have HTS := zH (tot_succ hr)
      have hlt2 : (k : Int) < (rs.length : Int) := by omega
      have HLT := zH hlt
      have hrl := HRL.out
      obtain ⟨m2, hm3⟩ : ∃ m2, m2 = m + r.length := ⟨_, rfl⟩
      have e1 : (m : Int) + (r.length : Int) = (m2 : Int) := by omega
      have wm : IntKind.i64.wrap (m2 : Int) = (m2 : Int) := by rw [IntKind.wrap_i64]; omega
      have ws : IntKind.i64.wrap (4096 - (m : Int)) = 4096 - (m : Int) := by rw [IntKind.wrap_i64]; omega
      have HM2 := zH (show m2 = tot (rs.take (k + 1)) by rw [HTS.out, ← HM.out]; exact hm3)
      have HM3 := zH hm3
      clear hp h1 h2 hr hlt
      by_cases hbig : 4096 < m2
      · have hbz : 4096 - (m : Int) < (r.length : Int) := by omega
        have HF := zH (okR_stop HRK.out (Or.inl (by rw [← HM2.out]; exact hbig)))
        clear hm3
        go_wp2_with fail
        go_ret
        exact ⟨by rw [HF.out]; rfl, HX.out⟩
      · have hbz : ¬ 4096 - (m : Int) < (r.length : Int) := by omega
        clear hm3
        go_wp2_with fail
        generalize wr = W0 at *
        go_loopg [5] r.length (fun c j wi => ∃ t : Nat, t ≤ r.length ∧ c = r.length - t ∧ j = .int .i64 t ∧ okAll (r.take t) = true ∧ Ext W0 wi)
        case atStart => exact ⟨0, Nat.zero_le _, rfl, rfl, rfl, Ext.refl _⟩
        case round =>
          obtain ⟨t, ht, rfl, rfl, hot, hxt⟩ := hrel
          have HOT := zH hot
          have HXT := zH hxt
          have c2 := HXT.out.get HC1.out
          clear hot hxt c1
          by_cases hlt3 : t < r.length
          · obtain ⟨A2, cap2, ev, hv⟩ := HP.out
            injection ev with ev1 ev2 ev3
            subst ev1 ev3
            clear ev2
            obtain ⟨g2, off2, rfl, hp2⟩ := hv (by rintro rfl; simp at hlt3)
            obtain ⟨d0, d1⟩ := (hp2.ext HXT.out) t hlt3
            have hgd : r.getD t (0, 0) = r[t] := by simp [List.getD, hlt3]
            rw [hgd] at d0 d1
            have HSU := zH (okAll_step r t hlt3 HOT.out)
            have HST := zH (okAll_stop r t hlt3)
            have hlt4 : (t : Int) < (r.length : Int) := by omega
            have HL3 := zH hlt3
            generalize r[t] = x at *
            clear hp2 hv hgd hlt3
            by_cases hok : okPt x.1 x.2 = true
            · have hb : (!okPt x.1 x.2) = false := by rw [hok]; rfl
              go_wp2_with (go_at_call 34; refine (rvalid_any _ _ _).mono ?_; rintro e w2 ⟨rfl, hx2⟩)
              go_roundg (r.length - (t + 1))
              case measure => have := HL3.out; omega
              case rel => exact ⟨t + 1, HL3.out, rfl, by go_num, HSU.out hok, HXT.out.trans hx2⟩
            · replace hok := eq_false_of_ne_true hok
              have hb : (!okPt x.1 x.2) = true := by rw [hok]; rfl
              have HF := zH (okR_stop HRK.out (Or.inr (HST.out hok)))
              go_wp2_with (go_at_call 34; refine (rvalid_any _ _ _).mono ?_; rintro e w2 ⟨rfl, hx2⟩)
              go_ret
              exact ⟨by rw [HF.out]; rfl, (HX.out.trans HXT.out).trans hx2⟩
          · have hge3 : ¬ (t : Int) < (r.length : Int) := by omega
            have HE := zH (okAll_end r t ht hlt3 HOT.out)
            go_wp2_with fail
            go_roundg (rs.length - (k + 1))
            case measure => have := HLT.out; omega
            case rel => exact ⟨k + 1, m2, HLT.out, rfl, by go_num, rfl, HM2.out, by omega, fun i r2 hi hr2 => by
              rcases Nat.lt_or_ge i k with h | h
              · exact HO.out i r2 h hr2
              · obtain rfl : i = k := by omega
                rw [HRK.out] at hr2
                injection hr2 with hr2
                rw [← hr2]; exact HE.out, HX.out.trans HXT.out⟩
    · obtain rfl : k = rs.length := by omega
      have HF := zH (okR_end (rs := rs) (by have h := HM.out; rw [List.take_of_length_le (Nat.le_refl _)] at h; omega) HO.out)
      have hge : ¬ (rs.length : Int) < (rs.length : Int) := by omega
      go_wp2_with fail
      go_ret
      exact ⟨by rw [HF.out]; rfl, HX.out⟩
end Go.Proofs.YtaeeeailoiioaacGreat

namespace Go.Proofs.YtaeeeailoiioaacGreat
open Go.RowKit
attribute [local go_sem ↓] Go.wp_at_zero Go.wp_at_succ run_max_ii run_min_ii
theorem ev_rem {P : Program} {ρ : Operand → Value} {o : Oper} {w : World} {A B E : Int} {t t' : TypeId} {x y : Operand} (ho : o.op = .binOp .rem t x y t') (hx : ρ x = .int .i64 A) (hy : ρ y = .int .i64 B) (hB : B ≠ 0) (hE : A.tmod B = E) (_h1 : -9223372036854775808 ≤ E) (_h2 : E ≤ 9223372036854775807) : (execOp ρ o).run P w = .ok (.value (.int .i64 E)) w := by
  unfold execOp
  simp only [ho, hx, hy]
  simp [go_sem, hB, hE]
theorem range_one {w : World} {g o : Nat} {v : Value} (h : w.cell? ⟨g, o, none⟩ = some v) : w.rangeAt g o [v] := by
  intro j u hj
  match j, hj with
  | 0, hj => injection hj with hj; rw [← hj]; exact h
  | k + 1, hj => simp at hj
theorem range_pt {w : World} {g off i : Nat} {ps : List (Int × Int)} {a : Int × Int} (h : PtsAt w g off ps) (hi : ps[i]? = some a) : w.rangeAt g (off + i * 2) [.int .i64 a.1, .int .i64 a.2] := by
  have hl := (List.getElem?_eq_some_iff.1 hi).1
  have h1 := h i hl
  have e : ps.getD i (0, 0) = a := by rw [List.getD_eq_getElem?_getD, hi]; rfl
  rw [e] at h1
  intro j u hj
  match j, hj with
  | 0, hj => injection hj with hj; rw [← hj]; exact h1.1
  | 1, hj => injection hj with hj; rw [← hj]; exact h1.2
  | k + 2, hj => simp at hj
theorem zo {P : Program} {l : List Oper} {Q : Exit → Act → World → Prop} {md : Region.Mode} {S : World → Prop} {oi : Oper} {fuel : Nat} {listed : Array Bool} {a : Act} {w : World} {v : Value} (i : Nat) (listed' : Array Bool) (hS : S w) (h : wpAnyH P md l.toArray Q S fuel listed' (a.put oi.dst v) w) (hi : l[i]? = some oi := by rfl) (hs : Region.noSelect l.toArray = true := by kernel_rfl) (hf : Region.free md l.toArray listed i = true := by kernel_rfl) (hr : (Region.ready md l.toArray listed).contains i = true := by kernel_rfl) (hv : ∀ w, S w → (execOp a.eval oi).run P w = .ok (.value v) w) (hQ : ∀ c a w, Q (.panic c) (a.put oi.dst v) w → Q (.panic c) a w := by intro _ _ _ h; exact h) (hw : Region.wanted oi (yielded l.toArray a.tmps) = true := by rfl) (hl : listed.setIfInBounds i true = listed' := by kernel_rfl) : wpAnyH P md l.toArray Q S (fuel + 1) listed a w := md_val hi hs hf hr hQ hw hv hS hl h
end Go.Proofs.YtaeeeailoiioaacGreat

namespace Go.Proofs.YtaeeeailoiioaacGreat
open Go.RowKit Go.Deep

section
variable {P : Program} {w0 w : World} {m : List Ent} {ix : Nat} {a : Act} {Q : Exit → Act → World → Prop}
end

def SpE.OkI (L : Nat) (w : World) (e : SpE) : Prop := e.a.In L w e.p ∧ e.b.In L w e.q
theorem SpE.Ok.i {L : Nat} {w : World} {e : SpE} (h : e.Ok L w) : e.OkI L w := ⟨h.1.isIn h.2.2.1, h.2.1.isIn h.2.2.2⟩
theorem SpE.OkI.ext {L : Nat} {w w' : World} {e : SpE} (h : e.OkI L w) (x : Ext w w') : e.OkI L w' := ⟨h.1.ext x, h.2.ext x⟩
theorem choose_list {α : Type} [Inhabited α] (n : Nat) (p : Nat → α → Prop) (h : ∀ i, i < n → ∃ x, p i x) : ∃ l : List α, l.length = n ∧ ∀ i x, l[i]? = some x → p i x := by
 induction n with
 | zero => exact ⟨[], rfl, fun i x hx => by simp at hx⟩
 | succ n ih =>
  obtain ⟨l, h1, h2⟩ := ih (fun i hi => h i (by omega))
  obtain ⟨x, hx⟩ := h n (by omega)
  refine ⟨l ++ [x], by simp [h1], fun i y hy => ?_⟩
  by_cases hi : i < l.length
  ·rw [List.getElem?_append_left hi] at hy
   exact h2 i y hy
  rw [List.getElem?_append_right (by omega)] at hy
  have : i - l.length = 0 := by
   have := (List.getElem?_eq_some_iff.1 hy).1
   simp at this
   omega
  rw [this] at hy
  obtain rfl : x = y := by simpa using hy
  obtain rfl : i = n := by omega
  exact hx
instance : Inhabited SpE := ⟨⟨⟨false, none, 0, 0, false, none, 0, 0⟩, ⟨false, none, 0, 0, false, none, 0, 0⟩, 0, 0⟩⟩
theorem SpansV.list {L : Nat} {w : World} {v : Value} {ps : List (Rat × Rat)} (h : SpansV L w v ps) :
  ∃ (A : Option Addr) (cap : Nat) (es : List SpE), v = .slice A es.length cap ∧ es.map SpE.vl = ps ∧ (0 < es.length → ∃ ad, A = some ad ∧ ∀ j u, (es.flatMap SpE.cells)[j]? = some u → w.cell? (ad.add j) = some u) ∧ ∀ e, e ∈ es → e.OkI L w := by
 obtain ⟨A, cap, rfl, hA⟩ := h
 by_cases h0 : 0 < ps.length
 ·obtain ⟨g, off, rfl, hp⟩ := hA h0
  obtain ⟨es, hl, he⟩ := choose_list (α := SpE) ps.length (fun i e => ps[i]? = some e.vl ∧ w.rangeAt g (off + i * 8) e.cells ∧ e.OkI L w) (fun i hi => by
   obtain ⟨cs, h1, a, b, h2, h3, h4⟩ := hp i ps[i] (List.getElem?_eq_getElem hi)
   refine ⟨⟨a, b, ps[i].1, ps[i].2⟩, List.getElem?_eq_getElem hi, ?_, h3, h4⟩
   have e : cs = SpE.cells ⟨a, b, ps[i].1, ps[i].2⟩ := by
    have h5 := congrArg Array.toList h2
    simpa [SpE.cells] using h5
   rw [← e]
   exact h1)
  refine ⟨_, cap, es, by rw [hl], ?_, fun _ => ⟨_, rfl, fun j u hj => ?_⟩, fun e hm => ?_⟩
  ·refine List.ext_getElem? fun i => ?_
   rw [List.getElem?_map]
   by_cases hi : i < es.length
   ·rw [List.getElem?_eq_getElem hi]
    exact (he i _ (List.getElem?_eq_getElem hi)).1.symm
   rw [List.getElem?_eq_none (by omega), List.getElem?_eq_none (by omega)]; rfl
  ·have hj2 : j < es.length * 8 := by
    have := (List.getElem?_eq_some_iff.1 hj).1
    rwa [flat_len SpE.len] at this
   have hi : j / 8 < es.length := by omega
   have h1 := (he (j / 8) _ (List.getElem?_eq_getElem hi)).2.1
   have h2 : (SpE.cells es[j / 8])[j % 8]? = some u := by
    have hl8 : j % 8 < (SpE.cells es[j / 8]).length := by show _ < 8; omega
    have h6 := flat_get SpE.len es (j / 8) _ (List.getElem?_eq_getElem hi) (j % 8) _ (List.getElem?_eq_getElem hl8)
    rw [show j / 8 * 8 + j % 8 = j by omega, hj] at h6
    rw [List.getElem?_eq_getElem hl8]
    exact h6.symm
   have h3 := h1 (j % 8) u h2
   have e : (⟨g, off, none⟩ : Addr).add j = ⟨g, off + j / 8 * 8 + j % 8, none⟩ := by
    unfold Addr.add
    by_cases hz : j = 0
    ·subst hz; simp
    rw [if_neg hz]
    congr 1
    show off + j = _
    omega
   rw [e]
   exact h3
  obtain ⟨i, hi⟩ := List.mem_iff_getElem?.1 hm
  exact (he i e hi).2.2
 have h1 : ps = [] := List.eq_nil_of_length_eq_zero (by omega)
 subst h1
 exact ⟨A, cap, [], rfl, rfl, fun h2 => absurd h2 (by simp), fun e he => by simp at he⟩
theorem Ent.Holds.fr {b : Nat} {w w' : World} {e : Ent} {G : Nat → Prop} (h : e.Holds b w) (x : Fr G w w') (hn : ∀ k, e.own = some k → ¬ G k) : e.Holds b w' := by
 have hb : ∀ (g : Nat) (t : TypeId) (cs : Array Value), Blk w g t cs → ¬ G g → Blk w' g t cs := by
  intro g t cs h1 h2
  unfold Blk
  rw [x.block g h1.lt h2]
  exact h1
 cases e with
 | blk g t cs => exact ⟨h.1, hb _ _ _ h.2.1 (hn g rfl), h.2.2⟩
 | row t size v n xs =>
  obtain ⟨h1, h2 | ⟨g, cap, rest, rfl, a, h3, c⟩⟩ := h
  ·exact ⟨h1, .inl h2⟩
  exact ⟨h1, .inr ⟨g, cap, rest, rfl, a, hb _ _ _ h3 (hn g rfl), c⟩⟩
section
variable {w0 w w' : World} {m : List Ent}
theorem two_get {e f : Ent} {i : Nat} {x : Ent} (h : [e, f][i]? = some x) : (i = 0 ∧ x = e) ∨ (i = 1 ∧ x = f) := by
  match i, h with
  | 0, h => injection h with h; exact .inl ⟨rfl, h.symm⟩
  | 1, h => injection h with h; exact .inr ⟨rfl, h.symm⟩
  | k + 2, h => simp at h
theorem Hp.pick2 {ib ir : Nat} {e f : Ent} (h : Hp w0 w m) (hb : m[ib]? = some e) (hr : m[ir]? = some f) (hne : ib ≠ ir) : Hp w0 w [e, f] := by
  refine ⟨h.ext, fun i x hx => ?_, fun i j x y hx hy hij => ?_⟩
  · rcases two_get hx with ⟨_, rfl⟩ | ⟨_, rfl⟩
    · exact h.all _ _ hb
    exact h.all _ _ hr
  rcases two_get hx with ⟨e1, rfl⟩ | ⟨e1, rfl⟩ <;> rcases two_get hy with ⟨e2, rfl⟩ | ⟨e2, rfl⟩
  · omega
  · exact h.apart _ _ _ _ hb hr hne
  · exact h.apart _ _ _ _ hr hb (Ne.symm hne)
  omega
theorem Hp.call2 {ib ir : Nat} {e f e' f' : Ent} {G : Nat → Prop} (h : Hp w0 w m) (hb : m[ib]? = some e) (hr : m[ir]? = some f) (_hne : ib ≠ ir) (x : Fr G w w') (hG : ∀ k, G k → e.own = some k ∨ f.own = some k) (h2 : Hp w0 w' [e', f'])
  (he : ∀ k, e'.own = some k → e.own = some k ∨ w.heap.size ≤ k) (hf : ∀ k, f'.own = some k → f.own = some k ∨ w.heap.size ≤ k) : Hp w0 w' ((m.set ib e').set ir f') := by
 have hbl : ib < m.length := (List.getElem?_eq_some_iff.1 hb).1
 have hrl : ir < m.length := (List.getElem?_eq_some_iff.1 hr).1
 have hget : ∀ (j : Nat) (y : Ent), ((m.set ib e').set ir f')[j]? = some y → (j = ir ∧ y = f') ∨ (j = ib ∧ y = e') ∨ (j ≠ ir ∧ j ≠ ib ∧ m[j]? = some y) := by
  intro j y hj
  rw [List.getElem?_set] at hj
  by_cases h1 : ir = j
  ·rw [if_pos h1, if_pos (by simpa using h1 ▸ hrl)] at hj
   injection hj with hj
   exact .inl ⟨h1.symm, hj.symm⟩
  rw [if_neg h1, List.getElem?_set] at hj
  by_cases h3 : ib = j
  ·rw [if_pos h3, if_pos (by omega)] at hj
   injection hj with hj
   exact .inr (.inl ⟨h3.symm, hj.symm⟩)
  rw [if_neg h3] at hj
  exact .inr (.inr ⟨fun q => h1 q.symm, fun q => h3 q.symm, hj⟩)
 have offG : ∀ (j : Nat) (y : Ent), j ≠ ir → j ≠ ib → m[j]? = some y → ∀ k, y.own = some k → ¬ G k := by
  intro j y hj1 hj2 hy k hk hg
  rcases hG k hg with h1 | h1
  ·exact h.apart j ib y e hy hb hj2 k hk h1
  exact h.apart j ir y f hy hr hj1 k hk h1
 have offE : ∀ (j : Nat) (y : Ent), j ≠ ir → j ≠ ib → m[j]? = some y → ∀ k, y.own = some k → e'.own ≠ some k := by
  intro j y hj1 hj2 hy k hk hq
  rcases he k hq with h1 | h1
  ·exact h.apart j ib y e hy hb hj2 k hk h1
  have := h.lt hy hk; omega
 have offF : ∀ (j : Nat) (y : Ent), j ≠ ir → j ≠ ib → m[j]? = some y → ∀ k, y.own = some k → f'.own ≠ some k := by
  intro j y hj1 hj2 hy k hk hq
  rcases hf k hq with h1 | h1
  ·exact h.apart j ir y f hy hr hj1 k hk h1
  have := h.lt hy hk; omega
 refine ⟨h2.ext, fun j y hj => ?_, fun i j x y hi hj hij k hk => ?_⟩
 ·rcases hget j y hj with ⟨_, rfl⟩ | ⟨_, rfl⟩ | ⟨h3, h4, h5⟩
  ·exact h2.all 1 _ rfl
  ·exact h2.all 0 _ rfl
  exact (h.all j y h5).fr x (offG j y h3 h4 h5)
 rcases hget i x hi with ⟨e1, rfl⟩ | ⟨e1, rfl⟩ | ⟨a1, a2, a3⟩ <;> rcases hget j y hj with ⟨e2, rfl⟩ | ⟨e2, rfl⟩ | ⟨b1, b2, b3⟩
 ·omega
 ·exact h2.apart 1 0 _ _ rfl rfl (by decide) k hk
 ·exact fun q => offF j y b1 b2 b3 k q hk
 ·exact h2.apart 0 1 _ _ rfl rfl (by decide) k hk
 ·omega
 ·exact fun q => offE j y b1 b2 b3 k q hk
 ·exact offF i x a1 a2 a3 k hk
 ·exact offE i x a1 a2 a3 k hk
 exact h.apart i j x y a3 b3 hij k hk
end
theorem RowN.cap {w : World} {base : Nat} {e : TypeId} {size : Nat} {A : Option Addr} {n c : Nat} {xs : List Value} (h : RowN w base e size (.slice A n c) n xs) : n ≤ c := by
  obtain ⟨_, ⟨hv, rfl⟩ | ⟨g, cap, rest, hv, _, _, h3, _⟩⟩ := h
  · exact Nat.zero_le _
  injection hv with e1 e2 e3
  omega
section
variable {P : Program} {w0 w : World} {m : List Ent} {ix : Nat} {a : Act} {Q : Exit → Act → World → Prop} {rest : List Oper} {op : Oper} {ops : Array Oper}
end
theorem flat_part {α : Type} {f : α → List Value} {c : Nat} (hc : ∀ x, (f x).length = c) (es : List α) (k : Nat) (e z : α) (hk : es[k]? = some e) (p : Nat) (vs : List Value) (hp : p + vs.length ≤ c) (hf : f z = (f e).take p ++ vs ++ (f e).drop (p + vs.length)) :
  (es.flatMap f).take (k * c + p) ++ vs ++ (es.flatMap f).drop (k * c + p + vs.length) = (es.set k z).flatMap f := by
 obtain ⟨hl, rfl⟩ := List.getElem?_eq_some_iff.1 hk
 have e1 : es.flatMap f = (es.take k).flatMap f ++ (f es[k] ++ (es.drop (k + 1)).flatMap f) := by
  conv => lhs; rw [← List.take_append_drop k es, List.drop_eq_getElem_cons hl]
  rw [List.flatMap_append, List.flatMap_cons]
 have hlen : ((es.take k).flatMap f).length = k * c := by rw [flat_length hc, List.length_take, Nat.min_eq_left (Nat.le_of_lt hl)]
 have hfl := hc es[k]
 rw [List.set_eq_take_append_cons_drop, if_pos hl, List.flatMap_append, List.flatMap_cons, e1, hf]
 have t1 : List.take (k * c + p) ((es.take k).flatMap f ++ (f es[k] ++ (es.drop (k + 1)).flatMap f)) = (es.take k).flatMap f ++ (f es[k]).take p := by
  rw [List.take_append, hlen, List.take_of_length_le (by omega), show k * c + p - k * c = p by omega, List.take_append, show p - (f es[k]).length = 0 by omega, List.take_zero, List.append_nil]
 have t2 : List.drop (k * c + p + vs.length) ((es.take k).flatMap f ++ (f es[k] ++ (es.drop (k + 1)).flatMap f)) = (f es[k]).drop (p + vs.length) ++ (es.drop (k + 1)).flatMap f := by
  rw [List.drop_append, hlen, List.drop_of_length_le (by omega), show k * c + p + vs.length - k * c = p + vs.length by omega, List.drop_append, show p + vs.length - (f es[k]).length = 0 by omega, List.drop_zero, List.nil_append]
 rw [t1, t2]
 simp [List.append_assoc]
theorem mv_stPart {α : Type} {f : α → List Value} {P : Program} {w0 w : World} {m : List Ent} {ix : Nat} {a : Act} {Q : Exit → Act → World → Prop} {rest : List Oper} {op : Oper} {ops : Array Oper} (hw : Region.wanted op (yielded ops a.tmps) = true) (ty : TypeId) (x y : Operand) (ho : op.op = .store ty x y)
  {g n cap size : Nat} {t : TypeId} {es : List α} (hH : Hp w0 w m) (hi : m[ix]? = some (.row t size (.slice (some ⟨g, 0, none⟩) n cap) n (es.flatMap f))) (hc : ∀ x, (f x).length = size) (k : Nat) (e z : α) (hk : es[k]? = some e) (p : Nat) (vs : List Value) (hp : p + vs.length ≤ size)
  (hf : f z = (f e).take p ++ vs ++ (f e).drop (p + vs.length)) (o : Nat) (hko : o = k * size + p) (hx : a.eval x = .pointer (some ⟨g, o, none⟩)) (hy : a.eval y = .agg vs.toArray) (hz : (P.info? ty).map (·.size) = some vs.length) (h1 : ∀ v, v ∈ vs → v.oneCell' = true) (hn : NoUL vs)
  (h : ∀ w', Hp w0 w' (m.set ix (.row t size (.slice (some ⟨g, 0, none⟩) n cap) n ((es.set k z).flatMap f))) → Dig w w' → Own g w w' → wpList P ops Q rest (a.put op.dst undef) w') : wpList P ops Q (op :: rest) a w := by
 subst hko
 refine mv_stRow hw ty x y ho hH hi (k * size + p) vs hx hy ?_ hz h1 hn (fun w' h2 h3 h4 => h w' ?_ h3 h4)
 ·have hl := (List.getElem?_eq_some_iff.1 hk).1
  rw [flat_length hc]
  calc k * size + p + vs.length ≤ (k + 1) * size := by rw [Nat.add_mul]; omega
   _ ≤ es.length * size := Nat.mul_le_mul_right _ hl
 rw [flat_part hc es k e z hk p vs hp hf] at h2
 exact h2
theorem ev_neg {P : Program} {ρ : Operand → Value} {o : Oper} {w : World} {A E : Int} {t : TypeId} {x : Operand} (ho : o.op = .unOp .neg t x) (hx : ρ x = .int .i64 A) (hE : -A = E) (h1 : -9223372036854775808 ≤ E) (h2 : E ≤ 9223372036854775807) : (execOp ρ o).run P w = .ok (.value (.int .i64 E)) w := by
  have hw : IntKind.i64.wrap E = E := by rw [IntKind.wrap_i64]; omega
  unfold execOp
  simp only [ho, hx]
  simp [go_sem, hw, hE]
end Go.Proofs.YtaeeeailoiioaacGreat

namespace Go.Proofs.YtaeeeailoiioaacGreat
open Go.RowKit
attribute [local go_sem ↓] Go.wp_at_zero Go.wp_at_succ run_max_ii run_min_ii
def CntRet (p : Int × Int) (Bp Bn : Nat) (n : Int) (w0 w w' : World) : Prop :=
  Hp w0 w' [.blk Bp 44 [.int .i64 p.1, .int .i64 p.2], .blk Bn 3 [.int .i64 n]] ∧ Dig w w' ∧ Fr (fun k => k = Bn) w w'
theorem okAll_get {r : Ring} {k : Nat} {a : Int × Int} (h : okAll r = true) (hk : r[k]? = some a) : okPt a.1 a.2 = true := by
  unfold okAll at h
  exact List.all_eq_true.1 h a (List.mem_of_getElem? hk)
theorem okR_all {rs : List Ring} {r : Ring} (h : okR rs = true) (hr : r ∈ rs) : okAll r = true := by
  unfold okR at h
  rw [Bool.and_eq_true] at h
  exact List.all_eq_true.1 h.2 r hr
theorem tot_sum (rs : List Ring) : (rs.map List.length).sum = tot rs := by
  unfold tot
  have key : ∀ (l : List Ring) (n : Nat), l.foldl (fun n r => n + r.length) n = n + (l.map List.length).sum := by
    intro l
    induction l with
    | nil => simp
    | cons r l ih => intro n; rw [List.foldl_cons, ih, List.map_cons, List.sum_cons]; omega
  rw [key]
  omega
theorem wind_bd (p : Int × Int) {rs : List Ring} (h : okR rs = true) (k : Nat) : -4096 ≤ windV p (rs.take k) ∧ windV p (rs.take k) ≤ 4096 := by
  have h1 := windV_le p (rs.take k)
  rw [tot_sum] at h1
  have h2 := tot_take rs k
  have h3 := okR_tot h
  omega
theorem ring_bd {rs : List Ring} {r : Ring} (h : okR rs = true) (hr : r ∈ rs) : r.length ≤ 4096 := by
  obtain ⟨k, hk⟩ := List.mem_iff_getElem?.1 hr
  have h1 := tot_succ hk
  have h2 := tot_take rs (k + 1)
  have h3 := okR_tot h
  omega
set_option maxRecDepth 20000 in
set_option maxHeartbeats 4000000 in
theorem count_any (a b p : Int × Int) (n : Int) (Bp Bn : Nat) (w0 w : World) (hh : Hp w0 w [.blk Bp 44 [.int .i64 p.1, .int .i64 p.2], .blk Bn 3 [.int .i64 n]])
  (ha : okPt a.1 a.2 = true) (hb : okPt b.1 b.2 = true) (hp : okPt p.1 p.2 = true) (hn : -100000 ≤ n ∧ n ≤ 100000) :
  Calls Tryz.prog 42 #[.agg #[.int .i64 a.1, .int .i64 a.2], .agg #[.int .i64 b.1, .int .i64 b.2], .pointer (some ⟨Bp, 0, none⟩), .pointer (some ⟨Bn, 0, none⟩)] w fun e w' => e = .returned (.tuple #[]) ∧ CntRet p Bp Bn (n + cntV p a b) w0 w w' := by
 have oa := okPt_out ha
 have ob := okPt_out hb
 have op := okPt_out hp
 have H0 := zH hh
 clear hh
 go_enter Tryz.func42, Tryz.ntmps42
 go_upto_region 0 with fail
 refine wp_region_lit ?_
 refine mv_alloc (T := 44) (zs := [.int .i64 a.1, .int .i64 a.2]) (by rfl) (by go_simp) H0.out (by simp [NoUL]) ?_
 intro X1 w2 hh hx hge
 have H4 := zH (show Hp w0 w2 [.blk Bp 44 [.int .i64 p.1, .int .i64 p.2], .blk Bn 3 [.int .i64 n], .blk X1 44 [.int .i64 a.1, .int .i64 a.2]] from hh)
 have D4 := zH (Dig.of_ext hx)
 have K6 := zH (show Fr (fun kz => kz = Bn) w w2 from (Fr.of_ext (G := fun kz => kz = Bn) (Ext.refl w)).trans (Fr.of_ext hx))
 clear hh hx hge
 try simp only [Act.put, zA, zB, zC]
 refine mv_alloc (T := 44) (zs := [.int .i64 b.1, .int .i64 b.2]) (by rfl) (by go_simp) H4.out (by simp [NoUL]) ?_
 intro X8 w9 hh hx hge
 have H11 := zH (show Hp w0 w9 [.blk Bp 44 [.int .i64 p.1, .int .i64 p.2], .blk Bn 3 [.int .i64 n], .blk X1 44 [.int .i64 a.1, .int .i64 a.2], .blk X8 44 [.int .i64 b.1, .int .i64 b.2]] from hh)
 have D11 := zH (Dig.of_ext hx)
 have K13 := zH (show Fr (fun kz => kz = Bn) w w9 from K6.out.trans (Fr.of_ext hx))
 clear hh hx hge
 try simp only [Act.put, zA, zB, zC]
 by_cases c15 : a.2 ≤ p.2
 ·have C1 := zH c15
  clear c15
  by_cases c16 : p.2 < b.2
  ·have C2 := zH c16
   clear c16
   by_cases c17 : 0 < crossP a b p
   ·have C3 := zH c17
    clear c17
    go_upto_region 1 with fail
    refine wp_region_lit ?_
    refine zq (.pointer (some ⟨X1, 1, none⟩)) ?_
    refine ze X1 1 (.int .i64 a.2) (H11.out.range (i := 2) (by rfl) 1 1) ?_
    refine zq (.pointer (some ⟨Bp, 1, none⟩)) ?_
    refine ze Bp 1 (.int .i64 p.2) (H11.out.range (i := 0) (by rfl) 1 1) ?_
    refine zp (w' := w9) (.bool true) (by exact eze (e := (dec_t C1.out))) ?_
    refine qV (.bool true) ?_
    refine zq (.pointer (some ⟨Bp, 1, none⟩)) ?_
    refine ze Bp 1 (.int .i64 p.2) (H11.out.range (i := 0) (by rfl) 1 1) ?_
    refine zq (.pointer (some ⟨X8, 1, none⟩)) ?_
    refine ze X8 1 (.int .i64 b.2) (H11.out.range (i := 3) (by rfl) 1 1) ?_
    refine zp (w' := w9) (.bool true) (by exact ezl (e := (dec_t C2.out))) ?_
    refine qV (.bool true) ?_
    refine zq (.bool true) ?_
    refine zd X1 (0) [.int .i64 a.1, .int .i64 a.2] (H11.out.range (i := 2) (by rfl) 0 2) Tryz.underlying44 ?_
    refine zd X8 (0) [.int .i64 b.1, .int .i64 b.2] (H11.out.range (i := 3) (by rfl) 0 2) Tryz.underlying44 ?_
    refine zd Bp (0) [.int .i64 p.1, .int .i64 p.2] (H11.out.range (i := 0) (by rfl) 0 2) Tryz.underlying44 ?_
    refine zc (orient_any a b p _ ha hb hp) ?_
    rintro e w27 ⟨rfl, hx⟩
    have H28 := zH (H11.out.step hx)
    have D28 := zH (Dig.of_ext hx)
    have K30 := zH (show Fr (fun kz => kz = Bn) w w27 from K13.out.trans (Fr.of_ext hx))
    clear hx
    refine zn ?_
    refine zp (w' := w27) (.bool true) (by exact ezg (e := (dec_t ((clamp1_pos _).2 C3.out)))) ?_
    refine qV (.bool true) ?_
    refine zq (.bool true) ?_
    go_upto_region 2 with fail
    refine wp_region_lit ?_
    refine ze Bn 0 (.int .i64 n) (H28.out.range (i := 1) (by rfl) 0 1) ?_
    refine zp (w' := w27) (.int .i64 (n + 1)) (by exact ez1 (by have ob0 := hn.1; have ob1 := hn.2; omega)) ?_
    refine mv_st1 (by rfl) _ _ _ (by rfl) H28.out (ix := 1) (by rfl) 0 (.int .i64 (n + 1)) (by rfl) (by rfl) (by simp) (by kernel_rfl) (by simp [Value.cells]) (by simp [Value.oneCell']) (by simp [NoUL]) ?_
    intro w35 hh hd ho
    have H36 := zH (show Hp w0 w35 [.blk Bp 44 [.int .i64 p.1, .int .i64 p.2], .blk Bn 3 [.int .i64 (n + 1)], .blk X1 44 [.int .i64 a.1, .int .i64 a.2], .blk X8 44 [.int .i64 b.1, .int .i64 b.2]] from hh)
    have D36 := zH (hd)
    have K38 := zH (show Fr (fun kz => kz = Bn) w w35 from K30.out.trans_new ho (fun j hj => .inl (by injection hj with hj; exact hj.symm)))
    clear hh hd ho
    (try simp only [Act.put])
    go_wp2_with fail
    first | refine bodyPost_end (v := .tuple #[]) (results_none rfl _ _ _) rfl ?_ | refine bodyPost_ret (v := .tuple #[]) (results_none rfl _ _ _) rfl ?_
    have DD39 := zH ((((D4.out.trans D11.out).trans D28.out).trans D36.out))
    exact ⟨rfl, by rw [show n + cntV p a b = n + 1 from by unfold cntV; rw [if_pos ⟨C1.out, C2.out, C3.out⟩]]; exact H36.out.take 2, DD39.out, K38.out⟩
   have C3 := zH c17
   clear c17
   go_upto_region 1 with fail
   refine wp_region_lit ?_
   refine zq (.pointer (some ⟨X1, 1, none⟩)) ?_
   refine ze X1 1 (.int .i64 a.2) (H11.out.range (i := 2) (by rfl) 1 1) ?_
   refine zq (.pointer (some ⟨Bp, 1, none⟩)) ?_
   refine ze Bp 1 (.int .i64 p.2) (H11.out.range (i := 0) (by rfl) 1 1) ?_
   refine zp (w' := w9) (.bool true) (by exact eze (e := (dec_t C1.out))) ?_
   refine qV (.bool true) ?_
   refine zq (.pointer (some ⟨Bp, 1, none⟩)) ?_
   refine ze Bp 1 (.int .i64 p.2) (H11.out.range (i := 0) (by rfl) 1 1) ?_
   refine zq (.pointer (some ⟨X8, 1, none⟩)) ?_
   refine ze X8 1 (.int .i64 b.2) (H11.out.range (i := 3) (by rfl) 1 1) ?_
   refine zp (w' := w9) (.bool true) (by exact ezl (e := (dec_t C2.out))) ?_
   refine qV (.bool true) ?_
   refine zq (.bool true) ?_
   refine zd X1 (0) [.int .i64 a.1, .int .i64 a.2] (H11.out.range (i := 2) (by rfl) 0 2) Tryz.underlying44 ?_
   refine zd X8 (0) [.int .i64 b.1, .int .i64 b.2] (H11.out.range (i := 3) (by rfl) 0 2) Tryz.underlying44 ?_
   refine zd Bp (0) [.int .i64 p.1, .int .i64 p.2] (H11.out.range (i := 0) (by rfl) 0 2) Tryz.underlying44 ?_
   refine zc (orient_any a b p _ ha hb hp) ?_
   rintro e w49 ⟨rfl, hx⟩
   have H50 := zH (H11.out.step hx)
   have D50 := zH (Dig.of_ext hx)
   have K52 := zH (show Fr (fun kz => kz = Bn) w w49 from K13.out.trans (Fr.of_ext hx))
   clear hx
   refine zn ?_
   refine zp (w' := w49) (.bool false) (by exact ezg (e := (dec_f (fun h_ => absurd ((clamp1_pos _).1 h_) (by have q_ := C3.out; omega))))) ?_
   refine qV (.bool false) ?_
   refine zq (.bool false) ?_
   go_upto_region 3 with fail
   refine wp_region_lit ?_
   refine zq (.pointer (some ⟨X8, 1, none⟩)) ?_
   refine ze X8 1 (.int .i64 b.2) (H50.out.range (i := 3) (by rfl) 1 1) ?_
   refine zq (.pointer (some ⟨Bp, 1, none⟩)) ?_
   refine ze Bp 1 (.int .i64 p.2) (H50.out.range (i := 0) (by rfl) 1 1) ?_
   refine zp (w' := w49) (.bool false) (by exact eze (e := (dec_f (by have h_ := C2.out; omega)))) ?_
   refine zq (.bool false) ?_
   refine zk ?_
   refine zk ?_
   refine zk ?_
   refine zk ?_
   refine zk ?_
   refine qV (.bool false) ?_
   refine zq (.bool false) ?_
   refine zk ?_
   refine zk ?_
   refine zk ?_
   refine zk ?_
   refine zk ?_
   refine qV (.bool false) ?_
   refine zq (.bool false) ?_
   go_wp2_with fail
   first | refine bodyPost_end (v := .tuple #[]) (results_none rfl _ _ _) rfl ?_ | refine bodyPost_ret (v := .tuple #[]) (results_none rfl _ _ _) rfl ?_
   have DD64 := zH (((D4.out.trans D11.out).trans D50.out))
   exact ⟨rfl, by rw [show n + cntV p a b = n from by unfold cntV; rw [if_neg (by have q_ := C3.out; omega), if_neg (by have h_ := C2.out; omega)]; omega]; exact H50.out.take 2, DD64.out, K52.out⟩
  have C2 := zH c16
  clear c16
  go_upto_region 1 with fail
  refine wp_region_lit ?_
  refine zq (.pointer (some ⟨X1, 1, none⟩)) ?_
  refine ze X1 1 (.int .i64 a.2) (H11.out.range (i := 2) (by rfl) 1 1) ?_
  refine zq (.pointer (some ⟨Bp, 1, none⟩)) ?_
  refine ze Bp 1 (.int .i64 p.2) (H11.out.range (i := 0) (by rfl) 1 1) ?_
  refine zp (w' := w9) (.bool true) (by exact eze (e := (dec_t C1.out))) ?_
  refine qV (.bool true) ?_
  refine zq (.pointer (some ⟨Bp, 1, none⟩)) ?_
  refine ze Bp 1 (.int .i64 p.2) (H11.out.range (i := 0) (by rfl) 1 1) ?_
  refine zq (.pointer (some ⟨X8, 1, none⟩)) ?_
  refine ze X8 1 (.int .i64 b.2) (H11.out.range (i := 3) (by rfl) 1 1) ?_
  refine zp (w' := w9) (.bool false) (by exact ezl (e := (dec_f C2.out))) ?_
  refine qV (.bool false) ?_
  refine zq (.bool false) ?_
  refine zk ?_
  refine zk ?_
  refine zk ?_
  refine zk ?_
  refine zk ?_
  refine qV (.bool false) ?_
  refine zq (.bool false) ?_
  go_upto_region 3 with fail
  refine wp_region_lit ?_
  refine zq (.pointer (some ⟨X8, 1, none⟩)) ?_
  refine ze X8 1 (.int .i64 b.2) (H11.out.range (i := 3) (by rfl) 1 1) ?_
  refine zq (.pointer (some ⟨Bp, 1, none⟩)) ?_
  refine ze Bp 1 (.int .i64 p.2) (H11.out.range (i := 0) (by rfl) 1 1) ?_
  refine zp (w' := w9) (.bool true) (by exact eze (e := (dec_t (by have h_ := C2.out; omega)))) ?_
  refine qV (.bool true) ?_
  refine zq (.pointer (some ⟨Bp, 1, none⟩)) ?_
  refine ze Bp 1 (.int .i64 p.2) (H11.out.range (i := 0) (by rfl) 1 1) ?_
  refine zq (.pointer (some ⟨X1, 1, none⟩)) ?_
  refine ze X1 1 (.int .i64 a.2) (H11.out.range (i := 2) (by rfl) 1 1) ?_
  refine zp (w' := w9) (.bool false) (by exact ezl (e := (dec_f (by have h_ := C1.out; omega)))) ?_
  refine qV (.bool false) ?_
  refine zq (.bool false) ?_
  refine zk ?_
  refine zk ?_
  refine zk ?_
  refine zk ?_
  refine zk ?_
  refine qV (.bool false) ?_
  refine zq (.bool false) ?_
  go_wp2_with fail
  first | refine bodyPost_end (v := .tuple #[]) (results_none rfl _ _ _) rfl ?_ | refine bodyPost_ret (v := .tuple #[]) (results_none rfl _ _ _) rfl ?_
  have DD87 := zH ((D4.out.trans D11.out))
  exact ⟨rfl, by rw [show n + cntV p a b = n from by unfold cntV; rw [if_neg (by have q_ := C2.out; omega), if_neg (by have h_ := C1.out; omega)]; omega]; exact H11.out.take 2, DD87.out, K13.out⟩
 have C1 := zH c15
 clear c15
 by_cases c88 : b.2 ≤ p.2
 ·have D1 := zH c88
  clear c88
  by_cases c89 : 0 < crossP b a p
  ·have D3 := zH c89
   clear c89
   go_upto_region 1 with fail
   refine wp_region_lit ?_
   refine zq (.pointer (some ⟨X1, 1, none⟩)) ?_
   refine ze X1 1 (.int .i64 a.2) (H11.out.range (i := 2) (by rfl) 1 1) ?_
   refine zq (.pointer (some ⟨Bp, 1, none⟩)) ?_
   refine ze Bp 1 (.int .i64 p.2) (H11.out.range (i := 0) (by rfl) 1 1) ?_
   refine zp (w' := w9) (.bool false) (by exact eze (e := (dec_f C1.out))) ?_
   refine zq (.bool false) ?_
   refine zk ?_
   refine zk ?_
   refine zk ?_
   refine zk ?_
   refine zk ?_
   refine qV (.bool false) ?_
   refine zq (.bool false) ?_
   refine zk ?_
   refine zk ?_
   refine zk ?_
   refine zk ?_
   refine zk ?_
   refine qV (.bool false) ?_
   refine zq (.bool false) ?_
   go_upto_region 3 with fail
   refine wp_region_lit ?_
   refine zq (.pointer (some ⟨X8, 1, none⟩)) ?_
   refine ze X8 1 (.int .i64 b.2) (H11.out.range (i := 3) (by rfl) 1 1) ?_
   refine zq (.pointer (some ⟨Bp, 1, none⟩)) ?_
   refine ze Bp 1 (.int .i64 p.2) (H11.out.range (i := 0) (by rfl) 1 1) ?_
   refine zp (w' := w9) (.bool true) (by exact eze (e := (dec_t D1.out))) ?_
   refine qV (.bool true) ?_
   refine zq (.pointer (some ⟨Bp, 1, none⟩)) ?_
   refine ze Bp 1 (.int .i64 p.2) (H11.out.range (i := 0) (by rfl) 1 1) ?_
   refine zq (.pointer (some ⟨X1, 1, none⟩)) ?_
   refine ze X1 1 (.int .i64 a.2) (H11.out.range (i := 2) (by rfl) 1 1) ?_
   refine zp (w' := w9) (.bool true) (by exact ezl (e := (dec_t (by have h_ := C1.out; omega)))) ?_
   refine qV (.bool true) ?_
   refine zq (.bool true) ?_
   refine zd X8 (0) [.int .i64 b.1, .int .i64 b.2] (H11.out.range (i := 3) (by rfl) 0 2) Tryz.underlying44 ?_
   refine zd X1 (0) [.int .i64 a.1, .int .i64 a.2] (H11.out.range (i := 2) (by rfl) 0 2) Tryz.underlying44 ?_
   refine zd Bp (0) [.int .i64 p.1, .int .i64 p.2] (H11.out.range (i := 0) (by rfl) 0 2) Tryz.underlying44 ?_
   refine zc (orient_any b a p _ hb ha hp) ?_
   rintro e w107 ⟨rfl, hx⟩
   have H108 := zH (H11.out.step hx)
   have D108 := zH (Dig.of_ext hx)
   have K110 := zH (show Fr (fun kz => kz = Bn) w w107 from K13.out.trans (Fr.of_ext hx))
   clear hx
   refine zn ?_
   refine zp (w' := w107) (.bool true) (by exact ezg (e := (dec_t ((clamp1_pos _).2 D3.out)))) ?_
   refine qV (.bool true) ?_
   refine zq (.bool true) ?_
   go_upto_region 4 with fail
   refine wp_region_lit ?_
   refine ze Bn 0 (.int .i64 n) (H108.out.range (i := 1) (by rfl) 0 1) ?_
   refine zp (w' := w107) (.int .i64 (n - 1)) (by exact ez2 (by have ob0 := hn.1; have ob1 := hn.2; omega)) ?_
   refine mv_st1 (by rfl) _ _ _ (by rfl) H108.out (ix := 1) (by rfl) 0 (.int .i64 (n - 1)) (by rfl) (by rfl) (by simp) (by kernel_rfl) (by simp [Value.cells]) (by simp [Value.oneCell']) (by simp [NoUL]) ?_
   intro w115 hh hd ho
   have H116 := zH (show Hp w0 w115 [.blk Bp 44 [.int .i64 p.1, .int .i64 p.2], .blk Bn 3 [.int .i64 (n - 1)], .blk X1 44 [.int .i64 a.1, .int .i64 a.2], .blk X8 44 [.int .i64 b.1, .int .i64 b.2]] from hh)
   have D116 := zH (hd)
   have K118 := zH (show Fr (fun kz => kz = Bn) w w115 from K110.out.trans_new ho (fun j hj => .inl (by injection hj with hj; exact hj.symm)))
   clear hh hd ho
   (try simp only [Act.put])
   go_wp2_with fail
   first | refine bodyPost_end (v := .tuple #[]) (results_none rfl _ _ _) rfl ?_ | refine bodyPost_ret (v := .tuple #[]) (results_none rfl _ _ _) rfl ?_
   have DD119 := zH ((((D4.out.trans D11.out).trans D108.out).trans D116.out))
   exact ⟨rfl, by rw [show n + cntV p a b = n - 1 from by unfold cntV; rw [if_neg (by have q_ := C1.out; omega), if_pos ⟨D1.out, by have h_ := C1.out; omega, D3.out⟩]; omega]; exact H116.out.take 2, DD119.out, K118.out⟩
  have D3 := zH c89
  clear c89
  go_upto_region 1 with fail
  refine wp_region_lit ?_
  refine zq (.pointer (some ⟨X1, 1, none⟩)) ?_
  refine ze X1 1 (.int .i64 a.2) (H11.out.range (i := 2) (by rfl) 1 1) ?_
  refine zq (.pointer (some ⟨Bp, 1, none⟩)) ?_
  refine ze Bp 1 (.int .i64 p.2) (H11.out.range (i := 0) (by rfl) 1 1) ?_
  refine zp (w' := w9) (.bool false) (by exact eze (e := (dec_f C1.out))) ?_
  refine zq (.bool false) ?_
  refine zk ?_
  refine zk ?_
  refine zk ?_
  refine zk ?_
  refine zk ?_
  refine qV (.bool false) ?_
  refine zq (.bool false) ?_
  refine zk ?_
  refine zk ?_
  refine zk ?_
  refine zk ?_
  refine zk ?_
  refine qV (.bool false) ?_
  refine zq (.bool false) ?_
  go_upto_region 3 with fail
  refine wp_region_lit ?_
  refine zq (.pointer (some ⟨X8, 1, none⟩)) ?_
  refine ze X8 1 (.int .i64 b.2) (H11.out.range (i := 3) (by rfl) 1 1) ?_
  refine zq (.pointer (some ⟨Bp, 1, none⟩)) ?_
  refine ze Bp 1 (.int .i64 p.2) (H11.out.range (i := 0) (by rfl) 1 1) ?_
  refine zp (w' := w9) (.bool true) (by exact eze (e := (dec_t D1.out))) ?_
  refine qV (.bool true) ?_
  refine zq (.pointer (some ⟨Bp, 1, none⟩)) ?_
  refine ze Bp 1 (.int .i64 p.2) (H11.out.range (i := 0) (by rfl) 1 1) ?_
  refine zq (.pointer (some ⟨X1, 1, none⟩)) ?_
  refine ze X1 1 (.int .i64 a.2) (H11.out.range (i := 2) (by rfl) 1 1) ?_
  refine zp (w' := w9) (.bool true) (by exact ezl (e := (dec_t (by have h_ := C1.out; omega)))) ?_
  refine qV (.bool true) ?_
  refine zq (.bool true) ?_
  refine zd X8 (0) [.int .i64 b.1, .int .i64 b.2] (H11.out.range (i := 3) (by rfl) 0 2) Tryz.underlying44 ?_
  refine zd X1 (0) [.int .i64 a.1, .int .i64 a.2] (H11.out.range (i := 2) (by rfl) 0 2) Tryz.underlying44 ?_
  refine zd Bp (0) [.int .i64 p.1, .int .i64 p.2] (H11.out.range (i := 0) (by rfl) 0 2) Tryz.underlying44 ?_
  refine zc (orient_any b a p _ hb ha hp) ?_
  rintro e w137 ⟨rfl, hx⟩
  have H138 := zH (H11.out.step hx)
  have D138 := zH (Dig.of_ext hx)
  have K140 := zH (show Fr (fun kz => kz = Bn) w w137 from K13.out.trans (Fr.of_ext hx))
  clear hx
  refine zn ?_
  refine zp (w' := w137) (.bool false) (by exact ezg (e := (dec_f (fun h_ => absurd ((clamp1_pos _).1 h_) (by have q_ := D3.out; omega))))) ?_
  refine qV (.bool false) ?_
  refine zq (.bool false) ?_
  go_wp2_with fail
  first | refine bodyPost_end (v := .tuple #[]) (results_none rfl _ _ _) rfl ?_ | refine bodyPost_ret (v := .tuple #[]) (results_none rfl _ _ _) rfl ?_
  have DD144 := zH (((D4.out.trans D11.out).trans D138.out))
  exact ⟨rfl, by rw [show n + cntV p a b = n from by unfold cntV; rw [if_neg (by have q_ := C1.out; omega), if_neg (by have q_ := D3.out; omega)]; omega]; exact H138.out.take 2, DD144.out, K140.out⟩
 have D1 := zH c88
 clear c88
 go_upto_region 1 with fail
 refine wp_region_lit ?_
 refine zq (.pointer (some ⟨X1, 1, none⟩)) ?_
 refine ze X1 1 (.int .i64 a.2) (H11.out.range (i := 2) (by rfl) 1 1) ?_
 refine zq (.pointer (some ⟨Bp, 1, none⟩)) ?_
 refine ze Bp 1 (.int .i64 p.2) (H11.out.range (i := 0) (by rfl) 1 1) ?_
 refine zp (w' := w9) (.bool false) (by exact eze (e := (dec_f C1.out))) ?_
 refine zq (.bool false) ?_
 refine zk ?_
 refine zk ?_
 refine zk ?_
 refine zk ?_
 refine zk ?_
 refine qV (.bool false) ?_
 refine zq (.bool false) ?_
 refine zk ?_
 refine zk ?_
 refine zk ?_
 refine zk ?_
 refine zk ?_
 refine qV (.bool false) ?_
 refine zq (.bool false) ?_
 go_upto_region 3 with fail
 refine wp_region_lit ?_
 refine zq (.pointer (some ⟨X8, 1, none⟩)) ?_
 refine ze X8 1 (.int .i64 b.2) (H11.out.range (i := 3) (by rfl) 1 1) ?_
 refine zq (.pointer (some ⟨Bp, 1, none⟩)) ?_
 refine ze Bp 1 (.int .i64 p.2) (H11.out.range (i := 0) (by rfl) 1 1) ?_
 refine zp (w' := w9) (.bool false) (by exact eze (e := (dec_f D1.out))) ?_
 refine zq (.bool false) ?_
 refine zk ?_
 refine zk ?_
 refine zk ?_
 refine zk ?_
 refine zk ?_
 refine qV (.bool false) ?_
 refine zq (.bool false) ?_
 refine zk ?_
 refine zk ?_
 refine zk ?_
 refine zk ?_
 refine zk ?_
 refine qV (.bool false) ?_
 refine zq (.bool false) ?_
 go_wp2_with fail
 first | refine bodyPost_end (v := .tuple #[]) (results_none rfl _ _ _) rfl ?_ | refine bodyPost_ret (v := .tuple #[]) (results_none rfl _ _ _) rfl ?_
 have DD161 := zH ((D4.out.trans D11.out))
 exact ⟨rfl, by rw [show n + cntV p a b = n from by unfold cntV; rw [if_neg (by have q_ := C1.out; omega), if_neg (by have q_ := D1.out; omega)]; omega]; exact H11.out.take 2, DD161.out, K13.out⟩
theorem Hp.callB {w0 w w' : World} {m : List Ent} {ib ir : Nat} {e f f' : Ent} {G : Nat → Prop} (h : Hp w0 w m) (hb : m[ib]? = some e) (hr : m[ir]? = some f) (hne : ib ≠ ir) (x : Fr G w w') (hG : ∀ k, G k → f.own = some k) (h2 : Hp w0 w' [e, f'])
  (hf : f'.own = f.own) : Hp w0 w' (m.set ir f') := by
 have k := h.call2 hb hr hne x (fun k hk => .inr (hG k hk)) h2 (fun k hk => .inl hk) (fun k hk => .inl (by rw [← hf]; exact hk))
 have e2 : m.set ib e = m := by
  apply List.ext_getElem?
  intro i
  rw [List.getElem?_set]
  split
  ·rename_i hi; subst hi
   split
   ·exact hb.symm
   rename_i hl; rw [List.getElem?_eq_none (by omega)] 
  rfl
 rwa [e2] at k
set_option maxRecDepth 20000 in
set_option maxHeartbeats 4000000 in
theorem eachW_any (v : Value) (r : Ring) (p : Int × Int) (n : Int) (Bp Bn : Nat) (w0 w : World) (hh : Hp w0 w [.blk Bp 44 [.int .i64 p.1, .int .i64 p.2], .blk Bn 3 [.int .i64 n]])
  (hv : PtsV w0 v r) (hr : okAll r = true) (hp : okPt p.1 p.2 = true) (hn : -50000 ≤ n ∧ n ≤ 50000) (hl : r.length ≤ 5000) :
  Calls Tryz.prog 44 #[v, (.func (.func 42) #[] #[.pointer (some ⟨Bp, 0, none⟩), .pointer (some ⟨Bn, 0, none⟩)])] w fun e w' => e = .returned (.tuple #[]) ∧ CntRet p Bp Bn (n + ringW p r r.length) w0 w w' := by
 obtain ⟨A, cap, rfl, hA⟩ := hv
 have HA := zH hA
 have HOK := zH hr
 have H0 := zH hh
 clear hA hr hh
 go_enter Tryz.func44, Tryz.ntmps44
 go_upto_region 0 with fail
 refine wp_region_lit ?_
 refine qV (.slice A r.length cap) ?_
 refine zq (.int .i64 ((r.length : Nat) : Int)) ?_
 refine zq (.int .i64 0) ?_
 go_wp2_with fail
 go_loopg [8] (r.length) (fun cq v165 wr => ∃ (k : Nat) (z : Int), cq = r.length - k ∧ v165 = .int .i64 (k : Int) ∧ (k ≤ r.length) ∧ (z = n + ringW p r k) ∧ (Fr (fun kz => kz = Bn) w wr) ∧ Hp w0 wr [.blk Bp 44 [.int .i64 p.1, .int .i64 p.2], .blk Bn 3 [.int .i64 z]] ∧ Dig w wr)
 case atStart => exact ⟨0, n, rfl, rfl, Nat.zero_le _, (by unfold ringW; simp), (Fr.of_ext (Ext.refl _)), H0.out, Dig.refl _⟩
 case round =>
  obtain ⟨k, z, rfl, rfl, q_HKI, q_HZ, q_HFR, hh_, hd_⟩ := hrel
  generalize wr = w166 at *
  have HKI := zH q_HKI
  clear q_HKI
  have HZ := zH q_HZ
  clear q_HZ
  have HFR := zH q_HFR
  clear q_HFR
  have H168 := zH hh_
  have D168 := zH hd_
  clear hh_ hd_
  by_cases c169 : k < r.length
  ·have HLT := zH c169
   clear c169
   have hlt := HLT.out
   have hlt2 : (k : Int) < (r.length : Int) := by omega
   obtain ⟨g, off, rfl, hpa_⟩ := HA.out (by intro h_; rw [h_] at hlt; simp at hlt)
   have HPA := zH hpa_
   clear hpa_
   obtain ⟨⟨a0, a1⟩, ha_⟩ : ∃ a, r[k]? = some a := ⟨_, List.getElem?_eq_getElem hlt⟩
   have hmod : (k + 1) % r.length < r.length := Nat.mod_lt _ (by omega)
   obtain ⟨⟨b0, b1⟩, hb_⟩ : ∃ b, r[(k + 1) % r.length]? = some b := ⟨_, List.getElem?_eq_getElem hmod⟩
   have HCE := zH (cntE_some (p := p) ha_ hb_)
   have HPK := zH (range_pt HPA.out ha_)
   have HPJ := zH (range_pt HPA.out hb_)
   have HOA := zH (okAll_get HOK.out ha_)
   have HOB := zH (okAll_get HOK.out hb_)
   have HREM := zH (show (((k + 1 : Nat) : Int)).tmod (r.length : Int) = (((k + 1) % r.length : Nat) : Int) by rw [Int.tmod_eq_emod_of_nonneg (by omega)]; simp)
   clear ha_ hb_
   dsimp only at HPK HPJ
   generalize hj_ : (k + 1) % r.length = j at *
   clear hj_
   have HZB := zH (show -60000 ≤ z ∧ z ≤ 60000 from by have h1 := ringW_le p r k; have h2 := HZ.out; omega)
   go_upto_region 2 with fail
   refine wp_region_lit ?_
   refine zq (.int .i64 (k : Int)) ?_
   refine zp (w' := w166) (.pointer (some ⟨g, off + k * 2, none⟩)) (by exact ezi (k := k) Tryz.underlying45 (l := hlt) (f := rfl)) ?_
   refine zd g (off + k * 2) [.int .i64 a0, .int .i64 a1] (range_ext HPK.out H168.out.ext) Tryz.underlying44 ?_
   refine mv_alloc (T := 44) (zs := [.int .i64 0, .int .i64 0]) (by rfl) (by go_simp) H168.out (by simp [NoUL]) ?_
   intro X172 w173 hh hx hge
   have Q174 := zH (show w166.heap.size ≤ X172 from Nat.le_trans (Fr.of_ext (G := fun kz => kz = Bn) (Ext.refl w166)).size hge)
   have H175 := zH (show Hp w0 w173 [.blk Bp 44 [.int .i64 p.1, .int .i64 p.2], .blk Bn 3 [.int .i64 z], .blk X172 44 [.int .i64 0, .int .i64 0]] from hh)
   have D175 := zH (Dig.of_ext hx)
   have K177 := zH (show Fr (fun kz => kz = Bn) w166 w173 from (Fr.of_ext (G := fun kz => kz = Bn) (Ext.refl w166)).trans (Fr.of_ext hx))
   clear hh hx hge
   try simp only [Act.put, zA, zB, zC]
   refine zq (.int .i64 (k : Int)) ?_
   refine mv_st (by rfl) _ _ _ (by rfl) H175.out (ix := 2) (by rfl) 0 [.int .i64 a0, .int .i64 a1] (by rfl) (by rfl) (by simp) (by kernel_rfl) (by simp [Value.oneCell']) (by simp [NoUL]) ?_
   intro w180 hh hd ho
   have H181 := zH (show Hp w0 w180 [.blk Bp 44 [.int .i64 p.1, .int .i64 p.2], .blk Bn 3 [.int .i64 z], .blk X172 44 [.int .i64 a0, .int .i64 a1]] from hh)
   have D181 := zH (hd)
   have K183 := zH (show Fr (fun kz => kz = Bn) w166 w180 from K177.out.trans_new ho (fun j hj => .inr (by injection hj with hj; rw [← hj]; exact Q174.out)))
   clear hh hd ho
   (try simp only [Act.put])
   go_upto_region 3 with fail
   refine wp_region_held_drew (S := fun x => Fr (fun kz => kz = Bn) w180 x) (by kernel_rfl) (Fr.of_ext zb) (fun _ => ?_)
   have H184 := zH (H181.out.step (Ext.refl w180).drew)
   have D184 := zH (Dig.of_ext (w := w180) zb)
   have K186 := zH (show Fr (fun kz => kz = Bn) w166 w180.drew from K183.out.trans (Fr.of_ext (Ext.refl w180).drew))
   refine mX 0 (bs 11 1) ((.func (.func 42) #[] #[.pointer (some ⟨Bp, 0, none⟩), .pointer (some ⟨Bn, 0, none⟩)])) (Fr.of_ext zb) ?_
   refine zr 1 (bs 11 3) X172 (0) [.int .i64 a0, .int .i64 a1] (fun x hx => Fr.range hx (show World.rangeAt w180 X172 (0) [.int .i64 a0, .int .i64 a1] from (H181.out.range (i := 2) (by rfl) 0 2)) (H181.out.offBlk (i := 2) (j := 1) (by rfl) (by rfl) (by decide) (by rfl))) Tryz.underlying44 (Fr.of_ext zb) ?_
   refine zx 2 (bs 11 7) (.slice (some ⟨g, off, none⟩) r.length cap) (Fr.of_ext zb) ?_
   refine zx 3 (bs 11 15) (.int .i64 (k : Int)) (Fr.of_ext zb) ?_
   refine zu 4 (bs 11 31) (v := .int .i64 ((k + 1 : Nat) : Int)) (Fr.of_ext zb) ?_ (hv := by intro w hSw; exact ez1 (by have ob3 := HZB.out.1; have ob4 := HZB.out.2; omega))
   refine zx 5 (bs 11 63) (.slice (some ⟨g, off, none⟩) r.length cap) (Fr.of_ext zb) ?_
   refine zx 6 (bs 11 127) (.int .i64 ((r.length : Nat) : Int)) (Fr.of_ext zb) ?_
   refine zu 7 (bs 11 255) (v := .int .i64 (j : Int)) (Fr.of_ext zb) ?_ (hv := by intro w hSw; exact ev_rem (by rfl) (by rfl) (by rfl) (by omega) HREM.out (by omega) (by omega))
   refine zo 8 (bs 11 511) (v := .pointer (some ⟨g, off + j * 2, none⟩)) (Fr.of_ext zb) ?_ (hv := by intro w hSw; exact ezi (k := j) Tryz.underlying45 (l := hmod) (f := rfl))
   refine zr 9 (bs 11 1023) g (off + j * 2) [.int .i64 b0, .int .i64 b1] (fun x hx => range_ext (show World.rangeAt w0 g (off + j * 2) [.int .i64 b0, .int .i64 b1] from HPJ.out) (Fr.base hx H181.out (fun kz hk => by rw [show kz = Bn from hk]; exact H181.out.ge (i := 1) (by rfl) rfl))) Tryz.underlying44 (Fr.of_ext zb) ?_
   refine mC 10 (bs 11 2047) (count_any (a0, a1) (b0, b1) p z Bp Bn w0 _ (H184.out.pick2 (ib := 0) (ir := 1) (by rfl) (by rfl) (by decide)) HOA.out HOB.out hp ⟨by have h_ := HZB.out; omega, by have h_ := HZB.out; omega⟩) ?_
   rintro e w195 ⟨rfl, hcr_⟩
   obtain ⟨h1_, h2_, h3_⟩ := hcr_
   have H197 := zH (show Hp w0 w195 [.blk Bp 44 [.int .i64 p.1, .int .i64 p.2], .blk Bn 3 [.int .i64 (z + cntV p (a0, a1) (b0, b1))], .blk X172 44 [.int .i64 a0, .int .i64 a1]] from H184.out.callB (ib := 0) (ir := 1) (e := .blk Bp 44 [.int .i64 p.1, .int .i64 p.2]) (f := .blk Bn 3 [.int .i64 z]) (f' := .blk Bn 3 [.int .i64 (z + cntV p (a0, a1) (b0, b1))]) (by rfl) (by rfl) (by decide) h3_ (fun k_ hk_ => by rw [show k_ = Bn from hk_]; rfl) h1_ rfl)
   have D197 := zH (show Dig w180.drew w195 from h2_)
   have K199 := zH (show Fr (fun kz => kz = Bn) w166 w195 from K186.out.trans h3_)
   have hx := h3_
   clear h1_ h2_ h3_
   have S200 := zH (show Fr (fun kz => kz = Bn) w180 w195 from (Fr.of_ext zb).trans hx)
   clear hx
   refine zm S200.out ?_
   refine wpAnyH_done (by kernel_rfl) ?_ _
   have DD201 := zH (((((D168.out.trans D175.out).trans D181.out).trans D184.out).trans D197.out))
   go_wp2_with fail
   go_roundg (r.length - (k + 1))
   case measure => exact (by have ob3 := HZB.out.1; have ob4 := HZB.out.2; omega)
   case rel => exact ⟨k + 1, z + cntV p (a0, a1) (b0, b1), rfl, (by go_num), hlt, (by rw [HZ.out, ringW_succ, HCE.out]; omega), (HFR.out.trans K199.out), H197.out.take 2, DD201.out⟩
  have HLT := zH c169
  clear c169
  have hki := HKI.out
  have hlt := HLT.out
  obtain rfl : k = r.length := by omega
  have hge : ¬ (r.length : Int) < (r.length : Int) := by omega
  go_wp2_with fail
  first | refine bodyPost_end (v := .tuple #[]) (results_none rfl _ _ _) rfl ?_ | refine bodyPost_ret (v := .tuple #[]) (results_none rfl _ _ _) rfl ?_
  exact ⟨rfl, by rw [← HZ.out]; exact H168.out, D168.out, HFR.out⟩
set_option maxRecDepth 20000 in
set_option maxHeartbeats 4000000 in
theorem wind_any (u : Value) (rs : List Ring) (p : Int × Int) (w : World) (hu : RingsV w u rs) (hv : okR rs = true) (hp : okPt p.1 p.2 = true) (hn : rs.length ≤ 100000) (hr : ∀ r, r ∈ rs → r.length ≤ 100000) :
  Calls Tryz.prog 22 #[u, .agg #[.int .i64 p.1, .int .i64 p.2]] w fun e w' => e = .returned (.int .i64 (windV p rs)) ∧ Ext w w' := by
 have HU := zH hu
 have HV := zH hv
 have HN := zH hn
 have HR := zH hr
 obtain ⟨A, cu, rfl, hA⟩ := hu
 have HA := zH hA
 clear hA hr hv
 go_enter Tryz.func22, Tryz.ntmps22
 have H0 := zH (Hp.start w)
 go_upto_region 0 with fail
 refine wp_region_lit ?_
 refine mv_alloc (T := 44) (zs := [.int .i64 p.1, .int .i64 p.2]) (by rfl) (by go_simp) H0.out (by simp [NoUL]) ?_
 intro X202 w203 hh hx hge
 have H204 := zH (show Hp w w203 [.blk X202 44 [.int .i64 p.1, .int .i64 p.2]] from hh)
 clear hh hx hge
 try simp only [Act.put, zA, zB, zC]
 refine zq (.int .i64 0) ?_
 go_upto_region 1 with fail
 refine wp_region_lit ?_
 refine zd X202 (0) [.int .i64 p.1, .int .i64 p.2] (H204.out.range (i := 0) (by rfl) 0 2) Tryz.underlying44 ?_
 refine zc (valid_any p.1 p.2 _) ?_
 rintro e w208 ⟨rfl, hx⟩
 have H209 := zH (H204.out.step hx)
 clear hx
 refine ⟨.bool true, by rw [hp], ?_⟩
 try simp only [Act.put, zA, zB, zC]
 refine qV (.bool false) ?_
 refine zq (.bool false) ?_
 refine qV (.slice A rs.length cu) ?_
 refine zc (polyValid_any _ rs _ (HU.out.ext H209.out.ext) HN.out HR.out) ?_
 rintro e w214 ⟨rfl, hx⟩
 have H215 := zH (H209.out.step hx)
 clear hx
 refine ⟨.bool true, by rw [HV.out], ?_⟩
 try simp only [Act.put, zA, zB, zC]
 refine qV (.bool false) ?_
 refine zq (.bool false) ?_
 go_upto_region 3 with fail
 refine wp_region_lit ?_
 refine mv_alloc (T := 3) (zs := [.int .i64 0]) (by rfl) (by go_simp) H215.out (by simp [NoUL]) ?_
 intro X219 w220 hh hx hge
 have H221 := zH (show Hp w w220 [.blk X202 44 [.int .i64 p.1, .int .i64 p.2], .blk X219 3 [.int .i64 0]] from hh)
 clear hh hx hge
 try simp only [Act.put, zA, zB, zC]
 refine mv_st1 (by rfl) _ _ _ (by rfl) H221.out (ix := 1) (by rfl) 0 (.int .i64 0) (by rfl) (by rfl) (by simp) (by kernel_rfl) (by simp [Value.cells]) (by simp [Value.oneCell']) (by simp [NoUL]) ?_
 intro w224 hh hd ho
 have H225 := zH (show Hp w w224 [.blk X202 44 [.int .i64 p.1, .int .i64 p.2], .blk X219 3 [.int .i64 0]] from hh)
 clear hh hd ho
 (try simp only [Act.put])
 go_upto_region 4 with fail
 refine wp_region_lit ?_
 refine qV (.func (.func 42) #[] #[.pointer (some ⟨X202, 0, none⟩), .pointer (some ⟨X219, 0, none⟩)]) ?_
 refine zq (.func (.func 42) #[] #[.pointer (some ⟨X202, 0, none⟩), .pointer (some ⟨X219, 0, none⟩)]) ?_
 go_upto_region 5 with fail
 refine wp_region_lit ?_
 refine qV (.slice A rs.length cu) ?_
 refine zq (.int .i64 ((rs.length : Nat) : Int)) ?_
 refine zq (.int .i64 0) ?_
 go_wp2_with fail
 go_loopg [20] (rs.length) (fun cq v232 wr => ∃ (i : Nat) (z : Int), cq = rs.length - i ∧ v232 = .int .i64 (i : Int) ∧ (i ≤ rs.length) ∧ (z = windV p (rs.take i)) ∧ Hp w wr [.blk X202 44 [.int .i64 p.1, .int .i64 p.2], .blk X219 3 [.int .i64 z]] ∧ Dig w224 wr)
 case atStart => exact ⟨0, 0, rfl, rfl, Nat.zero_le _, rfl, H225.out, Dig.refl _⟩
 case round =>
  obtain ⟨i, z, rfl, rfl, q_HKI, q_HZ, hh_, hd_⟩ := hrel
  generalize wr = w233 at *
  have HKI := zH q_HKI
  clear q_HKI
  have HZ := zH q_HZ
  clear q_HZ
  have H235 := zH hh_
  have D235 := zH hd_
  clear hh_ hd_ H225
  by_cases c236 : i < rs.length
  ·have HLT := zH c236
   clear c236
   have hlt := HLT.out
   have hlt2 : (i : Int) < (rs.length : Int) := by omega
   obtain ⟨r, hri_⟩ : ∃ r, rs[i]? = some r := ⟨_, List.getElem?_eq_getElem hlt⟩
   have HRI := zH hri_
   have HRM := zH (List.mem_of_getElem? hri_)
   obtain ⟨g, off, rfl, hp_⟩ := HA.out (by omega)
   obtain ⟨B, cb, h1_, h2_⟩ := hp_ i r hri_
   have HRC := zH h1_
   have HPT := zH h2_
   clear hri_ hp_ h1_ h2_
   have HZB := zH (show -4096 ≤ z ∧ z ≤ 4096 from by rw [HZ.out]; exact wind_bd p HV.out i)
   go_upto_region 7 with fail
   refine wp_region_lit ?_
   refine zp (w' := w233) (.pointer (some ⟨g, off + i, none⟩)) (by exact ezi (k := i) Tryz.underlying22 (l := hlt) (f := (show off + i = off + i * 1 by omega))) ?_
   refine ze g (off + i) (.slice B r.length cb) (range_one (H235.out.ext.get HRC.out)) ?_
   refine zq (.slice B r.length cb) ?_
   go_upto_region 8 with fail
   refine wp_region_lit ?_
   refine qV (.slice B r.length cb) ?_
   refine zq (.func (.func 42) #[] #[.pointer (some ⟨X202, 0, none⟩), .pointer (some ⟨X219, 0, none⟩)]) ?_
   refine zc (eachW_any _ r p z X202 X219 w _ (H235.out.pick2 (ib := 0) (ir := 1) (by rfl) (by rfl) (by decide)) HPT.out (okR_all HV.out HRM.out) hp ⟨by have h_ := HZB.out; omega, by have h_ := HZB.out; omega⟩ (Nat.le_trans (ring_bd HV.out HRM.out) (by decide))) ?_
   rintro e w241 ⟨rfl, hcr_⟩
   obtain ⟨h1_, h2_, h3_⟩ := hcr_
   have H243 := zH (show Hp w w241 [.blk X202 44 [.int .i64 p.1, .int .i64 p.2], .blk X219 3 [.int .i64 (z + ringW p r r.length)]] from H235.out.callB (ib := 0) (ir := 1) (e := .blk X202 44 [.int .i64 p.1, .int .i64 p.2]) (f := .blk X219 3 [.int .i64 z]) (f' := .blk X219 3 [.int .i64 (z + ringW p r r.length)]) (by rfl) (by rfl) (by decide) h3_ (fun k_ hk_ => by rw [show k_ = X219 from hk_]; rfl) h1_ rfl)
   have D243 := zH (show Dig w233 w241 from h2_)
   have hx := True.intro
   clear h1_ h2_ h3_
   clear hx
   refine zn ?_
   have DD245 := zH ((D235.out.trans D243.out))
   go_wp2_with fail
   go_roundg (rs.length - (i + 1))
   case measure => exact (by omega)
   case rel => exact ⟨i + 1, z + ringW p r r.length, rfl, (by go_num), hlt, (by rw [HZ.out, windV_take HRI.out]), H243.out, DD245.out⟩
  have HLT := zH c236
  clear c236
  have hki := HKI.out
  have hlt := HLT.out
  obtain rfl : i = rs.length := by omega
  have hge : ¬ (rs.length : Int) < (rs.length : Int) := by omega
  have HZ2 := zH (show z = windV p rs by rw [HZ.out, List.take_length])
  go_upto_region 10 with fail
  refine wp_region_lit ?_
  refine ze X219 0 (.int .i64 z) (H235.out.range (i := 1) (by rfl) 0 1) ?_
  refine zq (.int .i64 z) ?_
  go_wp2_with fail
  go_ret
  exact ⟨by rw [HZ2.out]; rfl, H235.out.ext⟩
set_option maxRecDepth 20000 in
set_option maxHeartbeats 4000000 in
theorem pcontains_any (u : Value) (rs : List Ring) (rule : Int) (p : Int × Int) (w : World) (hu : RingsV w u rs) (hv : okR rs = true) (hp : okPt p.1 p.2 = true) (hn : rs.length ≤ 100000) (hr : ∀ r, r ∈ rs → r.length ≤ 100000) (hru : -9223372036854775808 ≤ rule ∧ rule ≤ 9223372036854775807) :
  Calls Tryz.prog 21 #[u, .int .i64 rule, .agg #[.int .i64 p.1, .int .i64 p.2]] w fun e w' => e = .returned (.bool (fillsV (windV p rs) rule)) ∧ Ext w w' := by
 have hb := wind_bd p hv rs.length
 rw [List.take_length] at hb
 go_enter Tryz.func21, Tryz.ntmps21
 have H0 := zH (Hp.start w)
 go_upto_region 0 with fail
 refine wp_region_lit ?_
 refine mv_alloc (T := 44) (zs := [.int .i64 p.1, .int .i64 p.2]) (by rfl) (by go_simp) H0.out (by simp [NoUL]) ?_
 intro X247 w248 hh hx hge
 have H249 := zH (show Hp w w248 [.blk X247 44 [.int .i64 p.1, .int .i64 p.2]] from hh)
 clear hh hx hge
 try simp only [Act.put, zA, zB, zC]
 refine zq (.bool false) ?_
 go_upto_region 1 with fail
 refine wp_region_lit ?_
 refine qV (u) ?_
 refine zd X247 (0) [.int .i64 p.1, .int .i64 p.2] (H249.out.range (i := 0) (by rfl) 0 2) Tryz.underlying44 ?_
 refine zc (wind_any u rs p _ (hu.ext H249.out.ext) hv hp hn hr) ?_
 rintro e w254 ⟨rfl, hx⟩
 have H255 := zH (H249.out.step hx)
 clear hx
 refine zn ?_
 refine qV (.int .i64 rule) ?_
 refine zc (fills_any (windV p rs) rule _ (by constructor <;> omega) hru) ?_
 rintro e w258 ⟨rfl, hx⟩
 have H259 := zH (H255.out.step hx)
 clear hx
 refine zn ?_
 refine zq (.bool (fillsV (windV p rs) rule)) ?_
 go_wp2_with fail
 go_ret
 exact ⟨rfl, H259.out.ext⟩

def mtot (rs : List Ring) : Nat := (rs.map fun r => min r.length 1000).sum
def smPoly (rs : List Ring) : Bool := decide (rs.length ≤ 60) && decide (mtot rs ≤ 60)
theorem mtot_succ {rs : List Ring} {k : Nat} {r : Ring} (h : rs[k]? = some r) : mtot (rs.take (k + 1)) = mtot (rs.take k) + min r.length 1000 := by
  obtain ⟨hk, rfl⟩ := List.getElem?_eq_some_iff.1 h
  unfold mtot
  rw [List.take_succ_eq_append_getElem hk, List.map_append, List.sum_append]
  simp
theorem mtot_le (rs : List Ring) : mtot rs ≤ 1000 * rs.length := by
  induction rs with
  | nil => simp [mtot]
  | cons r rs ih =>
    unfold mtot at ih ⊢
    rw [List.map_cons, List.sum_cons, List.length_cons]
    have := Nat.min_le_right r.length 1000
    omega
theorem smPoly_out {rs : List Ring} (h : smPoly rs = true) : rs.length ≤ 60 ∧ mtot rs ≤ 60 := by
  unfold smPoly at h
  simpa using h
theorem wrap_add {n m : Nat} (h : n + m ≤ 4611686018427387904) : IntKind.i64.wrap ((n : Int) + (m : Int)) = ((n + m : Nat) : Int) := by
  rw [IntKind.wrap_i64]; omega
set_option maxRecDepth 20000 in
set_option maxHeartbeats 4000000 in
theorem smallPolygons_any (u : Value) (rs : List Ring) (w : World) (hu : RingsV w u rs) (hn : rs.length ≤ 9223372036854775807) :
  Calls Tryz.prog 6 #[u] w fun e w' => e = .returned (.bool (smPoly rs)) ∧ Ext w w' := by
 obtain ⟨A, cu, rfl, hA⟩ := hu
 have HA := zH hA
 have HN := zH hn
 clear hA
 go_enter Tryz.func6, Tryz.ntmps6
 go_wp2_with fail
 go_loopg [3, 7] rs.length (fun c s i wr => ∃ (k : Nat) (z : Int), k ≤ rs.length ∧ c = rs.length - k ∧ s = .int .i64 z ∧ i = .int .i64 k ∧ (rs.length ≤ 60 → z = (mtot (rs.take k) : Int)) ∧ Ext w wr)
 case atStart => exact ⟨0, 0, Nat.zero_le _, rfl, rfl, rfl, fun _ => rfl, Ext.refl _⟩
 case round =>
  obtain ⟨k, z, hk, rfl, rfl, rfl, hz0, hx⟩ := hrel
  have HX := zH hx
  have HZ := zH hz0
  clear hx hz0
  by_cases hlt : k < rs.length
  ·have hlt2 : (k : Int) < (rs.length : Int) := by omega
   obtain ⟨r, hr⟩ : ∃ r, rs[k]? = some r := ⟨_, List.getElem?_eq_getElem hlt⟩
   obtain ⟨g, off, rfl, hp⟩ := HA.out (by omega)
   obtain ⟨B, cb, h1, -⟩ := hp k r hr
   have h2 := HX.out.get h1
   have HW := zH (show rs.length ≤ 60 → IntKind.i64.wrap (z + min (r.length : Int) 1000) = (mtot (rs.take (k + 1)) : Int) by
    intro h60
    have hz := mtot_succ hr
    have hz2 : mtot (rs.take k) ≤ 1000 * rs.length := Nat.le_trans (mtot_le _) (Nat.mul_le_mul_left _ (by rw [List.length_take]; omega))
    have hz3 : min r.length 1000 ≤ 1000 := Nat.min_le_right ..
    have hm : min (r.length : Int) 1000 = ((min r.length 1000 : Nat) : Int) := by omega
    rw [HZ.out h60, hm, hz]
    exact wrap_add (by omega))
   have HLT := zH hlt
   clear hp h1 hr
   go_wp2_with fail
   go_roundg (rs.length - (k + 1))
   case measure => have := HLT.out; omega
   case rel => exact ⟨k + 1, _, HLT.out, rfl, rfl, by go_num, by intro h_; have h := HW.out h_; rw [IntKind.wrap_i64] at h; unfold wrap64; exact h, HX.out⟩
  obtain rfl : k = rs.length := by omega
  have hge : ¬ (rs.length : Int) < (rs.length : Int) := by omega
  rw [List.take_length] at *
  have hd : decide ((rs.length : Int) ≤ 60) = decide (rs.length ≤ 60) := decide_eq_decide.2 (by omega)
  have hd2 : decide ((mtot rs : Int) ≤ 60) = decide (mtot rs ≤ 60) := decide_eq_decide.2 (by omega)
  by_cases h1 : rs.length ≤ 60
  ·obtain rfl : z = (mtot rs : Int) := HZ.out h1
   have h1z : (rs.length : Int) ≤ 60 := by omega
   have HS := zH (show smPoly rs = decide (mtot rs ≤ 60) by unfold smPoly; simp [h1])
   have HD := zH hd2
   clear hd hd2
   go_wp2_with fail
   go_ret
   exact ⟨by rw [HS.out, ← HD.out]; rfl, HX.out⟩
  have h1z : ¬ (rs.length : Int) ≤ 60 := by omega
  have HS := zH (show smPoly rs = false by unfold smPoly; simp [h1])
  clear hd hd2
  go_wp2_with fail
  go_ret
  exact ⟨by rw [HS.out]; rfl, HX.out⟩

set_option maxRecDepth 20000 in
set_option maxHeartbeats 4000000 in
theorem inside_any (L X : Nat) (e : SpE) (r : RV) (q : Rat) (w : World) (he : e.Ok L w) (hr : NIn L w #[.bool r.n, .slice r.p r.l r.c, .bool r.m, .slice r.p2 r.l2 r.c2] q) (hX : w.rangeAt X 0 ([.bool r.n, .slice r.p r.l r.c, .bool r.m, .slice r.p2 r.l2 r.c2] : List Value)) (hL : L ≤ 60000) :
  Calls Tryz.prog 40 #[.agg #[.bool e.a.n, .slice e.a.p e.a.l e.a.c, .bool e.a.m, .slice e.a.p2 e.a.l2 e.a.c2, .bool e.b.n, .slice e.b.p e.b.l e.b.c, .bool e.b.m, .slice e.b.p2 e.b.l2 e.b.c2], .pointer (some ⟨X, 0, none⟩)] w fun x w' => x = .returned (.bool (decide (e.p < q) && decide (q < e.q))) ∧ Ext w w' := by
 have HW := zH ((Ext.refl w).alloc (.cells #[.bool e.a.n, .slice e.a.p e.a.l e.a.c, .bool e.a.m, .slice e.a.p2 e.a.l2 e.a.c2, .bool e.b.n, .slice e.b.p e.b.l e.b.c, .bool e.b.m, .slice e.b.p2 e.b.l2 e.b.c2] 39))
 have HB := zH (show (w.alloc (.cells #[.bool e.a.n, .slice e.a.p e.a.l e.a.c, .bool e.a.m, .slice e.a.p2 e.a.l2 e.a.c2, .bool e.b.n, .slice e.b.p e.b.l e.b.c, .bool e.b.m, .slice e.b.p2 e.b.l2 e.b.c2] 39)).rangeAt w.heap.size 0 ([.bool e.a.n, .slice e.a.p e.a.l e.a.c, .bool e.a.m, .slice e.a.p2 e.a.l2 e.a.c2] ++ [.bool e.b.n, .slice e.b.p e.b.l e.b.c, .bool e.b.m, .slice e.b.p2 e.b.l2 e.b.c2]) from range_new w _ _)
 have HOK := zH (he.ext HW.out)
 have HQ := zH (hr.ext HW.out)
 have HX := zH (range_ext hX HW.out)
 clear he hr hX
 go_enter Tryz.func40, Tryz.ntmps40
 go_upto_region 1 with fail
 generalize w.alloc (.cells #[.bool e.a.n, .slice e.a.p e.a.l e.a.c, .bool e.a.m, .slice e.a.p2 e.a.l2 e.a.c2, .bool e.b.n, .slice e.b.p e.b.l e.b.c, .bool e.b.m, .slice e.b.p2 e.b.l2 e.b.c2] 39) = wr at *
 generalize hY : w.heap.size = Y at *
 clear hY
 refine wp_region_lit ?_
 refine zq (.pointer (some ⟨Y, 0, none⟩)) ?_
 refine wpList_if (by rfl) (wp_load_mid _ _ (by rfl) Y (0) (by rfl) [.bool e.a.n, .slice e.a.p e.a.l e.a.c, .bool e.a.m, .slice e.a.p2 e.a.l2 e.a.c2] _ (range_left (a := [.bool e.a.n, .slice e.a.p e.a.l e.a.c, .bool e.a.m, .slice e.a.p2 e.a.l2 e.a.c2]) (b := [.bool e.b.n, .slice e.b.p e.b.l e.b.c, .bool e.b.m, .slice e.b.p2 e.b.l2 e.b.c2]) HB.out) Tryz.underlying27 (by rfl) (by kernel_rfl) ?_)
 try simp only [Act.put, zA, zB, zC]
 refine wpList_if (by rfl) (wp_load_mid _ _ (by rfl) X (0) (by rfl) [.bool r.n, .slice r.p r.l r.c, .bool r.m, .slice r.p2 r.l2 r.c2] _ HX.out Tryz.underlying27 (by rfl) (by kernel_rfl) ?_)
 try simp only [Act.put, zA, zB, zC]
 refine mv_call (by rfl) (by go_simp) (pCmp (NIn.ofa2 (HOK.out.ext (Ext.refl _))) (HQ.out.ext (Ext.refl _)) (by omega)) ?_
 rintro e w5 ⟨rfl, hx⟩
 have HEw5 := zH (show Ext wr w5 from ((Ext.refl wr)).trans hx)
 clear hx
 refine ⟨_, rfl, ?_⟩
 try simp only [Act.put, zA, zB, zC]
 by_cases c1 : e.p < q
 ·have hdd : decide (e.p < q) = true := by simpa using c1
  have hz : rcmp e.p q < 0 := rcmp_lt.2 c1
  have HDD := zH hdd
  clear hdd c1
  refine qV (.bool true) ?_
  refine zq (.bool true) ?_
  refine wpList_if (by rfl) (wp_load_mid _ _ (by rfl) X (0) (by rfl) [.bool r.n, .slice r.p r.l r.c, .bool r.m, .slice r.p2 r.l2 r.c2] _ (range_ext HX.out HEw5.out) Tryz.underlying27 (by rfl) (by kernel_rfl) ?_)
  try simp only [Act.put, zA, zB, zC]
  refine zq (.pointer (some ⟨Y, 4, none⟩)) ?_
  refine wpList_if (by rfl) (wp_load_mid _ _ (by rfl) Y (4) (by rfl) [.bool e.b.n, .slice e.b.p e.b.l e.b.c, .bool e.b.m, .slice e.b.p2 e.b.l2 e.b.c2] _ (range_right (a := [.bool e.a.n, .slice e.a.p e.a.l e.a.c, .bool e.a.m, .slice e.a.p2 e.a.l2 e.a.c2]) (b := [.bool e.b.n, .slice e.b.p e.b.l e.b.c, .bool e.b.m, .slice e.b.p2 e.b.l2 e.b.c2]) (n := 4) (range_ext HB.out HEw5.out) rfl) Tryz.underlying27 (by rfl) (by kernel_rfl) ?_)
  try simp only [Act.put, zA, zB, zC]
  refine mv_call (by rfl) (by go_simp) (pCmp (HQ.out.ext HEw5.out) (NIn.ofb (HOK.out.ext HEw5.out)) (by omega)) ?_
  rintro e w6 ⟨rfl, hx⟩
  have HEw6 := zH (show Ext wr w6 from (HEw5.out).trans hx)
  clear hx
  refine ⟨_, rfl, ?_⟩
  try simp only [Act.put, zA, zB, zC]
  by_cases c2 : q < e.q
  ·have HD2 := zH (show decide (q < e.q) = true by simpa using c2)
   have hz2 : rcmp q e.q < 0 := rcmp_lt.2 c2
   clear c2
   refine qV (.bool true) ?_
   refine zq (.bool true) ?_
   refine zq (.bool true) ?_
   go_wp2_with fail
   go_ret
   exact ⟨by rw [HDD.out, HD2.out]; rfl, HW.out.trans HEw6.out⟩
  have HD2 := zH (show decide (q < e.q) = false by simpa using c2)
  have hz2 : ¬ rcmp q e.q < 0 := fun h => c2 (rcmp_lt.1 h)
  clear c2
  refine qV (.bool false) ?_
  refine zq (.bool false) ?_
  refine zq (.bool false) ?_
  go_wp2_with fail
  go_ret
  exact ⟨by rw [HDD.out, HD2.out]; rfl, HW.out.trans HEw6.out⟩
 have HDD := zH (show decide (e.p < q) = false by simpa using c1)
 have hz : ¬ rcmp e.p q < 0 := fun h => c1 (rcmp_lt.1 h)
 clear c1
 refine qV (.bool false) ?_
 refine zq (.bool false) ?_
 refine zk ?_
 refine zk ?_
 refine zk ?_
 refine zk ?_
 refine zk ?_
 refine qV (.bool false) ?_
 refine zq (.bool false) ?_
 go_wp2_with fail
 go_ret
 exact ⟨by rw [HDD.out]; rfl, HW.out.trans HEw5.out⟩
set_option maxRecDepth 20000 in
set_option maxHeartbeats 4000000 in
theorem insideIx_any (L X b : Nat) (v : Value) (es : List SpE) (r : RV) (q : Rat) (w : World) (hv : SpR L w b v es) (hr : NIn L w #[.bool r.n, .slice r.p r.l r.c, .bool r.m, .slice r.p2 r.l2 r.c2] q) (hX : w.rangeAt X 0 ([.bool r.n, .slice r.p r.l r.c, .bool r.m, .slice r.p2 r.l2 r.c2] : List Value)) (hL : L ≤ 60000) (hn : es.length ≤ 20000) :
  Calls Tryz.prog 67 #[v, .func (.func 40) #[] #[.pointer (some ⟨X, 0, none⟩)]] w fun x w' => ∃ z : Int, x = .returned (.int .i64 z) ∧ decide (0 ≤ z) = inL (es.map SpE.vl) q ∧ Ext w w' := by
 obtain ⟨As, cs, rfl⟩ := row_slice hv.1
 have HES := zH hv
 have HQ2 := zH hr
 have HB2 := zH hX
 clear hv hr hX
 go_enter Tryz.func67, Tryz.ntmps67
 go_wp2_with fail
 go_loopg [8] es.length (fun c i wr => ∃ k : Nat, k ≤ es.length ∧ c = es.length - k ∧ i = .int .i64 k ∧ (∀ i e, i < k → es[i]? = some e → (decide (e.p < q) && decide (q < e.q)) = false) ∧ Ext w wr)
 case atStart => exact ⟨0, Nat.zero_le _, rfl, rfl, fun i x h => absurd h (Nat.not_lt_zero _), Ext.refl _⟩
 case round =>
  obtain ⟨k, hk, rfl, rfl, ho, hx⟩ := hrel
  have HO := zH ho
  have HX := zH hx
  clear ho hx
  by_cases hlt : k < es.length
  ·have hlt2 : (k : Int) < (es.length : Int) := by omega
   obtain ⟨e, hee⟩ : ∃ e, es[k]? = some e := ⟨_, List.getElem?_eq_getElem hlt⟩
   obtain ⟨gs, rfl⟩ : ∃ gs, As = some ⟨gs, 0, none⟩ := by
    rcases HES.out.form with ⟨_, hn⟩ | ⟨g, cap, rest, hv, _⟩
    ·rw [hn] at hlt; simp at hlt
    injection hv with e1 _ _; exact ⟨g, e1⟩
   have HOK := zH ((HES.out.2 e (List.mem_of_getElem? hee)).ext HX.out)
   have HRD := zH (range_ext (HES.out.read hee) HX.out)
   have HBX := zH (range_ext HB2.out HX.out)
   have HQX := zH (HQ2.out.ext HX.out)
   have HEE := zH hee
   have HLT := zH hlt
   clear hee hlt
   go_upto_region 4 with fail
   refine wp_region_lit ?_
   refine qV (.func (.func 40) #[] #[.pointer (some ⟨X, 0, none⟩)]) ?_
   refine zq (.slice (some ⟨gs, 0, none⟩) es.length cs) ?_
   refine qV (.int .i64 k) ?_
   refine zq (.pointer (some ⟨gs, k * 8, none⟩)) ?_
   refine wpList_if (by rfl) (wp_load_mid _ _ (by rfl) gs (k * 8) (by rfl) [.bool e.a.n, .slice e.a.p e.a.l e.a.c, .bool e.a.m, .slice e.a.p2 e.a.l2 e.a.c2, .bool e.b.n, .slice e.b.p e.b.l e.b.c, .bool e.b.m, .slice e.b.p2 e.b.l2 e.b.c2] _ HRD.out Tryz.underlying39 (by rfl) (by kernel_rfl) ?_)
   try simp only [Act.put, zA, zB, zC]
   refine mv_call (by rfl) (by go_simp) (inside_any L X e r q _ (HOK.out.ext (Ext.refl _)) (HQX.out.ext (Ext.refl _)) (range_ext HBX.out (Ext.refl _)) hL) ?_
   rintro e w5 ⟨rfl, hx⟩
   have HEw5 := zH (show Ext wr w5 from ((Ext.refl wr)).trans hx)
   clear hx
   refine ⟨_, rfl, ?_⟩
   try simp only [Act.put, zA, zB, zC]
   by_cases hb : (decide (e.p < q) && decide (q < e.q)) = true
   ·have HST := zH (any_stop HEE.out hb)
    rw [hb]
    clear hb
    go_wp2_with fail
    go_ret
    exact ⟨_, rfl, by rw [HST.out]; simp, HX.out.trans HEw5.out⟩
   replace hb := eq_false_of_ne_true hb
   have HF := zH hb
   rw [hb]
   clear hb
   go_wp2_with fail
   go_roundg (es.length - (k + 1))
   case measure => have := HLT.out; omega
   case rel => exact ⟨k + 1, HLT.out, rfl, by go_num, fun i x hi hx2 => by
    rcases Nat.lt_or_ge i k with h | h
    ·exact HO.out i x h hx2
    obtain rfl : i = k := by omega
    rw [HEE.out] at hx2
    injection hx2 with hx2
    rw [← hx2]; exact HF.out, HX.out.trans HEw5.out⟩
  obtain rfl : k = es.length := by omega
  have hge : ¬ (es.length : Int) < (es.length : Int) := by omega
  have HE := zH (any_end HO.out)
  go_wp2_with fail
  go_ret
  exact ⟨_, rfl, by rw [HE.out]; simp, HX.out⟩
set_option maxRecDepth 20000 in
set_option maxHeartbeats 4000000 in
theorem insideC_any (L X b : Nat) (v : Value) (es : List SpE) (r : RV) (q : Rat) (w : World) (hv : SpR L w b v es) (hr : NIn L w #[.bool r.n, .slice r.p r.l r.c, .bool r.m, .slice r.p2 r.l2 r.c2] q) (hX : w.rangeAt X 0 ([.bool r.n, .slice r.p r.l r.c, .bool r.m, .slice r.p2 r.l2 r.c2] : List Value)) (hL : L ≤ 60000) (hn : es.length ≤ 20000) :
  Calls Tryz.prog 39 #[v, .func (.func 40) #[] #[.pointer (some ⟨X, 0, none⟩)]] w fun x w' => x = .returned (.bool (inL (es.map SpE.vl) q)) ∧ Ext w w' := by
 have HC := zH (insideIx_any L X b v es r q w hv hr hX hL hn)
 clear hv hr hX
 go_enter Tryz.func39, Tryz.ntmps39
 go_wp2_with (go_at_call 67; refine HC.out.mono ?_; rintro e w2 ⟨z, rfl, hz, hx2⟩)
 go_ret
 exact ⟨by rw [← hz]; rfl, hx2⟩
set_option maxRecDepth 20000 in
set_option maxHeartbeats 4000000 in
theorem contains_any (L : Nat) (u : Value) (ps : List QQ) (cx : Array Value) (q : Rat) (w : World) (hu : SpansV L w u ps) (hc : NIn L w cx q) (h1L : 1 ≤ L) (hL : L ≤ 60000) (hn : ps.length ≤ 20000) :
  Calls Tryz.prog 20 #[u, .agg cx] w fun e w' => e = .returned (.bool (inV ps q)) ∧ Ext w w' := by
 obtain ⟨r, rfl, hr⟩ := hc
 have HC := zH (merge_any L u ps (w.alloc (.cells #[.bool r.n, .slice r.p r.l r.c, .bool r.m, .slice r.p2 r.l2 r.c2] 27)) (hu.ext ((Ext.refl w).alloc _)) h1L hL hn)
 have HQ := zH (show NIn L (w.alloc (.cells #[.bool r.n, .slice r.p r.l r.c, .bool r.m, .slice r.p2 r.l2 r.c2] 27)) #[.bool r.n, .slice r.p r.l r.c, .bool r.m, .slice r.p2 r.l2 r.c2] q from ⟨r, rfl, hr.ext ((Ext.refl w).alloc _)⟩)
 have HB := zH (show (w.alloc (.cells #[.bool r.n, .slice r.p r.l r.c, .bool r.m, .slice r.p2 r.l2 r.c2] 27)).rangeAt w.heap.size 0 ([.bool r.n, .slice r.p r.l r.c, .bool r.m, .slice r.p2 r.l2 r.c2] : List Value) from range_new w _ _)
 have HW := zH ((Ext.refl w).alloc (.cells #[.bool r.n, .slice r.p r.l r.c, .bool r.m, .slice r.p2 r.l2 r.c2] 27))
 clear hu hr
 go_enter Tryz.func20, Tryz.ntmps20
 go_wp2_with (first | (go_at_call 14; refine HC.out.mono ?_; rintro e ws ⟨vs, es, rfl, hes, hval, hel, hXs⟩; have HVAL := zH (show inV ps q = inL (es.map SpE.vl) q by rw [hval]; rfl); clear hval) | (go_at_call 39; refine (insideC_any L _ _ _ es r q _ hes (HQ.out.ext hXs) (range_ext HB.out hXs) hL (by omega)).mono ?_; rintro e w2 ⟨rfl, hx2⟩))
 go_ret
 exact ⟨by rw [HVAL.out]; rfl, (HW.out.trans hXs).trans hx2⟩

end Go.Proofs.YtaeeeailoiioaacGreat

namespace Go.Proofs.YtaeeeailoiioaacGreat
open Go.RowKit

structure LvE where
  a : RV
  b : RV
  p : Rat
  q : Rat
  n : Int
def LvE.cs (e : LvE) : List Value := [.bool e.a.n, .slice e.a.p e.a.l e.a.c, .bool e.a.m, .slice e.a.p2 e.a.l2 e.a.c2, .bool e.b.n, .slice e.b.p e.b.l e.b.c, .bool e.b.m, .slice e.b.p2 e.b.l2 e.b.c2]
def LvE.cn (e : LvE) : List Value := [.int .i64 e.n]
theorem LvE.cs_len (e : LvE) : e.cs.length = 8 := rfl
theorem LvE.cn_len (e : LvE) : e.cn.length = 1 := rfl
def LvE.vl (e : LvE) : QQ × Int := ((e.p, e.q), e.n)
def LvE.sp (e : LvE) : SpE := ⟨e.a, e.b, e.p, e.q⟩
def LvE.Ok (L : Nat) (w : World) (e : LvE) : Prop := e.a.Is w e.p ∧ e.b.Is w e.q ∧ Nm.rl e.p ≤ L ∧ Nm.rl e.q ≤ L ∧ -100000 ≤ e.n ∧ e.n ≤ 100000
theorem LvE.Ok.dig {L : Nat} {w w' : World} {e : LvE} (h : e.Ok L w) (d : Dig w w') : e.Ok L w' := ⟨h.1.dig d, h.2.1.dig d, h.2.2⟩
theorem lvstep_skip {out : List (QQ × Int)} {r : QQ × Int} (h : r.2 = 0 ∨ ¬ r.1.1 < r.1.2) : lvstep out r = out := if_pos h
theorem lvstep_nil {r : QQ × Int} (h : ¬ (r.2 = 0 ∨ ¬ r.1.1 < r.1.2)) : lvstep [] r = [(r.1, -r.2)] := by unfold lvstep; rw [if_neg h]; rfl
theorem lvstep_grow {out : List (QQ × Int)} {l r : QQ × Int} (h : ¬ (r.2 = 0 ∨ ¬ r.1.1 < r.1.2)) (h2 : l.2 = -r.2 ∧ l.1.2 = r.1.1) : lvstep (out ++ [l]) r = out ++ [((l.1.1, r.1.2), l.2)] := by
  unfold lvstep
  rw [if_neg h]
  simp [h2]
theorem lvstep_more {out : List (QQ × Int)} {l r : QQ × Int} (h : ¬ (r.2 = 0 ∨ ¬ r.1.1 < r.1.2)) (h2 : ¬ (l.2 = -r.2 ∧ l.1.2 = r.1.1)) : lvstep (out ++ [l]) r = out ++ [l] ++ [(r.1, -r.2)] := by
  unfold lvstep
  rw [if_neg h]
  simp only [List.getLast?_append, List.getLast?_singleton, Option.some_or]
  rw [if_neg h2]
end Go.Proofs.YtaeeeailoiioaacGreat

namespace Go.Proofs.YtaeeeailoiioaacGreat
open Go.RowKit
attribute [local go_sem ↓] Go.wp_at_zero Go.wp_at_succ run_max_ii run_min_ii
def LevRet (L : Nat) (rs : List Ring) (y : Rat) (w : World) (e : Ending) (w' : World) : Prop :=
  ∃ (A1 : Option Addr) (c1 : Nat) (A2 : Option Addr) (c2 : Nat) (n : Nat) (es : List LvE), e = .returned (.tuple #[.slice A1 n c1, .slice A2 n c2]) ∧ n = List.length es ∧ RowN w' w.heap.size 39 8 (.slice A1 n c1) n (List.flatMap LvE.cs es) ∧ RowN w' w.heap.size 3 1 (.slice A2 n c2) n (List.flatMap LvE.cn es) ∧
      (∀ e, e ∈ es → e.Ok (L + 8) w') ∧ es.map LvE.vl = levelsV (marksV y rs) ∧ n ≤ 4096 ∧ Ext w w'
theorem lv_take {qs : List QI} {k : Nat} {r : QQ × Int} (h : (runs 0 qs)[k]? = some r) : ((runs 0 qs).take (k + 1)).foldl lvstep [] = lvstep (((runs 0 qs).take k).foldl lvstep []) r := by
  rw [List.take_add_one, h, List.foldl_append]
  rfl
theorem lv_cnset {es : List LvE} {l z : LvE} (h : z.n = l.n) : List.flatMap LvE.cn (es ++ [l]) = List.flatMap LvE.cn (es ++ [z]) := by
  rw [List.flatMap_append, List.flatMap_append]
  unfold LvE.cn
  simp [h]
theorem lv_snoc (es : List LvE) : es = [] ∨ ∃ es0 l, es = es0 ++ [l] := by
  rcases List.eq_nil_or_concat es with h | ⟨a, b, h⟩
  · exact .inl h
  exact .inr ⟨a, b, by rw [h, List.concat_eq_append]⟩
theorem lv_setlast (es : List LvE) (l z : LvE) : (es ++ [l]).set es.length z = es ++ [z] := by simp

theorem marks_lt {y : Rat} {rs : List Ring} {ms : List MkE} {k : Nat} {e f : MkE} (hv : ms.map MkE.vl = marksV y rs) (he : ms[k]? = some e) (hf : ms[k + 1]? = some f) (h : ¬ e.q = f.q) : e.q < f.q := by
  have h1 := marks_sorted y rs
  rw [← hv, List.pairwise_map] at h1
  have hk := (List.getElem?_eq_some_iff.1 he)
  have hk2 := (List.getElem?_eq_some_iff.1 hf)
  have h2 : e.q ≤ f.q := by
    have := List.pairwise_iff_getElem.1 h1 k (k + 1) hk.1 hk2.1 (by omega)
    rw [hk.2, hk2.2] at this
    exact this
  grind
set_option maxRecDepth 20000 in
set_option maxHeartbeats 4000000 in
theorem levels_any (L : Nat) (u : Value) (rs : List Ring) (ry : RV) (y : Rat) (w : World) (hu : RingsV w u rs) (hy : ry.In L w y) (h1L : 1 ≤ L) (hL : L ≤ 2000) (hn : rs.length ≤ 100000) (hr : ∀ r, r ∈ rs → r.length ≤ 100000) :
  Calls Tryz.prog 9 #[u, .agg #[.bool ry.n, .slice ry.p ry.l ry.c, .bool ry.m, .slice ry.p2 ry.l2 ry.c2]] w (LevRet L rs y w) := by
 have HU := zH hu
 have HN := zH hn
 have HR := zH hr
 have RY := zH hy
 clear hu hy
 go_enter Tryz.func9, Tryz.ntmps9
 have H0 := zH (Hp.start w)
 go_upto_region 0 with fail
 refine wp_region_lit ?_
 refine mv_alloc (T := 27) (zs := [.bool ry.n, .slice ry.p ry.l ry.c, .bool ry.m, .slice ry.p2 ry.l2 ry.c2]) (by rfl) (by go_simp) H0.out (by simp [NoUL]) ?_
 intro X297 w298 hh hx hge
 have H299 := zH (show Hp w w298 [.blk X297 27 (rc ry)] from hh)
 clear hh hx hge
 try simp only [Act.put, zA, zB, zC]
 refine qV (.slice none 0 0) ?_
 refine zq (.slice none 0 0) ?_
 by_cases c304 : okR rs = true
 ·have HV := zH c304
  clear c304
  go_upto_region 1 with fail
  refine wp_region_lit ?_
  refine qV (u) ?_
  refine zc (polyValid_any _ rs _ (HU.out.ext H299.out.ext) HN.out HR.out) ?_
  rintro e w306 ⟨rfl, hx⟩
  have H307 := zH (H299.out.step hx)
  clear hx
  refine ⟨.bool true, by rw [HV.out], ?_⟩
  try simp only [Act.put, zA, zB, zC]
  refine zq (.bool false) ?_
  have H310 := zH (show Hp w w306 [.blk X297 27 (rc ry), ro 39 8 none 0 0 LvE.cs ([])] from H307.out.addNil 39 8)
  have H311 := zH (show Hp w w306 [.blk X297 27 (rc ry), ro 39 8 none 0 0 LvE.cs ([]), ro 3 1 none 0 0 LvE.cn ([])] from H310.out.addNil 3 1)
  go_upto_region 3 with fail
  refine wp_region_lit ?_
  refine zq (.slice none 0 0) ?_
  go_upto_region 4 with fail
  refine wp_region_lit ?_
  refine zq (.slice none 0 0) ?_
  go_upto_region 5 with fail
  refine wp_region_lit ?_
  refine zq (.int .i64 0) ?_
  go_upto_region 6 with fail
  refine wp_region_lit ?_
  refine qV (u) ?_
  refine zd X297 (0) (rc ry) (H311.out.range (i := 0) (by rfl) 0 4) Tryz.underlying27 ?_
  refine zc (marks_any L u rs ry y _ (HU.out.ext H311.out.ext) (RY.out.dig H311.out.dig0) h1L (by omega) hn hr) ?_
  rintro e w316 ⟨Am, nm_, cm, ms, rfl, rfl, hrow_, hok_, hval_, hx⟩
  have HVAL := zH hval_
  have HOK := zH hok_
  obtain ⟨Am2_, cm2_, hv_, hA_⟩ := RowN.form hrow_
  injection hv_ with e1_ _ _
  subst e1_
  have HA := zH hA_
  clear hval_ hok_ hA_
  have H317 := zH (show Hp w w316 [.blk X297 27 (rc ry), ro 39 8 none 0 0 LvE.cs ([]), ro 3 1 none 0 0 LvE.cn ([]), ro 59 5 Am ms.length cm MkE.cells ms] from H311.out.addRow hx hrow_)
  clear hrow_
  have hms4 : ms.length ≤ 4096 := by have h := marksV_len y rs; rw [← HVAL.out, List.length_map] at h; exact h
  clear hx
  refine zn ?_
  refine zq (.slice Am ms.length cm) ?_
  go_upto_region 7 with fail
  refine wp_region_lit ?_
  refine qV (.slice Am ms.length cm) ?_
  refine zq (.int .i64 ((ms.length : Nat) : Int)) ?_
  refine zq (.int .i64 0) ?_
  obtain ⟨qs, hqs⟩ : ∃ qs, qs = ms.map MkE.vl := ⟨_, rfl⟩
  have HQS := zH hqs
  have HQL := zH (show qs.length = ms.length by rw [hqs, List.length_map])
  clear hqs
  go_wp2_with fail
  go_loopg [6, 7, 8, 21] (ms.length) (fun cq v323 v324 v325 v326 wr => ∃ (k : Nat) (m : Nat) (es : List LvE) (A1 : Option Addr) (c1 : Nat) (A2 : Option Addr) (c2 : Nat) (s : Int), cq = ms.length - k ∧ v323 = .slice A1 m c1 ∧ v324 = .slice A2 m c2 ∧ v325 = .int .i64 s ∧ v326 = .int .i64 (k : Int) ∧ (k ≤ ms.length) ∧ (psum qs k = s) ∧ (-(k : Int) ≤ s ∧ s ≤ k) ∧ (m = es.length ∧ m ≤ k) ∧ (es.map LvE.vl = ((runs 0 qs).take k).foldl lvstep []) ∧ (∀ e, e ∈ es → e.Ok (L + 8) wr) ∧ Hp w wr [.blk X297 27 [.bool ry.n, .slice ry.p ry.l ry.c, .bool ry.m, .slice ry.p2 ry.l2 ry.c2], .row 39 8 (.slice A1 m c1) (m) (List.flatMap LvE.cs es), .row 3 1 (.slice A2 m c2) (m) (List.flatMap LvE.cn es), .row 59 5 (.slice Am ms.length cm) (ms.length) (List.flatMap MkE.cells ms)] ∧ Dig w316 wr)
  case atStart => exact ⟨0, 0, [], none, 0, none, 0, 0, rfl, rfl, rfl, rfl, rfl, Nat.zero_le _, rfl, ⟨by decide, by decide⟩, ⟨rfl, Nat.le_refl _⟩, rfl, (by simp), H317.out, Dig.refl _⟩
  case round =>
   obtain ⟨k, m, es, A1, c1, A2, c2, s, rfl, rfl, rfl, rfl, rfl, q_HK, q_HPV, q_HSM, q_HM, q_HLV, q_HOE, hh_, hd_⟩ := hrel
   generalize wr = w327 at *
   have HK := zH q_HK
   clear q_HK
   have HPV := zH q_HPV
   clear q_HPV
   have HSM := zH q_HSM
   clear q_HSM
   have HM := zH q_HM
   clear q_HM
   have HLV := zH q_HLV
   clear q_HLV
   have HOE := zH q_HOE
   clear q_HOE
   have H329 := zH hh_
   have D329 := zH hd_
   clear hh_ hd_ H317
   by_cases c330 : k < ms.length
   ·have HLT := zH c330
    clear c330
    have hlt := HLT.out
    have hk0 := HLT.out
    have hlt2 : (k : Int) < (ms.length : Int) := by omega
    obtain ⟨gm, rfl⟩ := HA.out (by omega)
    have hk4 : k ≤ 4096 := by omega
    have hm4 : m ≤ 4096 := by have := HM.out.2; omega
    obtain ⟨e, he_⟩ : ∃ e, ms[k]? = some e := ⟨_, List.getElem?_eq_getElem hlt⟩
    have HEe := zH he_
    have HOe := zH (HOK.out e (List.mem_of_getElem? he_))
    have RAe := zH HOe.out.1
    have BAe := zH HOe.out.2.1
    clear he_
    have hqk : qs[k]? = some e.vl := by rw [HQS.out, List.getElem?_map, HEe.out]; rfl
    have HPN := zH (show psum qs (k + 1) = s + e.up from by rw [psum_succ hqk, HPV.out]; rfl)
    have HQK := zH hqk
    clear hqk
    have HS2 := zH (show -(k + 1 : Int) ≤ s + e.up ∧ s + e.up ≤ k + 1 by have h1 := HSM.out; have h2 := HOe.out.2.2; omega)
    have hv331 := HS2.out.1
    have hv332 := HS2.out.2
    go_upto_region 9 with fail
    refine wp_region_lit ?_
    refine zq (.int .i64 (k : Int)) ?_
    refine zp (w' := w327) (.pointer (some ⟨gm, k * 5, none⟩)) (by exact ezi (k := k) Tryz.underlying56 (l := HLT.out) (f := (Nat.zero_add _).symm)) ?_
    refine zd gm (k * 5) [.bool e.a.n, .slice e.a.p e.a.l e.a.c, .bool e.a.m, .slice e.a.p2 e.a.l2 e.a.c2, .int .i64 e.up] (H329.out.elem (f := MkE.cells) (i := 3) (by rfl) MkE.len HEe.out) Tryz.underlying59 ?_
    refine mv_alloc (T := 59) (zs := [.bool false, .slice none 0 0, .bool false, .slice none 0 0, .int .i64 0]) (by rfl) (by go_simp) H329.out (by simp [NoUL]) ?_
    intro X335 w336 hh hx hge
    have H337 := zH (show Hp w w336 [.blk X297 27 (rc ry), ro 39 8 A1 m c1 LvE.cs es, ro 3 1 A2 m c2 LvE.cn es, ro 59 5 (some ⟨gm, 0, none⟩) ms.length cm MkE.cells ms, .blk X335 59 [.bool false, .slice none 0 0, .bool false, .slice none 0 0, .int .i64 0]] from hh)
    have D337 := zH (Dig.of_ext hx)
    clear hh hx hge
    try simp only [Act.put, zA, zB, zC]
    refine zq (.int .i64 (k : Int)) ?_
    refine mv_st (by rfl) _ _ _ (by rfl) H337.out (ix := 4) (by rfl) 0 [.bool e.a.n, .slice e.a.p e.a.l e.a.c, .bool e.a.m, .slice e.a.p2 e.a.l2 e.a.c2, .int .i64 e.up] (by rfl) (by rfl) (by simp) (by kernel_rfl) (by simp [Value.oneCell']) (by simp [NoUL]) ?_
    intro w341 hh hd ho
    have H342 := zH (show Hp w w341 [.blk X297 27 (rc ry), ro 39 8 A1 m c1 LvE.cs es, ro 3 1 A2 m c2 LvE.cn es, ro 59 5 (some ⟨gm, 0, none⟩) ms.length cm MkE.cells ms, .blk X335 59 [.bool e.a.n, .slice e.a.p e.a.l e.a.c, .bool e.a.m, .slice e.a.p2 e.a.l2 e.a.c2, .int .i64 e.up]] from hh)
    have D342 := zH (hd)
    clear hh hd ho
    (try simp only [Act.put])
    go_upto_region 10 with fail
    refine wp_region_lit ?_
    refine qV (.int .i64 s) ?_
    refine zq (.pointer (some ⟨X335, 4, none⟩)) ?_
    refine ze X335 4 (.int .i64 e.up) (H342.out.range (i := 4) (by rfl) 4 1) ?_
    refine zp (w' := w341) (.int .i64 (s + e.up)) (by exact ez1 (by omega)) ?_
    refine zq (.int .i64 (s + e.up)) ?_
    by_cases c348 : k + 1 = ms.length
    ·have CK := zH c348
     clear c348
     have hkl := CK.out
     go_upto_region 11 with fail
     refine zy ?_
     have H349 := zH (H342.out.step (Ext.refl w341).drew)
     have D349 := zH (Dig.of_ext (w := w341) zb)
     refine zx 0 (bs 21 1) (.int .i64 (k : Int)) zb ?_
     refine zu 1 (bs 21 3) (v := .int .i64 ((k + 1 : Nat) : Int)) zb ?_ (hv := by intro w hSw; exact ez1 (by omega))
     refine zx 2 (bs 21 7) (.slice (some ⟨gm, 0, none⟩) ms.length cm) zb ?_
     refine zx 3 (bs 21 15) (.int .i64 ((ms.length : Nat) : Int)) zb ?_
     refine zu 4 (bs 21 31) (v := .bool true) zb ?_ (hv := by intro w hSw; exact ezq (e := (dec_t (by omega))))
     refine zx 5 (bs 21 63) (.bool true) zb ?_
     refine zs 6 (bs 21 127) zb ?_
     refine zs 7 (bs 21 255) zb ?_
     refine zx 8 (bs 21 511) (.bool true) zb ?_
     refine zx 9 (bs 21 1023) (.bool true) zb ?_
     refine zs 10 (bs 21 2047) zb ?_
     refine zs 11 (bs 21 4095) zb ?_
     refine zs 12 (bs 21 8191) zb ?_
     refine zs 13 (bs 21 16383) zb ?_
     refine zs 14 (bs 21 32767) zb ?_
     refine zs 15 (bs 21 65535) zb ?_
     refine zs 16 (bs 21 131071) zb ?_
     refine zs 17 (bs 21 262143) zb ?_
     refine zs 18 (bs 21 524287) zb ?_
     refine zs 19 (bs 21 1048575) zb ?_
     refine zx 20 (bs 21 2097151) (.bool true) zb ?_
     refine wpAnyH_done (by kernel_rfl) ?_ _
     have DD360 := zH (((D337.out.trans D342.out).trans D349.out))
     have DD361 := zH ((((D329.out.trans D337.out).trans D342.out).trans D349.out))
     go_wp2_with fail
     go_roundg (ms.length - (k + 1))
     case measure => exact (by omega)
     case rel => exact ⟨k + 1, m, es, A1, c1, A2, c2, s + e.up, rfl, rfl, rfl, (by first | rfl | (congr 1)), (by go_num), hk0, HPN.out, (by have h_ := HS2.out; constructor <;> omega), ⟨HM.out.1, by have := HM.out.2; omega⟩, (by rw [HLV.out, List.take_of_length_le (show (runs 0 qs).length ≤ k by rw [runs_len]; have h_ := HQL.out; omega), List.take_of_length_le (show (runs 0 qs).length ≤ k + 1 by rw [runs_len]; have h_ := HQL.out; omega)]), (fun g_ hg_ => (HOE.out g_ hg_).dig DD360.out), H349.out.take 4, DD361.out⟩
    have CK := zH c348
    clear c348
    have hk1 : k + 1 < ms.length := by have := CK.out; omega
    obtain ⟨f, he_⟩ : ∃ f, ms[k + 1]? = some f := ⟨_, List.getElem?_eq_getElem hk1⟩
    have HEf := zH he_
    have HOf := zH (HOK.out f (List.mem_of_getElem? he_))
    have RAf := zH HOf.out.1
    have BAf := zH HOf.out.2.1
    clear he_
    have HRG := zH (runs_get qs 0 k e.vl f.vl HQK.out (by rw [HQS.out, List.getElem?_map, HEf.out]; rfl))
    have HRN := zH (show -(0 + psum qs (k + 1)) = -(s + e.up) by rw [HPN.out]; omega)
    by_cases c362 : s + e.up = 0
    ·have C0 := zH c362
     clear c362
     go_upto_region 11 with fail
     refine zy ?_
     have H363 := zH (H342.out.step (Ext.refl w341).drew)
     have D363 := zH (Dig.of_ext (w := w341) zb)
     refine zx 0 (bs 21 1) (.int .i64 (k : Int)) zb ?_
     refine zu 1 (bs 21 3) (v := .int .i64 ((k + 1 : Nat) : Int)) zb ?_ (hv := by intro w hSw; exact ez1 (by omega))
     refine zx 2 (bs 21 7) (.slice (some ⟨gm, 0, none⟩) ms.length cm) zb ?_
     refine zx 3 (bs 21 15) (.int .i64 ((ms.length : Nat) : Int)) zb ?_
     refine zu 4 (bs 21 31) (v := .bool false) zb ?_ (hv := by intro w hSw; exact ezq (e := (dec_f (by omega))))
     refine zx 5 (bs 21 63) (.bool false) zb ?_
     refine zx 6 (bs 21 127) (.int .i64 (s + e.up)) zb ?_
     refine zu 7 (bs 21 255) (v := .bool true) zb ?_ (hv := by intro w hSw; exact ezq (e := (dec_t C0.out)))
     refine zx 8 (bs 21 511) (.bool true) zb ?_
     refine zx 9 (bs 21 1023) (.bool true) zb ?_
     refine zs 10 (bs 21 2047) zb ?_
     refine zs 11 (bs 21 4095) zb ?_
     refine zs 12 (bs 21 8191) zb ?_
     refine zs 13 (bs 21 16383) zb ?_
     refine zs 14 (bs 21 32767) zb ?_
     refine zs 15 (bs 21 65535) zb ?_
     refine zs 16 (bs 21 131071) zb ?_
     refine zs 17 (bs 21 262143) zb ?_
     refine zs 18 (bs 21 524287) zb ?_
     refine zs 19 (bs 21 1048575) zb ?_
     refine zx 20 (bs 21 2097151) (.bool true) zb ?_
     refine wpAnyH_done (by kernel_rfl) ?_ _
     have DD376 := zH (((D337.out.trans D342.out).trans D363.out))
     have DD377 := zH ((((D329.out.trans D337.out).trans D342.out).trans D363.out))
     go_wp2_with fail
     go_roundg (ms.length - (k + 1))
     case measure => exact (by omega)
     case rel => exact ⟨k + 1, m, es, A1, c1, A2, c2, s + e.up, rfl, rfl, rfl, (by first | rfl | (congr 1)), (by go_num), hk0, HPN.out, (by have h_ := HS2.out; constructor <;> omega), ⟨HM.out.1, by have := HM.out.2; omega⟩, (by rw [lv_take HRG.out, lvstep_skip (.inl (show 0 + psum qs (k + 1) = 0 by have h1 := HRN.out; have h2 := C0.out; omega))]; exact HLV.out), (fun g_ hg_ => (HOE.out g_ hg_).dig DD376.out), H363.out.take 4, DD377.out⟩
    have C0 := zH c362
    clear c362
    by_cases c378 : e.q = f.q
    ·have C1 := zH c378
     clear c378
     go_upto_region 11 with fail
     refine zy ?_
     have H379 := zH (H342.out.step (Ext.refl w341).drew)
     have D379 := zH (Dig.of_ext (w := w341) zb)
     refine zx 0 (bs 21 1) (.int .i64 (k : Int)) zb ?_
     refine zu 1 (bs 21 3) (v := .int .i64 ((k + 1 : Nat) : Int)) zb ?_ (hv := by intro w hSw; exact ez1 (by omega))
     refine zx 2 (bs 21 7) (.slice (some ⟨gm, 0, none⟩) ms.length cm) zb ?_
     refine zx 3 (bs 21 15) (.int .i64 ((ms.length : Nat) : Int)) zb ?_
     refine zu 4 (bs 21 31) (v := .bool false) zb ?_ (hv := by intro w hSw; exact ezq (e := (dec_f (by omega))))
     refine zx 5 (bs 21 63) (.bool false) zb ?_
     refine zx 6 (bs 21 127) (.int .i64 (s + e.up)) zb ?_
     refine zu 7 (bs 21 255) (v := .bool false) zb ?_ (hv := by intro w hSw; exact ezq (e := (dec_f C0.out)))
     refine zx 8 (bs 21 511) (.bool false) zb ?_
     refine zx 9 (bs 21 1023) (.bool false) zb ?_
     refine mX 10 (bs 21 2047) (.pointer (some ⟨X335, 0, none⟩)) zb ?_
     refine zg 11 (bs 21 4095) X335 (0) (rc e.a) (H342.out.range (i := 4) (by rfl) 0 4) Tryz.underlying27 zb ?_
     refine zx 12 (bs 21 8191) (.slice (some ⟨gm, 0, none⟩) ms.length cm) zb ?_
     refine zx 13 (bs 21 16383) (.int .i64 (k : Int)) zb ?_
     refine zu 14 (bs 21 32767) (v := .int .i64 ((k + 1 : Nat) : Int)) zb ?_ (hv := by intro w hSw; exact ez1 (by omega))
     refine zu 15 (bs 21 65535) (v := .pointer (some ⟨gm, (k + 1) * 5, none⟩)) zb ?_ (hv := by intro w hSw; exact ezi (k := k + 1) Tryz.underlying56 (l := hk1) (f := (Nat.zero_add _).symm))
     refine mX 16 (bs 21 131071) (.pointer (some ⟨gm, (k + 1) * 5, none⟩)) zb ?_
     refine zg 17 (bs 21 262143) gm ((k + 1) * 5) (rc f.a) (range_part (H342.out.elem (f := MkE.cells) (i := 3) (by rfl) MkE.len HEf.out) 0 4) Tryz.underlying27 zb ?_
     have DD398 := zH ((((D329.out.trans D337.out).trans D342.out).trans D379.out))
     refine mC 18 (bs 21 524287) (pCmp (L := 60000) (RV.Is.nin (RAe.out.dig DD398.out) (Nat.le_trans BAe.out (by omega))) (RV.Is.nin (RAf.out.dig DD398.out) (Nat.le_trans BAf.out (by omega))) (by omega)) ?_
     rintro e w397 ⟨rfl, hx⟩
     have H399 := zH (H379.out.step hx)
     have D399 := zH (show Dig w341.drew w397 from Dig.of_ext hx)
     have S401 := zH (show Ext w341 w397 from zb.trans hx)
     clear hx
     refine zm S401.out ?_
     refine zu 19 (bs 21 1048575) (v := .bool true) S401.out ?_ (hv := by intro w hSw; exact ezq (e := (dec_t (rcmp_eq_i.2 C1.out))))
     refine zx 20 (bs 21 2097151) (.bool true) S401.out ?_
     refine wpAnyH_done (by kernel_rfl) ?_ _
     have DD404 := zH ((((D337.out.trans D342.out).trans D379.out).trans D399.out))
     have DD405 := zH ((DD398.out.trans D399.out))
     go_wp2_with fail
     go_roundg (ms.length - (k + 1))
     case measure => exact (by omega)
     case rel => exact ⟨k + 1, m, es, A1, c1, A2, c2, s + e.up, rfl, rfl, rfl, (by first | rfl | (congr 1)), (by go_num), hk0, HPN.out, (by have h_ := HS2.out; constructor <;> omega), ⟨HM.out.1, by have := HM.out.2; omega⟩, (by rw [lv_take HRG.out, lvstep_skip (.inr (fun h_ => by have h1 : e.q < f.q := h_; rw [C1.out] at h1; exact absurd h1 (Rat.lt_irrefl)))]; exact HLV.out), (fun g_ hg_ => (HOE.out g_ hg_).dig DD404.out), H399.out.take 4, DD405.out⟩
    have C1 := zH c378
    clear c378
    go_upto_region 11 with fail
    refine zy ?_
    have H406 := zH (H342.out.step (Ext.refl w341).drew)
    have D406 := zH (Dig.of_ext (w := w341) zb)
    refine zx 0 (bs 21 1) (.int .i64 (k : Int)) zb ?_
    refine zu 1 (bs 21 3) (v := .int .i64 ((k + 1 : Nat) : Int)) zb ?_ (hv := by intro w hSw; exact ez1 (by omega))
    refine zx 2 (bs 21 7) (.slice (some ⟨gm, 0, none⟩) ms.length cm) zb ?_
    refine zx 3 (bs 21 15) (.int .i64 ((ms.length : Nat) : Int)) zb ?_
    refine zu 4 (bs 21 31) (v := .bool false) zb ?_ (hv := by intro w hSw; exact ezq (e := (dec_f (by omega))))
    refine zx 5 (bs 21 63) (.bool false) zb ?_
    refine zx 6 (bs 21 127) (.int .i64 (s + e.up)) zb ?_
    refine zu 7 (bs 21 255) (v := .bool false) zb ?_ (hv := by intro w hSw; exact ezq (e := (dec_f C0.out)))
    refine zx 8 (bs 21 511) (.bool false) zb ?_
    refine zx 9 (bs 21 1023) (.bool false) zb ?_
    refine mX 10 (bs 21 2047) (.pointer (some ⟨X335, 0, none⟩)) zb ?_
    refine zg 11 (bs 21 4095) X335 (0) (rc e.a) (H342.out.range (i := 4) (by rfl) 0 4) Tryz.underlying27 zb ?_
    refine zx 12 (bs 21 8191) (.slice (some ⟨gm, 0, none⟩) ms.length cm) zb ?_
    refine zx 13 (bs 21 16383) (.int .i64 (k : Int)) zb ?_
    refine zu 14 (bs 21 32767) (v := .int .i64 ((k + 1 : Nat) : Int)) zb ?_ (hv := by intro w hSw; exact ez1 (by omega))
    refine zu 15 (bs 21 65535) (v := .pointer (some ⟨gm, (k + 1) * 5, none⟩)) zb ?_ (hv := by intro w hSw; exact ezi (k := k + 1) Tryz.underlying56 (l := hk1) (f := (Nat.zero_add _).symm))
    refine mX 16 (bs 21 131071) (.pointer (some ⟨gm, (k + 1) * 5, none⟩)) zb ?_
    refine zg 17 (bs 21 262143) gm ((k + 1) * 5) (rc f.a) (range_part (H342.out.elem (f := MkE.cells) (i := 3) (by rfl) MkE.len HEf.out) 0 4) Tryz.underlying27 zb ?_
    have DD425 := zH ((((D329.out.trans D337.out).trans D342.out).trans D406.out))
    refine mC 18 (bs 21 524287) (pCmp (L := 60000) (RV.Is.nin (RAe.out.dig DD425.out) (Nat.le_trans BAe.out (by omega))) (RV.Is.nin (RAf.out.dig DD425.out) (Nat.le_trans BAf.out (by omega))) (by omega)) ?_
    rintro e w424 ⟨rfl, hx⟩
    have H426 := zH (H406.out.step hx)
    have D426 := zH (show Dig w341.drew w424 from Dig.of_ext hx)
    have S428 := zH (show Ext w341 w424 from zb.trans hx)
    clear hx
    refine zm S428.out ?_
    refine zu 19 (bs 21 1048575) (v := .bool false) S428.out ?_ (hv := by intro w hSw; exact ezq (e := (dec_f (fun hh => C1.out (rcmp_eq_i.1 hh)))))
    refine zx 20 (bs 21 2097151) (.bool false) S428.out ?_
    refine wpAnyH_done (by kernel_rfl) ?_ _
    have HLT2 := zH (show e.q < f.q from marks_lt HVAL.out HEe.out HEf.out C1.out)
    have HNS := zH (show ¬ (((e.vl.1, f.vl.1), 0 + psum qs (k + 1)).2 = 0 ∨ ¬ ((e.vl.1, f.vl.1), 0 + psum qs (k + 1)).1.1 < ((e.vl.1, f.vl.1), 0 + psum qs (k + 1)).1.2) from fun h_ => h_.elim (fun h_ => by have h1 := HRN.out; have h2 := C0.out; have h3 : 0 + psum qs (k + 1) = 0 := h_; omega) (fun h_ => h_ HLT2.out))
    rcases lv_snoc es with rfl | ⟨es0, l, rfl⟩
    ·obtain rfl : m = 0 := HM.out.1
     go_upto_region 12 with fail
     refine wp_region_lit ?_
     refine qV (.slice A1 0 c1) ?_
     refine zq (.int .i64 0) ?_
     refine zq (.int .i64 0) ?_
     go_upto_region 13 with fail
     refine zy ?_
     have H434 := zH (H426.out.step (Ext.refl w424).drew)
     have D434 := zH (Dig.of_ext (w := w424) zb)
     refine zx 0 (bs 24 1) (.int .i64 0) zb ?_
     refine zu 1 (bs 24 3) (v := .bool false) zb ?_ (hv := by intro w hSw; exact ezg (e := (dec_f (by omega))))
     refine zx 2 (bs 24 7) (.bool false) zb ?_
     refine zs 3 (bs 24 15) zb ?_
     refine zs 4 (bs 24 31) zb ?_
     refine zs 5 (bs 24 63) zb ?_
     refine zs 6 (bs 24 127) zb ?_
     refine zs 7 (bs 24 255) zb ?_
     refine zs 8 (bs 24 511) zb ?_
     refine zs 9 (bs 24 1023) zb ?_
     refine zs 10 (bs 24 2047) zb ?_
     refine zx 11 (bs 24 4095) (.bool false) zb ?_
     refine zx 12 (bs 24 8191) (.bool false) zb ?_
     refine zs 13 (bs 24 16383) zb ?_
     refine zs 14 (bs 24 32767) zb ?_
     refine zs 15 (bs 24 65535) zb ?_
     refine zs 16 (bs 24 131071) zb ?_
     refine zs 17 (bs 24 262143) zb ?_
     refine zs 18 (bs 24 524287) zb ?_
     refine zs 19 (bs 24 1048575) zb ?_
     refine zs 20 (bs 24 2097151) zb ?_
     refine zs 21 (bs 24 4194303) zb ?_
     refine zs 22 (bs 24 8388607) zb ?_
     refine zx 23 (bs 24 16777215) (.bool false) zb ?_
     refine wpAnyH_done (by kernel_rfl) ?_ _
     go_upto_region 15 with fail
     refine wp_region_held_drew (S := fun x => Fr (fun kz => Value.ownBlock (.slice A1 0 c1) = some kz) w424.drew x) (by kernel_rfl) (Fr.of_ext zb) (fun _ => ?_)
     have H442 := zH (H434.out.step (Ext.refl w424.drew).drew)
     have D442 := zH (show Dig w424.drew w424.drew.drew from Dig.of_ext (Ext.refl w424.drew).drew)
     refine zx 0 (bs 15 1) (.slice A1 0 c1) (Fr.of_ext zb) ?_
     refine mX 1 (bs 15 3) (.pointer (some ⟨X335, 0, none⟩)) (Fr.of_ext zb) ?_
     refine zr 2 (bs 15 7) X335 (0) [.bool e.a.n, .slice e.a.p e.a.l e.a.c, .bool e.a.m, .slice e.a.p2 e.a.l2 e.a.c2] (fun x hx => Fr.range hx (show World.rangeAt w424.drew X335 (0) [.bool e.a.n, .slice e.a.p e.a.l e.a.c, .bool e.a.m, .slice e.a.p2 e.a.l2 e.a.c2] from (H434.out.range (i := 4) (by rfl) 0 4)) (H434.out.offRow (i := 4) (j := 1) (by rfl) (by rfl) (by decide) (by rfl))) Tryz.underlying27 (Fr.of_ext zb) ?_
     refine zx 4 (bs 15 23) (.slice (some ⟨gm, 0, none⟩) ms.length cm) (Fr.of_ext zb) ?_
     refine zx 5 (bs 15 55) (.int .i64 (k : Int)) (Fr.of_ext zb) ?_
     refine zu 6 (bs 15 119) (v := .int .i64 ((k + 1 : Nat) : Int)) (Fr.of_ext zb) ?_ (hv := by intro w hSw; exact ez1 (by omega))
     refine zu 7 (bs 15 247) (v := .pointer (some ⟨gm, (k + 1) * 5, none⟩)) (Fr.of_ext zb) ?_ (hv := by intro w hSw; exact ezi (k := k + 1) Tryz.underlying56 (l := hk1) (f := (Nat.zero_add _).symm))
     refine mX 8 (bs 15 503) (.pointer (some ⟨gm, (k + 1) * 5, none⟩)) (Fr.of_ext zb) ?_
     refine zr 9 (bs 15 1015) gm ((k + 1) * 5) [.bool f.a.n, .slice f.a.p f.a.l f.a.c, .bool f.a.m, .slice f.a.p2 f.a.l2 f.a.c2] (fun x hx => Fr.range hx (show World.rangeAt w424.drew gm ((k + 1) * 5) [.bool f.a.n, .slice f.a.p f.a.l f.a.c, .bool f.a.m, .slice f.a.p2 f.a.l2 f.a.c2] from (range_part (H434.out.elem (f := MkE.cells) (i := 3) (by rfl) MkE.len HEf.out) 0 4)) (H434.out.offRow (i := 3) (j := 1) (by rfl) (by rfl) (by decide) (by rfl))) Tryz.underlying27 (Fr.of_ext zb) ?_
     have DD453 := zH ((((DD425.out.trans D426.out).trans D434.out).trans D442.out))
     refine mC 3 (bs 15 1023) (pNorm (L := 60000) (RV.Is.nin (RAe.out.dig DD453.out) (Nat.le_trans BAe.out (by omega))) (by omega)) ?_
     rintro e w451 ⟨c_, rfl, hc_, hx⟩
     have H454 := zH (H442.out.step hx)
     have D454 := zH (show Dig w424.drew.drew w451 from Dig.of_ext hx)
     have S457 := zH (show Fr (fun kz => Value.ownBlock (.slice A1 0 c1) = some kz) w424.drew w451 from (Fr.of_ext zb).trans (Fr.of_ext hx))
     obtain ⟨r452, rfl, hr_⟩ := hc_
     have R452 := zH hr_
     have B452 := zH BAe.out
     clear hr_
     clear hx
     refine zm S457.out ?_
     have DD460 := zH ((DD453.out.trans D454.out))
     refine mC 10 (bs 15 2047) (pNorm (L := 60000) (RV.Is.nin (RAf.out.dig DD460.out) (Nat.le_trans BAf.out (by omega))) (by omega)) ?_
     rintro e w458 ⟨c_, rfl, hc_, hx⟩
     have H461 := zH (H454.out.step hx)
     have D461 := zH (Dig.of_ext hx)
     have S464 := zH (show Fr (fun kz => Value.ownBlock (.slice A1 0 c1) = some kz) w424.drew w458 from S457.out.trans (Fr.of_ext hx))
     obtain ⟨r459, rfl, hr_⟩ := hc_
     have R459 := zH hr_
     have B459 := zH BAf.out
     clear hr_
     clear hx
     refine zm S464.out ?_
     refine zx 11 (bs 15 4095) (.agg #[.bool r452.n, .slice r452.p r452.l r452.c, .bool r452.m, .slice r452.p2 r452.l2 r452.c2, .bool r459.n, .slice r459.p r459.l r459.c, .bool r459.m, .slice r459.p2 r459.l2 r459.c2]) S464.out ?_
     refine mU 12 (bs 15 8191) (v := .slice (some ⟨w458.heap.size, 0, none⟩) 1 1) (w' := (w458.alloc (.cells ([.bool r452.n, .slice r452.p r452.l r452.c, .bool r452.m, .slice r452.p2 r452.l2 r452.c2, .bool r459.n, .slice r459.p r459.l r459.c, .bool r459.m, .slice r459.p2 r459.l2 r459.c2] : List Value).toArray 39))) (S464.out.trans (Fr.of_ext ((Ext.refl w458).alloc _))) ?_
     try simp only [Act.put, zA, zB, zC]
     refine md_app (j := 13) (listed' := (bs 15 16383)) (by rfl) (by kernel_rfl) (by rfl) _ _ _ (by rfl) elSpan (by rfl) H461.out (ix := 1) (by rfl) 1 1 [.bool r452.n, .slice r452.p r452.l r452.c, .bool r452.m, .slice r452.p2 r452.l2 r452.c2, .bool r459.n, .slice r459.p r459.l r459.c, .bool r459.m, .slice r459.p2 r459.l2 r459.c2] (by rfl) rfl (by simp [Value.oneCell']) (by simp [NoUL]) (by decide) (by unfold maxLen; exact (by omega)) (by omega) (by kernel_rfl) ?_
     intro g467 cp468 w466 hf hh hd hg
     have Fg467 := zH hf
     clear hf
     rw [show List.flatMap LvE.cs ([]) ++ [.bool r452.n, .slice r452.p r452.l r452.c, .bool r452.m, .slice r452.p2 r452.l2 r452.c2, .bool r459.n, .slice r459.p r459.l r459.c, .bool r459.m, .slice r459.p2 r459.l2 r459.c2] = _ from flat_snoc LvE.cs _ (⟨r452, r459, e.q, f.q, -(s + e.up)⟩ : LvE)] at hh
     have H469 := zH (show Hp w w466 [.blk X297 27 (rc ry), ro 39 8 (some ⟨g467, 0, none⟩) 1 cp468 LvE.cs (([]) ++ [(⟨r452, r459, e.q, f.q, -(s + e.up)⟩ : LvE)]), ro 3 1 A2 0 c2 LvE.cn ([]), ro 59 5 (some ⟨gm, 0, none⟩) ms.length cm MkE.cells ms, .blk X335 59 [.bool e.a.n, .slice e.a.p e.a.l e.a.c, .bool e.a.m, .slice e.a.p2 e.a.l2 e.a.c2, .int .i64 e.up]] from hh)
     have D469 := zH (hd)
     have S471 := zH (show Fr (fun kz => Value.ownBlock (.slice A1 0 c1) = some kz) w424.drew w466 from Fr.trans_new (S464.out.trans (Fr.of_ext ((Ext.refl _).alloc _))) hg (fun j hj => .inl hj))
     clear hh hd hg
     refine ⟨S471.out, ?_⟩
     try simp only [Act.put, zA, zB, zC]
     refine zx 14 (bs 15 32767) (.slice (some ⟨g467, 0, none⟩) 1 cp468) S471.out ?_
     refine wpAnyH_done (by kernel_rfl) ?_ _
     go_upto_region 16 with fail
     refine wp_region_lit ?_
     refine qV (.slice A2 0 c2) ?_
     refine zq (.int .i64 (s + e.up)) ?_
     refine zp (w' := w466) (.int .i64 (-(s + e.up))) (by exact ev_neg (by rfl) (by rfl) rfl (by omega) (by omega)) ?_
     refine zp (w' := (w466.alloc (.cells ([.int .i64 (-(s + e.up))] : List Value).toArray 3))) (.slice (some ⟨w466.heap.size, 0, none⟩) 1 1) (by go_simp) ?_
     refine mv_app (by rfl) _ _ _ (by rfl) elInt (by rfl) H469.out (ix := 2) (by rfl) 1 1 [.int .i64 (-(s + e.up))] (by rfl) rfl (by simp [Value.oneCell']) (by simp [NoUL]) (by decide) (by unfold maxLen; exact (by omega)) (by omega) ?_
     intro g477 cp478 w476 hf hh hd hg
     have Fg477 := zH hf
     clear hf
     rw [show List.flatMap LvE.cn ([]) ++ [.int .i64 (-(s + e.up))] = _ from flat_snoc LvE.cn _ (⟨r452, r459, e.q, f.q, -(s + e.up)⟩ : LvE)] at hh
     have H479 := zH (show Hp w w476 [.blk X297 27 (rc ry), ro 39 8 (some ⟨g467, 0, none⟩) 1 cp468 LvE.cs (([]) ++ [(⟨r452, r459, e.q, f.q, -(s + e.up)⟩ : LvE)]), ro 3 1 (some ⟨g477, 0, none⟩) 1 cp478 LvE.cn (([]) ++ [(⟨r452, r459, e.q, f.q, -(s + e.up)⟩ : LvE)]), ro 59 5 (some ⟨gm, 0, none⟩) ms.length cm MkE.cells ms, .blk X335 59 [.bool e.a.n, .slice e.a.p e.a.l e.a.c, .bool e.a.m, .slice e.a.p2 e.a.l2 e.a.c2, .int .i64 e.up]] from hh)
     have D479 := zH (hd)
     clear hh hd hg
     try simp only [Act.put, zA, zB, zC]
     refine zq (.slice (some ⟨g477, 0, none⟩) 1 cp478) ?_
     have DD482 := zH ((((((((((D337.out.trans D342.out).trans D406.out).trans D426.out).trans D434.out).trans D442.out).trans D454.out).trans D461.out).trans D469.out).trans D479.out))
     have DD483 := zH (((D461.out.trans D469.out).trans D479.out))
     have DD484 := zH ((D469.out.trans D479.out))
     have HOKN := zH (show LvE.Ok (L + 8) w476 (⟨r452, r459, e.q, f.q, -(s + e.up)⟩ : LvE) from ⟨(R452.out.dig DD483.out), (R459.out.dig DD484.out), B452.out, B459.out, (by have h_ := HS2.out; show -100000 ≤ -(s + e.up); omega), (by have h_ := HS2.out; show -(s + e.up) ≤ 100000; omega)⟩)
     have DD485 := zH ((((DD460.out.trans D461.out).trans D469.out).trans D479.out))
     go_wp2_with fail
     go_roundg (ms.length - (k + 1))
     case measure => exact (by omega)
     case rel => exact ⟨k + 1, 1, [] ++ [(⟨r452, r459, e.q, f.q, -(s + e.up)⟩ : LvE)], some ⟨g467, 0, none⟩, cp468, some ⟨g477, 0, none⟩, cp478, s + e.up, rfl, rfl, rfl, (by first | rfl | (congr 1)), (by go_num), hk0, HPN.out, (by have h_ := HS2.out; constructor <;> omega), ⟨by simp, by have := HM.out.2; omega⟩, (by rw [lv_take HRG.out, ← HLV.out]; refine Eq.trans ?_ (lvstep_nil HNS.out).symm; show [((e.q, f.q), -(s + e.up))] = [((e.q, f.q), -(0 + psum qs (k + 1)))]; rw [HRN.out]), (fun g_ hg_ => (List.mem_append.1 hg_).elim (fun hg_ => (HOE.out g_ hg_).dig DD482.out) (fun hg_ => by rw [List.mem_singleton.1 hg_]; exact HOKN.out)), H479.out.take 4, DD485.out⟩
    obtain rfl : m = es0.length + 1 := by have h_ := HM.out.1; simpa using h_
    have hml2 := HM.out.2
    obtain ⟨Ax_, cx_, hv_, hA_⟩ := RowN.form (H426.out.row (i := 1) (by rfl))
    injection hv_ with e1_ e2_ e3_
    subst e1_ e3_
    obtain ⟨gs, rfl⟩ := hA_ (by omega)
    clear e2_
    obtain ⟨Ax_, cx_, hv_, hA_⟩ := RowN.form (H426.out.row (i := 2) (by rfl))
    injection hv_ with e1_ e2_ e3_
    subst e1_ e3_
    obtain ⟨gn, rfl⟩ := hA_ (by omega)
    clear e2_
    have HOl := zH (HOE.out l (by simp))
    have RAl := zH HOl.out.1
    have RBl := zH HOl.out.2.1
    have BAl := zH HOl.out.2.2.1
    have BBl := zH HOl.out.2.2.2.1
    have HEl := zH (show (es0 ++ [l])[es0.length]? = some l by simp)
    have hml2 := HM.out.2
    go_upto_region 12 with fail
    refine wp_region_lit ?_
    refine qV (.slice (some ⟨gs, 0, none⟩) (es0.length + 1) c1) ?_
    refine zq (.int .i64 ((es0.length + 1 : Nat) : Int)) ?_
    refine zq (.int .i64 ((es0.length + 1 : Nat) : Int)) ?_
    by_cases c489 : l.n = -(s + e.up)
    ·have CA := zH c489
     clear c489
     by_cases c490 : l.q = e.q
     ·have CB := zH c490
      clear c490
      have CL := zH (And.intro CA.out CB.out)
      go_upto_region 13 with fail
      refine zy ?_
      have H491 := zH (H426.out.step (Ext.refl w424).drew)
      have D491 := zH (Dig.of_ext (w := w424) zb)
      refine zx 0 (bs 24 1) (.int .i64 ((es0.length + 1 : Nat) : Int)) zb ?_
      refine zu 1 (bs 24 3) (v := .bool true) zb ?_ (hv := by intro w hSw; exact ezg (e := (dec_t (by omega))))
      refine zx 2 (bs 24 7) (.bool true) zb ?_
      refine zx 3 (bs 24 15) (.slice (some ⟨gn, 0, none⟩) (es0.length + 1) c2) zb ?_
      refine zx 4 (bs 24 31) (.int .i64 ((es0.length + 1 : Nat) : Int)) zb ?_
      refine zu 5 (bs 24 63) (v := .int .i64 ((es0.length : Nat) : Int)) zb ?_ (hv := by intro w hSw; exact ez2 (by omega))
      refine zu 6 (bs 24 127) (v := .pointer (some ⟨gn, es0.length * 1, none⟩)) zb ?_ (hv := by intro w hSw; exact ezi (k := es0.length) Tryz.underlying32 (l := (by omega)) (f := (Nat.zero_add _).symm))
      refine zf 7 (bs 24 255) gn (es0.length * 1) (.int .i64 l.n) (H426.out.elem (f := LvE.cn) (i := 2) (by rfl) LvE.cn_len HEl.out) zb ?_
      refine zx 8 (bs 24 511) (.int .i64 (s + e.up)) zb ?_
      refine zu 9 (bs 24 1023) (v := .int .i64 (-(s + e.up))) zb ?_ (hv := by intro w hSw; exact ev_neg (by rfl) (by rfl) rfl (by omega) (by omega))
      refine zu 10 (bs 24 2047) (v := .bool true) zb ?_ (hv := by intro w hSw; exact ezq (e := (dec_t CA.out)))
      refine zx 11 (bs 24 4095) (.bool true) zb ?_
      refine zx 12 (bs 24 8191) (.bool true) zb ?_
      refine zx 13 (bs 24 16383) (.slice (some ⟨gs, 0, none⟩) (es0.length + 1) c1) zb ?_
      refine zx 14 (bs 24 32767) (.int .i64 ((es0.length + 1 : Nat) : Int)) zb ?_
      refine zu 15 (bs 24 65535) (v := .int .i64 ((es0.length : Nat) : Int)) zb ?_ (hv := by intro w hSw; exact ez2 (by omega))
      refine zu 16 (bs 24 131071) (v := .pointer (some ⟨gs, es0.length * 8, none⟩)) zb ?_ (hv := by intro w hSw; exact ezi (k := es0.length) Tryz.underlying31 (l := (by omega)) (f := (Nat.zero_add _).symm))
      refine mX 17 (bs 24 262143) (.pointer (some ⟨gs, es0.length * 8 + 4, none⟩)) zb ?_
      refine zg 18 (bs 24 524287) gs (es0.length * 8 + 4) (rc l.b) (range_part (H426.out.elem (f := LvE.cs) (i := 1) (by rfl) LvE.cs_len HEl.out) 4 4) Tryz.underlying27 zb ?_
      refine mX 19 (bs 24 1048575) (.pointer (some ⟨X335, 0, none⟩)) zb ?_
      refine zg 20 (bs 24 2097151) X335 (0) (rc e.a) (H426.out.range (i := 4) (by rfl) 0 4) Tryz.underlying27 zb ?_
      have DD512 := zH (((((D337.out.trans D342.out).trans D406.out).trans D426.out).trans D491.out))
      have DD513 := zH (((DD425.out.trans D426.out).trans D491.out))
      refine mC 21 (bs 24 4194303) (pCmp (L := 60000) (RV.Is.nin (RBl.out.dig DD512.out) (Nat.le_trans BBl.out (by omega))) (RV.Is.nin (RAe.out.dig DD513.out) (Nat.le_trans BAe.out (by omega))) (by omega)) ?_
      rintro e w511 ⟨rfl, hx⟩
      have H514 := zH (H491.out.step hx)
      have D514 := zH (show Dig w424.drew w511 from Dig.of_ext hx)
      have S516 := zH (show Ext w424 w511 from zb.trans hx)
      clear hx
      refine zm S516.out ?_
      refine zu 22 (bs 24 8388607) (v := .bool true) S516.out ?_ (hv := by intro w hSw; exact ezq (e := (dec_t (rcmp_eq_i.2 CB.out))))
      refine zx 23 (bs 24 16777215) (.bool true) S516.out ?_
      refine wpAnyH_done (by kernel_rfl) ?_ _
      go_upto_region 14 with fail
      refine wp_region_lit ?_
      refine qV (.slice (some ⟨gs, 0, none⟩) (es0.length + 1) c1) ?_
      refine zq (.int .i64 ((es0.length + 1 : Nat) : Int)) ?_
      refine zp (w' := w511) (.int .i64 ((es0.length : Nat) : Int)) (by exact ez2 (by omega)) ?_
      refine qV (.slice (some ⟨gm, 0, none⟩) ms.length cm) ?_
      refine zq (.int .i64 (k : Int)) ?_
      refine zp (w' := w511) (.int .i64 ((k + 1 : Nat) : Int)) (by exact ez1 (by omega)) ?_
      refine zp (w' := w511) (.pointer (some ⟨gm, (k + 1) * 5, none⟩)) (by exact ezi (k := k + 1) Tryz.underlying56 (l := hk1) (f := (Nat.zero_add _).symm)) ?_
      refine qV (.pointer (some ⟨gm, (k + 1) * 5, none⟩)) ?_
      refine zd gm ((k + 1) * 5) (rc f.a) (range_part (H514.out.elem (f := MkE.cells) (i := 3) (by rfl) MkE.len HEf.out) 0 4) Tryz.underlying27 ?_
      have DD529 := zH ((DD513.out.trans D514.out))
      refine zc (pNorm (L := 60000) (RV.Is.nin (RAf.out.dig DD529.out) (Nat.le_trans BAf.out (by omega))) (by omega)) ?_
      rintro e w527 ⟨c_, rfl, hc_, hx⟩
      have H530 := zH (H514.out.step hx)
      have D530 := zH (Dig.of_ext hx)
      obtain ⟨r528, rfl, hr_⟩ := hc_
      have R528 := zH hr_
      have B528 := zH BAf.out
      clear hr_
      clear hx
      refine zn ?_
      refine zp (w' := w527) (.pointer (some ⟨gs, es0.length * 8, none⟩)) (by exact ezi (k := es0.length) Tryz.underlying31 (l := (by omega)) (f := (Nat.zero_add _).symm)) ?_
      refine zq (.pointer (some ⟨gs, es0.length * 8 + 4, none⟩)) ?_
      refine mv_stPart (f := LvE.cs) (by rfl) _ _ _ (by rfl) H530.out (ix := 1) (by rfl) LvE.cs_len es0.length l (⟨l.a, r528, l.p, f.q, l.n⟩ : LvE) HEl.out 4 [.bool r528.n, .slice r528.p r528.l r528.c, .bool r528.m, .slice r528.p2 r528.l2 r528.c2] (by simp) (by rfl) (es0.length * 8 + 4) (by rfl) (by rfl) (by rfl) (by kernel_rfl) (by simp [Value.oneCell']) (by simp [NoUL]) ?_
      intro w535 hh hd ho
      have H536 := zH (show Hp w w535 [.blk X297 27 (rc ry), ro 39 8 (some ⟨gs, 0, none⟩) (es0.length + 1) c1 LvE.cs ((es0 ++ [l]).set es0.length (⟨l.a, r528, l.p, f.q, l.n⟩ : LvE)), ro 3 1 (some ⟨gn, 0, none⟩) (es0.length + 1) c2 LvE.cn (es0 ++ [l]), ro 59 5 (some ⟨gm, 0, none⟩) ms.length cm MkE.cells ms, .blk X335 59 [.bool e.a.n, .slice e.a.p e.a.l e.a.c, .bool e.a.m, .slice e.a.p2 e.a.l2 e.a.c2, .int .i64 e.up]] from hh)
      have D536 := zH (hd)
      clear hh hd ho
      (try simp only [Act.put])
      have H538 := zH (show Hp w w535 [.blk X297 27 (rc ry), ro 39 8 (some ⟨gs, 0, none⟩) (es0.length + 1) c1 LvE.cs (es0 ++ [(⟨l.a, r528, l.p, f.q, l.n⟩ : LvE)]), ro 3 1 (some ⟨gn, 0, none⟩) (es0.length + 1) c2 LvE.cn (es0 ++ [(⟨l.a, r528, l.p, f.q, l.n⟩ : LvE)]), ro 59 5 (some ⟨gm, 0, none⟩) ms.length cm MkE.cells ms, .blk X335 59 [.bool e.a.n, .slice e.a.p e.a.l e.a.c, .bool e.a.m, .slice e.a.p2 e.a.l2 e.a.c2, .int .i64 e.up]] from by have h_ : Hp w w535 [.blk X297 27 [.bool ry.n, .slice ry.p ry.l ry.c, .bool ry.m, .slice ry.p2 ry.l2 ry.c2], .row 39 8 (.slice (some ⟨gs, 0, none⟩) (es0.length + 1) c1) (es0.length + 1) (List.flatMap LvE.cs ((es0 ++ [l]).set es0.length (⟨l.a, r528, l.p, f.q, l.n⟩ : LvE))), .row 3 1 (.slice (some ⟨gn, 0, none⟩) (es0.length + 1) c2) (es0.length + 1) (List.flatMap LvE.cn (es0 ++ [l])), .row 59 5 (.slice (some ⟨gm, 0, none⟩) ms.length cm) (ms.length) (List.flatMap MkE.cells ms), .blk X335 59 [.bool e.a.n, .slice e.a.p e.a.l e.a.c, .bool e.a.m, .slice e.a.p2 e.a.l2 e.a.c2, .int .i64 e.up]] := H536.out; rw [lv_setlast, lv_cnset (l := l) (z := (⟨l.a, r528, l.p, f.q, l.n⟩ : LvE)) rfl] at h_; exact h_)
      have DD539 := zH ((((DD512.out.trans D514.out).trans D530.out).trans D536.out))
      have HOKN := zH (show LvE.Ok (L + 8) w535 (⟨l.a, r528, l.p, f.q, l.n⟩ : LvE) from ⟨(RAl.out.dig DD539.out), (R528.out.dig D536.out), BAl.out, B528.out, HOl.out.2.2.2.2.1, HOl.out.2.2.2.2.2⟩)
      have DD540 := zH (((DD529.out.trans D530.out).trans D536.out))
      go_wp2_with fail
      go_roundg (ms.length - (k + 1))
      case measure => exact (by omega)
      case rel => exact ⟨k + 1, es0.length + 1, es0 ++ [(⟨l.a, r528, l.p, f.q, l.n⟩ : LvE)], some ⟨gs, 0, none⟩, c1, some ⟨gn, 0, none⟩, c2, s + e.up, rfl, rfl, rfl, (by first | rfl | (congr 1)), (by go_num), hk0, HPN.out, (by have h_ := HS2.out; constructor <;> omega), ⟨by simp, by have := HM.out.2; omega⟩, (by rw [lv_take HRG.out, ← HLV.out, List.map_append, List.map_append]; exact (lvstep_grow (l := l.vl) (r := ((e.vl.1, f.vl.1), 0 + psum qs (k + 1))) HNS.out ⟨CL.out.1.trans HRN.out.symm, CL.out.2⟩).symm), (fun g_ hg_ => (List.mem_append.1 hg_).elim (fun hg_ => (HOE.out g_ (List.mem_append.2 (.inl hg_))).dig DD539.out) (fun hg_ => by rw [List.mem_singleton.1 hg_]; exact HOKN.out)), H538.out.take 4, DD540.out⟩
     have CB := zH c490
     clear c490
     have CL := zH (show ¬ (l.n = -(s + e.up) ∧ l.q = e.q) from fun h_ => CB.out h_.2)
     go_upto_region 13 with fail
     refine zy ?_
     have H541 := zH (H426.out.step (Ext.refl w424).drew)
     have D541 := zH (Dig.of_ext (w := w424) zb)
     refine zx 0 (bs 24 1) (.int .i64 ((es0.length + 1 : Nat) : Int)) zb ?_
     refine zu 1 (bs 24 3) (v := .bool true) zb ?_ (hv := by intro w hSw; exact ezg (e := (dec_t (by omega))))
     refine zx 2 (bs 24 7) (.bool true) zb ?_
     refine zx 3 (bs 24 15) (.slice (some ⟨gn, 0, none⟩) (es0.length + 1) c2) zb ?_
     refine zx 4 (bs 24 31) (.int .i64 ((es0.length + 1 : Nat) : Int)) zb ?_
     refine zu 5 (bs 24 63) (v := .int .i64 ((es0.length : Nat) : Int)) zb ?_ (hv := by intro w hSw; exact ez2 (by omega))
     refine zu 6 (bs 24 127) (v := .pointer (some ⟨gn, es0.length * 1, none⟩)) zb ?_ (hv := by intro w hSw; exact ezi (k := es0.length) Tryz.underlying32 (l := (by omega)) (f := (Nat.zero_add _).symm))
     refine zf 7 (bs 24 255) gn (es0.length * 1) (.int .i64 l.n) (H426.out.elem (f := LvE.cn) (i := 2) (by rfl) LvE.cn_len HEl.out) zb ?_
     refine zx 8 (bs 24 511) (.int .i64 (s + e.up)) zb ?_
     refine zu 9 (bs 24 1023) (v := .int .i64 (-(s + e.up))) zb ?_ (hv := by intro w hSw; exact ev_neg (by rfl) (by rfl) rfl (by omega) (by omega))
     refine zu 10 (bs 24 2047) (v := .bool true) zb ?_ (hv := by intro w hSw; exact ezq (e := (dec_t CA.out)))
     refine zx 11 (bs 24 4095) (.bool true) zb ?_
     refine zx 12 (bs 24 8191) (.bool true) zb ?_
     refine zx 13 (bs 24 16383) (.slice (some ⟨gs, 0, none⟩) (es0.length + 1) c1) zb ?_
     refine zx 14 (bs 24 32767) (.int .i64 ((es0.length + 1 : Nat) : Int)) zb ?_
     refine zu 15 (bs 24 65535) (v := .int .i64 ((es0.length : Nat) : Int)) zb ?_ (hv := by intro w hSw; exact ez2 (by omega))
     refine zu 16 (bs 24 131071) (v := .pointer (some ⟨gs, es0.length * 8, none⟩)) zb ?_ (hv := by intro w hSw; exact ezi (k := es0.length) Tryz.underlying31 (l := (by omega)) (f := (Nat.zero_add _).symm))
     refine mX 17 (bs 24 262143) (.pointer (some ⟨gs, es0.length * 8 + 4, none⟩)) zb ?_
     refine zg 18 (bs 24 524287) gs (es0.length * 8 + 4) (rc l.b) (range_part (H426.out.elem (f := LvE.cs) (i := 1) (by rfl) LvE.cs_len HEl.out) 4 4) Tryz.underlying27 zb ?_
     refine mX 19 (bs 24 1048575) (.pointer (some ⟨X335, 0, none⟩)) zb ?_
     refine zg 20 (bs 24 2097151) X335 (0) (rc e.a) (H426.out.range (i := 4) (by rfl) 0 4) Tryz.underlying27 zb ?_
     have DD562 := zH (((((D337.out.trans D342.out).trans D406.out).trans D426.out).trans D541.out))
     have DD563 := zH (((DD425.out.trans D426.out).trans D541.out))
     refine mC 21 (bs 24 4194303) (pCmp (L := 60000) (RV.Is.nin (RBl.out.dig DD562.out) (Nat.le_trans BBl.out (by omega))) (RV.Is.nin (RAe.out.dig DD563.out) (Nat.le_trans BAe.out (by omega))) (by omega)) ?_
     rintro e w561 ⟨rfl, hx⟩
     have H564 := zH (H541.out.step hx)
     have D564 := zH (show Dig w424.drew w561 from Dig.of_ext hx)
     have S566 := zH (show Ext w424 w561 from zb.trans hx)
     clear hx
     refine zm S566.out ?_
     refine zu 22 (bs 24 8388607) (v := .bool false) S566.out ?_ (hv := by intro w hSw; exact ezq (e := (dec_f (fun hh => CB.out (rcmp_eq_i.1 hh)))))
     refine zx 23 (bs 24 16777215) (.bool false) S566.out ?_
     refine wpAnyH_done (by kernel_rfl) ?_ _
     go_upto_region 15 with fail
     refine wp_region_held_drew (S := fun x => Fr (fun kz => Value.ownBlock (.slice (some ⟨gs, 0, none⟩) (es0.length + 1) c1) = some kz) w561 x) (by kernel_rfl) (Fr.of_ext zb) (fun _ => ?_)
     have H569 := zH (H564.out.step (Ext.refl w561).drew)
     have D569 := zH (Dig.of_ext (w := w561) zb)
     refine zx 0 (bs 15 1) (.slice (some ⟨gs, 0, none⟩) (es0.length + 1) c1) (Fr.of_ext zb) ?_
     refine mX 1 (bs 15 3) (.pointer (some ⟨X335, 0, none⟩)) (Fr.of_ext zb) ?_
     refine zr 2 (bs 15 7) X335 (0) [.bool e.a.n, .slice e.a.p e.a.l e.a.c, .bool e.a.m, .slice e.a.p2 e.a.l2 e.a.c2] (fun x hx => Fr.range hx (show World.rangeAt w561 X335 (0) [.bool e.a.n, .slice e.a.p e.a.l e.a.c, .bool e.a.m, .slice e.a.p2 e.a.l2 e.a.c2] from (H564.out.range (i := 4) (by rfl) 0 4)) (H564.out.offRow (i := 4) (j := 1) (by rfl) (by rfl) (by decide) (by rfl))) Tryz.underlying27 (Fr.of_ext zb) ?_
     refine zx 4 (bs 15 23) (.slice (some ⟨gm, 0, none⟩) ms.length cm) (Fr.of_ext zb) ?_
     refine zx 5 (bs 15 55) (.int .i64 (k : Int)) (Fr.of_ext zb) ?_
     refine zu 6 (bs 15 119) (v := .int .i64 ((k + 1 : Nat) : Int)) (Fr.of_ext zb) ?_ (hv := by intro w hSw; exact ez1 (by omega))
     refine zu 7 (bs 15 247) (v := .pointer (some ⟨gm, (k + 1) * 5, none⟩)) (Fr.of_ext zb) ?_ (hv := by intro w hSw; exact ezi (k := k + 1) Tryz.underlying56 (l := hk1) (f := (Nat.zero_add _).symm))
     refine mX 8 (bs 15 503) (.pointer (some ⟨gm, (k + 1) * 5, none⟩)) (Fr.of_ext zb) ?_
     refine zr 9 (bs 15 1015) gm ((k + 1) * 5) [.bool f.a.n, .slice f.a.p f.a.l f.a.c, .bool f.a.m, .slice f.a.p2 f.a.l2 f.a.c2] (fun x hx => Fr.range hx (show World.rangeAt w561 gm ((k + 1) * 5) [.bool f.a.n, .slice f.a.p f.a.l f.a.c, .bool f.a.m, .slice f.a.p2 f.a.l2 f.a.c2] from (range_part (H564.out.elem (f := MkE.cells) (i := 3) (by rfl) MkE.len HEf.out) 0 4)) (H564.out.offRow (i := 3) (j := 1) (by rfl) (by rfl) (by decide) (by rfl))) Tryz.underlying27 (Fr.of_ext zb) ?_
     have DD580 := zH (((DD563.out.trans D564.out).trans D569.out))
     refine mC 3 (bs 15 1023) (pNorm (L := 60000) (RV.Is.nin (RAe.out.dig DD580.out) (Nat.le_trans BAe.out (by omega))) (by omega)) ?_
     rintro e w578 ⟨c_, rfl, hc_, hx⟩
     have H581 := zH (H569.out.step hx)
     have D581 := zH (show Dig w561.drew w578 from Dig.of_ext hx)
     have S584 := zH (show Fr (fun kz => Value.ownBlock (.slice (some ⟨gs, 0, none⟩) (es0.length + 1) c1) = some kz) w561 w578 from (Fr.of_ext zb).trans (Fr.of_ext hx))
     obtain ⟨r579, rfl, hr_⟩ := hc_
     have R579 := zH hr_
     have B579 := zH BAe.out
     clear hr_
     clear hx
     refine zm S584.out ?_
     have DD587 := zH ((DD580.out.trans D581.out))
     refine mC 10 (bs 15 2047) (pNorm (L := 60000) (RV.Is.nin (RAf.out.dig DD587.out) (Nat.le_trans BAf.out (by omega))) (by omega)) ?_
     rintro e w585 ⟨c_, rfl, hc_, hx⟩
     have H588 := zH (H581.out.step hx)
     have D588 := zH (Dig.of_ext hx)
     have S591 := zH (show Fr (fun kz => Value.ownBlock (.slice (some ⟨gs, 0, none⟩) (es0.length + 1) c1) = some kz) w561 w585 from S584.out.trans (Fr.of_ext hx))
     obtain ⟨r586, rfl, hr_⟩ := hc_
     have R586 := zH hr_
     have B586 := zH BAf.out
     clear hr_
     clear hx
     refine zm S591.out ?_
     refine zx 11 (bs 15 4095) (.agg #[.bool r579.n, .slice r579.p r579.l r579.c, .bool r579.m, .slice r579.p2 r579.l2 r579.c2, .bool r586.n, .slice r586.p r586.l r586.c, .bool r586.m, .slice r586.p2 r586.l2 r586.c2]) S591.out ?_
     refine mU 12 (bs 15 8191) (v := .slice (some ⟨w585.heap.size, 0, none⟩) 1 1) (w' := (w585.alloc (.cells ([.bool r579.n, .slice r579.p r579.l r579.c, .bool r579.m, .slice r579.p2 r579.l2 r579.c2, .bool r586.n, .slice r586.p r586.l r586.c, .bool r586.m, .slice r586.p2 r586.l2 r586.c2] : List Value).toArray 39))) (S591.out.trans (Fr.of_ext ((Ext.refl w585).alloc _))) ?_
     try simp only [Act.put, zA, zB, zC]
     refine md_app (j := 13) (listed' := (bs 15 16383)) (by rfl) (by kernel_rfl) (by rfl) _ _ _ (by rfl) elSpan (by rfl) H588.out (ix := 1) (by rfl) 1 1 [.bool r579.n, .slice r579.p r579.l r579.c, .bool r579.m, .slice r579.p2 r579.l2 r579.c2, .bool r586.n, .slice r586.p r586.l r586.c, .bool r586.m, .slice r586.p2 r586.l2 r586.c2] (by rfl) rfl (by simp [Value.oneCell']) (by simp [NoUL]) (by decide) (by unfold maxLen; exact (by omega)) (by omega) (by kernel_rfl) ?_
     intro g594 cp595 w593 hf hh hd hg
     have Fg594 := zH hf
     clear hf
     rw [show List.flatMap LvE.cs (es0 ++ [l]) ++ [.bool r579.n, .slice r579.p r579.l r579.c, .bool r579.m, .slice r579.p2 r579.l2 r579.c2, .bool r586.n, .slice r586.p r586.l r586.c, .bool r586.m, .slice r586.p2 r586.l2 r586.c2] = _ from flat_snoc LvE.cs _ (⟨r579, r586, e.q, f.q, -(s + e.up)⟩ : LvE)] at hh
     have H596 := zH (show Hp w w593 [.blk X297 27 (rc ry), ro 39 8 (some ⟨g594, 0, none⟩) (es0.length + 2) cp595 LvE.cs ((es0 ++ [l]) ++ [(⟨r579, r586, e.q, f.q, -(s + e.up)⟩ : LvE)]), ro 3 1 (some ⟨gn, 0, none⟩) (es0.length + 1) c2 LvE.cn (es0 ++ [l]), ro 59 5 (some ⟨gm, 0, none⟩) ms.length cm MkE.cells ms, .blk X335 59 [.bool e.a.n, .slice e.a.p e.a.l e.a.c, .bool e.a.m, .slice e.a.p2 e.a.l2 e.a.c2, .int .i64 e.up]] from hh)
     have D596 := zH (hd)
     have S598 := zH (show Fr (fun kz => Value.ownBlock (.slice (some ⟨gs, 0, none⟩) (es0.length + 1) c1) = some kz) w561 w593 from Fr.trans_new (S591.out.trans (Fr.of_ext ((Ext.refl _).alloc _))) hg (fun j hj => .inl hj))
     clear hh hd hg
     refine ⟨S598.out, ?_⟩
     try simp only [Act.put, zA, zB, zC]
     refine zx 14 (bs 15 32767) (.slice (some ⟨g594, 0, none⟩) (es0.length + 2) cp595) S598.out ?_
     refine wpAnyH_done (by kernel_rfl) ?_ _
     go_upto_region 16 with fail
     refine wp_region_lit ?_
     refine qV (.slice (some ⟨gn, 0, none⟩) (es0.length + 1) c2) ?_
     refine zq (.int .i64 (s + e.up)) ?_
     refine zp (w' := w593) (.int .i64 (-(s + e.up))) (by exact ev_neg (by rfl) (by rfl) rfl (by omega) (by omega)) ?_
     refine zp (w' := (w593.alloc (.cells ([.int .i64 (-(s + e.up))] : List Value).toArray 3))) (.slice (some ⟨w593.heap.size, 0, none⟩) 1 1) (by go_simp) ?_
     refine mv_app (by rfl) _ _ _ (by rfl) elInt (by rfl) H596.out (ix := 2) (by rfl) 1 1 [.int .i64 (-(s + e.up))] (by rfl) rfl (by simp [Value.oneCell']) (by simp [NoUL]) (by decide) (by unfold maxLen; exact (by omega)) (by omega) ?_
     intro g604 cp605 w603 hf hh hd hg
     have Fg604 := zH hf
     clear hf
     rw [show List.flatMap LvE.cn (es0 ++ [l]) ++ [.int .i64 (-(s + e.up))] = _ from flat_snoc LvE.cn _ (⟨r579, r586, e.q, f.q, -(s + e.up)⟩ : LvE)] at hh
     have H606 := zH (show Hp w w603 [.blk X297 27 (rc ry), ro 39 8 (some ⟨g594, 0, none⟩) (es0.length + 2) cp595 LvE.cs ((es0 ++ [l]) ++ [(⟨r579, r586, e.q, f.q, -(s + e.up)⟩ : LvE)]), ro 3 1 (some ⟨g604, 0, none⟩) (es0.length + 2) cp605 LvE.cn ((es0 ++ [l]) ++ [(⟨r579, r586, e.q, f.q, -(s + e.up)⟩ : LvE)]), ro 59 5 (some ⟨gm, 0, none⟩) ms.length cm MkE.cells ms, .blk X335 59 [.bool e.a.n, .slice e.a.p e.a.l e.a.c, .bool e.a.m, .slice e.a.p2 e.a.l2 e.a.c2, .int .i64 e.up]] from hh)
     have D606 := zH (hd)
     clear hh hd hg
     try simp only [Act.put, zA, zB, zC]
     refine zq (.slice (some ⟨g604, 0, none⟩) (es0.length + 2) cp605) ?_
     have DD609 := zH (((((((DD562.out.trans D564.out).trans D569.out).trans D581.out).trans D588.out).trans D596.out).trans D606.out))
     have DD610 := zH (((D588.out.trans D596.out).trans D606.out))
     have DD611 := zH ((D596.out.trans D606.out))
     have HOKN := zH (show LvE.Ok (L + 8) w603 (⟨r579, r586, e.q, f.q, -(s + e.up)⟩ : LvE) from ⟨(R579.out.dig DD610.out), (R586.out.dig DD611.out), B579.out, B586.out, (by have h_ := HS2.out; show -100000 ≤ -(s + e.up); omega), (by have h_ := HS2.out; show -(s + e.up) ≤ 100000; omega)⟩)
     have DD612 := zH ((((DD587.out.trans D588.out).trans D596.out).trans D606.out))
     go_wp2_with fail
     go_roundg (ms.length - (k + 1))
     case measure => exact (by omega)
     case rel => exact ⟨k + 1, es0.length + 2, (es0 ++ [l]) ++ [(⟨r579, r586, e.q, f.q, -(s + e.up)⟩ : LvE)], some ⟨g594, 0, none⟩, cp595, some ⟨g604, 0, none⟩, cp605, s + e.up, rfl, rfl, rfl, (by first | rfl | (congr 1)), (by go_num), hk0, HPN.out, (by have h_ := HS2.out; constructor <;> omega), ⟨by simp, by have := HM.out.2; omega⟩, (by rw [lv_take HRG.out, ← HLV.out, List.map_append, List.map_append]; refine Eq.trans ?_ (lvstep_more HNS.out (fun h_ => CL.out ⟨h_.1.trans HRN.out, h_.2⟩)).symm; show _ ++ [l.vl] ++ [((e.q, f.q), -(s + e.up))] = _ ++ [l.vl] ++ [((e.q, f.q), -(0 + psum qs (k + 1)))]; rw [HRN.out]), (fun g_ hg_ => (List.mem_append.1 hg_).elim (fun hg_ => (HOE.out g_ hg_).dig DD609.out) (fun hg_ => by rw [List.mem_singleton.1 hg_]; exact HOKN.out)), H606.out.take 4, DD612.out⟩
    have CA := zH c489
    clear c489
    have CL := zH (show ¬ (l.n = -(s + e.up) ∧ l.q = e.q) from fun h_ => CA.out h_.1)
    go_upto_region 13 with fail
    refine zy ?_
    have H613 := zH (H426.out.step (Ext.refl w424).drew)
    have D613 := zH (Dig.of_ext (w := w424) zb)
    refine zx 0 (bs 24 1) (.int .i64 ((es0.length + 1 : Nat) : Int)) zb ?_
    refine zu 1 (bs 24 3) (v := .bool true) zb ?_ (hv := by intro w hSw; exact ezg (e := (dec_t (by omega))))
    refine zx 2 (bs 24 7) (.bool true) zb ?_
    refine zx 3 (bs 24 15) (.slice (some ⟨gn, 0, none⟩) (es0.length + 1) c2) zb ?_
    refine zx 4 (bs 24 31) (.int .i64 ((es0.length + 1 : Nat) : Int)) zb ?_
    refine zu 5 (bs 24 63) (v := .int .i64 ((es0.length : Nat) : Int)) zb ?_ (hv := by intro w hSw; exact ez2 (by omega))
    refine zu 6 (bs 24 127) (v := .pointer (some ⟨gn, es0.length * 1, none⟩)) zb ?_ (hv := by intro w hSw; exact ezi (k := es0.length) Tryz.underlying32 (l := (by omega)) (f := (Nat.zero_add _).symm))
    refine zf 7 (bs 24 255) gn (es0.length * 1) (.int .i64 l.n) (H426.out.elem (f := LvE.cn) (i := 2) (by rfl) LvE.cn_len HEl.out) zb ?_
    refine zx 8 (bs 24 511) (.int .i64 (s + e.up)) zb ?_
    refine zu 9 (bs 24 1023) (v := .int .i64 (-(s + e.up))) zb ?_ (hv := by intro w hSw; exact ev_neg (by rfl) (by rfl) rfl (by omega) (by omega))
    refine zu 10 (bs 24 2047) (v := .bool false) zb ?_ (hv := by intro w hSw; exact ezq (e := (dec_f CA.out)))
    refine zx 11 (bs 24 4095) (.bool false) zb ?_
    refine zx 12 (bs 24 8191) (.bool false) zb ?_
    refine zs 13 (bs 24 16383) zb ?_
    refine zs 14 (bs 24 32767) zb ?_
    refine zs 15 (bs 24 65535) zb ?_
    refine zs 16 (bs 24 131071) zb ?_
    refine zs 17 (bs 24 262143) zb ?_
    refine zs 18 (bs 24 524287) zb ?_
    refine zs 19 (bs 24 1048575) zb ?_
    refine zs 20 (bs 24 2097151) zb ?_
    refine zs 21 (bs 24 4194303) zb ?_
    refine zs 22 (bs 24 8388607) zb ?_
    refine zx 23 (bs 24 16777215) (.bool false) zb ?_
    refine wpAnyH_done (by kernel_rfl) ?_ _
    go_upto_region 15 with fail
    refine wp_region_held_drew (S := fun x => Fr (fun kz => Value.ownBlock (.slice (some ⟨gs, 0, none⟩) (es0.length + 1) c1) = some kz) w424.drew x) (by kernel_rfl) (Fr.of_ext zb) (fun _ => ?_)
    have H628 := zH (H613.out.step (Ext.refl w424.drew).drew)
    have D628 := zH (show Dig w424.drew w424.drew.drew from Dig.of_ext (Ext.refl w424.drew).drew)
    refine zx 0 (bs 15 1) (.slice (some ⟨gs, 0, none⟩) (es0.length + 1) c1) (Fr.of_ext zb) ?_
    refine mX 1 (bs 15 3) (.pointer (some ⟨X335, 0, none⟩)) (Fr.of_ext zb) ?_
    refine zr 2 (bs 15 7) X335 (0) [.bool e.a.n, .slice e.a.p e.a.l e.a.c, .bool e.a.m, .slice e.a.p2 e.a.l2 e.a.c2] (fun x hx => Fr.range hx (show World.rangeAt w424.drew X335 (0) [.bool e.a.n, .slice e.a.p e.a.l e.a.c, .bool e.a.m, .slice e.a.p2 e.a.l2 e.a.c2] from (H613.out.range (i := 4) (by rfl) 0 4)) (H613.out.offRow (i := 4) (j := 1) (by rfl) (by rfl) (by decide) (by rfl))) Tryz.underlying27 (Fr.of_ext zb) ?_
    refine zx 4 (bs 15 23) (.slice (some ⟨gm, 0, none⟩) ms.length cm) (Fr.of_ext zb) ?_
    refine zx 5 (bs 15 55) (.int .i64 (k : Int)) (Fr.of_ext zb) ?_
    refine zu 6 (bs 15 119) (v := .int .i64 ((k + 1 : Nat) : Int)) (Fr.of_ext zb) ?_ (hv := by intro w hSw; exact ez1 (by omega))
    refine zu 7 (bs 15 247) (v := .pointer (some ⟨gm, (k + 1) * 5, none⟩)) (Fr.of_ext zb) ?_ (hv := by intro w hSw; exact ezi (k := k + 1) Tryz.underlying56 (l := hk1) (f := (Nat.zero_add _).symm))
    refine mX 8 (bs 15 503) (.pointer (some ⟨gm, (k + 1) * 5, none⟩)) (Fr.of_ext zb) ?_
    refine zr 9 (bs 15 1015) gm ((k + 1) * 5) [.bool f.a.n, .slice f.a.p f.a.l f.a.c, .bool f.a.m, .slice f.a.p2 f.a.l2 f.a.c2] (fun x hx => Fr.range hx (show World.rangeAt w424.drew gm ((k + 1) * 5) [.bool f.a.n, .slice f.a.p f.a.l f.a.c, .bool f.a.m, .slice f.a.p2 f.a.l2 f.a.c2] from (range_part (H613.out.elem (f := MkE.cells) (i := 3) (by rfl) MkE.len HEf.out) 0 4)) (H613.out.offRow (i := 3) (j := 1) (by rfl) (by rfl) (by decide) (by rfl))) Tryz.underlying27 (Fr.of_ext zb) ?_
    have DD639 := zH ((((DD425.out.trans D426.out).trans D613.out).trans D628.out))
    refine mC 3 (bs 15 1023) (pNorm (L := 60000) (RV.Is.nin (RAe.out.dig DD639.out) (Nat.le_trans BAe.out (by omega))) (by omega)) ?_
    rintro e w637 ⟨c_, rfl, hc_, hx⟩
    have H640 := zH (H628.out.step hx)
    have D640 := zH (show Dig w424.drew.drew w637 from Dig.of_ext hx)
    have S643 := zH (show Fr (fun kz => Value.ownBlock (.slice (some ⟨gs, 0, none⟩) (es0.length + 1) c1) = some kz) w424.drew w637 from (Fr.of_ext zb).trans (Fr.of_ext hx))
    obtain ⟨r638, rfl, hr_⟩ := hc_
    have R638 := zH hr_
    have B638 := zH BAe.out
    clear hr_
    clear hx
    refine zm S643.out ?_
    have DD646 := zH ((DD639.out.trans D640.out))
    refine mC 10 (bs 15 2047) (pNorm (L := 60000) (RV.Is.nin (RAf.out.dig DD646.out) (Nat.le_trans BAf.out (by omega))) (by omega)) ?_
    rintro e w644 ⟨c_, rfl, hc_, hx⟩
    have H647 := zH (H640.out.step hx)
    have D647 := zH (Dig.of_ext hx)
    have S650 := zH (show Fr (fun kz => Value.ownBlock (.slice (some ⟨gs, 0, none⟩) (es0.length + 1) c1) = some kz) w424.drew w644 from S643.out.trans (Fr.of_ext hx))
    obtain ⟨r645, rfl, hr_⟩ := hc_
    have R645 := zH hr_
    have B645 := zH BAf.out
    clear hr_
    clear hx
    refine zm S650.out ?_
    refine zx 11 (bs 15 4095) (.agg #[.bool r638.n, .slice r638.p r638.l r638.c, .bool r638.m, .slice r638.p2 r638.l2 r638.c2, .bool r645.n, .slice r645.p r645.l r645.c, .bool r645.m, .slice r645.p2 r645.l2 r645.c2]) S650.out ?_
    refine mU 12 (bs 15 8191) (v := .slice (some ⟨w644.heap.size, 0, none⟩) 1 1) (w' := (w644.alloc (.cells ([.bool r638.n, .slice r638.p r638.l r638.c, .bool r638.m, .slice r638.p2 r638.l2 r638.c2, .bool r645.n, .slice r645.p r645.l r645.c, .bool r645.m, .slice r645.p2 r645.l2 r645.c2] : List Value).toArray 39))) (S650.out.trans (Fr.of_ext ((Ext.refl w644).alloc _))) ?_
    try simp only [Act.put, zA, zB, zC]
    refine md_app (j := 13) (listed' := (bs 15 16383)) (by rfl) (by kernel_rfl) (by rfl) _ _ _ (by rfl) elSpan (by rfl) H647.out (ix := 1) (by rfl) 1 1 [.bool r638.n, .slice r638.p r638.l r638.c, .bool r638.m, .slice r638.p2 r638.l2 r638.c2, .bool r645.n, .slice r645.p r645.l r645.c, .bool r645.m, .slice r645.p2 r645.l2 r645.c2] (by rfl) rfl (by simp [Value.oneCell']) (by simp [NoUL]) (by decide) (by unfold maxLen; exact (by omega)) (by omega) (by kernel_rfl) ?_
    intro g653 cp654 w652 hf hh hd hg
    have Fg653 := zH hf
    clear hf
    rw [show List.flatMap LvE.cs (es0 ++ [l]) ++ [.bool r638.n, .slice r638.p r638.l r638.c, .bool r638.m, .slice r638.p2 r638.l2 r638.c2, .bool r645.n, .slice r645.p r645.l r645.c, .bool r645.m, .slice r645.p2 r645.l2 r645.c2] = _ from flat_snoc LvE.cs _ (⟨r638, r645, e.q, f.q, -(s + e.up)⟩ : LvE)] at hh
    have H655 := zH (show Hp w w652 [.blk X297 27 (rc ry), ro 39 8 (some ⟨g653, 0, none⟩) (es0.length + 2) cp654 LvE.cs ((es0 ++ [l]) ++ [(⟨r638, r645, e.q, f.q, -(s + e.up)⟩ : LvE)]), ro 3 1 (some ⟨gn, 0, none⟩) (es0.length + 1) c2 LvE.cn (es0 ++ [l]), ro 59 5 (some ⟨gm, 0, none⟩) ms.length cm MkE.cells ms, .blk X335 59 [.bool e.a.n, .slice e.a.p e.a.l e.a.c, .bool e.a.m, .slice e.a.p2 e.a.l2 e.a.c2, .int .i64 e.up]] from hh)
    have D655 := zH (hd)
    have S657 := zH (show Fr (fun kz => Value.ownBlock (.slice (some ⟨gs, 0, none⟩) (es0.length + 1) c1) = some kz) w424.drew w652 from Fr.trans_new (S650.out.trans (Fr.of_ext ((Ext.refl _).alloc _))) hg (fun j hj => .inl hj))
    clear hh hd hg
    refine ⟨S657.out, ?_⟩
    try simp only [Act.put, zA, zB, zC]
    refine zx 14 (bs 15 32767) (.slice (some ⟨g653, 0, none⟩) (es0.length + 2) cp654) S657.out ?_
    refine wpAnyH_done (by kernel_rfl) ?_ _
    go_upto_region 16 with fail
    refine wp_region_lit ?_
    refine qV (.slice (some ⟨gn, 0, none⟩) (es0.length + 1) c2) ?_
    refine zq (.int .i64 (s + e.up)) ?_
    refine zp (w' := w652) (.int .i64 (-(s + e.up))) (by exact ev_neg (by rfl) (by rfl) rfl (by omega) (by omega)) ?_
    refine zp (w' := (w652.alloc (.cells ([.int .i64 (-(s + e.up))] : List Value).toArray 3))) (.slice (some ⟨w652.heap.size, 0, none⟩) 1 1) (by go_simp) ?_
    refine mv_app (by rfl) _ _ _ (by rfl) elInt (by rfl) H655.out (ix := 2) (by rfl) 1 1 [.int .i64 (-(s + e.up))] (by rfl) rfl (by simp [Value.oneCell']) (by simp [NoUL]) (by decide) (by unfold maxLen; exact (by omega)) (by omega) ?_
    intro g663 cp664 w662 hf hh hd hg
    have Fg663 := zH hf
    clear hf
    rw [show List.flatMap LvE.cn (es0 ++ [l]) ++ [.int .i64 (-(s + e.up))] = _ from flat_snoc LvE.cn _ (⟨r638, r645, e.q, f.q, -(s + e.up)⟩ : LvE)] at hh
    have H665 := zH (show Hp w w662 [.blk X297 27 (rc ry), ro 39 8 (some ⟨g653, 0, none⟩) (es0.length + 2) cp654 LvE.cs ((es0 ++ [l]) ++ [(⟨r638, r645, e.q, f.q, -(s + e.up)⟩ : LvE)]), ro 3 1 (some ⟨g663, 0, none⟩) (es0.length + 2) cp664 LvE.cn ((es0 ++ [l]) ++ [(⟨r638, r645, e.q, f.q, -(s + e.up)⟩ : LvE)]), ro 59 5 (some ⟨gm, 0, none⟩) ms.length cm MkE.cells ms, .blk X335 59 [.bool e.a.n, .slice e.a.p e.a.l e.a.c, .bool e.a.m, .slice e.a.p2 e.a.l2 e.a.c2, .int .i64 e.up]] from hh)
    have D665 := zH (hd)
    clear hh hd hg
    try simp only [Act.put, zA, zB, zC]
    refine zq (.slice (some ⟨g663, 0, none⟩) (es0.length + 2) cp664) ?_
    have DD668 := zH ((((((((((D337.out.trans D342.out).trans D406.out).trans D426.out).trans D613.out).trans D628.out).trans D640.out).trans D647.out).trans D655.out).trans D665.out))
    have DD669 := zH (((D647.out.trans D655.out).trans D665.out))
    have DD670 := zH ((D655.out.trans D665.out))
    have HOKN := zH (show LvE.Ok (L + 8) w662 (⟨r638, r645, e.q, f.q, -(s + e.up)⟩ : LvE) from ⟨(R638.out.dig DD669.out), (R645.out.dig DD670.out), B638.out, B645.out, (by have h_ := HS2.out; show -100000 ≤ -(s + e.up); omega), (by have h_ := HS2.out; show -(s + e.up) ≤ 100000; omega)⟩)
    have DD671 := zH ((((DD646.out.trans D647.out).trans D655.out).trans D665.out))
    go_wp2_with fail
    go_roundg (ms.length - (k + 1))
    case measure => exact (by omega)
    case rel => exact ⟨k + 1, es0.length + 2, (es0 ++ [l]) ++ [(⟨r638, r645, e.q, f.q, -(s + e.up)⟩ : LvE)], some ⟨g653, 0, none⟩, cp654, some ⟨g663, 0, none⟩, cp664, s + e.up, rfl, rfl, rfl, (by first | rfl | (congr 1)), (by go_num), hk0, HPN.out, (by have h_ := HS2.out; constructor <;> omega), ⟨by simp, by have := HM.out.2; omega⟩, (by rw [lv_take HRG.out, ← HLV.out, List.map_append, List.map_append]; refine Eq.trans ?_ (lvstep_more HNS.out (fun h_ => CL.out ⟨h_.1.trans HRN.out, h_.2⟩)).symm; show _ ++ [l.vl] ++ [((e.q, f.q), -(s + e.up))] = _ ++ [l.vl] ++ [((e.q, f.q), -(0 + psum qs (k + 1)))]; rw [HRN.out]), (fun g_ hg_ => (List.mem_append.1 hg_).elim (fun hg_ => (HOE.out g_ hg_).dig DD668.out) (fun hg_ => by rw [List.mem_singleton.1 hg_]; exact HOKN.out)), H665.out.take 4, DD671.out⟩
   have HLT := zH c330
   clear c330
   obtain rfl : k = ms.length := by have := HK.out; have := HLT.out; omega
   have hge : ¬ (ms.length : Int) < (ms.length : Int) := by omega
   have hm4 : m ≤ 4096 := by have := HM.out.2; omega
   go_upto_region 18 with fail
   refine wp_region_lit ?_
   refine qV (.slice A1 m c1) ?_
   refine zq (.slice A2 m c2) ?_
   refine qV (.slice A1 m c1) ?_
   refine zq (.slice A2 m c2) ?_
   go_wp2_with fail
   go_ret2
   unfold LevRet
   exact ⟨A1, c1, A2, c2, m, es, rfl, HM.out.1, H329.out.row (i := 1) (by rfl), H329.out.row (i := 2) (by rfl), HOE.out, (by rw [HLV.out, List.take_of_length_le (by rw [runs_len]; have h_ := HQL.out; omega), HQS.out, HVAL.out]; rfl), hm4, H329.out.ext⟩
 have HV := zH c304
 clear c304
 go_upto_region 1 with fail
 refine wp_region_lit ?_
 refine qV (u) ?_
 refine zc (polyValid_any _ rs _ (HU.out.ext H299.out.ext) HN.out HR.out) ?_
 rintro e w677 ⟨rfl, hx⟩
 have H678 := zH (H299.out.step hx)
 clear hx
 refine ⟨.bool false, by rw [Bool.eq_false_iff.2 HV.out], ?_⟩
 try simp only [Act.put, zA, zB, zC]
 refine zq (.bool true) ?_
 go_upto_region 2 with fail
 refine wp_region_lit ?_
 refine qV (.slice none 0 0) ?_
 refine zq (.slice none 0 0) ?_
 go_wp2_with fail
 go_ret2
 unfold LevRet
 exact ⟨none, 0, none, 0, 0, [], rfl, rfl, RowN.nil _ _ _ _, RowN.nil _ _ _ _, (by simp), (by rw [marksV, if_neg HV.out]; rfl), Nat.zero_le _, H678.out.ext⟩
end Go.Proofs.YtaeeeailoiioaacGreat
