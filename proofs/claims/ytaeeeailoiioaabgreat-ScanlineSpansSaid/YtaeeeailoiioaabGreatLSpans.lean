/- ScanlineSpans. -/
import Derived.Test.YtaeeeailoiioaabGreatM8
namespace Go.Proofs.YtaeeeailoiioaabGreat.spans
open Go.RowKit Go.ChangeShapes Go.WideShapes Go.ChangeAt
attribute [local go_sem ↓] Go.wp_at_zero Go.wp_at_succ run_max_ii run_min_ii
theorem le_sumQ {a : Nat} : ∀ {l : List Nat}, a ∈ l → a ≤ l.sum
  | x :: l, h => by
    rw [List.sum_cons]
    rcases List.mem_cons.1 h with rfl | h
    · omega
    have := le_sumQ h; omega
theorem smPoly_ring {rs : List Ring} (h : smPoly rs = true) : ∀ r, r ∈ rs → r.length ≤ 60 := by
  intro r hr
  have h2 := (smPoly_out h).2
  have h3 : min r.length 1000 ≤ mtot rs := by
    unfold mtot
    exact le_sumQ (List.mem_map.2 ⟨r, hr, rfl⟩)
  omega
theorem smPoly_small {rs : List Ring} (h : smPoly rs = true) : rs.length ≤ 100000 ∧ ∀ r, r ∈ rs → r.length ≤ 100000 := ⟨by have := (smPoly_out h).1; omega, fun r hr => by have := smPoly_ring h r hr; omega⟩
set_option maxRecDepth 20000 in
set_option maxHeartbeats 4000000 in
theorem walkF0 (A : Option Addr) (rs : List Ring) (cap : Nat) (rule : Int) (ry : RV)  (w : World) (hs : ∀ W, Ext w W → Calls Tryz.prog 17 #[.slice A rs.length cap] W fun e w' => e = .returned (.bool false) ∧ Ext W w')  :
  Calls Tryz.prog 5 #[.slice A rs.length cap, .int .i64 rule, .agg #[.bool ry.n, .slice ry.p ry.l ry.c, .bool ry.m, .slice ry.p2 ry.l2 ry.c2]] w fun e w' => e = .returned (.bool true) ∧ Ext w w' := by
 have HS := zH hs
 clear hs
 go_enter Tryz.func5, Tryz.ntmps5
 have H0 := zH (Hp.start w)
 go_upto_region 0 with fail
 refine wp_region_lit ?_
 refine mv_alloc (T := 27) (zs := [.bool ry.n, .slice ry.p ry.l ry.c, .bool ry.m, .slice ry.p2 ry.l2 ry.c2]) (by rfl) (by go_simp) H0.out (by simp [NoUL]) ?_
 intro X94 w95 hh hx hge
 have H96 := zH (show Hp w w95 [.blk X94 27 (rc ry)] from hh)
 clear hh hx hge
 try simp only [Act.put, zA, zB, zC]
 refine zq (.bool false) ?_
 go_upto_region 1 with fail
 refine wp_region_lit ?_
 refine qV (.slice A rs.length cap) ?_
 refine zc (HS.out _ H96.out.ext) ?_
 rintro e w101 ⟨rfl, hx⟩
 have H102 := zH (H96.out.step hx)
 clear hx
 refine zn ?_
 refine qV (.bool true) ?_
 refine zq (.bool true) ?_
 refine zk ?_
 refine zk ?_
 refine zk ?_
 refine zq (.bool true) ?_
 go_upto_region 2 with fail
 refine wp_region_lit ?_
 refine zc (example_any _) ?_
 rintro e w107 ⟨rfl, hx⟩
 have H108 := zH (H102.out.step hx)
 clear hx
 refine zn ?_
 refine zq (.bool true) ?_
 go_wp2_with fail
 go_ret
 exact ⟨rfl, H108.out.ext⟩
set_option maxRecDepth 20000 in
set_option maxHeartbeats 4000000 in
theorem walkF1 (A : Option Addr) (rs : List Ring) (cap : Nat) (rule : Int) (ry : RV)  (w : World) (hs : ∀ W, Ext w W → Calls Tryz.prog 17 #[.slice A rs.length cap] W fun e w' => e = .returned (.bool true) ∧ Ext W w') (ha : ∀ W, Ext w W → Calls Tryz.prog 7 #[.agg #[.bool ry.n, .slice ry.p ry.l ry.c, .bool ry.m, .slice ry.p2 ry.l2 ry.c2]] W fun e w' => e = .returned (.bool false) ∧ Ext W w')  :
  Calls Tryz.prog 5 #[.slice A rs.length cap, .int .i64 rule, .agg #[.bool ry.n, .slice ry.p ry.l ry.c, .bool ry.m, .slice ry.p2 ry.l2 ry.c2]] w fun e w' => e = .returned (.bool true) ∧ Ext w w' := by
 have HS := zH hs
 clear hs
 have HSA := zH ha
 clear ha
 go_enter Tryz.func5, Tryz.ntmps5
 have H0 := zH (Hp.start w)
 go_upto_region 0 with fail
 refine wp_region_lit ?_
 refine mv_alloc (T := 27) (zs := [.bool ry.n, .slice ry.p ry.l ry.c, .bool ry.m, .slice ry.p2 ry.l2 ry.c2]) (by rfl) (by go_simp) H0.out (by simp [NoUL]) ?_
 intro X111 w112 hh hx hge
 have H113 := zH (show Hp w w112 [.blk X111 27 (rc ry)] from hh)
 clear hh hx hge
 try simp only [Act.put, zA, zB, zC]
 refine zq (.bool false) ?_
 go_upto_region 1 with fail
 refine wp_region_lit ?_
 refine qV (.slice A rs.length cap) ?_
 refine zc (HS.out _ H113.out.ext) ?_
 rintro e w118 ⟨rfl, hx⟩
 have H119 := zH (H113.out.step hx)
 clear hx
 refine zn ?_
 refine qV (.bool false) ?_
 refine zq (.bool false) ?_
 refine zd X111 (0) (rc ry) (H119.out.range (i := 0) (by rfl) 0 4) Tryz.underlying27 ?_
 refine zc (HSA.out _ H119.out.ext) ?_
 rintro e w123 ⟨rfl, hx⟩
 have H124 := zH (H119.out.step hx)
 clear hx
 refine zn ?_
 refine qV (.bool true) ?_
 refine zq (.bool true) ?_
 go_upto_region 2 with fail
 refine wp_region_lit ?_
 refine zc (example_any _) ?_
 rintro e w128 ⟨rfl, hx⟩
 have H129 := zH (H124.out.step hx)
 clear hx
 refine zn ?_
 refine zq (.bool true) ?_
 go_wp2_with fail
 go_ret
 exact ⟨rfl, H129.out.ext⟩
set_option maxRecDepth 20000 in
set_option maxHeartbeats 4000000 in
theorem walkT (A : Option Addr) (rs : List Ring) (cap : Nat) (rule : Int) (ry : RV) (y : Rat) (w : World) (hs : ∀ W, Ext w W → Calls Tryz.prog 17 #[.slice A rs.length cap] W fun e w' => e = .returned (.bool true) ∧ Ext W w') (ha : ∀ W, Ext w W → Calls Tryz.prog 7 #[.agg #[.bool ry.n, .slice ry.p ry.l ry.c, .bool ry.m, .slice ry.p2 ry.l2 ry.c2]] W fun e w' => e = .returned (.bool true) ∧ Ext W w') (hu : RingsV w (.slice A rs.length cap) rs) (hy : ry.In 20 w y) (hn : rs.length ≤ 100000) (hr : ∀ r, r ∈ rs → r.length ≤ 100000) (hru : -9223372036854775808 ≤ rule ∧ rule ≤ 9223372036854775807) :
  Calls Tryz.prog 5 #[.slice A rs.length cap, .int .i64 rule, .agg #[.bool ry.n, .slice ry.p ry.l ry.c, .bool ry.m, .slice ry.p2 ry.l2 ry.c2]] w fun e w' => e = .returned (.bool true) ∧ Ext w w' := by
 have HS := zH hs
 clear hs
 have HSA := zH ha
 clear ha
 have HU := zH hu
 have RY := zH hy
 have HN := zH hn
 have HR := zH hr
 have h1L : 1 ≤ 20 := by decide
 clear hu hy hn hr
 go_enter Tryz.func5, Tryz.ntmps5
 have H0 := zH (Hp.start w)
 go_upto_region 0 with fail
 refine wp_region_lit ?_
 refine mv_alloc (T := 27) (zs := [.bool ry.n, .slice ry.p ry.l ry.c, .bool ry.m, .slice ry.p2 ry.l2 ry.c2]) (by rfl) (by go_simp) H0.out (by simp [NoUL]) ?_
 intro X132 w133 hh hx hge
 have H134 := zH (show Hp w w133 [.blk X132 27 (rc ry)] from hh)
 clear hh hx hge
 try simp only [Act.put, zA, zB, zC]
 refine zq (.bool false) ?_
 go_upto_region 1 with fail
 refine wp_region_lit ?_
 refine qV (.slice A rs.length cap) ?_
 refine zc (HS.out _ H134.out.ext) ?_
 rintro e w139 ⟨rfl, hx⟩
 have H140 := zH (H134.out.step hx)
 clear hx
 refine zn ?_
 refine qV (.bool false) ?_
 refine zq (.bool false) ?_
 refine zd X132 (0) (rc ry) (H140.out.range (i := 0) (by rfl) 0 4) Tryz.underlying27 ?_
 refine zc (HSA.out _ H140.out.ext) ?_
 rintro e w144 ⟨rfl, hx⟩
 have H145 := zH (H140.out.step hx)
 clear hx
 refine zn ?_
 refine qV (.bool false) ?_
 refine zq (.bool false) ?_
 go_upto_region 3 with fail
 refine zy ?_
 have H149 := zH (H145.out.step (Ext.refl w144).drew)
 refine zx 0 (bs 13 1) (.slice A rs.length cap) zb ?_
 refine mX 1 (bs 13 3) (.int .i64 rule) zb ?_
 refine zg 2 (bs 13 7) X132 (0) (rc ry) (H145.out.range (i := 0) (by rfl) 0 4) Tryz.underlying27 zb ?_
 refine zx 4 (bs 13 23) (.slice A rs.length cap) zb ?_
 refine mX 5 (bs 13 55) (.int .i64 rule) zb ?_
 refine zg 6 (bs 13 119) X132 (0) (rc ry) (H145.out.range (i := 0) (by rfl) 0 4) Tryz.underlying27 zb ?_
 refine mC 3 (bs 13 127) (spans_any 20 (.slice A rs.length cap) rs rule ry y _ (HU.out.ext H149.out.ext) (RY.out.dig H149.out.dig0) (by decide) (by decide) HN.out HR.out hru) ?_
 rintro e w155 ⟨v_, es156, rfl, hv1_, hv2_, hv3_, hx⟩
 have VL156 := zH hv2_
 have LN156 := zH hv3_
 have OK156 := zH hv1_.2
 obtain ⟨A156, c156, rfl, hA_⟩ := RowN.form hv1_.1
 have HA156 := zH hA_
 clear hv2_ hv3_ hA_
 have H157 := zH (show Hp w w155 [.blk X132 27 (rc ry), ro 51 8 A156 es156.length c156 SpE.cells es156] from H149.out.addRow hx hv1_.1)
 have S159 := zH (show Ext w144 w155 from zb.trans hx)
 clear hv1_
 clear hx
 refine zm S159.out ?_
 refine mC 7 (bs 13 255) (rspans_any 20 (.slice A rs.length cap) rs rule ry y _ (HU.out.ext H157.out.ext) (RY.out.dig H157.out.dig0) (by decide) (by decide) HN.out HR.out) ?_
 rintro e w160 ⟨v_, es161, rfl, hv1_, hv2_, hv3_, hx⟩
 have VL161 := zH hv2_
 have LN161 := zH hv3_
 have OK161 := zH hv1_.2
 obtain ⟨A161, c161, rfl, hA_⟩ := RowN.form hv1_.1
 have HA161 := zH hA_
 clear hv2_ hv3_ hA_
 have H162 := zH (show Hp w w160 [.blk X132 27 (rc ry), ro 51 8 A156 es156.length c156 SpE.cells es156, ro 51 8 A161 es161.length c161 SpE.cells es161] from H157.out.addRow hx hv1_.1)
 have D162 := zH (Dig.of_ext hx)
 have S164 := zH (S159.out.trans hx)
 clear hv1_
 clear hx
 refine zm S164.out ?_
 refine mC 8 (bs 13 511) (r18same_any 60000 (.slice A156 es156.length c156) (.slice A161 es161.length c161) _ _ es156 es161 _ (SpR.up (L := (20 + 8)) ⟨H162.out.row (i := 1) (by rfl), (fun e_ he_ => (OK156.out e_ he_).dig D162.out)⟩ (by omega)) (SpR.up (L := (20 + 8)) ⟨H162.out.row (i := 2) (by rfl), OK161.out⟩ (by omega)) (VL156.out.trans VL161.out.symm) (by omega) (Nat.le_trans LN156.out (by decide))) ?_
 rintro e w165 ⟨rfl, hx⟩
 have H166 := zH (H162.out.step hx)
 have S168 := zH (S164.out.trans hx)
 clear hx
 refine zm S168.out ?_
 refine zx 9 (bs 13 1023) (.bool true) S168.out ?_
 refine mC 10 (bs 13 2047) (example_any _) ?_
 rintro e w170 ⟨rfl, hx⟩
 have H171 := zH (H166.out.step hx)
 have S173 := zH (S168.out.trans hx)
 clear hx
 refine zm S173.out ?_
 refine zx 11 (bs 13 4095) (.bool true) S173.out ?_
 refine zx 12 (bs 13 8191) (.bool true) S173.out ?_
 refine wpAnyH_done (by kernel_rfl) ?_ _
 go_wp2_with fail
 go_ret
 exact ⟨rfl, H171.out.ext⟩

theorem walk (A : Option Addr) (rs : List Ring) (cap : Nat) (rule : Int) (ry : RV) (w : World) (hv : RingsV w (.slice A rs.length cap) rs ∧ ∀ r, r ∈ rs → r.length ≤ maxLen) (hm : rs.length ≤ maxLen) (hy : ry.Raw w) (hru : -9223372036854775808 ≤ rule ∧ rule ≤ 9223372036854775807) :
  Calls Tryz.prog 5 #[.slice A rs.length cap, .int .i64 rule, .agg #[.bool ry.n, .slice ry.p ry.l ry.c, .bool ry.m, .slice ry.p2 ry.l2 ry.c2]] w fun e w' => e = .returned (.bool true) ∧ Ext w w' := by
 have hs := fun W (x : Ext w W) => smallPolygons_any (.slice A rs.length cap) rs W (hv.1.ext x) hm
 have sa := fun W (_ : Ext w W) => small_any ry W
 cases h0 : smPoly rs with
 | false => rw [h0] at hs; exact walkF0 A rs cap rule ry w hs
 | true =>
  rw [h0] at hs
  cases h1 : ry.sm with
  | false => rw [h1] at sa; exact walkF1 A rs cap rule ry w hs sa
  | true =>
   rw [h1] at sa
   obtain ⟨y, hq⟩ := RV.sm_in hy h1
   obtain ⟨h2, h3⟩ := smPoly_small h0
   exact walkT A rs cap rule ry y w hs sa hv.1 hq h2 h3 hru
set_option maxRecDepth 100000 in
theorem lifted (os : Os) (started : os.Started) (H : Type) (enc : TypeId × Value → H) :
  ReturnsInHanded {} Tryz.checked os 5 .any (Rows.scanlineSpansSpec.pre6 enc Tryz.prog Tryz.f5 Rows.scanlineSpansRow.domain false) (Rows.scanlineSpansSpec.post enc Tryz.prog Tryz.f5 false true false false) := by
 refine returnsInHanded_of_change (C := Tryz.checked) own started (by kernel_rfl) Tryz.func5
  (ChangeSpec.witness6 (enc := enc) (C := Tryz.checked) false ⟨#[], #[.slice none 0 0, .int .i64 0, .agg z4], []⟩ 8 (by kernel_rfl) (by kernel_rfl) (by kernel_rfl) (by kernel_rfl)) ?_
 intro W base args ds gs before hval0 hW hcnd _
 have hval : ∀ (j : Nat) t v, Tryz.f5.params[j]? = some t → args[j]? = some v → Value.okWide Tryz.prog W .any base t v := hval0
 have hW' := hW
 obtain ⟨p, q, hA0, hV, rfl, hfz, hnd⟩ := hW
 have hA : DataW.TrodAll enc Tryz.prog W 0 (fun _ => true) true Tryz.f5.params.toList args.toList ds p := hA0
 rw [Tryz.params5] at hA hval
 obtain ⟨v0, vs0, d0, ds0, p0, q0, hargs, rfl, rfl, h0, r0⟩ := trodAll_cons hA
 obtain ⟨v1, vs1, d1, ds1, p1, q1, rfl, rfl, rfl, h1, r1⟩ := trodAll_cons r0
 obtain ⟨v2, vs2, d2, ds2, p2, q2, rfl, rfl, rfl, h2, r2⟩ := trodAll_cons r1
 obtain ⟨rfl, rfl, rfl⟩ := trodAll_nil r2
 obtain rfl : args = #[v0, v1, v2] := by cases args; simp_all
 obtain ⟨rfl, rfl⟩ := trodVars_none hV
 have k0 := h0
 have lt0 : ∀ x ∈ p0, x.block < W.heap.size := by obtain ⟨m, hm⟩ := k0; exact DataW.trod_lt m _ _ _ hm
 obtain ⟨yA, zl0, yc, rfl⟩ := okWide_slice Tryz.underlying39 (hval 0 39 v0 rfl rfl)
 obtain ⟨zA0, yl, zc0, ze0, g0⟩ := (by obtain ⟨m, hm⟩ := h0; exact rings_openQ hm : ∃ zB zl zc, [Value.slice yA zl0 yc] = [.slice zB (List.length zl) zc] ∧ zl.length ≤ maxLen ∧ RingsV W (.slice zB zl.length zc) zl ∧ ∀ r, r ∈ zl → r.length ≤ maxLen)
 obtain ⟨rfl, rfl, rfl⟩ : yA = zA0 ∧ zl0 = yl.length ∧ yc = zc0 := by simpa using ze0
 obtain ⟨n, rfl, rfl, rfl, w1⟩ := open_int Tryz.underlying3 (hval 1 3 v1 rfl rfl) h1
 have k2 := h2
 have lt2 : ∀ x ∈ p2, x.block < W.heap.size := by obtain ⟨m, hm⟩ := k2; exact DataW.trod_lt m _ _ _ hm
 obtain ⟨⟨l2⟩, rfl, _⟩ := okWide_structQ Tryz.underlying27 (hval 2 27 v2 rfl rfl)
 obtain ⟨a, rfl, g2⟩ : ∃ a : RV, l2 = [.bool a.n, .slice a.p a.l a.c, .bool a.m, .slice a.p2 a.l2 a.c2] ∧ a.Raw W := by
  obtain ⟨m, hm⟩ := h2
  exact rat_open hm
 clear hA0 hval0
 refine (walk yA yl yc n a W g0.2 g0.1 g2 (bounds_i64 w1)).mono fun e W' ⟨he, hx⟩ => ?_
 subst he
 have bel := hx.below
 exact ⟨_, rfl, _, _, _, [], _, [], hW', trodAll_mk1 (shut_bool Tryz.underlying4 _), (trodAll_cons_mk (Below.trod laidOut (by kernel_rfl) (of_decide_eq_true (by kernel_rfl)) k0 bel lt0) (trodAll_cons_mk (shut_int Tryz.underlying3 w1) (trodAll_cons_mk (Below.trod laidOut (by kernel_rfl) (of_decide_eq_true (by kernel_rfl)) k2 bel lt2) trodAll_mk0))), rfl, bel.frame _, fun h => by cases h⟩

theorem proved : Rows.ScanlineSpansSaid :=
  OpenClaim.holds_of_wide 5 Tryz.f5 rfl rfl rfl rfl rfl rfl rfl ⟨rfl, rfl, rfl, rfl, rfl⟩ rfl rfl rfl rfl rfl (by kernel_rfl) Tryz.func5 (by kernel_rfl)
    (of_decide_eq_true (by kernel_rfl)) (by unfold Func.isWrapper; first | (rw [if_pos (by decide +kernel)]; kernel_rfl) | (rw [if_neg (by decide +kernel)]; exact ⟨rfl, rfl⟩))
    (fun os started H enc _ => lifted os started H enc)
#print axioms proved
end Go.Proofs.YtaeeeailoiioaabGreat.spans
