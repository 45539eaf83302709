/- Contracts that the claim stands on: XExm to XRSub. -/
import Derived.Deep.Upon
import Derived.Test.YtaeeeailoiioaadGreatM6
namespace Go.Proofs.YtaeeeailoiioaadGreat
open Go.RowKit
attribute [local go_sem ↓] Go.wp_at_zero Go.wp_at_succ run_max_ii run_min_ii
set_option maxRecDepth 20000 in
set_option maxHeartbeats 4000000 in
theorem example_any (w : World) : Calls Tryz.prog 5 #[] w fun e w' => e = .returned (.bool true) ∧ Ext w w' := by
 go_enter Tryz.func5, Tryz.ntmps5
 have H0 := zH (Hp.start w)
 go_upto_region 0 with fail
 refine wp_region_lit ?_
 refine qV (.bool false) ?_
 (try simp only [Act.put, List.setIfInBounds_toArray, List.set_cons_zero])
 go_upto_region 1 with fail
 refine wp_region_lit ?_
 refine qV (.agg #[.int .i64 0, .int .i64 0]) ?_
 refine zq (.agg #[.int .i64 4, .int .i64 0]) ?_
 refine qV (.agg #[.int .i64 4, .int .i64 4]) ?_
 refine zq (.agg #[.int .i64 0, .int .i64 4]) ?_
 refine mv_lit (T := 36) (zs := [.int .i64 0, .int .i64 0, .int .i64 4, .int .i64 0, .int .i64 4, .int .i64 4, .int .i64 0, .int .i64 4]) (n := 4) (by rfl) (by go_simp) H0.out (by simp [NoUL]) ?_
 intro X6 w7 hh hx hge
 have H8 := zH (show Hp w w7 [.blk X6 36 [.int .i64 0, .int .i64 0, .int .i64 4, .int .i64 0, .int .i64 4, .int .i64 4, .int .i64 0, .int .i64 4]] from hh)
 clear hh hx hge
 try simp only [Act.put, zA, zB, zC]
 refine mv_lit (T := 37) (zs := [.slice (some ⟨X6, 0, none⟩) 4 4]) (n := 1) (by rfl) (by go_simp) H8.out (by simp [NoUL]) ?_
 intro X10 w11 hh hx hge
 have H12 := zH (show Hp w w11 [.blk X6 36 [.int .i64 0, .int .i64 0, .int .i64 4, .int .i64 0, .int .i64 4, .int .i64 4, .int .i64 0, .int .i64 4], .blk X10 37 [.slice (some ⟨X6, 0, none⟩) 4 4]] from hh)
 clear hh hx hge
 try simp only [Act.put, zA, zB, zC]
 refine zq (.slice (some ⟨X10, 0, none⟩) 1 1) ?_
 go_upto_region 2 with fail
 refine wp_region_lit ?_
 refine qV (.slice (some ⟨X10, 0, none⟩) 1 1) ?_
 refine zc (q03From 1 _ (by omega) (by omega)) ?_
 rintro e w16 ⟨c_, rfl, hc_, hx⟩
 have H18 := zH (H12.out.step hx)
 obtain ⟨r17, rfl, hr_⟩ := hc_
 have R17 := zH hr_
 have B17 := zH (rl_i64 1 (by omega) (by omega))
 clear hr_
 clear hx
 refine zn ?_
 refine zc (spans_any 3 (.slice (some ⟨X10, 0, none⟩) 1 1) exR 1 r17 (((1) : Int) : Rat) _ (exRings (X1 := X6) (X2 := X10) H18.out (by rfl) (by rfl)) (RV.Is.isIn R17.out (Nat.le_trans B17.out (by decide))) (by decide) (by decide) (by decide) (by decide) (by decide)) ?_
 rintro e w20 ⟨v_, es21, rfl, hv1_, hv2_, hv3_, hx⟩
 have VL21 := zH hv2_
 have LN21 := zH hv3_
 have OK21 := zH hv1_.2
 obtain ⟨A21, c21, rfl, hA_⟩ := RowN.form hv1_.1
 have HA21 := zH hA_
 clear hv2_ hv3_ hA_
 have H22 := zH (show Hp w w20 [.blk X6 36 [.int .i64 0, .int .i64 0, .int .i64 4, .int .i64 0, .int .i64 4, .int .i64 4, .int .i64 0, .int .i64 4], .blk X10 37 [.slice (some ⟨X6, 0, none⟩) 4 4], ro 34 8 A21 es21.length c21 SpE.cells es21] from H18.out.addRow hx hv1_.1)
 clear hv1_
 clear hx
 refine zn ?_
 refine zq (.slice A21 es21.length c21) ?_
 go_upto_region 3 with fail
 refine wp_region_lit ?_
 refine qV (.slice (some ⟨X10, 0, none⟩) 1 1) ?_
 refine zc (q03From 1 _ (by omega) (by omega)) ?_
 rintro e w26 ⟨c_, rfl, hc_, hx⟩
 have H28 := zH (H22.out.step hx)
 have D28 := zH (Dig.of_ext hx)
 obtain ⟨r27, rfl, hr_⟩ := hc_
 have R27 := zH hr_
 have B27 := zH (rl_i64 1 (by omega) (by omega))
 clear hr_
 clear hx
 refine zn ?_
 refine zc (crossings_any 3 _ exR r27 (((1) : Int) : Rat) _ (exRings (X1 := X6) (X2 := X10) H28.out (by rfl) (by rfl)) (RV.Is.isIn R27.out (Nat.le_trans B27.out (by decide))) (by decide) (by decide) (by decide) (by decide)) ?_
 rintro e w30 ⟨A1, c1, A2, c2, n_, em, rfl, rfl, hr1_, hr2_, hok_, hcv_, hx⟩
 obtain ⟨ea, eb, rfl, hva_, hvb_⟩ := two_of_map (hcv_.trans ex_marks)
 have HVA := zH hva_
 have HVB := zH hvb_
 have HOKX := zH hok_
 clear hcv_ hva_ hvb_ hok_
 obtain ⟨g1, rfl⟩ : ∃ g, A1 = some ⟨g, 0, none⟩ := by obtain ⟨A_, c_, h1_, h2_⟩ := RowN.form hr1_; injection h1_ with h1_ _ _; rw [h1_]; exact h2_ (by simp)
 obtain ⟨g2, rfl⟩ : ∃ g, A2 = some ⟨g, 0, none⟩ := by obtain ⟨A_, c_, h1_, h2_⟩ := RowN.form hr2_; injection h1_ with h1_ _ _; rw [h1_]; exact h2_ (by simp)
 have H31 := zH (show Hp w w30 [.blk X6 36 [.int .i64 0, .int .i64 0, .int .i64 4, .int .i64 0, .int .i64 4, .int .i64 4, .int .i64 0, .int .i64 4], .blk X10 37 [.slice (some ⟨X6, 0, none⟩) 4 4], ro 34 8 A21 es21.length c21 SpE.cells es21, ro 32 4 (some ⟨g1, 0, none⟩) 2 c1 MkE.cx ([ea, eb]), ro 3 1 (some ⟨g2, 0, none⟩) 2 c2 MkE.cu ([ea, eb])] from H28.out.addRow2 hx hr1_ hr2_ (by decide))
 have D31 := zH (Dig.of_ext hx)
 clear hx hr1_ hr2_
 refine zn ?_
 refine qV (.tuple #[.slice (some ⟨g1, 0, none⟩) 2 c1, .slice (some ⟨g2, 0, none⟩) 2 c2]) ?_
 refine zq (.slice (some ⟨g1, 0, none⟩) 2 c1) ?_
 refine qV (.slice (some ⟨g2, 0, none⟩) 2 c2) ?_
 refine zq (.slice (some ⟨g1, 0, none⟩) 2 c1) ?_
 refine zq (.slice (some ⟨g2, 0, none⟩) 2 c2) ?_
 have HEA := zH (show [ea, eb][0]? = some ea from rfl)
 have HEB := zH (show [ea, eb][1]? = some eb from rfl)
 have hua := (HOKX.out ea (by simp)).2.2
 have hub := (HOKX.out eb (by simp)).2.2
 have hsum : ea.up = -1 ∧ eb.up = 1 := ⟨congrArg Prod.snd HVA.out, congrArg Prod.snd HVB.out⟩
 go_upto_region 4 with fail
 refine zy ?_
 have H38 := zH (H31.out.step (Ext.refl w30).drew)
 have D38 := zH (Dig.of_ext (w := w30) zb)
 refine zx 0 (bs 29 1) (.slice A21 es21.length c21) zb ?_
 refine mC 1 (bs 29 3) (q03From 0 _ (by have ob0 := hua.1; have ob1 := hua.2; have ob2 := hub.1; have ob3 := hub.2; have ob4 := hsum.1; have ob5 := hsum.2; omega) (by have ob0 := hua.1; have ob1 := hua.2; have ob2 := hub.1; have ob3 := hub.2; have ob4 := hsum.1; have ob5 := hsum.2; omega)) ?_
 rintro e w41 ⟨c_, rfl, hc_, hx⟩
 have H43 := zH (H38.out.step hx)
 have D43 := zH (show Dig w30.drew w41 from Dig.of_ext hx)
 have S45 := zH (show Ext w30 w41 from zb.trans hx)
 obtain ⟨r42, rfl, hr_⟩ := hc_
 have R42 := zH hr_
 have B42 := zH (rl_i64 0 (by have ob0 := hua.1; have ob1 := hua.2; have ob2 := hub.1; have ob3 := hub.2; have ob4 := hsum.1; have ob5 := hsum.2; omega) (by have ob0 := hua.1; have ob1 := hua.2; have ob2 := hub.1; have ob3 := hub.2; have ob4 := hsum.1; have ob5 := hsum.2; omega))
 clear hr_
 clear hx
 refine zm S45.out ?_
 refine mC 2 (bs 29 7) (q03From 4 _ (by have ob0 := hua.1; have ob1 := hua.2; have ob2 := hub.1; have ob3 := hub.2; have ob4 := hsum.1; have ob5 := hsum.2; omega) (by have ob0 := hua.1; have ob1 := hua.2; have ob2 := hub.1; have ob3 := hub.2; have ob4 := hsum.1; have ob5 := hsum.2; omega)) ?_
 rintro e w46 ⟨c_, rfl, hc_, hx⟩
 have H48 := zH (H43.out.step hx)
 have D48 := zH (Dig.of_ext hx)
 have S50 := zH (S45.out.trans hx)
 obtain ⟨r47, rfl, hr_⟩ := hc_
 have R47 := zH hr_
 have B47 := zH (rl_i64 4 (by have ob0 := hua.1; have ob1 := hua.2; have ob2 := hub.1; have ob3 := hub.2; have ob4 := hsum.1; have ob5 := hsum.2; omega) (by have ob0 := hua.1; have ob1 := hua.2; have ob2 := hub.1; have ob3 := hub.2; have ob4 := hsum.1; have ob5 := hsum.2; omega))
 clear hr_
 clear hx
 refine zm S50.out ?_
 refine zx 3 (bs 29 15) (.agg #[.bool r42.n, .slice r42.p r42.l r42.c, .bool r42.m, .slice r42.p2 r42.l2 r42.c2, .bool r47.n, .slice r47.p r47.l r47.c, .bool r47.m, .slice r47.p2 r47.l2 r47.c2]) S50.out ?_
 refine md_lit (T := 34) (zs := [.bool r42.n, .slice r42.p r42.l r42.c, .bool r42.m, .slice r42.p2 r42.l2 r42.c2, .bool r47.n, .slice r47.p r47.l r47.c, .bool r47.m, .slice r47.p2 r47.l2 r47.c2]) (n := 1) (i := 4) (listed' := (bs 29 31)) (by rfl) (by kernel_rfl) (by rfl) (by go_simp) (by kernel_rfl) H48.out (by simp [NoUL]) ?_
 intro X52 w53 hh hx hge
 have H54 := zH (show Hp w w53 [.blk X6 36 [.int .i64 0, .int .i64 0, .int .i64 4, .int .i64 0, .int .i64 4, .int .i64 4, .int .i64 0, .int .i64 4], .blk X10 37 [.slice (some ⟨X6, 0, none⟩) 4 4], ro 34 8 A21 es21.length c21 SpE.cells es21, ro 32 4 (some ⟨g1, 0, none⟩) 2 c1 MkE.cx ([ea, eb]), ro 3 1 (some ⟨g2, 0, none⟩) 2 c2 MkE.cu ([ea, eb]), .blk X52 34 [.bool r42.n, .slice r42.p r42.l r42.c, .bool r42.m, .slice r42.p2 r42.l2 r42.c2, .bool r47.n, .slice r47.p r47.l r47.c, .bool r47.m, .slice r47.p2 r47.l2 r47.c2]] from hh)
 have D54 := zH (Dig.of_ext hx)
 have S56 := zH (S50.out.trans hx)
 clear hh hx hge
 refine ⟨S56.out, ?_⟩
 try simp only [Act.put, zA, zB, zC]
 have DD59 := zH ((((((D28.out.trans D31.out).trans D38.out).trans D43.out).trans D48.out).trans D54.out))
 have DD60 := zH ((D48.out.trans D54.out))
 refine mC 5 (bs 29 63) (r18same_any 60000 (.slice A21 es21.length c21) (.slice (some ⟨X52, 0, none⟩) 1 1) _ _ es21 ([(⟨r42, r47, (((0) : Int) : Rat), (((4) : Int) : Rat)⟩ : SpE)]) _ (SpR.up (L := (3 + 8)) ⟨H54.out.row (i := 2) (by rfl), (fun e_ he_ => (OK21.out e_ he_).dig DD59.out)⟩ (by omega)) ⟨H54.out.litRow (i := 5) (n := 1) (by rfl) (by rfl) (by decide), (by simp only [List.forall_mem_cons, List.not_mem_nil, false_imp_iff, implies_true, and_true]; exact ⟨(R42.out.dig DD60.out), (R47.out.dig D54.out), (Nat.le_trans B42.out (by omega)), (Nat.le_trans B47.out (by omega))⟩)⟩ (by rw [VL21.out, ex_marks, ex_spans]; rfl) (by omega) (Nat.le_trans LN21.out (by decide))) ?_
 rintro e w58 ⟨rfl, hx⟩
 have H61 := zH (H54.out.step hx)
 have D61 := zH (Dig.of_ext hx)
 have S63 := zH (S56.out.trans hx)
 clear hx
 refine zm S63.out ?_
 refine zx 6 (bs 29 127) (.bool true) S63.out ?_
 refine zx 7 (bs 29 255) (.slice (some ⟨g1, 0, none⟩) 2 c1) S63.out ?_
 refine mC 8 (bs 29 511) (q03From 0 _ (by have ob0 := hua.1; have ob1 := hua.2; have ob2 := hub.1; have ob3 := hub.2; have ob4 := hsum.1; have ob5 := hsum.2; omega) (by have ob0 := hua.1; have ob1 := hua.2; have ob2 := hub.1; have ob3 := hub.2; have ob4 := hsum.1; have ob5 := hsum.2; omega)) ?_
 rintro e w66 ⟨c_, rfl, hc_, hx⟩
 have H68 := zH (H61.out.step hx)
 have D68 := zH (Dig.of_ext hx)
 have S70 := zH (S63.out.trans hx)
 obtain ⟨r67, rfl, hr_⟩ := hc_
 have R67 := zH hr_
 have B67 := zH (rl_i64 0 (by have ob0 := hua.1; have ob1 := hua.2; have ob2 := hub.1; have ob3 := hub.2; have ob4 := hsum.1; have ob5 := hsum.2; omega) (by have ob0 := hua.1; have ob1 := hua.2; have ob2 := hub.1; have ob3 := hub.2; have ob4 := hsum.1; have ob5 := hsum.2; omega))
 clear hr_
 clear hx
 refine zm S70.out ?_
 refine mC 9 (bs 29 1023) (q03From 4 _ (by have ob0 := hua.1; have ob1 := hua.2; have ob2 := hub.1; have ob3 := hub.2; have ob4 := hsum.1; have ob5 := hsum.2; omega) (by have ob0 := hua.1; have ob1 := hua.2; have ob2 := hub.1; have ob3 := hub.2; have ob4 := hsum.1; have ob5 := hsum.2; omega)) ?_
 rintro e w71 ⟨c_, rfl, hc_, hx⟩
 have H73 := zH (H68.out.step hx)
 have D73 := zH (Dig.of_ext hx)
 have S75 := zH (S70.out.trans hx)
 obtain ⟨r72, rfl, hr_⟩ := hc_
 have R72 := zH hr_
 have B72 := zH (rl_i64 4 (by have ob0 := hua.1; have ob1 := hua.2; have ob2 := hub.1; have ob3 := hub.2; have ob4 := hsum.1; have ob5 := hsum.2; omega) (by have ob0 := hua.1; have ob1 := hua.2; have ob2 := hub.1; have ob3 := hub.2; have ob4 := hsum.1; have ob5 := hsum.2; omega))
 clear hr_
 clear hx
 refine zm S75.out ?_
 refine md_lit (T := 32) (zs := [.bool r67.n, .slice r67.p r67.l r67.c, .bool r67.m, .slice r67.p2 r67.l2 r67.c2, .bool r72.n, .slice r72.p r72.l r72.c, .bool r72.m, .slice r72.p2 r72.l2 r72.c2]) (n := 2) (i := 10) (listed' := (bs 29 2047)) (by rfl) (by kernel_rfl) (by rfl) (by go_simp) (by kernel_rfl) H73.out (by simp [NoUL]) ?_
 intro X76 w77 hh hx hge
 have H78 := zH (show Hp w w77 [.blk X6 36 [.int .i64 0, .int .i64 0, .int .i64 4, .int .i64 0, .int .i64 4, .int .i64 4, .int .i64 0, .int .i64 4], .blk X10 37 [.slice (some ⟨X6, 0, none⟩) 4 4], ro 34 8 A21 es21.length c21 SpE.cells es21, ro 32 4 (some ⟨g1, 0, none⟩) 2 c1 MkE.cx ([ea, eb]), ro 3 1 (some ⟨g2, 0, none⟩) 2 c2 MkE.cu ([ea, eb]), .blk X52 34 [.bool r42.n, .slice r42.p r42.l r42.c, .bool r42.m, .slice r42.p2 r42.l2 r42.c2, .bool r47.n, .slice r47.p r47.l r47.c, .bool r47.m, .slice r47.p2 r47.l2 r47.c2], .blk X76 32 [.bool r67.n, .slice r67.p r67.l r67.c, .bool r67.m, .slice r67.p2 r67.l2 r67.c2, .bool r72.n, .slice r72.p r72.l r72.c, .bool r72.m, .slice r72.p2 r72.l2 r72.c2]] from hh)
 have D78 := zH (Dig.of_ext hx)
 have S80 := zH (S75.out.trans hx)
 clear hh hx hge
 refine ⟨S80.out, ?_⟩
 try simp only [Act.put, zA, zB, zC]
 have DD83 := zH ((((((((D38.out.trans D43.out).trans D48.out).trans D54.out).trans D61.out).trans D68.out).trans D73.out).trans D78.out))
 have DD84 := zH ((D73.out.trans D78.out))
 refine mC 11 (bs 29 4095) (sameAll_any 60000 (.slice (some ⟨g1, 0, none⟩) 2 c1) (.slice (some ⟨X76, 0, none⟩) 2 2) [(0 : Rat), (4 : Rat)] _ (by have hr_ : RowN w77 _ 32 4 (.slice (some ⟨g1, 0, none⟩) 2 c1) 2 (List.flatMap MkE.cx [ea, eb]) := H78.out.row (i := 3) (by rfl); have h := RsV.of_row (L := 60000) MkE.a MkE.q hr_ rfl (fun e_ he_ => by have h1 := ((HOKX.out e_ he_).dig DD83.out); exact ⟨h1.1, Nat.le_trans h1.2.1 (by decide)⟩); rwa [show List.map MkE.q [ea, eb] = [(0 : Rat), (4 : Rat)] from by have q1 : ea.q = 0 := congrArg Prod.fst HVA.out; have q2 : eb.q = 4 := congrArg Prod.fst HVB.out; simp [q1, q2]] at h) (by have hr_ : RowN w77 _ 32 4 (.slice (some ⟨X76, 0, none⟩) 2 2) 2 [.bool r67.n, .slice r67.p r67.l r67.c, .bool r67.m, .slice r67.p2 r67.l2 r67.c2, .bool r72.n, .slice r72.p r72.l r72.c, .bool r72.m, .slice r72.p2 r72.l2 r72.c2] := H78.out.litRow (i := 6) (by rfl) (by rfl) (by decide); have h := RsV.of_row (L := 60000) (es := [(⟨r67, 0, 0⟩ : MkE), ⟨r72, 4, 0⟩]) MkE.a MkE.q hr_ rfl (by simp only [List.forall_mem_cons, List.not_mem_nil, false_imp_iff, implies_true, and_true]; exact ⟨⟨(R67.out.dig DD84.out), (Nat.le_trans B67.out (by omega))⟩, (R72.out.dig D78.out), (Nat.le_trans B72.out (by omega))⟩); exact h) (by decide) (by decide)) ?_
 rintro e w82 ⟨rfl, hx⟩
 have H85 := zH (H78.out.step hx)
 have S87 := zH (S80.out.trans hx)
 clear hx
 refine zm S87.out ?_
 refine zx 12 (bs 29 8191) (.bool true) S87.out ?_
 refine zx 13 (bs 29 16383) (.bool true) S87.out ?_
 refine zx 14 (bs 29 32767) (.slice (some ⟨g2, 0, none⟩) 2 c2) S87.out ?_
 refine zx 15 (bs 29 65535) (.int .i64 2) S87.out ?_
 refine zu 16 (bs 29 131071) (v := .bool true) S87.out ?_ (hv := by intro w hSw; exact ezq (e := (dec_t (by have ob0 := hua.1; have ob1 := hua.2; have ob2 := hub.1; have ob3 := hub.2; have ob4 := hsum.1; have ob5 := hsum.2; omega))))
 refine zx 17 (bs 29 262143) (.bool true) S87.out ?_
 refine zx 18 (bs 29 524287) (.bool true) S87.out ?_
 refine zx 19 (bs 29 1048575) (.slice (some ⟨g2, 0, none⟩) 2 c2) S87.out ?_
 refine zu 20 (bs 29 2097151) (v := .pointer (some ⟨g2, 0 * 1, none⟩)) S87.out ?_ (hv := by intro w hSw; exact ezi (k := 0) Tryz.underlying42 (l := (by decide)) (f := (Nat.zero_add _).symm))
 refine zf 21 (bs 29 4194303) g2 (0 * 1) (.int .i64 ea.up) (H31.out.elem (f := MkE.cu) (i := 4) (by rfl) MkE.cu_len HEA.out) S87.out ?_
 refine zx 22 (bs 29 8388607) (.slice (some ⟨g2, 0, none⟩) 2 c2) S87.out ?_
 refine zu 23 (bs 29 16777215) (v := .pointer (some ⟨g2, 1 * 1, none⟩)) S87.out ?_ (hv := by intro w hSw; exact ezi (k := 1) Tryz.underlying42 (l := (by decide)) (f := (Nat.zero_add _).symm))
 refine zf 24 (bs 29 33554431) g2 (1 * 1) (.int .i64 eb.up) (H31.out.elem (f := MkE.cu) (i := 4) (by rfl) MkE.cu_len HEB.out) S87.out ?_
 refine zu 25 (bs 29 67108863) (v := .int .i64 (ea.up + eb.up)) S87.out ?_ (hv := by intro w hSw; exact ez1 (by have ob0 := hua.1; have ob1 := hua.2; have ob2 := hub.1; have ob3 := hub.2; have ob4 := hsum.1; have ob5 := hsum.2; omega))
 refine zu 26 (bs 29 134217727) (v := .bool true) S87.out ?_ (hv := by intro w hSw; exact ezq (e := (dec_t (by have ob0 := hua.1; have ob1 := hua.2; have ob2 := hub.1; have ob3 := hub.2; have ob4 := hsum.1; have ob5 := hsum.2; omega))))
 refine zx 27 (bs 29 268435455) (.bool true) S87.out ?_
 refine mX 28 (bs 29 536870911) (.bool true) S87.out ?_
 (try simp only [Act.put, List.setIfInBounds_toArray, List.set_cons_zero])
 refine wpAnyH_done (by kernel_rfl) ?_ _
 go_wp2_with fail
 go_ret
 exact ⟨rfl, H85.out.ext⟩
end Go.Proofs.YtaeeeailoiioaadGreat

namespace Go.Proofs.YtaeeeailoiioaadGreat
open Go.RowKit Go.Deep

theorem grown_refl (w : World) (r : Option Nat) : w.grownBy w r := ⟨rfl, rfl, rfl, Nat.le_refl _, fun _ _ _ => rfl⟩
theorem run_appendS {P : Program} {w : World} {base : Nat} {t ty e : TypeId} {size bytes : Nat} (el : ElT P t e size bytes) {v : Value} {n : Nat} {xs : List Value} (hown : RowN w base e size v n xs)
    (A : Option Addr) (k c : Nat) (news : List Value) (hl : news.length = k * size) (hA : 0 < k → ∃ ad, A = some ad ∧ ∀ j u, news[j]? = some u → w.cell? (ad.add j) = some u) (h1 : ∀ u ∈ news, u.oneCell' = true) (hnu : NoUL news)
    (h63 : n + k ≤ maxLen) (hbytes : (n + k) * bytes ≤ 140737488355328) (hbase : base ≤ w.heap.size) :
    ∃ A' c' w', (Builtin.append_ #[t, t] ty #[v, .slice A k c]).run P w = .ok (.slice A' (n + k) c') w' ∧ RowN w' base e size (.slice A' (n + k) c') (n + k) (xs ++ news) ∧ w.grownBy w' v.ownBlock ∧
      ∀ g, (Value.slice A' (n + k) c').ownBlock = some g → v.ownBlock = some g ∨ w.heap.size ≤ g := by
  obtain ⟨ht, i, z, e1, e2, e3, e4, e5, e6, e7⟩ := el
  by_cases hk : 0 < k
  · obtain ⟨ad, rfl, hnews⟩ := hA hk
    obtain ⟨v', w', hr, q2, q3, q4, g, cap, rfl, hf⟩ := run_append_rowN (P := P) w base t ty e i z size bytes ht e1 e2 e3 e4 e5 e7 e6 v n xs hown ad k c news hl hnews h1 hnu hk h63 hbytes hbase
    exact ⟨_, _, w', hr, q2, q3, fun g' hg' => by obtain rfl : g = g' := by simpa [Value.ownBlock] using hg'
                                                  exact hf⟩
  obtain rfl : k = 0 := by omega
  obtain rfl : news = [] := List.eq_nil_of_length_eq_zero (by simpa using hl)
  have hs : Src P i.size t (.slice A 0 c) 0 [] w := by
    cases A with
    | none => exact Src.ofNil w ht c
    | some ad => exact Src.ofSlice w ht ad 0 c [] (by simp) (by simp) (by simp)
  obtain ⟨hx1, hx2⟩ := hown
  rcases hx2 with ⟨rfl, rfl⟩ | ⟨g, cap, rest, rfl, q1, q2, q3, q4, q5, q6⟩
  · refine ⟨none, 0, w, run_append_nothing w t t ty e i ht e1 none 0 0 (Nat.le_refl _) _ hs, ⟨by simpa using hx1, .inl ⟨rfl, rfl⟩⟩, grown_refl _ _, fun g hg => .inl hg⟩
  refine ⟨some ⟨g, 0, none⟩, cap, w, run_append_nothing w t t ty e i ht e1 (some ⟨g, 0, none⟩) n cap q3 _ hs, ⟨by simpa using hx1, .inr ⟨g, cap, rest, rfl, q1, by simpa using q2, q3, q4, by simpa using q5, by simpa using q6⟩⟩, grown_refl _ _, fun g hg => .inl hg⟩
section
variable {P : Program} {w0 w : World} {m : List Ent} {ix : Nat} {a : Act} {Q : Exit → Act → World → Prop}
theorem mv_appS {rest : List Oper} {o : Oper} {ops : Array Oper} (hw : Region.wanted o (yielded ops a.tmps) = true) (s x : Operand) (t : TypeId)
  (ho : o.op = .call { callee := .builtin .append, args := #[s, x], argTypes := #[t, t] }) {e : TypeId} {size bytes : Nat} (el : ElT P t e size bytes) {v : Value} {n : Nat} {xs : List Value} (hs : a.eval s = v)
  (hH : Hp w0 w m) (hi : m[ix]? = some (.row e size v n xs)) (A : Option Addr) (k c : Nat) (news : List Value) (hx : a.eval x = .slice A k c) (hl : news.length = k * size)
  (hA : 0 < k → ∃ ad, A = some ad ∧ ∀ j u, news[j]? = some u → w.cell? (ad.add j) = some u) (h1 : ∀ u ∈ news, u.oneCell' = true) (hnu : NoUL news)
  (h63 : n + k ≤ maxLen) (hbytes : (n + k) * bytes ≤ 140737488355328)
  (h : ∀ A' c' w', Hp w0 w' (m.set ix (.row e size (.slice A' (n + k) c') (n + k) (xs ++ news))) → Dig w w' → w.grownBy w' v.ownBlock → (∀ g, (Value.slice A' (n + k) c').ownBlock = some g → v.ownBlock = some g ∨ w.heap.size ≤ g) →
   wpList P ops Q rest (a.put o.dst (.slice A' (n + k) c')) w') : wpList P ops Q (o :: rest) a w := by
 obtain ⟨A', c', w', hr, h2, h3, h4⟩ := run_appendS (P := P) (ty := o.type) el (hH.row hi) A k c news hl hA h1 hnu h63 hbytes hH.ext.size
 refine wpList_if hw ?_
 unfold Oper.wp execOp
 simp only [ho, resolve, invoke, builtin, Sem.run_bind, Sem.run_pure, Result.andThen_ok, List.map_toArray, List.map_cons, List.map_nil, hs, hx, hr]
 exact h A' c' w' (hH.turn hi (fun k hk => hk) h3 h2 h4) (Dig.grown (hH.row hi) h3) h3 h4
end

def SpE.OkI (L : Nat) (w : World) (e : SpE) : Prop := e.a.In L w e.p ∧ e.b.In L w e.q
theorem SpE.Ok.i {L : Nat} {w : World} {e : SpE} (h : e.Ok L w) : e.OkI L w := ⟨h.1.isIn h.2.2.1, h.2.1.isIn h.2.2.2⟩
theorem SpE.OkI.ext {L : Nat} {w w' : World} {e : SpE} (h : e.OkI L w) (x : Ext w w') : e.OkI L w' := ⟨h.1.ext x, h.2.ext x⟩
theorem spans_of_in {L : Nat} {w : World} {b n : Nat} {t : TypeId} {v : Value} {es : List SpE} (h : RowN w b t 8 v n (es.flatMap SpE.cells)) (hn : n = es.length) (hin : ∀ e, e ∈ es → e.OkI L w) : SpansV L w v (es.map SpE.vl) := by
 obtain ⟨A, c, rfl, hA⟩ := RowN.form h
 refine ⟨A, c, by rw [hn, List.length_map], fun h0 => ?_⟩
 rw [List.length_map] at h0
 obtain ⟨g, rfl⟩ := hA (by omega)
 refine ⟨g, 0, rfl, fun i p hp => ?_⟩
 rw [List.getElem?_map] at hp
 obtain ⟨e, he, rfl⟩ := Option.map_eq_some_iff.1 hp
 have h1 := hin e (List.mem_of_getElem? he)
 refine ⟨e.cells, ?_, e.a, e.b, rfl, h1.1, h1.2⟩
 rw [Nat.zero_add]
 exact h.rangeAt _ _ (fun j v hj => flat_get SpE.len es i e he j v hj)
theorem choose_list {α : Type} [Inhabited α] (n : Nat) (p : Nat → α → Prop) (h : ∀ i, i < n → ∃ x, p i x) : ∃ l : List α, l.length = n ∧ ∀ i x, l[i]? = some x → p i x := by
 induction n with
 | zero => exact ⟨[], rfl, fun i x hx => by simp at hx⟩
 | succ n ih =>
  obtain ⟨l, h1, h2⟩ := ih (fun i hi => h i (by omega))
  obtain ⟨x, hx⟩ := h n (by omega)
  refine ⟨l ++ [x], by simp [h1], fun i y hy => ?_⟩
  by_cases hi : i < l.length
  ·rw [List.getElem?_append_left hi] at hy
   exact h2 i y hy
  rw [List.getElem?_append_right (by omega)] at hy
  have : i - l.length = 0 := by
   have := (List.getElem?_eq_some_iff.1 hy).1
   simp at this
   omega
  rw [this] at hy
  obtain rfl : x = y := by simpa using hy
  obtain rfl : i = n := by omega
  exact hx
instance : Inhabited SpE := ⟨⟨⟨false, none, 0, 0, false, none, 0, 0⟩, ⟨false, none, 0, 0, false, none, 0, 0⟩, 0, 0⟩⟩
theorem SpansV.list {L : Nat} {w : World} {v : Value} {ps : List (Rat × Rat)} (h : SpansV L w v ps) :
  ∃ (A : Option Addr) (cap : Nat) (es : List SpE), v = .slice A es.length cap ∧ es.map SpE.vl = ps ∧ (0 < es.length → ∃ ad, A = some ad ∧ ∀ j u, (es.flatMap SpE.cells)[j]? = some u → w.cell? (ad.add j) = some u) ∧ ∀ e, e ∈ es → e.OkI L w := by
 obtain ⟨A, cap, rfl, hA⟩ := h
 by_cases h0 : 0 < ps.length
 ·obtain ⟨g, off, rfl, hp⟩ := hA h0
  obtain ⟨es, hl, he⟩ := choose_list (α := SpE) ps.length (fun i e => ps[i]? = some e.vl ∧ w.rangeAt g (off + i * 8) e.cells ∧ e.OkI L w) (fun i hi => by
   obtain ⟨cs, h1, a, b, h2, h3, h4⟩ := hp i ps[i] (List.getElem?_eq_getElem hi)
   refine ⟨⟨a, b, ps[i].1, ps[i].2⟩, List.getElem?_eq_getElem hi, ?_, h3, h4⟩
   have e : cs = SpE.cells ⟨a, b, ps[i].1, ps[i].2⟩ := by
    have h5 := congrArg Array.toList h2
    simpa [SpE.cells] using h5
   rw [← e]
   exact h1)
  refine ⟨_, cap, es, by rw [hl], ?_, fun _ => ⟨_, rfl, fun j u hj => ?_⟩, fun e hm => ?_⟩
  ·refine List.ext_getElem? fun i => ?_
   rw [List.getElem?_map]
   by_cases hi : i < es.length
   ·rw [List.getElem?_eq_getElem hi]
    exact (he i _ (List.getElem?_eq_getElem hi)).1.symm
   rw [List.getElem?_eq_none (by omega), List.getElem?_eq_none (by omega)]; rfl
  ·have hj2 : j < es.length * 8 := by
    have := (List.getElem?_eq_some_iff.1 hj).1
    rwa [flat_len SpE.len] at this
   have hi : j / 8 < es.length := by omega
   have h1 := (he (j / 8) _ (List.getElem?_eq_getElem hi)).2.1
   have h2 : (SpE.cells es[j / 8])[j % 8]? = some u := by
    have hl8 : j % 8 < (SpE.cells es[j / 8]).length := by show _ < 8; omega
    have h6 := flat_get SpE.len es (j / 8) _ (List.getElem?_eq_getElem hi) (j % 8) _ (List.getElem?_eq_getElem hl8)
    rw [show j / 8 * 8 + j % 8 = j by omega, hj] at h6
    rw [List.getElem?_eq_getElem hl8]
    exact h6.symm
   have h3 := h1 (j % 8) u h2
   have e : (⟨g, off, none⟩ : Addr).add j = ⟨g, off + j / 8 * 8 + j % 8, none⟩ := by
    unfold Addr.add
    by_cases hz : j = 0
    ·subst hz; simp
    rw [if_neg hz]
    congr 1
    show off + j = _
    omega
   rw [e]
   exact h3
  obtain ⟨i, hi⟩ := List.mem_iff_getElem?.1 hm
  exact (he i e hi).2.2
 have h1 : ps = [] := List.eq_nil_of_length_eq_zero (by omega)
 subst h1
 exact ⟨A, cap, [], rfl, rfl, fun h2 => absurd h2 (by simp), fun e he => by simp at he⟩
theorem sp_ones (es : List SpE) : ∀ u, u ∈ es.flatMap SpE.cells → u.oneCell' = true := by
  intro u hu
  obtain ⟨e, _, he⟩ := List.mem_flatMap.1 hu
  exact SpE.one e u he

theorem Ent.Holds.fr {b : Nat} {w w' : World} {e : Ent} {G : Nat → Prop} (h : e.Holds b w) (x : Fr G w w') (hn : ∀ k, e.own = some k → ¬ G k) : e.Holds b w' := by
 have hb : ∀ (g : Nat) (t : TypeId) (cs : Array Value), Blk w g t cs → ¬ G g → Blk w' g t cs := by
  intro g t cs h1 h2
  unfold Blk
  rw [x.block g h1.lt h2]
  exact h1
 cases e with
 | blk g t cs => exact ⟨h.1, hb _ _ _ h.2.1 (hn g rfl), h.2.2⟩
 | row t size v n xs =>
  obtain ⟨h1, h2 | ⟨g, cap, rest, rfl, a, h3, c⟩⟩ := h
  ·exact ⟨h1, .inl h2⟩
  exact ⟨h1, .inr ⟨g, cap, rest, rfl, a, hb _ _ _ h3 (hn g rfl), c⟩⟩
section
variable {w0 w w' : World} {m : List Ent}
theorem two_get {e f : Ent} {i : Nat} {x : Ent} (h : [e, f][i]? = some x) : (i = 0 ∧ x = e) ∨ (i = 1 ∧ x = f) := by
  match i, h with
  | 0, h => injection h with h; exact .inl ⟨rfl, h.symm⟩
  | 1, h => injection h with h; exact .inr ⟨rfl, h.symm⟩
  | k + 2, h => simp at h
theorem Hp.pick2 {ib ir : Nat} {e f : Ent} (h : Hp w0 w m) (hb : m[ib]? = some e) (hr : m[ir]? = some f) (hne : ib ≠ ir) : Hp w0 w [e, f] := by
  refine ⟨h.ext, fun i x hx => ?_, fun i j x y hx hy hij => ?_⟩
  · rcases two_get hx with ⟨_, rfl⟩ | ⟨_, rfl⟩
    · exact h.all _ _ hb
    exact h.all _ _ hr
  rcases two_get hx with ⟨e1, rfl⟩ | ⟨e1, rfl⟩ <;> rcases two_get hy with ⟨e2, rfl⟩ | ⟨e2, rfl⟩
  · omega
  · exact h.apart _ _ _ _ hb hr hne
  · exact h.apart _ _ _ _ hr hb (Ne.symm hne)
  omega
theorem Hp.call2 {ib ir : Nat} {e f e' f' : Ent} {G : Nat → Prop} (h : Hp w0 w m) (hb : m[ib]? = some e) (hr : m[ir]? = some f) (_hne : ib ≠ ir) (x : Fr G w w') (hG : ∀ k, G k → e.own = some k ∨ f.own = some k) (h2 : Hp w0 w' [e', f'])
  (he : ∀ k, e'.own = some k → e.own = some k ∨ w.heap.size ≤ k) (hf : ∀ k, f'.own = some k → f.own = some k ∨ w.heap.size ≤ k) : Hp w0 w' ((m.set ib e').set ir f') := by
 have hbl : ib < m.length := (List.getElem?_eq_some_iff.1 hb).1
 have hrl : ir < m.length := (List.getElem?_eq_some_iff.1 hr).1
 have hget : ∀ (j : Nat) (y : Ent), ((m.set ib e').set ir f')[j]? = some y → (j = ir ∧ y = f') ∨ (j = ib ∧ y = e') ∨ (j ≠ ir ∧ j ≠ ib ∧ m[j]? = some y) := by
  intro j y hj
  rw [List.getElem?_set] at hj
  by_cases h1 : ir = j
  ·rw [if_pos h1, if_pos (by simpa using h1 ▸ hrl)] at hj
   injection hj with hj
   exact .inl ⟨h1.symm, hj.symm⟩
  rw [if_neg h1, List.getElem?_set] at hj
  by_cases h3 : ib = j
  ·rw [if_pos h3, if_pos (by omega)] at hj
   injection hj with hj
   exact .inr (.inl ⟨h3.symm, hj.symm⟩)
  rw [if_neg h3] at hj
  exact .inr (.inr ⟨fun q => h1 q.symm, fun q => h3 q.symm, hj⟩)
 have offG : ∀ (j : Nat) (y : Ent), j ≠ ir → j ≠ ib → m[j]? = some y → ∀ k, y.own = some k → ¬ G k := by
  intro j y hj1 hj2 hy k hk hg
  rcases hG k hg with h1 | h1
  ·exact h.apart j ib y e hy hb hj2 k hk h1
  exact h.apart j ir y f hy hr hj1 k hk h1
 have offE : ∀ (j : Nat) (y : Ent), j ≠ ir → j ≠ ib → m[j]? = some y → ∀ k, y.own = some k → e'.own ≠ some k := by
  intro j y hj1 hj2 hy k hk hq
  rcases he k hq with h1 | h1
  ·exact h.apart j ib y e hy hb hj2 k hk h1
  have := h.lt hy hk; omega
 have offF : ∀ (j : Nat) (y : Ent), j ≠ ir → j ≠ ib → m[j]? = some y → ∀ k, y.own = some k → f'.own ≠ some k := by
  intro j y hj1 hj2 hy k hk hq
  rcases hf k hq with h1 | h1
  ·exact h.apart j ir y f hy hr hj1 k hk h1
  have := h.lt hy hk; omega
 refine ⟨h2.ext, fun j y hj => ?_, fun i j x y hi hj hij k hk => ?_⟩
 ·rcases hget j y hj with ⟨_, rfl⟩ | ⟨_, rfl⟩ | ⟨h3, h4, h5⟩
  ·exact h2.all 1 _ rfl
  ·exact h2.all 0 _ rfl
  exact (h.all j y h5).fr x (offG j y h3 h4 h5)
 rcases hget i x hi with ⟨e1, rfl⟩ | ⟨e1, rfl⟩ | ⟨a1, a2, a3⟩ <;> rcases hget j y hj with ⟨e2, rfl⟩ | ⟨e2, rfl⟩ | ⟨b1, b2, b3⟩
 ·omega
 ·exact h2.apart 1 0 _ _ rfl rfl (by decide) k hk
 ·exact fun q => offF j y b1 b2 b3 k q hk
 ·exact h2.apart 0 1 _ _ rfl rfl (by decide) k hk
 ·omega
 ·exact fun q => offE j y b1 b2 b3 k q hk
 ·exact offF i x a1 a2 a3 k hk
 ·exact offE i x a1 a2 a3 k hk
 exact h.apart i j x y a3 b3 hij k hk
end
theorem RowN.cap {w : World} {base : Nat} {e : TypeId} {size : Nat} {A : Option Addr} {n c : Nat} {xs : List Value} (h : RowN w base e size (.slice A n c) n xs) : n ≤ c := by
  obtain ⟨_, ⟨hv, rfl⟩ | ⟨g, cap, rest, hv, _, _, h3, _⟩⟩ := h
  · exact Nat.zero_le _
  injection hv with e1 e2 e3
  omega
section
variable {P : Program} {w0 w : World} {m : List Ent} {ix : Nat} {a : Act} {Q : Exit → Act → World → Prop} {rest : List Oper} {op : Oper} {ops : Array Oper}
end
def tailA (g off c size : Nat) : Option Addr := if c = 1 then some ⟨g, off, none⟩ else some ⟨g, off + size, none⟩
theorem tailA_some {g off c size n : Nat} (h0 : 0 < n) (hc : n + 1 ≤ c) : tailA g off c size = some ⟨g, off + size, none⟩ := if_neg (by omega)
theorem ev_tail {P : Program} {ρ : Operand → Value} {o : Oper} {w : World} {g off n c size : Nat} {t e : TypeId} {x y : Operand} (ho : o.op = .slice t x (some y) none none) (ht : P.underlying t = some (.slice e)) (hs : (P.info? e).map (·.size) = some size)
  (hx : ρ x = .slice (some ⟨g, off, none⟩) (n + 1) c) (hy : ρ y = .int .i64 1) (hsz : 0 < size) : (execOp ρ o).run P w = .ok (.value (.slice (tailA g off c size) n (c - 1))) w := by
 have hel : P.elem t = e := by simp [Program.elem, ht]
 have h1 : P.underlying t = some (.slice (P.elem t)) := by rw [hel]; exact ht
 unfold execOp
 simp only [ho, hx, hy, Option.map_some, Option.map_none, Sem.run_bind, run_sliceAt_slice _ _ _ _ _ _ h1, run_slice_l w t _ _ _ h1 .i64 1 (by decide) (by omega : (1 : Int) ≤ ((n + 1 : Nat) : Int)), hel]
 cases hq : P.info? e with
 | none => simp [hq] at hs
 | some i =>
  have h2 : i.size = size := by simpa [hq] using hs
  have hz : ¬ (size = 0) := by omega
  simp [sizeOf, typeInfo, hq, h2, sliced, tailA, Addr.add, hz]
end Go.Proofs.YtaeeeailoiioaadGreat

namespace Go.Proofs.YtaeeeailoiioaadGreat
open Go.RowKit
attribute [local go_sem ↓] Go.wp_at_zero Go.wp_at_succ run_max_ii run_min_ii
set_option maxRecDepth 20000 in
set_option maxHeartbeats 4000000 in
theorem rsorted_any (L : Nat) (u : Value) (ps : List QQ) (w : World) (hu : SpansV L w u ps) (h1L : 1 ≤ L) (hL : L ≤ 60000) (hn : ps.length ≤ 20000) :
  Calls Tryz.prog 25 #[u] w fun e w' => ∃ v es, e = .returned v ∧ SpR L w' w.heap.size v es ∧ es.map SpE.vl = sortedV ps ∧ es.length ≤ ps.length ∧ Ext w w' := by
 have HU := zH hu
 have HL1 := zH h1L
 obtain ⟨Au, cu, rfl, _⟩ := hu
 obtain ⟨i0, hi, hz0, hz1, hz2⟩ := info_parts infoSp
 have HI := zH (And.intro hi (And.intro hz0 (And.intro hz1 hz2)))
 clear hi hz0 hz1 hz2
 go_enter Tryz.func25, Tryz.ntmps25
 go_wp2_with fail
 go_loopg [3, 4] ps.length (fun c v i wr => ∃ (k : Nat) (es : List SpE) (v2 : Value), k ≤ ps.length ∧ c = ps.length - k ∧ i = .int .i64 k ∧ v2 = v ∧ SpR L wr w.heap.size v2 es ∧ es.map SpE.vl = sortedV (ps.take k) ∧ es.length ≤ k ∧ Ext w wr)
 case atStart => exact ⟨0, [], _, Nat.zero_le _, rfl, rfl, rfl, ⟨RowN.empty w w.heap.size 34 8 (Nat.le_refl _), by simp⟩, rfl, Nat.le_refl _, (Ext.refl _).alloc _⟩
 case round =>
  obtain ⟨k, es, v, hk, rfl, rfl, rfl, hsp, hes, hek, hx⟩ := hrel
  have HSP := zH hsp
  have HES := zH (And.intro hes hek)
  have HX := zH hx
  clear hsp hes hx
  by_cases hlt : k < ps.length
  ·have hlt2 : (k : Int) < (ps.length : Int) := by omega
   obtain ⟨p, hp⟩ : ∃ p, ps[k]? = some p := ⟨_, List.getElem?_eq_getElem hlt⟩
   obtain ⟨g, off, c9, f, hv9, hr, hfa, hfb⟩ := (HU.out.ext HX.out).at hp
   injection hv9 with hv1 hv2 hv3
   subst hv1
   have HSM := zH (sorted_succ hp)
   have HR1 := zH (range_left (a := [.bool f.a.n, .slice f.a.p f.a.l f.a.c, .bool f.a.m, .slice f.a.p2 f.a.l2 f.a.c2]) (b := [.bool f.b.n, .slice f.b.p f.b.l f.b.c, .bool f.b.m, .slice f.b.p2 f.b.l2 f.b.c2]) hr)
   have HR2 := zH (range_right (a := [.bool f.a.n, .slice f.a.p f.a.l f.a.c, .bool f.a.m, .slice f.a.p2 f.a.l2 f.a.c2]) (b := [.bool f.b.n, .slice f.b.p f.b.l f.b.c, .bool f.b.m, .slice f.b.p2 f.b.l2 f.b.c2]) (n := 4) hr rfl)
   have HFA := zH hfa
   have HFB := zH hfb
   have HLT := zH hlt
   have HFAR := zH (show v.ownBlock ≠ some g from fun h => by have h1 := HSP.out.1.block g h; obtain ⟨g2, off2, c2, f2, hv2, hr2, _⟩ := HU.out.at hp; injection hv2 with k1 _ _; injection k1 with k1; injection k1 with k1; have h2 := range_lt (v := .bool f2.a.n) (j := 0) hr2 rfl; omega)
   clear hr hfa hfb hp hlt hv2 hv3
   go_upto_region 5 with fail
   refine wp_region_held_drew (S := fun x => Ext wr x) (by kernel_rfl) (Ext.refl _).drew (fun _ => ?_)
   refine zv 0 (bs 12 1) (Ext.refl wr).drew ?_
   refine zv 1 (bs 12 3) (Ext.refl wr).drew ?_
   refine zv 2 (bs 12 7) (Ext.refl wr).drew ?_
   refine mV 3 (bs 12 15) (Ext.refl wr).drew ?_
   refine zr 4 (bs 12 31) g (off + k * 8) [.bool f.a.n, .slice f.a.p f.a.l f.a.c, .bool f.a.m, .slice f.a.p2 f.a.l2 f.a.c2] (fun wX hwX => range_ext HR1.out hwX) Tryz.underlying32 (Ext.refl wr).drew ?_
   refine zv 5 (bs 12 63) (Ext.refl wr).drew ?_
   refine zv 6 (bs 12 127) (Ext.refl wr).drew ?_
   refine zv 7 (bs 12 255) (Ext.refl wr).drew ?_
   refine mV 8 (bs 12 511) (Ext.refl wr).drew ?_
   refine zr 9 (bs 12 1023) g (off + k * 8 + 4) [.bool f.b.n, .slice f.b.p f.b.l f.b.c, .bool f.b.m, .slice f.b.p2 f.b.l2 f.b.c2] (fun wX hwX => range_ext HR2.out hwX) Tryz.underlying32 (Ext.refl wr).drew ?_
   refine mC 10 (bs 12 2047) (less_any L _ _ p.1 p.2 _ (NIn.ofa (HFA.out.ext (Ext.refl _).drew)) (NIn.ofb' (HFB.out.ext (Ext.refl _).drew)) hL) ?_
   rintro e w5 ⟨rfl, hx⟩
   have HEw5 := zH (show Ext wr w5 from ((Ext.refl wr).drew).trans hx)
   clear hx
   refine ⟨_, rfl, HEw5.out, ?_⟩
   try simp only [Act.put, zA, zB, zC]
   have HEo := HEw5
   have HR15 := zH (range_ext HR1.out HEw5.out)
   have HR25 := zH (range_ext HR2.out HEw5.out)
   have HFA5 := zH (HFA.out.ext HEw5.out)
   have HFB5 := zH (HFB.out.ext HEw5.out)
   have HXw5 := zH (HX.out.trans HEw5.out)
   have HSP5 := zH (HSP.out.ext HEw5.out)
   clear HR1 HR2 HFA HFB HX HSP
   by_cases hpq : p.1 < p.2
   ·have hdd : decide (p.1 < p.2) = true := by simpa using hpq
    have hcont := HSM.out
    rw [if_pos hpq] at hcont
    have HCO := zH hcont
    clear hcont
    refine zv 11 (bs 12 4095) (show Ext wr w5 from HEo.out) ?_
    refine wpAnyH_done (by kernel_rfl) ?_ _
    clear hdd hpq HEo HEw5
    go_upto_region 6 with fail
    refine wp_region_held_drew (S := fun x => w5.grownBy x v.ownBlock) (by kernel_rfl) (grown_of_ext _ (Ext.refl _).drew) (fun _ => ?_)
    refine zv 0 (bs 17 1) (grown_of_ext _ (Ext.refl w5).drew) ?_
    refine zv 1 (bs 17 3) (grown_of_ext _ (Ext.refl w5).drew) ?_
    refine zv 2 (bs 17 7) (grown_of_ext _ (Ext.refl w5).drew) ?_
    refine zv 3 (bs 17 15) (grown_of_ext _ (Ext.refl w5).drew) ?_
    refine mV 4 (bs 17 31) (grown_of_ext _ (Ext.refl w5).drew) ?_
    refine zr 5 (bs 17 63) g (off + k * 8) [.bool f.a.n, .slice f.a.p f.a.l f.a.c, .bool f.a.m, .slice f.a.p2 f.a.l2 f.a.c2] (fun x hx => range_grown HR15.out hx HFAR.out) Tryz.underlying32 (grown_of_ext _ (Ext.refl w5).drew) ?_
    refine zv 7 (bs 17 191) (grown_of_ext _ (Ext.refl w5).drew) ?_
    refine zv 8 (bs 17 447) (grown_of_ext _ (Ext.refl w5).drew) ?_
    refine zv 9 (bs 17 959) (grown_of_ext _ (Ext.refl w5).drew) ?_
    refine mV 10 (bs 17 1983) (grown_of_ext _ (Ext.refl w5).drew) ?_
    refine zr 11 (bs 17 4031) g (off + k * 8 + 4) [.bool f.b.n, .slice f.b.p f.b.l f.b.c, .bool f.b.m, .slice f.b.p2 f.b.l2 f.b.c2] (fun x hx => range_grown HR25.out hx HFAR.out) Tryz.underlying32 (grown_of_ext _ (Ext.refl w5).drew) ?_
    refine mC 6 (bs 17 4095) (q03Norm (NIn.ofa (HFA5.out.ext (Ext.refl _).drew)) (by omega)) ?_
    rintro e w6 ⟨c1, rfl, hc1, hx⟩
    have HEw6 := zH (show Ext w5 w6 from ((Ext.refl w5).drew).trans hx)
    obtain ⟨ra, rfl, hra⟩ := hc1
    have HRA := zH hra
    clear hra
    clear hx
    refine ⟨_, rfl, (grown_of_ext _ HEw6.out), ?_⟩
    try simp only [Act.put, zA, zB, zC]
    refine mC 12 (bs 17 8191) (q03Norm (NIn.ofb' (HFB5.out.ext HEw6.out)) (by omega)) ?_
    rintro e w7 ⟨c2, rfl, hc2, hx⟩
    have HEw7 := zH (show Ext w5 w7 from (HEw6.out).trans hx)
    obtain ⟨rb, rfl, hrb⟩ := hc2
    have HRB := zH hrb
    have HRA7 := zH (HRA.out.ext hx)
    clear hrb HRA
    clear hx
    refine ⟨_, rfl, (grown_of_ext _ HEw7.out), ?_⟩
    try simp only [Act.put, zA, zB, zC]
    refine zv 13 (bs 17 16383) (grown_of_ext _ HEw7.out) ?_
    have hw7 := HSP5.out.ext HEw7.out
    have hbz := (HXw5.out.trans HEw7.out).size
    have hek3 : es.length ≤ 20000 := by have := HES.out.2; omega
    have hOK : SpE.Ok L w7 ⟨ra, rb, p.1, p.2⟩ := ⟨HRA7.out, HRB.out, (NIn.ofa HFA5.out).rl HL1.out, (NIn.ofb' HFB5.out).rl HL1.out⟩
    have HOK := zH hOK
    clear hOK
    have hAE : Ext w7 (w7.alloc (.cells #[.bool ra.n, .slice ra.p ra.l ra.c, .bool ra.m, .slice ra.p2 ra.l2 ra.c2, .bool rb.n, .slice rb.p rb.l rb.c, .bool rb.m, .slice rb.p2 rb.l2 rb.c2] 34)) := (Ext.refl _).alloc _
    refine mU 14 (bs 17 32767) (v := .slice (some ⟨w7.heap.size, 0, none⟩) 1 1) (w' := (w7.alloc (.cells #[.bool ra.n, .slice ra.p ra.l ra.c, .bool ra.m, .slice ra.p2 ra.l2 ra.c2, .bool rb.n, .slice rb.p rb.l rb.c, .bool rb.m, .slice rb.p2 rb.l2 rb.c2] 34))) (grown_of_ext _ ((HEw7.out).alloc _)) ?_
    try simp only [Act.put, zA, zB, zC]
    refine md_appendF (j := 15) (listed' := (bs 17 65535)) (by rfl) (by kernel_rfl) (by rfl) _ _ 22 (by rfl) w.heap.size 34 i0 _ 8 128 Tryz.underlying22 HI.out.1 HI.out.2.1 HI.out.2.2.1 HI.out.2.2.2 rfl (by decide) noUL_zsp _ es.length (spCells es) (by rfl) (hw7.ext hAE).1 ⟨w7.heap.size, 0, none⟩ 1 1 [.bool ra.n, .slice ra.p ra.l ra.c, .bool ra.m, .slice ra.p2 ra.l2 ra.c2, .bool rb.n, .slice rb.p rb.l rb.c, .bool rb.m, .slice rb.p2 rb.l2 rb.c2] (by rfl) rfl (new_cells _ [.bool ra.n, .slice ra.p ra.l ra.c, .bool ra.m, .slice ra.p2 ra.l2 ra.c2, .bool rb.n, .slice rb.p rb.l rb.c, .bool rb.m, .slice rb.p2 rb.l2 rb.c2] _) (by simp [Value.oneCell']) (SpE.noU ⟨ra, rb, p.1, p.2⟩) (by decide) (by unfold maxLen; omega) (by omega) (by have := hAE.size; omega) (by kernel_rfl) ?_
    intro gx cx w8 hf h2 h3 h4
    have HSN := zH ((hw7.ext hAE).snoc (e := ⟨ra, rb, p.1, p.2⟩) rfl (HOK.out.ext hAE) h2 h4)
    have HX8 := zH (((HXw5.out.trans HEw7.out).trans hAE).grown h3 (fun j hj => hw7.1.block j hj))
    have hS8 : w5.grownBy w8 v.ownBlock := ext_grown (HEw7.out.trans hAE) h3
    clear hw7 hbz hf h2 h3 h4 hAE
    refine ⟨hS8, ?_⟩
    try simp only [Act.put, zA, zB, zC]
    refine zv 16 (bs 17 131071) hS8 ?_
    refine wpAnyH_done (by kernel_rfl) ?_ _
    clear hS8 HR15 HR25 HFA5 HFB5 HFAR HRA7 HRB HOK HSP5 HXw5
    have HINS := zH (show (Stb.ins ltE es ⟨ra, rb, p.1, p.2⟩).map SpE.vl = sortedV (ps.take (k + 1)) by rw [HCO.out, ins_map SpE.vl (lt := ltE) (lt' := ltQ) (fun _ _ => rfl), HES.out.1]; rfl)
    have HSRT := zH (show Stb.Srt ltE es from srt_vl (by rw [HES.out.1]; exact sorted_srt _))
    have HEK := zH HES.out.2
    generalize (⟨ra, rb, p.1, p.2⟩ : SpE) = y at *
    obtain ⟨n, hn0⟩ : ∃ n, es.length = n := ⟨_, rfl⟩
    rw [hn0] at HSN HEK ⊢
    have HN := zH hn0
    have hn20 : n ≤ 20000 := by have := HEK.out; omega
    clear hn0 HCO HES HSM
    have wn : IntKind.i64.wrap (n : Int) = (n : Int) := by rw [IntKind.wrap_i64]; omega
    have e1 : ((n + 1 : Nat) : Int) - 1 = (n : Int) := by omega
    have e2 : (n : Int) + 1 - 1 = (n : Int) := by omega
    go_wp2_with fail
    go_loopg [5] n (fun c i wr => ∃ u : Nat, u ≤ n ∧ c = 0 + u ∧ i = .int .i64 u ∧ (∀ z, z ∈ es.drop u → ltE y z = true) ∧ SpR L wr w.heap.size (.slice (some ⟨gx, 0, none⟩) (n + 1) cx) (es.take u ++ y :: es.drop u) ∧ Ext w wr)
    case atStart => exact ⟨n, Nat.le_refl _, by omega, rfl, by intro z hz; rw [List.drop_of_length_le (by have := HN.out; omega)] at hz; simp at hz, by rw [List.take_of_length_le (by have := HN.out; omega), List.drop_of_length_le (by have := HN.out; omega)]; exact HSN.out, HX8.out⟩
    case round =>
     clear HSN HX8
     obtain ⟨u, hu, rfl, rfl, hall, hsp, hx⟩ := hrel
     have HALL := zH hall
     have HSP := zH hsp
     have HX := zH hx
     have HU := zH hu
     have hu20 : u ≤ 20000 := by omega
     have wu : IntKind.i64.wrap (u : Int) = (u : Int) := by rw [IntKind.wrap_i64]; omega
     have hrl : (es.take u ++ y :: es.drop u).length = n + 1 := by have := HN.out; simp; omega
     clear hall hsp hx
     by_cases hu0 : 0 < u
     ·obtain ⟨q, hq⟩ : ∃ q, q + 1 = u := ⟨u - 1, by omega⟩
      have hu0z : (0 : Int) < (u : Int) := by omega
      have e3 : (u : Int) - 1 = (q : Int) := by omega
      have wq : IntKind.i64.wrap (q : Int) = (q : Int) := by rw [IntKind.wrap_i64]; omega
      have hql : q < es.length := by have := HN.out; omega
      have gx1 : (es.take u ++ y :: es.drop u)[q]? = some es[q] := by
       rw [List.getElem?_append_left (by rw [List.length_take]; omega), List.getElem?_take, if_pos (by omega)]
       exact List.getElem?_eq_getElem hql
      have gy1 : (es.take u ++ y :: es.drop u)[u]? = some y := by
       rw [List.getElem?_append_right (by rw [List.length_take]; omega), List.length_take, show u - min u es.length = 0 by omega]
       rfl
      have HSTEP := zH (show swp (es.take u ++ y :: es.drop u) u q = es.take q ++ y :: es.drop q by
       have h := swps_left [] es [] y q hql
       simp only [List.nil_append, List.append_nil, List.length_nil, Nat.zero_add] at h
       rw [hq] at h
       exact h)
      have HQX := zH (show ∀ z, z ∈ es.drop q → z = es[q] ∨ z ∈ es.drop u by
       intro z hz
       rw [List.drop_eq_getElem_cons hql, hq] at hz
       simpa using hz)
      have HIN2 := zH (fun h => Stb.ins_stop wkE (y := y) HSRT.out HALL.out (by omega) (Or.inr ⟨q, hq, hql, h⟩))
      have HE := zH (swp_eq gy1 gx1)
      have HOKX := zH (HSP.out.2 es[q] (List.mem_of_getElem? gx1))
      have HOKY := zH (HSP.out.2 y (List.mem_of_getElem? gy1))
      have HRX := zH (HSP.out.read gx1)
      have HRY := zH (HSP.out.read gy1)
      have HLu := zH (List.getElem?_eq_some_iff.1 gy1).1
      have HLq := zH (List.getElem?_eq_some_iff.1 gx1).1
      have bu : (u : Int) < (n : Int) + 1 := by omega
      have bq : (q : Int) < (n : Int) + 1 := by omega
      generalize es[q] = x at *
      generalize hrow : es.take u ++ y :: es.drop u = row at *
      have HROW := zH hrow
      have HQ := zH hq
      clear gx1 gy1 hql hq hrow hu
      go_upto_region 8 with fail
      refine wp_region_held_drew (S := fun x => Ext wr x) (by kernel_rfl) (Ext.refl _).drew (fun _ => ?_)
      refine zv 0 (bs 16 1) (Ext.refl wr).drew ?_
      refine zv 1 (bs 16 3) (Ext.refl wr).drew ?_
      refine zv 2 (bs 16 7) (Ext.refl wr).drew ?_
      refine zv 3 (bs 16 15) (Ext.refl wr).drew ?_
      refine zv 4 (bs 16 31) (Ext.refl wr).drew ?_
      refine zv 5 (bs 16 63) (Ext.refl wr).drew ?_
      refine mV 6 (bs 16 127) (Ext.refl wr).drew ?_
      refine zr 7 (bs 16 255) gx (u * 8) [.bool y.a.n, .slice y.a.p y.a.l y.a.c, .bool y.a.m, .slice y.a.p2 y.a.l2 y.a.c2] (fun wX hwX => range_ext (range_left (a := [.bool y.a.n, .slice y.a.p y.a.l y.a.c, .bool y.a.m, .slice y.a.p2 y.a.l2 y.a.c2]) (b := [.bool y.b.n, .slice y.b.p y.b.l y.b.c, .bool y.b.m, .slice y.b.p2 y.b.l2 y.b.c2]) HRY.out) hwX) Tryz.underlying32 (Ext.refl wr).drew ?_
      refine zv 8 (bs 16 511) (Ext.refl wr).drew ?_
      refine zv 9 (bs 16 1023) (Ext.refl wr).drew ?_
      refine zv 10 (bs 16 2047) (Ext.refl wr).drew ?_
      refine zv 11 (bs 16 4095) (Ext.refl wr).drew ?_
      refine mV 12 (bs 16 8191) (Ext.refl wr).drew ?_
      refine zr 13 (bs 16 16383) gx (q * 8) [.bool x.a.n, .slice x.a.p x.a.l x.a.c, .bool x.a.m, .slice x.a.p2 x.a.l2 x.a.c2] (fun wX hwX => range_ext (range_left (a := [.bool x.a.n, .slice x.a.p x.a.l x.a.c, .bool x.a.m, .slice x.a.p2 x.a.l2 x.a.c2]) (b := [.bool x.b.n, .slice x.b.p x.b.l x.b.c, .bool x.b.m, .slice x.b.p2 x.b.l2 x.b.c2]) HRX.out) hwX) Tryz.underlying32 (Ext.refl wr).drew ?_
      refine mC 14 (bs 16 32767) (less_any L _ _ y.p x.p _ (NIn.ofa2 (HOKY.out.ext (Ext.refl _).drew)) (NIn.ofa2 (HOKX.out.ext (Ext.refl _).drew)) hL) ?_
      rintro e w5 ⟨rfl, hx⟩
      have HEw5 := zH (show Ext wr w5 from ((Ext.refl wr).drew).trans hx)
      clear hx
      refine ⟨_, rfl, HEw5.out, ?_⟩
      try simp only [Act.put, zA, zB, zC]
      have HX5 := zH (HX.out.trans HEw5.out)
      have HSP5 := zH (HSP.out.ext HEw5.out)
      have HRX5 := zH (range_ext HRX.out HEw5.out)
      have HRY5 := zH (range_ext HRY.out HEw5.out)
      have HOKX5 := zH (HOKX.out.ext HEw5.out)
      have HOKY5 := zH (HOKY.out.ext HEw5.out)
      clear HX HSP HRX HRY HOKX HOKY
      by_cases hlt : y.p < x.p
      ·have HLT2 := zH (show ltE y x = true from decide_eq_true hlt)
       have hdd : decide (y.p < x.p) = true := by simpa using hlt
       refine zv 15 (bs 16 65535) HEw5.out ?_
       refine wpAnyH_done (by kernel_rfl) ?_ _
       clear hdd hlt HEw5
       go_upto_region 10 with fail
       refine wp_region_lit ?_
       refine qV (.slice (some ⟨gx, 0, none⟩) (n + 1) cx) ?_
       refine zq (.int .i64 u) ?_
       refine zq (.pointer (some ⟨gx, u * 8, none⟩)) ?_
       refine wpList_if (by rfl) (wp_load_mid _ _ (by rfl) gx (u * 8) (by rfl) y.cells _ HRY5.out Tryz.underlying34 (by rfl) (by kernel_rfl) ?_)
       try simp only [Act.put, zA, zB, zC]
       have HFAR0 := zH (fun X hX => sp_far (X := X) HSP5.out hX)
       refine zp (w' := w5.alloc (.cells z8 34)) (.pointer (some ⟨w5.heap.size, 0, none⟩)) (by go_simp) ?_
       refine pO (y.cells).toArray (Blk.new w5 _ _) (by simp [SpE.len]) (by rw [show ((y.cells).toArray : Array Value).size = 8 by simp [SpE.len]]; kernel_rfl) (all_oneCell_toArray y.one) ?_
       (try simp only [Act.put])
       obtain ⟨xq1, xq2⟩ := new_var w5 34 z8 (y.cells).toArray (by simp [SpE.len])
       generalize (w5.alloc (.cells z8 34)).setCells w5.heap.size 0 ((y.cells).toArray : Array Value).toList = w6 at *
       have HFAR := zH (HFAR0.out w5.heap.size (Nat.le_refl _))
       generalize w5.heap.size = X6 at *
       have HEw6 := zH xq1
       have HBX6 := zH xq2
       clear xq1 xq2
       have HX6 := zH (HX5.out.trans HEw6.out)
       have HSP6 := zH (HSP5.out.ext HEw6.out)
       have HRX6 := zH (range_ext HRX5.out HEw6.out)
       have HOKX6 := zH (HOKX5.out.ext HEw6.out)
       have HOKY6 := zH (HOKY5.out.ext HEw6.out)
       clear HX5 HRX5 HRY5 HOKX5 HOKY5 HEw6
       go_upto_region 11 with fail
       refine wp_region_lit ?_
       refine qV (.slice (some ⟨gx, 0, none⟩) (n + 1) cx) ?_
       refine zq (.int .i64 u) ?_
       refine qV (.slice (some ⟨gx, 0, none⟩) (n + 1) cx) ?_
       refine zq (.int .i64 u) ?_
       refine qV (.int .i64 q) ?_
       refine zq (.pointer (some ⟨gx, q * 8, none⟩)) ?_
       refine wpList_if (by rfl) (wp_load_mid _ _ (by rfl) gx (q * 8) (by rfl) x.cells _ HRX6.out Tryz.underlying34 (by rfl) (by kernel_rfl) ?_)
       try simp only [Act.put, zA, zB, zC]
       refine zq (.pointer (some ⟨gx, u * 8, none⟩)) ?_
       obtain ⟨t1, t2, t3⟩ := HSP6.out.set HLu.out HOKX6.out
       obtain ⟨csr, hbr, hnr⟩ := HSP6.out.rowNoU
       have hgb : w.heap.size ≤ gx := HSP6.out.1.block gx (by simp [Value.ownBlock])
       have hne6 : X6 ≠ gx := fun h => HFAR.out (by rw [h]; simp [Value.ownBlock])
       refine wpList_if (by rfl) (wp_store_mid 34 _ _ (by rfl) gx (u * 8) x.cells.toArray (by rfl) (by rfl) t1 (by kernel_rfl) (all_oneCell_toArray x.one) ?_)
       (try simp only [Act.put])
       have HSP7 := zH t2
       have HX7 := zH (t3.ext HX6.out hgb)
       have HB7 := zH (HBX6.out.own t3 hne6)
       have HOKY7 := zH (HOKY6.out.map fun r q h => h.own hbr hnr t3)
       clear t1 t2 t3 hbr hnr HX6 HSP6 HRX6 HOKX6 HOKY6
       generalize World.setCells w6 gx (u * 8) _ = w7 at *
       go_upto_region 12 with fail
       refine wp_region_lit ?_
       refine qV (.slice (some ⟨gx, 0, none⟩) (n + 1) cx) ?_
       refine zq (.int .i64 u) ?_
       refine zq (.int .i64 q) ?_
       refine pL HB7.out Tryz.underlying34 (by kernel_rfl) ?_
       try simp only [Act.put, zA, zB, zC]
       refine zq (.pointer (some ⟨gx, q * 8, none⟩)) ?_
       obtain ⟨t1, t2, t3⟩ := HSP7.out.set (by rw [List.length_set]; exact HLq.out) HOKY7.out
       refine wpList_if (by rfl) (wp_store_mid 34 _ _ (by rfl) gx (q * 8) y.cells.toArray (by rfl) (by rfl) t1 (by kernel_rfl) (all_oneCell_toArray y.one) ?_)
       (try simp only [Act.put])
       have HSP9 := zH t2
       have HX9 := zH (t3.ext HX7.out hgb)
       clear t1 t2 t3 HX7 HSP7 HB7 HOKY7 hgb hne6
       generalize World.setCells w7 gx (q * 8) _ = w9 at *
       go_wp2_with fail
       go_roundg q
       case measure => have := HQ.out; omega
       case rel => exact ⟨q, by have := HQ.out; have := HU.out; omega, by omega, rfl, fun z hz => (HQX.out z hz).elim (fun h => by rw [h]; exact HLT2.out) (HALL.out z), by rw [← HSTEP.out, HE.out]; exact HSP9.out, HX9.out⟩
      have HLT2 := zH (show ltE y x = false from decide_eq_false hlt)
      have hdd : decide (y.p < x.p) = false := by simpa using hlt
      refine zv 15 (bs 16 65535) HEw5.out ?_
      refine wpAnyH_done (by kernel_rfl) ?_ _
      clear hdd hlt HEw5
      have HR := zH (show SpR L w5 w.heap.size (.slice (some ⟨gx, 0, none⟩) (n + 1) cx) (Stb.ins ltE es y) by rw [HIN2.out HLT2.out]; exact HSP5.out)
      have HXR := HX5
      go_wp2_with fail
      go_roundg (ps.length - (k + 1))
      case measure => have := HLT.out; omega
      case rel => exact ⟨k + 1, _, _, HLT.out, rfl, by go_num, rfl, HR.out, HINS.out, by rw [Stb.ins_len, HN.out]; have := HEK.out; omega, HXR.out⟩
     obtain rfl : u = 0 := by omega
     have HIN2 := zH (Stb.ins_stop wkE (y := y) HSRT.out HALL.out (Nat.zero_le _) (Or.inl rfl))
     go_upto_region 8 with fail
     refine wp_region_held_drew (S := fun x => Ext wr x) (by kernel_rfl) (Ext.refl _).drew (fun _ => ?_)
     refine zv 0 (bs 16 1) (Ext.refl wr).drew ?_
     refine zv 1 (bs 16 3) (Ext.refl wr).drew ?_
     refine zv 2 (bs 16 7) (Ext.refl wr).drew ?_
     refine zs 3 (bs 16 15) (Ext.refl wr).drew ?_
     refine zs 4 (bs 16 31) (Ext.refl wr).drew ?_
     refine zs 5 (bs 16 63) (Ext.refl wr).drew ?_
     refine zs 6 (bs 16 127) (Ext.refl wr).drew ?_
     refine zs 7 (bs 16 255) (Ext.refl wr).drew ?_
     refine zs 8 (bs 16 511) (Ext.refl wr).drew ?_
     refine zs 9 (bs 16 1023) (Ext.refl wr).drew ?_
     refine zs 10 (bs 16 2047) (Ext.refl wr).drew ?_
     refine zs 11 (bs 16 4095) (Ext.refl wr).drew ?_
     refine zs 12 (bs 16 8191) (Ext.refl wr).drew ?_
     refine zs 13 (bs 16 16383) (Ext.refl wr).drew ?_
     refine zs 14 (bs 16 32767) (Ext.refl wr).drew ?_
     refine zv 15 (bs 16 65535) (Ext.refl wr).drew ?_
     refine wpAnyH_done (by kernel_rfl) ?_ _
     have HR := zH (show SpR L wr.drew w.heap.size (.slice (some ⟨gx, 0, none⟩) (n + 1) cx) (Stb.ins ltE es y) by rw [HIN2.out]; exact HSP.out.ext (Ext.refl _).drew)
     have HXR := zH (HX.out.drew)
     go_wp2_with fail
     go_roundg (ps.length - (k + 1))
     case measure => have := HLT.out; omega
     case rel => exact ⟨k + 1, _, _, HLT.out, rfl, by go_num, rfl, HR.out, HINS.out, by rw [Stb.ins_len, HN.out]; have := HEK.out; omega, HXR.out⟩
   have hdd : decide (p.1 < p.2) = false := by simpa using hpq
   have hcont := HSM.out
   rw [if_neg hpq] at hcont
   have HCO := zH hcont
   clear hcont
   refine zv 11 (bs 12 4095) (show Ext wr w5 from HEo.out) ?_
   refine wpAnyH_done (by kernel_rfl) ?_ _
   clear hdd hpq HEo HEw5
   go_wp2_with fail
   go_roundg (ps.length - (k + 1))
   case measure => have := HLT.out; omega
   case rel => exact ⟨k + 1, es, _, HLT.out, rfl, by go_num, rfl, HSP5.out, by rw [HCO.out]; exact HES.out.1, by have := HES.out.2; omega, HXw5.out⟩
  obtain rfl : k = ps.length := by omega
  have hge : ¬ (ps.length : Int) < (ps.length : Int) := by omega
  have HR := zH (show es.map SpE.vl = sortedV ps by have h := HES.out.1; rwa [List.take_of_length_le (Nat.le_refl _)] at h)
  go_wp2_with fail
  go_ret
  exact ⟨_, rfl, es, HSP.out, HR.out, HES.out.2, HX.out⟩

set_option maxRecDepth 20000 in
set_option maxHeartbeats 4000000 in
theorem rmerge_any (L : Nat) (u : Value) (ps : List QQ) (w : World) (hu : SpansV L w u ps) (h1L : 1 ≤ L) (hL : L ≤ 60000) (hn : ps.length ≤ 20000) :
  Calls Tryz.prog 20 #[u] w fun e w' => ∃ v es, e = .returned v ∧ SpR L w' w.heap.size v es ∧ es.map SpE.vl = mergeV ps ∧ es.length ≤ ps.length ∧ Ext w w' := by
 have HC := zH (rsorted_any L u ps w hu h1L hL hn)
 obtain ⟨i0, hi, hz0, hz1, hz2⟩ := info_parts infoSp
 have HI := zH (And.intro hi (And.intro hz0 (And.intro hz1 hz2)))
 clear hi hz0 hz1 hz2 hu
 go_enter Tryz.func20, Tryz.ntmps20
 go_upto_region 2 with (go_at_call 25; refine HC.out.mono ?_; rintro e ws ⟨vs, ss, rfl, hss, hval, hsl, hXs⟩)
 obtain ⟨As, cs, rfl⟩ := row_slice hss.1
 have HSSB := zH (fun j hj => Nat.lt_of_lt_of_le (hss.lt j hj) (Nat.le_refl _))
 have HSS := zH (hss.ext ((Ext.refl ws).alloc (.cells #[] 34)))
 have HXS := zH (hXs.alloc (.cells #[] 34))
 have HOS := zH (show SpR L (ws.alloc (.cells #[] 34)) ws.heap.size (.slice (some ⟨ws.heap.size, 0, none⟩) 0 0) [] from ⟨RowN.empty ws ws.heap.size 34 8 (Nat.le_refl _), by simp⟩)
 have HB := zH hXs.size
 have HVAL := zH hval
 have hsn : ss.length ≤ 20000 := by omega
 have HSL := zH hsl
 clear hss hXs hval hsl HC
 go_wp2_with fail
 go_loopg [4, 5] ss.length (fun c v i wr => ∃ (k : Nat) (os : List SpE) (v2 : Value), k ≤ ss.length ∧ c = ss.length - k ∧ i = .int .i64 k ∧ v2 = v ∧ SpR L wr ws.heap.size v2 os ∧ os.map SpE.vl = ((sortedV ps).take k).foldl mstep [] ∧ os.length ≤ k ∧ SpR L wr w.heap.size (.slice As ss.length cs) ss ∧ Ext w wr ∧ ws.heap.size ≤ wr.heap.size)
 case atStart => exact ⟨0, [], _, Nat.zero_le _, rfl, rfl, rfl, HOS.out, by simp, Nat.le_refl _, HSS.out, HXS.out, by simp⟩
 case round =>
  clear HSS HOS HXS
  obtain ⟨k, os, v, hk, rfl, rfl, rfl, hos, hov, hok, hss, hx, hwz⟩ := hrel
  by_cases hlt : k < ss.length
  ·have hlt2 : (k : Int) < (ss.length : Int) := by omega
   obtain ⟨e, he⟩ : ∃ e, ss[k]? = some e := ⟨_, List.getElem?_eq_getElem hlt⟩
   have HSTEP := zH (show ((sortedV ps).take (k + 1)).foldl mstep [] = mstep (os.map SpE.vl) (e.p, e.q) by rw [hov, mstep_fold (p := (e.p, e.q)) (by rw [← HVAL.out, List.getElem?_map, he]; rfl)])
   have HOKE := zH (hss.2 e (List.mem_of_getElem? he))
   obtain ⟨gs, rfl⟩ : ∃ gs, As = some ⟨gs, 0, none⟩ := by
    rcases hss.form with ⟨hv, hn⟩ | ⟨g, cap, rest, hv, _⟩
    ·rw [hn] at hlt; simp at hlt
    injection hv with e1 _ _
    exact ⟨g, e1⟩
   have HRD := zH (hss.read he)
   have HOS := zH hos
   have HSS := zH hss
   have HOKN := zH hok
   have HX := zH hx
   have HLT := zH hlt
   have HWZ := zH hwz
   clear hos hov hss hx hok he hlt hwz
   rcases snoc_or os with rfl | ⟨os, l, rfl⟩
   ·obtain ⟨Ao, co, rfl⟩ := row_slice HOS.out.1
    have q1 : (0 : Int) - 1 = -1 := by omega
    go_upto_region 7 with fail
    refine wp_region_held_drew (S := fun x => Ext wr x) (by kernel_rfl) (Ext.refl _).drew (fun _ => ?_)
    refine zv 0 (bs 15 1) (Ext.refl wr).drew ?_
    refine zv 1 (bs 15 3) (Ext.refl wr).drew ?_
    refine zv 2 (bs 15 7) (Ext.refl wr).drew ?_
    refine zs 3 (bs 15 15) (Ext.refl wr).drew ?_
    refine zs 4 (bs 15 31) (Ext.refl wr).drew ?_
    refine zs 5 (bs 15 63) (Ext.refl wr).drew ?_
    refine zs 6 (bs 15 127) (Ext.refl wr).drew ?_
    refine zs 7 (bs 15 255) (Ext.refl wr).drew ?_
    refine zs 8 (bs 15 511) (Ext.refl wr).drew ?_
    refine zs 9 (bs 15 1023) (Ext.refl wr).drew ?_
    refine zs 10 (bs 15 2047) (Ext.refl wr).drew ?_
    refine zs 11 (bs 15 4095) (Ext.refl wr).drew ?_
    refine zs 12 (bs 15 8191) (Ext.refl wr).drew ?_
    refine zs 13 (bs 15 16383) (Ext.refl wr).drew ?_
    refine zv 14 (bs 15 32767) (Ext.refl wr).drew ?_
    refine wpAnyH_done (by kernel_rfl) ?_ _
    have HSTEP2 := zH (HSTEP.out.trans (mstep_nil _))
    have hok3 : ([] : List SpE).length ≤ 20000 := by simp
    skip
    have HE_ := zH (show Ext wr wr.drew from (Ext.refl _).drew)
    have HOSc := zH (HOS.out.ext HE_.out)
    have HSSc := zH (HSS.out.ext HE_.out)
    have HOKEc := zH (HOKE.out.ext HE_.out)
    have HRDc := zH (range_ext HRD.out HE_.out)
    have HXc := zH (HX.out.trans HE_.out)
    go_upto_region 8 with fail
    refine wp_region_lit ?_
    refine zp (w' := wr.drew) (.slice Ao 0 co) (by go_simp <;> with_reducible rfl) ?_
    refine zp (w' := wr.drew) (.slice (some ⟨gs, 0, none⟩) ss.length cs) (by go_simp <;> with_reducible rfl) ?_
    refine zp (w' := wr.drew) (.int .i64 k) (by go_simp <;> with_reducible rfl) ?_
    refine zp (w' := wr.drew) (.pointer (some ⟨gs, k * 8, none⟩)) (by go_simp <;> with_reducible rfl) ?_
    refine wpList_if (by rfl) (wp_load_mid _ _ (by rfl) gs (k * 8) (by rfl) [.bool e.a.n, .slice e.a.p e.a.l e.a.c, .bool e.a.m, .slice e.a.p2 e.a.l2 e.a.c2, .bool e.b.n, .slice e.b.p e.b.l e.b.c, .bool e.b.m, .slice e.b.p2 e.b.l2 e.b.c2] _ HRDc.out Tryz.underlying34 (by rfl) (by kernel_rfl) ?_)
    try simp only [Act.put, zA, zB, zC]
    have hbz := HOSc.out
    have hAE : Ext wr.drew (wr.drew.alloc (.cells #[.bool e.a.n, .slice e.a.p e.a.l e.a.c, .bool e.a.m, .slice e.a.p2 e.a.l2 e.a.c2, .bool e.b.n, .slice e.b.p e.b.l e.b.c, .bool e.b.m, .slice e.b.p2 e.b.l2 e.b.c2] 34)) := (Ext.refl _).alloc _
    refine zp (w' := (wr.drew.alloc (.cells #[.bool e.a.n, .slice e.a.p e.a.l e.a.c, .bool e.a.m, .slice e.a.p2 e.a.l2 e.a.c2, .bool e.b.n, .slice e.b.p e.b.l e.b.c, .bool e.b.m, .slice e.b.p2 e.b.l2 e.b.c2] 34))) (.slice (some ⟨wr.drew.heap.size, 0, none⟩) 1 1) (by go_simp) ?_
    refine wpList_if (by rfl) (wp_append_rowF _ _ 22 (by rfl) ws.heap.size 34 i0 _ 8 128 Tryz.underlying22 HI.out.1 HI.out.2.1 HI.out.2.2.1 HI.out.2.2.2 rfl (by decide) noUL_zsp _ 0 (spCells ([] : List SpE)) (by rfl) (HOSc.out.ext hAE).1 ⟨wr.drew.heap.size, 0, none⟩ 1 1 e.cells (by rfl) rfl (new_cells _ e.cells _) e.one e.noU (by decide) (by unfold maxLen; omega) (by omega) (Nat.le_trans HWZ.out (Nat.le_trans HE_.out.size hAE.size)) ?_)
    intro gx cx w8_ hf h2 h3 h4
    try simp only [Act.put, zA, zB, zC]
    have HSN := zH ((HOSc.out.ext hAE).snoc (es := ([] : List SpE)) (e := e) rfl (HOKEc.out.ext hAE) h2 h4)
    have HXn := zH ((HXc.out.trans hAE).grown h3 (fun j hj => Nat.le_trans HB.out (HOSc.out.1.block j hj)))
    have HSSn := zH ((HSSc.out.ext hAE).grown h3 (fun j hj hj2 => by have h7 := HOSc.out.1.block j hj2; have h8 := HSSB.out j hj; omega) h4)
    have HZn := zH (Nat.le_trans HWZ.out (Nat.le_trans HE_.out.size (Nat.le_trans hAE.size h3.size)))
    clear hf h2 h3 h4 hAE hbz
    refine zp (w' := w8_) (.slice (some ⟨gx, 0, none⟩) (0 + 1) cx) (by go_simp) ?_
    go_wp2_with fail
    go_roundg (ss.length - (k + 1))
    case measure => have := HLT.out; omega
    case rel => exact ⟨k + 1, ([] : List SpE) ++ [e], _, HLT.out, rfl, by go_num, rfl, HSN.out, by rw [HSTEP2.out]; simp [SpE.vl], by have := HOKN.out; simp at this ⊢ <;> omega, HSSn.out, HXn.out, HZn.out⟩
   have hvf : ∃ g6 c6, v = .slice (some ⟨g6, 0, none⟩) (os.length + 1) c6 := by
    rcases HOS.out.form with ⟨_, h⟩ | ⟨g6, c6, _, h, _⟩
    ·simp at h
    exact ⟨g6, c6, by simpa using h⟩
   obtain ⟨g6, c6, rfl⟩ := hvf
   obtain ⟨m, hm⟩ : ∃ m, os.length = m := ⟨_, rfl⟩
   rw [hm] at HOS ⊢
   have HM := zH hm
   have hm3 : m ≤ 20000 := by have h := HOKN.out; rw [List.length_append, HM.out] at h; omega
   have wm_ : IntKind.i64.wrap (m : Int) = (m : Int) := by rw [IntKind.wrap_i64]; omega
   have HOKL := zH (HOS.out.2 l (by simp))
   have HST := zH (HSTEP.out.trans (show mstep ((os ++ [l]).map SpE.vl) (e.p, e.q) = if l.q < e.p then os.map SpE.vl ++ [(l.p, l.q)] ++ [(e.p, e.q)] else if l.q < e.q then os.map SpE.vl ++ [(l.p, e.q)] else os.map SpE.vl ++ [(l.p, l.q)] by rw [List.map_append]; exact mstep_app _ _ _))
   have e1 : ((m + 1 : Nat) : Int) - 1 = (m : Int) := by omega
   have e2 : (m : Int) + 1 - 1 = (m : Int) := by omega
   have e3 : ¬ (m : Int) < 0 := by omega
   have e5 : (m : Int) < (m : Int) + 1 := by omega
   have RDE := zH (HOS.out.readEnd HM.out)
   clear hm
   go_upto_region 7 with fail
   refine wp_region_held_drew (S := fun x => Ext wr x) (by kernel_rfl) (Ext.refl _).drew (fun _ => ?_)
   refine zv 0 (bs 15 1) (Ext.refl wr).drew ?_
   refine zv 1 (bs 15 3) (Ext.refl wr).drew ?_
   refine zv 2 (bs 15 7) (Ext.refl wr).drew ?_
   refine zv 3 (bs 15 15) (Ext.refl wr).drew ?_
   refine zv 4 (bs 15 31) (Ext.refl wr).drew ?_
   refine zv 5 (bs 15 63) (Ext.refl wr).drew ?_
   refine mV 6 (bs 15 127) (Ext.refl wr).drew ?_
   refine zr 7 (bs 15 255) g6 (m * 8 + 4) [.bool l.b.n, .slice l.b.p l.b.l l.b.c, .bool l.b.m, .slice l.b.p2 l.b.l2 l.b.c2] (fun wX hwX => range_ext RDE.out hwX) Tryz.underlying32 (Ext.refl wr).drew ?_
   refine zv 8 (bs 15 511) (Ext.refl wr).drew ?_
   refine zv 9 (bs 15 1023) (Ext.refl wr).drew ?_
   refine zv 10 (bs 15 2047) (Ext.refl wr).drew ?_
   refine mV 11 (bs 15 4095) (Ext.refl wr).drew ?_
   refine zr 12 (bs 15 8191) gs (k * 8) [.bool e.a.n, .slice e.a.p e.a.l e.a.c, .bool e.a.m, .slice e.a.p2 e.a.l2 e.a.c2] (fun wX hwX => range_ext (range_left (a := [.bool e.a.n, .slice e.a.p e.a.l e.a.c, .bool e.a.m, .slice e.a.p2 e.a.l2 e.a.c2]) (b := [.bool e.b.n, .slice e.b.p e.b.l e.b.c, .bool e.b.m, .slice e.b.p2 e.b.l2 e.b.c2]) HRD.out) hwX) Tryz.underlying32 (Ext.refl wr).drew ?_
   refine mC 13 (bs 15 16383) (less_any L _ _ l.q e.p _ (NIn.ofb (HOKL.out.ext (Ext.refl _).drew)) (NIn.ofa2 (HOKE.out.ext (Ext.refl _).drew)) hL) ?_
   rintro e w9 ⟨rfl, hx⟩
   have HEw9 := zH (show Ext wr w9 from ((Ext.refl wr).drew).trans hx)
   clear hx
   refine ⟨_, rfl, HEw9.out, ?_⟩
   try simp only [Act.put, zA, zB, zC]
   by_cases c1 : l.q < e.p
   ·have hdd : decide (l.q < e.p) = true := by simpa using c1
    refine zv 14 (bs 15 32767) HEw9.out ?_
    refine wpAnyH_done (by kernel_rfl) ?_ _
    have HSTEP2 := zH (HST.out.trans (if_pos c1))
    clear c1 hdd
    have HE_ := zH (show Ext wr w9 from HEw9.out)
    have HOSc := zH (HOS.out.ext HE_.out)
    have HSSc := zH (HSS.out.ext HE_.out)
    have HOKEc := zH (HOKE.out.ext HE_.out)
    have HRDc := zH (range_ext HRD.out HE_.out)
    have HXc := zH (HX.out.trans HE_.out)
    go_upto_region 8 with fail
    refine wp_region_lit ?_
    refine qV (.slice (some ⟨g6, 0, none⟩) (m + 1) c6) ?_
    refine zq (.slice (some ⟨gs, 0, none⟩) ss.length cs) ?_
    refine qV (.int .i64 k) ?_
    refine zq (.pointer (some ⟨gs, k * 8, none⟩)) ?_
    refine wpList_if (by rfl) (wp_load_mid _ _ (by rfl) gs (k * 8) (by rfl) [.bool e.a.n, .slice e.a.p e.a.l e.a.c, .bool e.a.m, .slice e.a.p2 e.a.l2 e.a.c2, .bool e.b.n, .slice e.b.p e.b.l e.b.c, .bool e.b.m, .slice e.b.p2 e.b.l2 e.b.c2] _ HRDc.out Tryz.underlying34 (by rfl) (by kernel_rfl) ?_)
    try simp only [Act.put, zA, zB, zC]
    have hbz := HOSc.out
    have hAE : Ext w9 (w9.alloc (.cells #[.bool e.a.n, .slice e.a.p e.a.l e.a.c, .bool e.a.m, .slice e.a.p2 e.a.l2 e.a.c2, .bool e.b.n, .slice e.b.p e.b.l e.b.c, .bool e.b.m, .slice e.b.p2 e.b.l2 e.b.c2] 34)) := (Ext.refl _).alloc _
    refine zp (w' := (w9.alloc (.cells #[.bool e.a.n, .slice e.a.p e.a.l e.a.c, .bool e.a.m, .slice e.a.p2 e.a.l2 e.a.c2, .bool e.b.n, .slice e.b.p e.b.l e.b.c, .bool e.b.m, .slice e.b.p2 e.b.l2 e.b.c2] 34))) (.slice (some ⟨w9.heap.size, 0, none⟩) 1 1) (by go_simp) ?_
    refine wpList_if (by rfl) (wp_append_rowF _ _ 22 (by rfl) ws.heap.size 34 i0 _ 8 128 Tryz.underlying22 HI.out.1 HI.out.2.1 HI.out.2.2.1 HI.out.2.2.2 rfl (by decide) noUL_zsp _ (m + 1) (spCells (os ++ [l])) (by rfl) (by have h := (HOSc.out.ext hAE).1; rw [List.length_append, HM.out] at h; exact h) ⟨w9.heap.size, 0, none⟩ 1 1 e.cells (by rfl) rfl (new_cells _ e.cells _) e.one e.noU (by decide) (by unfold maxLen; omega) (by omega) (Nat.le_trans HWZ.out (Nat.le_trans HE_.out.size hAE.size)) ?_)
    intro gx cx w8_ hf h2 h3 h4
    try simp only [Act.put, zA, zB, zC]
    have HSN := zH ((HOSc.out.ext hAE).snoc (es := (os ++ [l])) (e := e) (by rw [List.length_append, HM.out]; rfl) (HOKEc.out.ext hAE) h2 h4)
    have HXn := zH ((HXc.out.trans hAE).grown h3 (fun j hj => Nat.le_trans HB.out (HOSc.out.1.block j hj)))
    have HSSn := zH ((HSSc.out.ext hAE).grown h3 (fun j hj hj2 => by have h7 := HOSc.out.1.block j hj2; have h8 := HSSB.out j hj; omega) h4)
    have HZn := zH (Nat.le_trans HWZ.out (Nat.le_trans HE_.out.size (Nat.le_trans hAE.size h3.size)))
    clear hf h2 h3 h4 hAE hbz
    refine zp (w' := w8_) (.slice (some ⟨gx, 0, none⟩) ((m + 1) + 1) cx) (by go_simp) ?_
    go_wp2_with fail
    go_roundg (ss.length - (k + 1))
    case measure => have := HLT.out; omega
    case rel => exact ⟨k + 1, (os ++ [l]) ++ [e], _, HLT.out, rfl, by go_num, rfl, HSN.out, by rw [HSTEP2.out]; simp [SpE.vl], by have := HOKN.out; simp at this ⊢ <;> omega, HSSn.out, HXn.out, HZn.out⟩
   have hdd : decide (l.q < e.p) = false := by simpa using c1
   refine zv 14 (bs 15 32767) HEw9.out ?_
   refine wpAnyH_done (by kernel_rfl) ?_ _
   have HST2 := zH (HST.out.trans (if_neg c1))
   clear c1 hdd
   go_upto_region 9 with fail
   have RDE9 := zH (range_ext RDE.out HEw9.out)
   have HRD9 := zH (range_ext HRD.out HEw9.out)
   have HOKL9 := zH (HOKL.out.ext HEw9.out)
   have HOKE9 := zH (HOKE.out.ext HEw9.out)
   refine wp_region_held_drew (S := fun x => Ext w9 x) (by kernel_rfl) (Ext.refl _).drew (fun _ => ?_)
   refine zv 0 (bs 11 1) (Ext.refl w9).drew ?_
   refine zv 1 (bs 11 3) (Ext.refl w9).drew ?_
   refine zv 2 (bs 11 7) (Ext.refl w9).drew ?_
   refine mV 3 (bs 11 15) (Ext.refl w9).drew ?_
   refine zr 4 (bs 11 31) g6 (m * 8 + 4) [.bool l.b.n, .slice l.b.p l.b.l l.b.c, .bool l.b.m, .slice l.b.p2 l.b.l2 l.b.c2] (fun wX hwX => range_ext RDE9.out hwX) Tryz.underlying32 (Ext.refl w9).drew ?_
   refine zv 5 (bs 11 63) (Ext.refl w9).drew ?_
   refine zv 6 (bs 11 127) (Ext.refl w9).drew ?_
   refine zv 7 (bs 11 255) (Ext.refl w9).drew ?_
   refine mV 8 (bs 11 511) (Ext.refl w9).drew ?_
   refine zr 9 (bs 11 1023) gs (k * 8 + 4) [.bool e.b.n, .slice e.b.p e.b.l e.b.c, .bool e.b.m, .slice e.b.p2 e.b.l2 e.b.c2] (fun wX hwX => range_ext (range_right (a := [.bool e.a.n, .slice e.a.p e.a.l e.a.c, .bool e.a.m, .slice e.a.p2 e.a.l2 e.a.c2]) (b := [.bool e.b.n, .slice e.b.p e.b.l e.b.c, .bool e.b.m, .slice e.b.p2 e.b.l2 e.b.c2]) (n := 4) HRD9.out rfl) hwX) Tryz.underlying32 (Ext.refl w9).drew ?_
   refine mC 10 (bs 11 2047) (less_any L _ _ l.q e.q _ (NIn.ofb (HOKL9.out.ext (Ext.refl _).drew)) (NIn.ofb (HOKE9.out.ext (Ext.refl _).drew)) hL) ?_
   rintro e wb ⟨rfl, hx⟩
   have HEwb := zH (show Ext w9 wb from ((Ext.refl w9).drew).trans hx)
   clear hx
   refine ⟨_, rfl, HEwb.out, ?_⟩
   try simp only [Act.put, zA, zB, zC]
   refine wpAnyH_done (by kernel_rfl) ?_ _
   have HE_ := zH (show Ext wr wb from HEw9.out.trans HEwb.out)
   have HOSc := zH (HOS.out.ext HE_.out)
   have HSSc := zH (HSS.out.ext HE_.out)
   have HOKEc := zH (HOKE.out.ext HE_.out)
   have HRDc := zH (range_ext HRD.out HE_.out)
   have HXc := zH (HX.out.trans HE_.out)
   by_cases c2 : l.q < e.q
   ·have hdd : decide (l.q < e.q) = true := by simpa using c2
    rw [hdd]
    have HSTEP2 := zH (HST2.out.trans (if_pos c2))
    clear c2
    go_upto_region 10 with fail
    refine wp_region_lit ?_
    refine qV (.slice (some ⟨g6, 0, none⟩) (m + 1) c6) ?_
    refine zq (.int .i64 m) ?_
    refine qV (.slice (some ⟨gs, 0, none⟩) ss.length cs) ?_
    refine zq (.int .i64 k) ?_
    refine qV (.pointer (some ⟨gs, k * 8, none⟩)) ?_
    refine zq (.pointer (some ⟨gs, k * 8 + 4, none⟩)) ?_
    refine wpList_if (by rfl) (wp_load_mid _ _ (by rfl) gs (k * 8 + 4) (by rfl) [.bool e.b.n, .slice e.b.p e.b.l e.b.c, .bool e.b.m, .slice e.b.p2 e.b.l2 e.b.c2] _ (range_right (a := [.bool e.a.n, .slice e.a.p e.a.l e.a.c, .bool e.a.m, .slice e.a.p2 e.a.l2 e.a.c2]) (b := [.bool e.b.n, .slice e.b.p e.b.l e.b.c, .bool e.b.m, .slice e.b.p2 e.b.l2 e.b.c2]) (n := 4) HRDc.out rfl) Tryz.underlying32 (by rfl) (by kernel_rfl) ?_)
    try simp only [Act.put, zA, zB, zC]
    refine qV (.pointer (some ⟨g6, m * 8, none⟩)) ?_
    refine zq (.pointer (some ⟨g6, m * 8 + 4, none⟩)) ?_
    obtain ⟨t1, t2, t3⟩ := HOSc.out.turn HM.out HOKEc.out
    obtain ⟨csr, hbr, hnr⟩ := HOSc.out.rowNoU
    refine wpList_if (by rfl) (wp_store_mid 32 _ _ (by rfl) g6 (m * 8 + 4) [.bool e.b.n, .slice e.b.p e.b.l e.b.c, .bool e.b.m, .slice e.b.p2 e.b.l2 e.b.c2].toArray (by rfl) (by rfl) t1 (by kernel_rfl) (all_oneCell_toArray (by simp [Value.oneCell'])) ?_)
    (try simp only [Act.put])
    have HSN := zH t2
    have hgb : w.heap.size ≤ g6 := Nat.le_trans HB.out (HOSc.out.1.block g6 (by simp [Value.ownBlock]))
    have HXn := zH (t3.ext HXc.out hgb)
    have HSSn := zH (HSSc.out.grown (row := some g6) t3 (fun j hj hj2 => by injection hj2 with hj2; have h7 := HOSc.out.1.block j (by simp [Value.ownBlock, hj2]); have h8 := HSSB.out j hj; omega) (fun r q h => h.own hbr hnr t3))
    have HZn := zH (Nat.le_trans HWZ.out (Nat.le_trans HE_.out.size t3.size))
    clear t1 t2 t3 hbr hnr hgb hdd
    generalize World.setCells wb g6 (m * 8 + 4) _ = wn at *
    go_wp2_with fail
    go_roundg (ss.length - (k + 1))
    case measure => have := HLT.out; omega
    case rel => exact ⟨k + 1, os ++ [⟨l.a, e.b, l.p, e.q⟩], _, HLT.out, rfl, by go_num, rfl, HSN.out, by rw [HSTEP2.out]; simp [SpE.vl], by have := HOKN.out; simp at this ⊢ <;> omega, HSSn.out, HXn.out, HZn.out⟩
   have hdd : decide (l.q < e.q) = false := by simpa using c2
   rw [hdd]
   have HSTEP2 := zH (HST2.out.trans (if_neg c2))
   clear c2
   go_wp2_with fail
   go_roundg (ss.length - (k + 1))
   case measure => have := HLT.out; omega
   case rel => exact ⟨k + 1, os ++ [l], _, HLT.out, rfl, by go_num, rfl, HOSc.out, by rw [HSTEP2.out, List.map_append]; rfl, by have := HOKN.out; omega, HSSc.out, HXc.out, Nat.le_trans HWZ.out HE_.out.size⟩
  obtain rfl : k = ss.length := by omega
  have hge2 : ¬ (ss.length : Int) < (ss.length : Int) := by omega
  have HR := zH (show os.map SpE.vl = mergeV ps by rw [hov, List.take_of_length_le (by rw [← HVAL.out, List.length_map]; exact Nat.le_refl _)]; rfl)
  have HOS := zH (SpR.mono hos HB.out)
  have HX2 := zH hx
  have HLE := zH (show os.length ≤ ps.length by have := HSL.out; omega)
  clear hos hov hok hss hx
  go_wp2_with fail
  go_ret
  exact ⟨_, rfl, os, HOS.out, HR.out, HLE.out, HX2.out⟩



set_option maxRecDepth 20000 in
set_option maxHeartbeats 4000000 in
theorem runion_any (L : Nat) (u v : Value) (ps qs : List QQ) (w : World) (hu : SpansV L w u ps) (hv : SpansV L w v qs) (h1L : 1 ≤ L) (hL : L ≤ 60000) (hn : ps.length + qs.length ≤ 20000) :
  Calls Tryz.prog 8 #[u, v] w fun e w' => ∃ v es, e = .returned v ∧ SpR L w' w.heap.size v es ∧ es.map SpE.vl = mergeV (ps ++ qs) ∧ es.length ≤ ps.length + qs.length ∧ Ext w w' := by
 obtain ⟨Aa, ca, ea, rfl, he_, hc_, ho_⟩ := SpansV.list hu
 have HEa := zH he_
 have HCa := zH hc_
 have HOa := zH ho_
 have HLa := zH (show ea.length = ps.length by rw [← he_, List.length_map])
 have HUa := zH hu
 clear he_ hc_ ho_
 obtain ⟨Ab, cb, eb, rfl, he_, hc_, ho_⟩ := SpansV.list hv
 have HEb := zH he_
 have HCb := zH hc_
 have HOb := zH ho_
 have HLb := zH (show eb.length = qs.length by rw [← he_, List.length_map])
 have HUb := zH hv
 clear he_ hc_ ho_
 clear hu hv
 go_enter Tryz.func8, Tryz.ntmps8
 have H0 := zH (Hp.start w)
 go_upto_region 0 with fail
 refine wp_region_lit ?_
 refine zq (.slice none 0 0) ?_
 go_upto_region 1 with fail
 refine wp_region_lit ?_
 refine zp (w' := w.alloc (.cells #[] 34)) (.slice (some ⟨w.heap.size, 0, none⟩) 0 0) (by go_simp) ?_
 have hh := H0.out.addEmpty 34 8
 have hd := Dig.of_ext ((Ext.refl w).alloc (.cells #[] 34))
 generalize w.alloc (.cells #[] 34) = w2 at hh hd ⊢
 generalize w.heap.size = X3 at hh ⊢
 have H4 := zH (show Hp w w2 [ro 34 8 (some ⟨X3, 0, none⟩) 0 0 SpE.cells ([])] from hh)
 clear hh hd
 refine zq (.slice (some ⟨X3, 0, none⟩) 0 0) ?_
 go_upto_region 2 with fail
 refine wp_region_lit ?_
 refine qV (.slice (some ⟨X3, 0, none⟩) 0 0) ?_
 refine zq (.slice Aa ea.length ca) ?_
 refine mv_appS (by rfl) _ _ _ (by rfl) elSpan (by rfl) H4.out (ix := 0) (by rfl) Aa ea.length ca (List.flatMap SpE.cells ea) (by rfl) (flat_len SpE.len ea) (fun h0_ => by obtain ⟨ad_, h1_, h2_⟩ := HCa.out h0_; exact ⟨ad_, h1_, fun j_ u_ hj_ => H4.out.ext.get (h2_ j_ u_ hj_)⟩) (sp_ones ea) (noUL_sp ea) (by unfold maxLen; exact (by have ob0 := HLa.out; have ob1 := HLb.out; omega)) (by have ob0 := HLa.out; have ob1 := HLb.out; omega) ?_
 intro A10 c11 w9 hh hd hg hf
 clear hf
 rw [show List.flatMap SpE.cells ([]) ++ List.flatMap SpE.cells ea = List.flatMap SpE.cells (([]) ++ ea) from List.flatMap_append.symm] at hh
 have H12 := zH (show Hp w w9 [ro 34 8 A10 (0 + ea.length) c11 SpE.cells (([]) ++ ea)] from hh)
 clear hh hd hg
 try simp only [Act.put, zA, zB, zC]
 refine zq (.slice A10 (0 + ea.length) c11) ?_
 go_upto_region 3 with fail
 refine wp_region_lit ?_
 refine qV (.slice A10 (0 + ea.length) c11) ?_
 refine zq (.slice Ab eb.length cb) ?_
 refine mv_appS (by rfl) _ _ _ (by rfl) elSpan (by rfl) H12.out (ix := 0) (by rfl) Ab eb.length cb (List.flatMap SpE.cells eb) (by rfl) (flat_len SpE.len eb) (fun h0_ => by obtain ⟨ad_, h1_, h2_⟩ := HCb.out h0_; exact ⟨ad_, h1_, fun j_ u_ hj_ => H12.out.ext.get (h2_ j_ u_ hj_)⟩) (sp_ones eb) (noUL_sp eb) (by unfold maxLen; exact (by have ob0 := HLa.out; have ob1 := HLb.out; omega)) (by have ob0 := HLa.out; have ob1 := HLb.out; omega) ?_
 intro A18 c19 w17 hh hd hg hf
 clear hf
 rw [show List.flatMap SpE.cells (([]) ++ ea) ++ List.flatMap SpE.cells eb = List.flatMap SpE.cells ((([]) ++ ea) ++ eb) from List.flatMap_append.symm] at hh
 have H20 := zH (show Hp w w17 [ro 34 8 A18 (0 + ea.length + eb.length) c19 SpE.cells ((([]) ++ ea) ++ eb)] from hh)
 clear hh hd hg
 try simp only [Act.put, zA, zB, zC]
 refine zc (rmerge_any L (.slice A18 (0 + ea.length + eb.length) c19) (List.map SpE.vl ((([]) ++ ea) ++ eb)) _ (spans_of_in (H20.out.row (i := 0) (by rfl)) (by simp) (fun e_ he_ => (List.mem_append.1 he_).elim (fun he_ => (HOa.out e_ (by simpa using he_)).ext H20.out.ext) (fun he_ => (HOb.out e_ he_).ext H20.out.ext))) h1L (by omega) (by rw [List.length_map, List.length_append, List.length_append, List.length_nil]; have q1_ := HLa.out; have q2_ := HLb.out; omega)) ?_
 rintro e w22 ⟨v_, es23, rfl, hv1_, hv2_, hv3_, hx⟩
 have VL23 := zH hv2_
 have LN23 := zH hv3_
 have OK23 := zH hv1_.2
 obtain ⟨A23, c23, rfl, hA_⟩ := RowN.form hv1_.1
 have HA23 := zH hA_
 clear hv2_ hv3_ hA_
 have H24 := zH (show Hp w w22 [ro 34 8 A18 (0 + ea.length + eb.length) c19 SpE.cells ((([]) ++ ea) ++ eb), ro 34 8 A23 es23.length c23 SpE.cells es23] from H20.out.addRow hx hv1_.1)
 clear hv1_
 clear hx
 refine zn ?_
 refine zq (.slice A23 es23.length c23) ?_
 go_wp2_with fail
 go_ret
 exact ⟨_, es23, rfl, ⟨H24.out.row (i := 1) (by rfl), OK23.out⟩, (by rw [VL23.out, List.map_append, List.map_append, HEa.out, HEb.out]; rfl), (Nat.le_trans LN23.out (by rw [List.length_map, List.length_append, List.length_append, List.length_nil]; have q1_ := HLa.out; have q2_ := HLb.out; omega)), H24.out.ext⟩
set_option maxRecDepth 20000 in
set_option maxHeartbeats 4000000 in
theorem union_any (L : Nat) (u v : Value) (ps qs : List QQ) (w : World) (hu : SpansV L w u ps) (hv : SpansV L w v qs) (h1L : 1 ≤ L) (hL : L ≤ 60000) (hn : ps.length + qs.length ≤ 20000) :
  Calls Tryz.prog 7 #[u, v] w fun e w' => ∃ v es, e = .returned v ∧ SpR L w' w.heap.size v es ∧ es.map SpE.vl = mergeV (ps ++ qs) ∧ es.length ≤ ps.length + qs.length ∧ Ext w w' := by
 obtain ⟨Aa, ca, ea, rfl, he_, hc_, ho_⟩ := SpansV.list hu
 have HEa := zH he_
 have HCa := zH hc_
 have HOa := zH ho_
 have HLa := zH (show ea.length = ps.length by rw [← he_, List.length_map])
 have HUa := zH hu
 clear he_ hc_ ho_
 obtain ⟨Ab, cb, eb, rfl, he_, hc_, ho_⟩ := SpansV.list hv
 have HEb := zH he_
 have HCb := zH hc_
 have HOb := zH ho_
 have HLb := zH (show eb.length = qs.length by rw [← he_, List.length_map])
 have HUb := zH hv
 clear he_ hc_ ho_
 clear hu hv
 go_enter Tryz.func7, Tryz.ntmps7
 have H0 := zH (Hp.start w)
 go_upto_region 0 with fail
 refine wp_region_lit ?_
 refine zq (.slice none 0 0) ?_
 go_upto_region 1 with fail
 refine wp_region_lit ?_
 refine qV (.slice Aa ea.length ca) ?_
 refine zc (merge_any L (.slice Aa ea.length ca) ps _ (HUa.out.ext H0.out.ext) h1L (by omega) (by omega)) ?_
 rintro e w29 ⟨v_, es30, rfl, hv1_, hv2_, hv3_, hx⟩
 have VL30 := zH hv2_
 have LN30 := zH hv3_
 have OK30 := zH hv1_.2
 obtain ⟨A30, c30, rfl, hA_⟩ := RowN.form hv1_.1
 have HA30 := zH hA_
 clear hv2_ hv3_ hA_
 have H31 := zH (show Hp w w29 [ro 34 8 A30 es30.length c30 SpE.cells es30] from H0.out.addRow hx hv1_.1)
 clear hv1_
 clear hx
 refine zn ?_
 refine zq (.slice Ab eb.length cb) ?_
 refine mv_appS (by rfl) _ _ _ (by rfl) elSpan (by rfl) H31.out (ix := 0) (by rfl) Ab eb.length cb (List.flatMap SpE.cells eb) (by rfl) (flat_len SpE.len eb) (fun h0_ => by obtain ⟨ad_, h1_, h2_⟩ := HCb.out h0_; exact ⟨ad_, h1_, fun j_ u_ hj_ => H31.out.ext.get (h2_ j_ u_ hj_)⟩) (sp_ones eb) (noUL_sp eb) (by unfold maxLen; exact (by have ob0 := HLa.out; have ob1 := HLb.out; have ob3 := LN30.out; omega)) (by have ob0 := HLa.out; have ob1 := HLb.out; have ob3 := LN30.out; omega) ?_
 intro A35 c36 w34 hh hd hg hf
 clear hf
 rw [show List.flatMap SpE.cells es30 ++ List.flatMap SpE.cells eb = List.flatMap SpE.cells (es30 ++ eb) from List.flatMap_append.symm] at hh
 have H37 := zH (show Hp w w34 [ro 34 8 A35 (es30.length + eb.length) c36 SpE.cells (es30 ++ eb)] from hh)
 have D37 := zH (hd)
 clear hh hd hg
 try simp only [Act.put, zA, zB, zC]
 refine zc (merge_any L (.slice A35 (es30.length + eb.length) c36) (List.map SpE.vl (es30 ++ eb)) _ (spans_of_in (H37.out.row (i := 0) (by rfl)) (by rw [List.length_append]) (fun e_ he_ => (List.mem_append.1 he_).elim (fun he_ => ((OK30.out e_ he_).dig D37.out).i) (fun he_ => (HOb.out e_ he_).ext H37.out.ext))) h1L (by omega) (by rw [List.length_map, List.length_append]; have q0_ := LN30.out; have q1_ := HLa.out; have q2_ := HLb.out; omega)) ?_
 rintro e w39 ⟨v_, es40, rfl, hv1_, hv2_, hv3_, hx⟩
 have VL40 := zH hv2_
 have LN40 := zH hv3_
 have OK40 := zH hv1_.2
 obtain ⟨A40, c40, rfl, hA_⟩ := RowN.form hv1_.1
 have HA40 := zH hA_
 clear hv2_ hv3_ hA_
 have H41 := zH (show Hp w w39 [ro 34 8 A35 (es30.length + eb.length) c36 SpE.cells (es30 ++ eb), ro 34 8 A40 es40.length c40 SpE.cells es40] from H37.out.addRow hx hv1_.1)
 clear hv1_
 clear hx
 refine zn ?_
 refine zq (.slice A40 es40.length c40) ?_
 go_wp2_with fail
 go_ret
 exact ⟨_, es40, rfl, ⟨H41.out.row (i := 1) (by rfl), OK40.out⟩, (by rw [VL40.out, List.map_append, VL30.out, HEb.out, union_eq]), (Nat.le_trans LN40.out (by rw [List.length_map, List.length_append]; have q0_ := LN30.out; have q1_ := HLa.out; have q2_ := HLb.out; omega)), H41.out.ext⟩

def interD (pl ql : List SpE) (i j : Nat) : List QQ := interV ((pl.drop i).map SpE.vl) ((ql.drop j).map SpE.vl)
theorem interD_step {pl ql : List SpE} {i j : Nat} {x y : SpE} (hx : pl[i]? = some x) (hy : ql[j]? = some y) :
    interD pl ql i j = (if (cut2 x.vl y.vl).1 < (cut2 x.vl y.vl).2 then [cut2 x.vl y.vl] else []) ++ (if x.q < y.q then interD pl ql (i + 1) j else interD pl ql i (j + 1)) := by
  obtain ⟨hi, rfl⟩ := List.getElem?_eq_some_iff.1 hx
  obtain ⟨hj, rfl⟩ := List.getElem?_eq_some_iff.1 hy
  unfold interD
  rw [List.drop_eq_getElem_cons hi, List.drop_eq_getElem_cons hj, List.map_cons, List.map_cons, interV]
  rfl
theorem interD_end1 {pl ql : List SpE} {i j : Nat} (h : pl.length ≤ i) : interD pl ql i j = [] := by
  unfold interD
  rw [List.drop_of_length_le h, List.map_nil, interV]
theorem interD_end2 {pl ql : List SpE} {i j : Nat} (h : ql.length ≤ j) : interD pl ql i j = [] := by
  unfold interD
  rw [List.drop_of_length_le h, List.map_nil]
  cases (pl.drop i).map SpE.vl <;> rw [interV]
theorem head_adr {n : Nat} {A : Option Addr} (h : 0 < n → ∃ g, A = some ⟨g, 0, none⟩) : ∃ g, 0 < n → A = some ⟨g, 0, none⟩ := by
  by_cases h0 : 0 < n
  · obtain ⟨g, hg⟩ := h h0; exact ⟨g, fun _ => hg⟩
  exact ⟨0, fun h1 => absurd h1 h0⟩
set_option maxRecDepth 20000 in
set_option maxHeartbeats 4000000 in
theorem inter_any (L : Nat) (u v : Value) (ps qs : List QQ) (w : World) (hu : SpansV L w u ps) (hv : SpansV L w v qs) (h1L : 1 ≤ L) (hL : L ≤ 60000) (hn : ps.length ≤ 8000 ∧ qs.length ≤ 8000) :
  Calls Tryz.prog 9 #[u, v] w fun e w' => ∃ v es, e = .returned v ∧ SpR L w' w.heap.size v es ∧ es.map SpE.vl = interV (mergeV ps) (mergeV qs) ∧ es.length ≤ ps.length + qs.length ∧ Ext w w' := by
 obtain ⟨Aa, ca, ea, rfl, he_, hc_, ho_⟩ := SpansV.list hu
 have HEa := zH he_
 have HCa := zH hc_
 have HOa := zH ho_
 have HUa := zH hu
 clear he_ hc_ ho_
 obtain ⟨Ab, cb, eb, rfl, he_, hc_, ho_⟩ := SpansV.list hv
 have HEb := zH he_
 have HCb := zH hc_
 have HOb := zH ho_
 have HUb := zH hv
 clear he_ hc_ ho_
 clear hu hv
 go_enter Tryz.func9, Tryz.ntmps9
 have H0 := zH (Hp.start w)
 go_upto_region 0 with fail
 refine wp_region_lit ?_
 refine zq (.slice none 0 0) ?_
 go_upto_region 1 with fail
 refine wp_region_lit ?_
 refine qV (.slice Aa ea.length ca) ?_
 refine zc (merge_any L (.slice Aa ea.length ca) ps _ (HUa.out.ext H0.out.ext) h1L (by omega) (by omega)) ?_
 rintro e w3 ⟨v_, es4, rfl, hv1_, hv2_, hv3_, hx⟩
 have VL4 := zH hv2_
 have LN4 := zH hv3_
 have OK4 := zH hv1_.2
 obtain ⟨A4, c4, rfl, hA_⟩ := RowN.form hv1_.1
 have HA4 := zH hA_
 clear hv2_ hv3_ hA_
 have H5 := zH (show Hp w w3 [ro 34 8 A4 es4.length c4 SpE.cells es4] from H0.out.addRow hx hv1_.1)
 clear hv1_
 clear hx
 refine zn ?_
 refine qV (.slice Ab eb.length cb) ?_
 refine zc (merge_any L (.slice Ab eb.length cb) qs _ (HUb.out.ext H5.out.ext) h1L (by omega) (by omega)) ?_
 rintro e w8 ⟨v_, es9, rfl, hv1_, hv2_, hv3_, hx⟩
 have VL9 := zH hv2_
 have LN9 := zH hv3_
 have OK9 := zH hv1_.2
 obtain ⟨A9, c9, rfl, hA_⟩ := RowN.form hv1_.1
 have HA9 := zH hA_
 clear hv2_ hv3_ hA_
 have H10 := zH (show Hp w w8 [ro 34 8 A4 es4.length c4 SpE.cells es4, ro 34 8 A9 es9.length c9 SpE.cells es9] from H5.out.addRow hx hv1_.1)
 have D10 := zH (Dig.of_ext hx)
 clear hv1_
 clear hx
 refine zn ?_
 refine qV (.slice A4 es4.length c4) ?_
 refine zq (.slice A9 es9.length c9) ?_
 have hpl : es4.length ≤ ps.length := LN4.out
 have hql : es9.length ≤ qs.length := LN9.out
 obtain ⟨gp, hgp_⟩ := head_adr HA4.out
 obtain ⟨gq, hgq_⟩ := head_adr HA9.out
 have HGP := zH hgp_
 have HGQ := zH hgq_
 clear hgp_ hgq_
 have HCP := zH (show es4.length ≤ c4 from RowN.cap (H10.out.row (i := 0) (by rfl)))
 have HCQ := zH (show es9.length ≤ c9 from RowN.cap (H10.out.row (i := 1) (by rfl)))
 go_upto_region 2 with fail
 refine wp_region_lit ?_
 refine zq (.slice none 0 0) ?_
 have H15 := zH (show Hp w w8 [ro 34 8 A4 es4.length c4 SpE.cells es4, ro 34 8 A9 es9.length c9 SpE.cells es9, ro 34 8 none 0 0 SpE.cells ([])] from H10.out.addNil 34 8)
 go_wp2_with fail
 go_loopg [5, 6, 7] (es4.length + es9.length) (fun cq v16 v17 v18 wr => ∃ (k : Nat) (i : Nat) (j : Nat) (n1 : Nat) (n2 : Nat) (m : Nat) (es : List SpE) (A1 : Option Addr) (c1 : Nat) (A2 : Option Addr) (c2 : Nat) (A3 : Option Addr) (c3 : Nat), cq = (es4.length + es9.length) - k ∧ v16 = .slice A1 n1 c1 ∧ v17 = .slice A2 n2 c2 ∧ v18 = .slice A3 m c3 ∧ (k = i + j) ∧ (i + n1 = es4.length ∧ j + n2 = es9.length) ∧ (n1 ≤ c1 ∧ n2 ≤ c2) ∧ (0 < n1 → A1 = some ⟨gp, i * 8, none⟩) ∧ (0 < n2 → A2 = some ⟨gq, j * 8, none⟩) ∧ (es.map SpE.vl ++ interD es4 es9 i j = interV (es4.map SpE.vl) (es9.map SpE.vl)) ∧ (m = es.length ∧ m ≤ i + j) ∧ (∀ e, e ∈ es → e.Ok L wr) ∧ Hp w wr [.row 34 8 (.slice A4 es4.length c4) (es4.length) (List.flatMap SpE.cells es4), .row 34 8 (.slice A9 es9.length c9) (es9.length) (List.flatMap SpE.cells es9), .row 34 8 (.slice A3 m c3) (m) (List.flatMap SpE.cells es)] ∧ Dig w8 wr)
 case atStart => exact ⟨0, 0, 0, es4.length, es9.length, 0, [], A4, c4, A9, c9, none, 0, rfl, rfl, rfl, rfl, rfl, ⟨Nat.zero_add _, Nat.zero_add _⟩, ⟨HCP.out, HCQ.out⟩, (fun h_ => by rw [HGP.out h_, Nat.zero_mul]), (fun h_ => by rw [HGQ.out h_, Nat.zero_mul]), rfl, ⟨rfl, Nat.le_refl _⟩, (by simp), H15.out, Dig.refl _⟩
 case round =>
  obtain ⟨k, i, j, n1, n2, m, es, A1, c1, A2, c2, A3, c3, rfl, rfl, rfl, rfl, q_HK, q_HIJ, q_HC, q_HA1, q_HA2, q_HV, q_HM, q_HOE, hh_, hd_⟩ := hrel
  generalize wr = w19 at *
  have HK := zH q_HK
  clear q_HK
  have HIJ := zH q_HIJ
  clear q_HIJ
  have HC := zH q_HC
  clear q_HC
  have HA1 := zH q_HA1
  clear q_HA1
  have HA2 := zH q_HA2
  clear q_HA2
  have HV := zH q_HV
  clear q_HV
  have HM := zH q_HM
  clear q_HM
  have HOE := zH q_HOE
  clear q_HOE
  have H21 := zH hh_
  have D21 := zH hd_
  clear hh_ hd_ H15
  by_cases c22 : 0 < n1 ∧ 0 < n2
  ·have HLT := zH c22
   clear c22
   have h1 := HLT.out.1
   have h2 := HLT.out.2
   obtain ⟨n1, rfl⟩ : ∃ n, n1 = n + 1 := ⟨n1 - 1, by omega⟩
   obtain ⟨n2, rfl⟩ : ∃ n, n2 = n + 1 := ⟨n2 - 1, by omega⟩
   have hij := HIJ.out
   have HAP := zH (HA1.out h1)
   have HAQ := zH (HA2.out h2)
   obtain rfl := HAP.out
   obtain rfl := HAQ.out
   obtain rfl := HGP.out (by omega)
   obtain rfl := HGQ.out (by omega)
   have hil : i < es4.length := by omega
   have hjl : j < es9.length := by omega
   obtain ⟨ex, he_⟩ : ∃ ex, es4[i]? = some ex := ⟨_, List.getElem?_eq_getElem hil⟩
   have HEex := zH he_
   have HOex := zH (OK4.out ex (List.mem_of_getElem? he_))
   have RAex := zH HOex.out.1
   have RBex := zH HOex.out.2.1
   have BAex := zH HOex.out.2.2.1
   have BBex := zH HOex.out.2.2.2
   clear he_
   obtain ⟨ey, he_⟩ : ∃ ey, es9[j]? = some ey := ⟨_, List.getElem?_eq_getElem hjl⟩
   have HEey := zH he_
   have HOey := zH (OK9.out ey (List.mem_of_getElem? he_))
   have RAey := zH HOey.out.1
   have RBey := zH HOey.out.2.1
   have BAey := zH HOey.out.2.2.1
   have BBey := zH HOey.out.2.2.2
   clear he_
   have HST := zH (interD_step HEex.out HEey.out)
   go_upto_region 3 with fail
   refine wp_region_lit ?_
   refine qV (.slice (some ⟨gp, i * 8, none⟩) (n1 + 1) c1) ?_
   refine zq (.int .i64 ((n1 + 1 : Nat) : Int)) ?_
   refine zp (w' := w19) (.bool true) (by exact ezg (e := (dec_t (by have ob4 := HM.out.2; have ob5 := HK.out; have ob6 := HC.out; omega)))) ?_
   refine qV (.bool true) ?_
   refine zq (.slice (some ⟨gq, j * 8, none⟩) (n2 + 1) c2) ?_
   refine zq (.int .i64 ((n2 + 1 : Nat) : Int)) ?_
   refine zp (w' := w19) (.bool true) (by exact ezg (e := (dec_t (by have ob4 := HM.out.2; have ob5 := HK.out; have ob6 := HC.out; omega)))) ?_
   refine zq (.bool true) ?_
   go_upto_region 4 with fail
   refine zy ?_
   have H31 := zH (H21.out.step (Ext.refl w19).drew)
   have D31 := zH (Dig.of_ext (w := w19) zb)
   refine zx 0 (bs 21 1) (.slice (some ⟨gp, i * 8, none⟩) (n1 + 1) c1) zb ?_
   refine zu 1 (bs 21 3) (v := .pointer (some ⟨gp, i * 8, none⟩)) zb ?_ (hv := by intro w hSw; exact ezi (k := 0) Tryz.underlying22 (l := (by omega)) (f := (show i * 8 = i * 8 + 0 * 8 by omega)))
   refine mX 2 (bs 21 7) (.pointer (some ⟨gp, i * 8, none⟩)) zb ?_
   refine zg 3 (bs 21 15) gp (i * 8) (rc ex.a) (range_part (H21.out.elem (f := SpE.cells) (i := 0) (by rfl) SpE.len HEex.out) 0 4) Tryz.underlying32 zb ?_
   refine zx 4 (bs 21 31) (.slice (some ⟨gq, j * 8, none⟩) (n2 + 1) c2) zb ?_
   refine zu 5 (bs 21 63) (v := .pointer (some ⟨gq, j * 8, none⟩)) zb ?_ (hv := by intro w hSw; exact ezi (k := 0) Tryz.underlying22 (l := (by omega)) (f := (show j * 8 = j * 8 + 0 * 8 by omega)))
   refine mX 6 (bs 21 127) (.pointer (some ⟨gq, j * 8, none⟩)) zb ?_
   refine zg 7 (bs 21 255) gq (j * 8) (rc ey.a) (range_part (H21.out.elem (f := SpE.cells) (i := 1) (by rfl) SpE.len HEey.out) 0 4) Tryz.underlying32 zb ?_
   refine zx 9 (bs 21 767) (.slice (some ⟨gp, i * 8, none⟩) (n1 + 1) c1) zb ?_
   refine zu 10 (bs 21 1791) (v := .pointer (some ⟨gp, i * 8, none⟩)) zb ?_ (hv := by intro w hSw; exact ezi (k := 0) Tryz.underlying22 (l := (by omega)) (f := (show i * 8 = i * 8 + 0 * 8 by omega)))
   refine mX 11 (bs 21 3839) (.pointer (some ⟨gp, i * 8 + 4, none⟩)) zb ?_
   refine zg 12 (bs 21 7935) gp (i * 8 + 4) (rc ex.b) (range_part (H21.out.elem (f := SpE.cells) (i := 0) (by rfl) SpE.len HEex.out) 4 4) Tryz.underlying32 zb ?_
   refine zx 13 (bs 21 16127) (.slice (some ⟨gq, j * 8, none⟩) (n2 + 1) c2) zb ?_
   refine zu 14 (bs 21 32511) (v := .pointer (some ⟨gq, j * 8, none⟩)) zb ?_ (hv := by intro w hSw; exact ezi (k := 0) Tryz.underlying22 (l := (by omega)) (f := (show j * 8 = j * 8 + 0 * 8 by omega)))
   refine mX 15 (bs 21 65279) (.pointer (some ⟨gq, j * 8 + 4, none⟩)) zb ?_
   refine zg 16 (bs 21 130815) gq (j * 8 + 4) (rc ey.b) (range_part (H21.out.elem (f := SpE.cells) (i := 1) (by rfl) SpE.len HEey.out) 4 4) Tryz.underlying32 zb ?_
   refine Fl.go (j := 19) (dj := some 8) (T := 34) (zs := [.bool false, .slice none 0 0, .bool false, .slice none 0 0, .bool false, .slice none 0 0, .bool false, .slice none 0 0]) (b := w19) (w0 := w) (m := [.row 34 8 (.slice (some ⟨gp, 0, none⟩) es4.length c4) (es4.length) (List.flatMap SpE.cells es4), .row 34 8 (.slice (some ⟨gq, 0, none⟩) es9.length c9) (es9.length) (List.flatMap SpE.cells es9), .row 34 8 (.slice A3 m c3) (m) (List.flatMap SpE.cells es)]) ?_
   have DD47 := zH (((D10.out.trans D21.out).trans D31.out))
   have DD48 := zH ((D21.out.trans D31.out))
   refine fl_call (i := 8) (lj := (bs 21 655103)) (li := (bs 21 131071)) (by rfl) (by rfl) (by kernel_rfl) (by kernel_rfl) (by kernel_rfl) (by kernel_rfl) (by kernel_rfl) (by decide) (by kernel_rfl) (by rfl) (by rfl) (by intro r_ x_; go_simp) (fun x y h1 h2 => h1.trans h2) zb.size H31.out (by simp [NoUL]) zb (by rfl) (by intro x_; go_simp) (by kernel_rfl) (fun xq hxq => upper_any L _ _ ex.p ey.p _ (RV.Is.nis (RAex.out.dig (DD47.out.trans (Dig.of_ext hxq)))) (RV.Is.nis (RAey.out.dig (DD48.out.trans (Dig.of_ext hxq)))) BAex.out BAey.out (by omega)) (by rintro x_ e x2_ ⟨c_, rfl, hc_, hx⟩; exact hx) ?_
   rintro xq e w45 hxq ⟨c_, rfl, hc_, hx⟩
   replace hx := hxq.trans hx
   clear hxq
   have H49 := zH (H31.out.step hx)
   have D49 := zH (show Dig w19.drew w45 from Dig.of_ext hx)
   have S51 := zH (show Ext w19 w45 from zb.trans hx)
   obtain ⟨q46, hq_⟩ : ∃ q_ : Rat, q_ = (if ex.p < ey.p then ey.p else ex.p) := ⟨_, rfl⟩
   rw [← hq_] at hc_
   obtain ⟨r46, rfl, hr_⟩ := hc_
   have R46 := zH hr_
   have B46 := zH (show Nm.rl q46 ≤ L from by rw [hq_]; have h1 := BAex.out; have h2 := BAey.out; split <;> assumption)
   have Q46 := zH hq_
   clear hr_ hq_
   clear hx
   refine ⟨_, rfl, ?_⟩
   try simp only [Act.put, zA, zB, zC]
   have DD54 := zH ((((D10.out.trans D21.out).trans D31.out).trans D49.out))
   have DD55 := zH (((D21.out.trans D31.out).trans D49.out))
   refine fl_call (i := 17) (lj := (bs 21 655359)) (li := (bs 21 262143)) (by rfl) (by rfl) (by kernel_rfl) (by kernel_rfl) (by kernel_rfl) (by kernel_rfl) (by kernel_rfl) (by decide) (by kernel_rfl) (by rfl) (by rfl) (by intro r_ x_; go_simp) (fun x y h1 h2 => h1.trans h2) S51.out.size H49.out (by simp [NoUL]) S51.out (by rfl) (by intro x_; go_simp) (by kernel_rfl) (fun xq hxq => lower_any L _ _ ex.q ey.q _ (RV.Is.nis (RBex.out.dig (DD54.out.trans (Dig.of_ext hxq)))) (RV.Is.nis (RBey.out.dig (DD55.out.trans (Dig.of_ext hxq)))) BBex.out BBey.out (by omega)) (by rintro x_ e x2_ ⟨c_, rfl, hc_, hx⟩; exact hx) ?_
   rintro xq e w52 hxq ⟨c_, rfl, hc_, hx⟩
   replace hx := hxq.trans hx
   clear hxq
   have H56 := zH (H49.out.step hx)
   have D56 := zH (Dig.of_ext hx)
   have S58 := zH (S51.out.trans hx)
   obtain ⟨q53, hq_⟩ : ∃ q_ : Rat, q_ = (if ey.q < ex.q then ey.q else ex.q) := ⟨_, rfl⟩
   rw [← hq_] at hc_
   obtain ⟨r53, rfl, hr_⟩ := hc_
   have R53 := zH hr_
   have B53 := zH (show Nm.rl q53 ≤ L from by rw [hq_]; have h1 := BBex.out; have h2 := BBey.out; split <;> assumption)
   have Q53 := zH hq_
   clear hr_ hq_
   clear hx
   refine ⟨_, rfl, ?_⟩
   try simp only [Act.put, zA, zB, zC]
   refine fl_take (i := 18) (lj := (bs 21 786431)) (li := (bs 21 524287)) (v := .agg #[.bool r46.n, .slice r46.p r46.l r46.c, .bool r46.m, .slice r46.p2 r46.l2 r46.c2, .bool r53.n, .slice r53.p r53.l r53.c, .bool r53.m, .slice r53.p2 r53.l2 r53.c2]) (by rfl) (by kernel_rfl) (by kernel_rfl) (by kernel_rfl) (by kernel_rfl) (by kernel_rfl) (by kernel_rfl) (by decide) (by kernel_rfl) (by intro _ _ _ h; exact h) (y_val (by rfl) (by intro w hSw; go_simp <;> with_reducible rfl)) S58.out (by kernel_rfl) ?_
   try simp only [Act.put, zA, zB, zC]
   refine fl_end (by rfl) (by kernel_rfl) (by rfl) (by rfl) (by intro r_ x_; go_simp) (fun x y h1 h2 => h1.trans h2) S58.out.size H56.out (by simp [NoUL]) S58.out (show _ = (bs 21 1048575) by kernel_rfl) ?_
   intro X60 w61 hx hh hs hge
   have H62 := zH (show Hp w w61 [ro 34 8 (some ⟨gp, 0, none⟩) es4.length c4 SpE.cells es4, ro 34 8 (some ⟨gq, 0, none⟩) es9.length c9 SpE.cells es9, ro 34 8 A3 m c3 SpE.cells es, .blk X60 34 [.bool false, .slice none 0 0, .bool false, .slice none 0 0, .bool false, .slice none 0 0, .bool false, .slice none 0 0]] from hh)
   have D62 := zH (Dig.of_ext hx)
   have S64 := zH (show Ext w19 w61 from hs)
   have G65 := zH (show w19.heap.size ≤ X60 from hge)
   clear hh hx hge hs
   try simp only [Act.put, zA, zB, zC]
   refine md_st (i := 20) (listed' := (bs 21 2097151)) (by rfl) (by kernel_rfl) (by rfl) (by kernel_rfl) _ _ _ (by rfl) H62.out (ix := 3) (by rfl) 0 [.bool r46.n, .slice r46.p r46.l r46.c, .bool r46.m, .slice r46.p2 r46.l2 r46.c2, .bool r53.n, .slice r53.p r53.l r53.c, .bool r53.m, .slice r53.p2 r53.l2 r53.c2] (by rfl) (by rfl) (by simp) (by kernel_rfl) (by simp [Value.oneCell']) (by simp [NoUL]) ?_
   intro w66 hh hd ho
   have H67 := zH (show Hp w w66 [ro 34 8 (some ⟨gp, 0, none⟩) es4.length c4 SpE.cells es4, ro 34 8 (some ⟨gq, 0, none⟩) es9.length c9 SpE.cells es9, ro 34 8 A3 m c3 SpE.cells es, .blk X60 34 [.bool r46.n, .slice r46.p r46.l r46.c, .bool r46.m, .slice r46.p2 r46.l2 r46.c2, .bool r53.n, .slice r53.p r53.l r53.c, .bool r53.m, .slice r53.p2 r53.l2 r53.c2]] from hh)
   have D67 := zH (hd)
   have S69 := zH (show Ext w19 w66 from Own.ext ho S64.out G65.out)
   clear hh hd ho
   refine ⟨S69.out, ?_⟩
   (try simp only [Act.put])
   refine wpAnyH_done (by kernel_rfl) ?_ _
   have HCU := zH (show cut2 ex.vl ey.vl = (q46, q53) from by unfold cut2; rw [Q46.out, Q53.out]; rfl)
   by_cases c70 : q46 < q53
   ·have CS := zH c70
    clear c70
    go_upto_region 5 with fail
    refine wp_region_lit ?_
    refine qV (.pointer (some ⟨X60, 0, none⟩)) ?_
    refine zd X60 (0) (rc r46) (H67.out.range (i := 3) (by rfl) 0 4) Tryz.underlying32 ?_
    refine qV (.pointer (some ⟨X60, 4, none⟩)) ?_
    refine zd X60 (4) (rc r53) (H67.out.range (i := 3) (by rfl) 4 4) Tryz.underlying32 ?_
    have DD74 := zH (((D56.out.trans D62.out).trans D67.out))
    have DD75 := zH ((D62.out.trans D67.out))
    refine zc (pCmp (L := 60000) (RV.Is.nin (R46.out.dig DD74.out) (Nat.le_trans B46.out (by omega))) (RV.Is.nin (R53.out.dig DD75.out) (Nat.le_trans B53.out (by omega))) (by omega)) ?_
    rintro e w73 ⟨rfl, hx⟩
    have H76 := zH (H67.out.step hx)
    have D76 := zH (Dig.of_ext hx)
    clear hx
    refine zn ?_
    refine zp (w' := w73) (.bool true) (by exact ezl (e := (dec_t (rcmp_lt.2 CS.out)))) ?_
    go_upto_region 6 with fail
    refine wp_region_lit ?_
    refine qV (.slice A3 m c3) ?_
    refine zd X60 (0) [.bool r46.n, .slice r46.p r46.l r46.c, .bool r46.m, .slice r46.p2 r46.l2 r46.c2, .bool r53.n, .slice r53.p r53.l r53.c, .bool r53.m, .slice r53.p2 r53.l2 r53.c2] (H76.out.range (i := 3) (by rfl) 0 8) Tryz.underlying34 ?_
    refine zp (w' := (w73.alloc (.cells ([.bool r46.n, .slice r46.p r46.l r46.c, .bool r46.m, .slice r46.p2 r46.l2 r46.c2, .bool r53.n, .slice r53.p r53.l r53.c, .bool r53.m, .slice r53.p2 r53.l2 r53.c2] : List Value).toArray 34))) (.slice (some ⟨w73.heap.size, 0, none⟩) 1 1) (by go_simp) ?_
    refine mv_app (by rfl) _ _ _ (by rfl) elSpan (by rfl) H76.out (ix := 2) (by rfl) 1 1 [.bool r46.n, .slice r46.p r46.l r46.c, .bool r46.m, .slice r46.p2 r46.l2 r46.c2, .bool r53.n, .slice r53.p r53.l r53.c, .bool r53.m, .slice r53.p2 r53.l2 r53.c2] (by rfl) rfl (by simp [Value.oneCell']) (by simp [NoUL]) (by decide) (by unfold maxLen; exact (by have ob4 := HM.out.2; have ob5 := HK.out; have ob6 := HC.out; omega)) (by have ob4 := HM.out.2; have ob5 := HK.out; have ob6 := HC.out; omega) ?_
    intro g81 cp82 w80 hf hh hd hg
    have Fg81 := zH hf
    clear hf
    rw [show List.flatMap SpE.cells es ++ [.bool r46.n, .slice r46.p r46.l r46.c, .bool r46.m, .slice r46.p2 r46.l2 r46.c2, .bool r53.n, .slice r53.p r53.l r53.c, .bool r53.m, .slice r53.p2 r53.l2 r53.c2] = List.flatMap SpE.cells (es ++ [(⟨r46, r53, q46, q53⟩ : SpE)]) from flat_snoc SpE.cells _ (⟨r46, r53, q46, q53⟩ : SpE)] at hh
    have H83 := zH (show Hp w w80 [ro 34 8 (some ⟨gp, 0, none⟩) es4.length c4 SpE.cells es4, ro 34 8 (some ⟨gq, 0, none⟩) es9.length c9 SpE.cells es9, ro 34 8 (some ⟨g81, 0, none⟩) (m + 1) cp82 SpE.cells (es ++ [(⟨r46, r53, q46, q53⟩ : SpE)]), .blk X60 34 [.bool r46.n, .slice r46.p r46.l r46.c, .bool r46.m, .slice r46.p2 r46.l2 r46.c2, .bool r53.n, .slice r53.p r53.l r53.c, .bool r53.m, .slice r53.p2 r53.l2 r53.c2]] from hh)
    have D83 := zH (hd)
    clear hh hd hg
    try simp only [Act.put, zA, zB, zC]
    refine zq (.slice (some ⟨g81, 0, none⟩) (m + 1) cp82) ?_
    by_cases c86 : ex.q < ey.q
    ·have CE := zH c86
     clear c86
     go_upto_region 7 with fail
     refine zy ?_
     have H87 := zH (H83.out.step (Ext.refl w80).drew)
     have D87 := zH (Dig.of_ext (w := w80) zb)
     refine zx 0 (bs 10 1) (.slice (some ⟨gp, i * 8, none⟩) (n1 + 1) c1) zb ?_
     refine zu 1 (bs 10 3) (v := .pointer (some ⟨gp, i * 8, none⟩)) zb ?_ (hv := by intro w hSw; exact ezi (k := 0) Tryz.underlying22 (l := (by omega)) (f := (show i * 8 = i * 8 + 0 * 8 by omega)))
     refine mX 2 (bs 10 7) (.pointer (some ⟨gp, i * 8 + 4, none⟩)) zb ?_
     refine zg 3 (bs 10 15) gp (i * 8 + 4) (rc ex.b) (range_part (H83.out.elem (f := SpE.cells) (i := 0) (by rfl) SpE.len HEex.out) 4 4) Tryz.underlying32 zb ?_
     refine zx 4 (bs 10 31) (.slice (some ⟨gq, j * 8, none⟩) (n2 + 1) c2) zb ?_
     refine zu 5 (bs 10 63) (v := .pointer (some ⟨gq, j * 8, none⟩)) zb ?_ (hv := by intro w hSw; exact ezi (k := 0) Tryz.underlying22 (l := (by omega)) (f := (show j * 8 = j * 8 + 0 * 8 by omega)))
     refine mX 6 (bs 10 127) (.pointer (some ⟨gq, j * 8 + 4, none⟩)) zb ?_
     refine zg 7 (bs 10 255) gq (j * 8 + 4) (rc ey.b) (range_part (H83.out.elem (f := SpE.cells) (i := 1) (by rfl) SpE.len HEey.out) 4 4) Tryz.underlying32 zb ?_
     have DD96 := zH ((((((((((D10.out.trans D21.out).trans D31.out).trans D49.out).trans D56.out).trans D62.out).trans D67.out).trans D76.out).trans D83.out).trans D87.out))
     have DD97 := zH (((((((((D21.out.trans D31.out).trans D49.out).trans D56.out).trans D62.out).trans D67.out).trans D76.out).trans D83.out).trans D87.out))
     refine mC 8 (bs 10 511) (pCmp (L := 60000) (RV.Is.nin (RBex.out.dig DD96.out) (Nat.le_trans BBex.out (by omega))) (RV.Is.nin (RBey.out.dig DD97.out) (Nat.le_trans BBey.out (by omega))) (by omega)) ?_
     rintro e w95 ⟨rfl, hx⟩
     have H98 := zH (H87.out.step hx)
     have D98 := zH (show Dig w80.drew w95 from Dig.of_ext hx)
     have S100 := zH (show Ext w80 w95 from zb.trans hx)
     clear hx
     refine zm S100.out ?_
     refine zu 9 (bs 10 1023) (v := .bool true) S100.out ?_ (hv := by intro w hSw; exact ezl (e := (dec_t (rcmp_lt.2 CE.out))))
     refine wpAnyH_done (by kernel_rfl) ?_ _
     go_upto_region 8 with fail
     refine wp_region_lit ?_
     refine zq (.slice (some ⟨gp, i * 8, none⟩) (n1 + 1) c1) ?_
     refine zp (w' := w95) (.slice (tailA gp (i * 8) c1 8) n1 (c1 - 1)) (by exact ev_tail (by rfl) Tryz.underlying22 (by kernel_rfl) (by rfl) (by rfl) (by decide)) ?_
     refine zq (.slice (tailA gp (i * 8) c1 8) n1 (c1 - 1)) ?_
     have DD105 := zH (((((((((D31.out.trans D49.out).trans D56.out).trans D62.out).trans D67.out).trans D76.out).trans D83.out).trans D87.out).trans D98.out))
     have DD106 := zH (((((((D56.out.trans D62.out).trans D67.out).trans D76.out).trans D83.out).trans D87.out).trans D98.out))
     have DD107 := zH ((((((D62.out.trans D67.out).trans D76.out).trans D83.out).trans D87.out).trans D98.out))
     have DD108 := zH ((((((((((D21.out.trans D31.out).trans D49.out).trans D56.out).trans D62.out).trans D67.out).trans D76.out).trans D83.out).trans D87.out).trans D98.out))
     go_wp2_with fail
     go_roundg (es4.length + es9.length - (k + 1))
     case measure => exact (by have ob4 := HM.out.2; have ob5 := HK.out; have ob6 := HC.out; have ob7 := (show k < es4.length + es9.length from by have q1_ := HIJ.out; have q2_ := HK.out; omega); omega)
     case rel => exact ⟨k + 1, i + 1, j, n1, n2 + 1, m + 1, es ++ [(⟨r46, r53, q46, q53⟩ : SpE)], tailA gp (i * 8) c1 8, (c1 - 1), some ⟨gq, j * 8, none⟩, c2, some ⟨g81, 0, none⟩, cp82, rfl, rfl, rfl, rfl, (by have q1_ := HK.out; omega), (by have q1_ := HIJ.out; omega), (by have q1_ := HC.out; exact ⟨by omega, q1_.2⟩), (fun h_ => by have q1_ := HC.out; rw [tailA_some h_ (by omega)]; congr 2; omega), (fun h_ => rfl), (by rw [← HV.out, HST.out, HCU.out, if_pos CS.out, List.map_append, List.append_assoc]; rw [if_pos CE.out]; rfl), ⟨by rw [List.length_append, ← HM.out.1]; rfl, by have q1_ := HM.out.2; omega⟩, (fun g_ hg_ => (List.mem_append.1 hg_).elim (fun hg_ => (HOE.out g_ hg_).dig DD105.out) (fun hg_ => by rw [List.mem_singleton.1 hg_]; exact ⟨(R46.out.dig DD106.out), (R53.out.dig DD107.out), B46.out, B53.out⟩)), H98.out.take 3, DD108.out⟩
    have CE := zH c86
    clear c86
    go_upto_region 7 with fail
    refine zy ?_
    have H109 := zH (H83.out.step (Ext.refl w80).drew)
    have D109 := zH (Dig.of_ext (w := w80) zb)
    refine zx 0 (bs 10 1) (.slice (some ⟨gp, i * 8, none⟩) (n1 + 1) c1) zb ?_
    refine zu 1 (bs 10 3) (v := .pointer (some ⟨gp, i * 8, none⟩)) zb ?_ (hv := by intro w hSw; exact ezi (k := 0) Tryz.underlying22 (l := (by omega)) (f := (show i * 8 = i * 8 + 0 * 8 by omega)))
    refine mX 2 (bs 10 7) (.pointer (some ⟨gp, i * 8 + 4, none⟩)) zb ?_
    refine zg 3 (bs 10 15) gp (i * 8 + 4) (rc ex.b) (range_part (H83.out.elem (f := SpE.cells) (i := 0) (by rfl) SpE.len HEex.out) 4 4) Tryz.underlying32 zb ?_
    refine zx 4 (bs 10 31) (.slice (some ⟨gq, j * 8, none⟩) (n2 + 1) c2) zb ?_
    refine zu 5 (bs 10 63) (v := .pointer (some ⟨gq, j * 8, none⟩)) zb ?_ (hv := by intro w hSw; exact ezi (k := 0) Tryz.underlying22 (l := (by omega)) (f := (show j * 8 = j * 8 + 0 * 8 by omega)))
    refine mX 6 (bs 10 127) (.pointer (some ⟨gq, j * 8 + 4, none⟩)) zb ?_
    refine zg 7 (bs 10 255) gq (j * 8 + 4) (rc ey.b) (range_part (H83.out.elem (f := SpE.cells) (i := 1) (by rfl) SpE.len HEey.out) 4 4) Tryz.underlying32 zb ?_
    have DD118 := zH ((((((((((D10.out.trans D21.out).trans D31.out).trans D49.out).trans D56.out).trans D62.out).trans D67.out).trans D76.out).trans D83.out).trans D109.out))
    have DD119 := zH (((((((((D21.out.trans D31.out).trans D49.out).trans D56.out).trans D62.out).trans D67.out).trans D76.out).trans D83.out).trans D109.out))
    refine mC 8 (bs 10 511) (pCmp (L := 60000) (RV.Is.nin (RBex.out.dig DD118.out) (Nat.le_trans BBex.out (by omega))) (RV.Is.nin (RBey.out.dig DD119.out) (Nat.le_trans BBey.out (by omega))) (by omega)) ?_
    rintro e w117 ⟨rfl, hx⟩
    have H120 := zH (H109.out.step hx)
    have D120 := zH (show Dig w80.drew w117 from Dig.of_ext hx)
    have S122 := zH (show Ext w80 w117 from zb.trans hx)
    clear hx
    refine zm S122.out ?_
    refine zu 9 (bs 10 1023) (v := .bool false) S122.out ?_ (hv := by intro w hSw; exact ezl (e := (dec_f (fun hh => CE.out (rcmp_lt.1 hh)))))
    refine wpAnyH_done (by kernel_rfl) ?_ _
    go_upto_region 9 with fail
    refine wp_region_lit ?_
    refine zq (.slice (some ⟨gq, j * 8, none⟩) (n2 + 1) c2) ?_
    refine zp (w' := w117) (.slice (tailA gq (j * 8) c2 8) n2 (c2 - 1)) (by exact ev_tail (by rfl) Tryz.underlying22 (by kernel_rfl) (by rfl) (by rfl) (by decide)) ?_
    refine zq (.slice (tailA gq (j * 8) c2 8) n2 (c2 - 1)) ?_
    have DD127 := zH (((((((((D31.out.trans D49.out).trans D56.out).trans D62.out).trans D67.out).trans D76.out).trans D83.out).trans D109.out).trans D120.out))
    have DD128 := zH (((((((D56.out.trans D62.out).trans D67.out).trans D76.out).trans D83.out).trans D109.out).trans D120.out))
    have DD129 := zH ((((((D62.out.trans D67.out).trans D76.out).trans D83.out).trans D109.out).trans D120.out))
    have DD130 := zH ((((((((((D21.out.trans D31.out).trans D49.out).trans D56.out).trans D62.out).trans D67.out).trans D76.out).trans D83.out).trans D109.out).trans D120.out))
    go_wp2_with fail
    go_roundg (es4.length + es9.length - (k + 1))
    case measure => exact (by have ob4 := HM.out.2; have ob5 := HK.out; have ob6 := HC.out; have ob7 := (show k < es4.length + es9.length from by have q1_ := HIJ.out; have q2_ := HK.out; omega); omega)
    case rel => exact ⟨k + 1, i, j + 1, n1 + 1, n2, m + 1, es ++ [(⟨r46, r53, q46, q53⟩ : SpE)], some ⟨gp, i * 8, none⟩, c1, tailA gq (j * 8) c2 8, (c2 - 1), some ⟨g81, 0, none⟩, cp82, rfl, rfl, rfl, rfl, (by have q1_ := HK.out; omega), (by have q1_ := HIJ.out; omega), (by have q1_ := HC.out; exact ⟨q1_.1, by omega⟩), (fun h_ => rfl), (fun h_ => by have q1_ := HC.out; rw [tailA_some h_ (by omega)]; congr 2; omega), (by rw [← HV.out, HST.out, HCU.out, if_pos CS.out, List.map_append, List.append_assoc]; rw [if_neg CE.out]; rfl), ⟨by rw [List.length_append, ← HM.out.1]; rfl, by have q1_ := HM.out.2; omega⟩, (fun g_ hg_ => (List.mem_append.1 hg_).elim (fun hg_ => (HOE.out g_ hg_).dig DD127.out) (fun hg_ => by rw [List.mem_singleton.1 hg_]; exact ⟨(R46.out.dig DD128.out), (R53.out.dig DD129.out), B46.out, B53.out⟩)), H120.out.take 3, DD130.out⟩
   have CS := zH c70
   clear c70
   go_upto_region 5 with fail
   refine wp_region_lit ?_
   refine qV (.pointer (some ⟨X60, 0, none⟩)) ?_
   refine zd X60 (0) (rc r46) (H67.out.range (i := 3) (by rfl) 0 4) Tryz.underlying32 ?_
   refine qV (.pointer (some ⟨X60, 4, none⟩)) ?_
   refine zd X60 (4) (rc r53) (H67.out.range (i := 3) (by rfl) 4 4) Tryz.underlying32 ?_
   have DD134 := zH (((D56.out.trans D62.out).trans D67.out))
   have DD135 := zH ((D62.out.trans D67.out))
   refine zc (pCmp (L := 60000) (RV.Is.nin (R46.out.dig DD134.out) (Nat.le_trans B46.out (by omega))) (RV.Is.nin (R53.out.dig DD135.out) (Nat.le_trans B53.out (by omega))) (by omega)) ?_
   rintro e w133 ⟨rfl, hx⟩
   have H136 := zH (H67.out.step hx)
   have D136 := zH (Dig.of_ext hx)
   clear hx
   refine zn ?_
   refine zp (w' := w133) (.bool false) (by exact ezl (e := (dec_f (fun hh => CS.out (rcmp_lt.1 hh))))) ?_
   by_cases c139 : ex.q < ey.q
   ·have CE := zH c139
    clear c139
    go_upto_region 7 with fail
    refine zy ?_
    have H140 := zH (H136.out.step (Ext.refl w133).drew)
    have D140 := zH (Dig.of_ext (w := w133) zb)
    refine zx 0 (bs 10 1) (.slice (some ⟨gp, i * 8, none⟩) (n1 + 1) c1) zb ?_
    refine zu 1 (bs 10 3) (v := .pointer (some ⟨gp, i * 8, none⟩)) zb ?_ (hv := by intro w hSw; exact ezi (k := 0) Tryz.underlying22 (l := (by omega)) (f := (show i * 8 = i * 8 + 0 * 8 by omega)))
    refine mX 2 (bs 10 7) (.pointer (some ⟨gp, i * 8 + 4, none⟩)) zb ?_
    refine zg 3 (bs 10 15) gp (i * 8 + 4) (rc ex.b) (range_part (H136.out.elem (f := SpE.cells) (i := 0) (by rfl) SpE.len HEex.out) 4 4) Tryz.underlying32 zb ?_
    refine zx 4 (bs 10 31) (.slice (some ⟨gq, j * 8, none⟩) (n2 + 1) c2) zb ?_
    refine zu 5 (bs 10 63) (v := .pointer (some ⟨gq, j * 8, none⟩)) zb ?_ (hv := by intro w hSw; exact ezi (k := 0) Tryz.underlying22 (l := (by omega)) (f := (show j * 8 = j * 8 + 0 * 8 by omega)))
    refine mX 6 (bs 10 127) (.pointer (some ⟨gq, j * 8 + 4, none⟩)) zb ?_
    refine zg 7 (bs 10 255) gq (j * 8 + 4) (rc ey.b) (range_part (H136.out.elem (f := SpE.cells) (i := 1) (by rfl) SpE.len HEey.out) 4 4) Tryz.underlying32 zb ?_
    have DD149 := zH (((((((((D10.out.trans D21.out).trans D31.out).trans D49.out).trans D56.out).trans D62.out).trans D67.out).trans D136.out).trans D140.out))
    have DD150 := zH ((((((((D21.out.trans D31.out).trans D49.out).trans D56.out).trans D62.out).trans D67.out).trans D136.out).trans D140.out))
    refine mC 8 (bs 10 511) (pCmp (L := 60000) (RV.Is.nin (RBex.out.dig DD149.out) (Nat.le_trans BBex.out (by omega))) (RV.Is.nin (RBey.out.dig DD150.out) (Nat.le_trans BBey.out (by omega))) (by omega)) ?_
    rintro e w148 ⟨rfl, hx⟩
    have H151 := zH (H140.out.step hx)
    have D151 := zH (show Dig w133.drew w148 from Dig.of_ext hx)
    have S153 := zH (show Ext w133 w148 from zb.trans hx)
    clear hx
    refine zm S153.out ?_
    refine zu 9 (bs 10 1023) (v := .bool true) S153.out ?_ (hv := by intro w hSw; exact ezl (e := (dec_t (rcmp_lt.2 CE.out))))
    refine wpAnyH_done (by kernel_rfl) ?_ _
    go_upto_region 8 with fail
    refine wp_region_lit ?_
    refine zq (.slice (some ⟨gp, i * 8, none⟩) (n1 + 1) c1) ?_
    refine zp (w' := w148) (.slice (tailA gp (i * 8) c1 8) n1 (c1 - 1)) (by exact ev_tail (by rfl) Tryz.underlying22 (by kernel_rfl) (by rfl) (by rfl) (by decide)) ?_
    refine zq (.slice (tailA gp (i * 8) c1 8) n1 (c1 - 1)) ?_
    have DD158 := zH ((((((((D31.out.trans D49.out).trans D56.out).trans D62.out).trans D67.out).trans D136.out).trans D140.out).trans D151.out))
    have DD159 := zH (((((((((D21.out.trans D31.out).trans D49.out).trans D56.out).trans D62.out).trans D67.out).trans D136.out).trans D140.out).trans D151.out))
    go_wp2_with fail
    go_roundg (es4.length + es9.length - (k + 1))
    case measure => exact (by have ob4 := HM.out.2; have ob5 := HK.out; have ob6 := HC.out; have ob7 := (show k < es4.length + es9.length from by have q1_ := HIJ.out; have q2_ := HK.out; omega); omega)
    case rel => exact ⟨k + 1, i + 1, j, n1, n2 + 1, m, es, tailA gp (i * 8) c1 8, (c1 - 1), some ⟨gq, j * 8, none⟩, c2, A3, c3, rfl, rfl, rfl, rfl, (by have q1_ := HK.out; omega), (by have q1_ := HIJ.out; omega), (by have q1_ := HC.out; exact ⟨by omega, q1_.2⟩), (fun h_ => by have q1_ := HC.out; rw [tailA_some h_ (by omega)]; congr 2; omega), (fun h_ => rfl), (by rw [← HV.out, HST.out, HCU.out, if_neg CS.out, List.nil_append]; rw [if_pos CE.out]), ⟨HM.out.1, by have q1_ := HM.out.2; omega⟩, (fun g_ hg_ => (HOE.out g_ hg_).dig DD158.out), H151.out.take 3, DD159.out⟩
   have CE := zH c139
   clear c139
   go_upto_region 7 with fail
   refine zy ?_
   have H160 := zH (H136.out.step (Ext.refl w133).drew)
   have D160 := zH (Dig.of_ext (w := w133) zb)
   refine zx 0 (bs 10 1) (.slice (some ⟨gp, i * 8, none⟩) (n1 + 1) c1) zb ?_
   refine zu 1 (bs 10 3) (v := .pointer (some ⟨gp, i * 8, none⟩)) zb ?_ (hv := by intro w hSw; exact ezi (k := 0) Tryz.underlying22 (l := (by omega)) (f := (show i * 8 = i * 8 + 0 * 8 by omega)))
   refine mX 2 (bs 10 7) (.pointer (some ⟨gp, i * 8 + 4, none⟩)) zb ?_
   refine zg 3 (bs 10 15) gp (i * 8 + 4) (rc ex.b) (range_part (H136.out.elem (f := SpE.cells) (i := 0) (by rfl) SpE.len HEex.out) 4 4) Tryz.underlying32 zb ?_
   refine zx 4 (bs 10 31) (.slice (some ⟨gq, j * 8, none⟩) (n2 + 1) c2) zb ?_
   refine zu 5 (bs 10 63) (v := .pointer (some ⟨gq, j * 8, none⟩)) zb ?_ (hv := by intro w hSw; exact ezi (k := 0) Tryz.underlying22 (l := (by omega)) (f := (show j * 8 = j * 8 + 0 * 8 by omega)))
   refine mX 6 (bs 10 127) (.pointer (some ⟨gq, j * 8 + 4, none⟩)) zb ?_
   refine zg 7 (bs 10 255) gq (j * 8 + 4) (rc ey.b) (range_part (H136.out.elem (f := SpE.cells) (i := 1) (by rfl) SpE.len HEey.out) 4 4) Tryz.underlying32 zb ?_
   have DD169 := zH (((((((((D10.out.trans D21.out).trans D31.out).trans D49.out).trans D56.out).trans D62.out).trans D67.out).trans D136.out).trans D160.out))
   have DD170 := zH ((((((((D21.out.trans D31.out).trans D49.out).trans D56.out).trans D62.out).trans D67.out).trans D136.out).trans D160.out))
   refine mC 8 (bs 10 511) (pCmp (L := 60000) (RV.Is.nin (RBex.out.dig DD169.out) (Nat.le_trans BBex.out (by omega))) (RV.Is.nin (RBey.out.dig DD170.out) (Nat.le_trans BBey.out (by omega))) (by omega)) ?_
   rintro e w168 ⟨rfl, hx⟩
   have H171 := zH (H160.out.step hx)
   have D171 := zH (show Dig w133.drew w168 from Dig.of_ext hx)
   have S173 := zH (show Ext w133 w168 from zb.trans hx)
   clear hx
   refine zm S173.out ?_
   refine zu 9 (bs 10 1023) (v := .bool false) S173.out ?_ (hv := by intro w hSw; exact ezl (e := (dec_f (fun hh => CE.out (rcmp_lt.1 hh)))))
   refine wpAnyH_done (by kernel_rfl) ?_ _
   go_upto_region 9 with fail
   refine wp_region_lit ?_
   refine zq (.slice (some ⟨gq, j * 8, none⟩) (n2 + 1) c2) ?_
   refine zp (w' := w168) (.slice (tailA gq (j * 8) c2 8) n2 (c2 - 1)) (by exact ev_tail (by rfl) Tryz.underlying22 (by kernel_rfl) (by rfl) (by rfl) (by decide)) ?_
   refine zq (.slice (tailA gq (j * 8) c2 8) n2 (c2 - 1)) ?_
   have DD178 := zH ((((((((D31.out.trans D49.out).trans D56.out).trans D62.out).trans D67.out).trans D136.out).trans D160.out).trans D171.out))
   have DD179 := zH (((((((((D21.out.trans D31.out).trans D49.out).trans D56.out).trans D62.out).trans D67.out).trans D136.out).trans D160.out).trans D171.out))
   go_wp2_with fail
   go_roundg (es4.length + es9.length - (k + 1))
   case measure => exact (by have ob4 := HM.out.2; have ob5 := HK.out; have ob6 := HC.out; have ob7 := (show k < es4.length + es9.length from by have q1_ := HIJ.out; have q2_ := HK.out; omega); omega)
   case rel => exact ⟨k + 1, i, j + 1, n1 + 1, n2, m, es, some ⟨gp, i * 8, none⟩, c1, tailA gq (j * 8) c2 8, (c2 - 1), A3, c3, rfl, rfl, rfl, rfl, (by have q1_ := HK.out; omega), (by have q1_ := HIJ.out; omega), (by have q1_ := HC.out; exact ⟨q1_.1, by omega⟩), (fun h_ => rfl), (fun h_ => by have q1_ := HC.out; rw [tailA_some h_ (by omega)]; congr 2; omega), (by rw [← HV.out, HST.out, HCU.out, if_neg CS.out, List.nil_append]; rw [if_neg CE.out]), ⟨HM.out.1, by have q1_ := HM.out.2; omega⟩, (fun g_ hg_ => (HOE.out g_ hg_).dig DD178.out), H171.out.take 3, DD179.out⟩
  have HLT := zH c22
  clear c22
  by_cases c180 : n1 = 0
  ·have HZ := zH c180
   clear c180
   obtain rfl : n1 = 0 := HZ.out
   go_upto_region 3 with fail
   refine wp_region_lit ?_
   refine qV (.slice A1 0 c1) ?_
   refine zq (.int .i64 0) ?_
   refine zp (w' := w19) (.bool false) (by exact ezg (e := (dec_f (by have ob3 := HIJ.out; have ob4 := HM.out.2; have ob5 := HK.out; have ob6 := HC.out; omega)))) ?_
   refine zq (.bool false) ?_
   refine zk ?_
   refine zk ?_
   refine zk ?_
   refine zq (.bool false) ?_
   go_upto_region 10 with fail
   refine wp_region_lit ?_
   refine qV (.slice A3 m c3) ?_
   refine zq (.slice A3 m c3) ?_
   have hme := HM.out.1
   subst hme
   go_wp2_with fail
   go_ret
   first | exact ⟨_, es, rfl, ⟨H21.out.row (i := 2) (by rfl), (fun e_ he_ => (HOE.out e_ he_))⟩, (by have h := HV.out; rw [interD_end1 (by have q1_ := HIJ.out; omega), List.append_nil] at h; rw [h, VL4.out, VL9.out]), (by have q1_ := HM.out.2; have q2_ := HIJ.out; omega), H21.out.ext⟩ | exact ⟨_, rfl, es, ⟨H21.out.row (i := 2) (by rfl), (fun e_ he_ => (HOE.out e_ he_))⟩, (by have h := HV.out; rw [interD_end1 (by have q1_ := HIJ.out; omega), List.append_nil] at h; rw [h, VL4.out, VL9.out]), (by have q1_ := HM.out.2; have q2_ := HIJ.out; omega), H21.out.ext⟩
  have HZ := zH c180
  clear c180
  obtain rfl : n2 = 0 := by have q1_ := HZ.out; have q2_ := HLT.out; omega
  have hz1 := HZ.out
  go_upto_region 3 with fail
  refine wp_region_lit ?_
  refine qV (.slice A1 n1 c1) ?_
  refine zq (.int .i64 (n1 : Int)) ?_
  refine zp (w' := w19) (.bool true) (by exact ezg (e := (dec_t (by have ob3 := HIJ.out; have ob4 := HM.out.2; have ob5 := HK.out; have ob6 := HC.out; omega)))) ?_
  refine qV (.bool true) ?_
  refine zq (.slice A2 0 c2) ?_
  refine zq (.int .i64 0) ?_
  refine zp (w' := w19) (.bool false) (by exact ezg (e := (dec_f (by have ob3 := HIJ.out; have ob4 := HM.out.2; have ob5 := HK.out; have ob6 := HC.out; omega)))) ?_
  refine zq (.bool false) ?_
  go_upto_region 10 with fail
  refine wp_region_lit ?_
  refine qV (.slice A3 m c3) ?_
  refine zq (.slice A3 m c3) ?_
  have hme := HM.out.1
  subst hme
  go_wp2_with fail
  go_ret
  first | exact ⟨_, es, rfl, ⟨H21.out.row (i := 2) (by rfl), (fun e_ he_ => (HOE.out e_ he_))⟩, (by have h := HV.out; rw [interD_end2 (by have q1_ := HIJ.out; omega), List.append_nil] at h; rw [h, VL4.out, VL9.out]), (by have q1_ := HM.out.2; have q2_ := HIJ.out; omega), H21.out.ext⟩ | exact ⟨_, rfl, es, ⟨H21.out.row (i := 2) (by rfl), (fun e_ he_ => (HOE.out e_ he_))⟩, (by have h := HV.out; rw [interD_end2 (by have q1_ := HIJ.out; omega), List.append_nil] at h; rw [h, VL4.out, VL9.out]), (by have q1_ := HM.out.2; have q2_ := HIJ.out; omega), H21.out.ext⟩

set_option maxRecDepth 20000 in
set_option maxHeartbeats 4000000 in
theorem common_any (L : Nat) (hL : L ≤ 60000) (x y : SpE) (w : World) (hx : x.Ok L w) (hy : y.Ok L w) :
  Calls Tryz.prog 24 #[.agg #[.bool x.a.n, .slice x.a.p x.a.l x.a.c, .bool x.a.m, .slice x.a.p2 x.a.l2 x.a.c2, .bool x.b.n, .slice x.b.p x.b.l x.b.c, .bool x.b.m, .slice x.b.p2 x.b.l2 x.b.c2], .agg #[.bool y.a.n, .slice y.a.p y.a.l y.a.c, .bool y.a.m, .slice y.a.p2 y.a.l2 y.a.c2, .bool y.b.n, .slice y.b.p y.b.l y.b.c, .bool y.b.m, .slice y.b.p2 y.b.l2 y.b.c2]] w fun e w' => ∃ z : SpE, e = .returned (.agg #[.bool z.a.n, .slice z.a.p z.a.l z.a.c, .bool z.a.m, .slice z.a.p2 z.a.l2 z.a.c2, .bool z.b.n, .slice z.b.p z.b.l z.b.c, .bool z.b.m, .slice z.b.p2 z.b.l2 z.b.c2]) ∧ z.Ok L w' ∧ z.vl = cut2 x.vl y.vl ∧ Ext w w' := by
 have XA := zH hx.1
 have XB := zH hx.2.1
 have YA := zH hy.1
 have YB := zH hy.2.1
 have BXA := zH hx.2.2.1
 have BXB := zH hx.2.2.2
 have BYA := zH hy.2.2.1
 have BYB := zH hy.2.2.2
 clear hx hy
 go_enter Tryz.func24, Tryz.ntmps24
 have H0 := zH (Hp.start w)
 go_upto_region 0 with fail
 refine wp_region_lit ?_
 refine mv_alloc (T := 34) (zs := [.bool x.a.n, .slice x.a.p x.a.l x.a.c, .bool x.a.m, .slice x.a.p2 x.a.l2 x.a.c2, .bool x.b.n, .slice x.b.p x.b.l x.b.c, .bool x.b.m, .slice x.b.p2 x.b.l2 x.b.c2]) (by rfl) (by go_simp) H0.out (by simp [NoUL]) ?_
 intro X44 w45 hh hx hge
 have H46 := zH (show Hp w w45 [.blk X44 34 [.bool x.a.n, .slice x.a.p x.a.l x.a.c, .bool x.a.m, .slice x.a.p2 x.a.l2 x.a.c2, .bool x.b.n, .slice x.b.p x.b.l x.b.c, .bool x.b.m, .slice x.b.p2 x.b.l2 x.b.c2]] from hh)
 clear hh hx hge
 try simp only [Act.put, zA, zB, zC]
 refine mv_alloc (T := 34) (zs := [.bool y.a.n, .slice y.a.p y.a.l y.a.c, .bool y.a.m, .slice y.a.p2 y.a.l2 y.a.c2, .bool y.b.n, .slice y.b.p y.b.l y.b.c, .bool y.b.m, .slice y.b.p2 y.b.l2 y.b.c2]) (by rfl) (by go_simp) H46.out (by simp [NoUL]) ?_
 intro X49 w50 hh hx hge
 have H51 := zH (show Hp w w50 [.blk X44 34 [.bool x.a.n, .slice x.a.p x.a.l x.a.c, .bool x.a.m, .slice x.a.p2 x.a.l2 x.a.c2, .bool x.b.n, .slice x.b.p x.b.l x.b.c, .bool x.b.m, .slice x.b.p2 x.b.l2 x.b.c2], .blk X49 34 [.bool y.a.n, .slice y.a.p y.a.l y.a.c, .bool y.a.m, .slice y.a.p2 y.a.l2 y.a.c2, .bool y.b.n, .slice y.b.p y.b.l y.b.c, .bool y.b.m, .slice y.b.p2 y.b.l2 y.b.c2]] from hh)
 clear hh hx hge
 try simp only [Act.put, zA, zB, zC]
 refine mv_alloc (T := 34) (zs := [.bool false, .slice none 0 0, .bool false, .slice none 0 0, .bool false, .slice none 0 0, .bool false, .slice none 0 0]) (by rfl) (by go_simp) H51.out (by simp [NoUL]) ?_
 intro X54 w55 hh hx hge
 have H56 := zH (show Hp w w55 [.blk X44 34 [.bool x.a.n, .slice x.a.p x.a.l x.a.c, .bool x.a.m, .slice x.a.p2 x.a.l2 x.a.c2, .bool x.b.n, .slice x.b.p x.b.l x.b.c, .bool x.b.m, .slice x.b.p2 x.b.l2 x.b.c2], .blk X49 34 [.bool y.a.n, .slice y.a.p y.a.l y.a.c, .bool y.a.m, .slice y.a.p2 y.a.l2 y.a.c2, .bool y.b.n, .slice y.b.p y.b.l y.b.c, .bool y.b.m, .slice y.b.p2 y.b.l2 y.b.c2], .blk X54 34 [.bool false, .slice none 0 0, .bool false, .slice none 0 0, .bool false, .slice none 0 0, .bool false, .slice none 0 0]] from hh)
 clear hh hx hge
 try simp only [Act.put, zA, zB, zC]
 go_upto_region 1 with fail
 refine wp_region_lit ?_
 refine zd X44 (0) [.bool x.a.n, .slice x.a.p x.a.l x.a.c, .bool x.a.m, .slice x.a.p2 x.a.l2 x.a.c2, .bool x.b.n, .slice x.b.p x.b.l x.b.c, .bool x.b.m, .slice x.b.p2 x.b.l2 x.b.c2] (H56.out.range (i := 0) (by rfl) 0 8) Tryz.underlying34 ?_
 refine mv_alloc (T := 34) (zs := [.bool false, .slice none 0 0, .bool false, .slice none 0 0, .bool false, .slice none 0 0, .bool false, .slice none 0 0]) (by rfl) (by go_simp) H56.out (by simp [NoUL]) ?_
 intro X59 w60 hh hx hge
 have H61 := zH (show Hp w w60 [.blk X44 34 [.bool x.a.n, .slice x.a.p x.a.l x.a.c, .bool x.a.m, .slice x.a.p2 x.a.l2 x.a.c2, .bool x.b.n, .slice x.b.p x.b.l x.b.c, .bool x.b.m, .slice x.b.p2 x.b.l2 x.b.c2], .blk X49 34 [.bool y.a.n, .slice y.a.p y.a.l y.a.c, .bool y.a.m, .slice y.a.p2 y.a.l2 y.a.c2, .bool y.b.n, .slice y.b.p y.b.l y.b.c, .bool y.b.m, .slice y.b.p2 y.b.l2 y.b.c2], .blk X54 34 [.bool false, .slice none 0 0, .bool false, .slice none 0 0, .bool false, .slice none 0 0, .bool false, .slice none 0 0], .blk X59 34 [.bool false, .slice none 0 0, .bool false, .slice none 0 0, .bool false, .slice none 0 0, .bool false, .slice none 0 0]] from hh)
 clear hh hx hge
 try simp only [Act.put, zA, zB, zC]
 refine mv_st (by rfl) _ _ _ (by rfl) H61.out (ix := 3) (by rfl) 0 [.bool x.a.n, .slice x.a.p x.a.l x.a.c, .bool x.a.m, .slice x.a.p2 x.a.l2 x.a.c2, .bool x.b.n, .slice x.b.p x.b.l x.b.c, .bool x.b.m, .slice x.b.p2 x.b.l2 x.b.c2] (by rfl) (by rfl) (by simp) (by kernel_rfl) (by simp [Value.oneCell']) (by simp [NoUL]) ?_
 intro w64 hh hd ho
 have H65 := zH (show Hp w w64 [.blk X44 34 [.bool x.a.n, .slice x.a.p x.a.l x.a.c, .bool x.a.m, .slice x.a.p2 x.a.l2 x.a.c2, .bool x.b.n, .slice x.b.p x.b.l x.b.c, .bool x.b.m, .slice x.b.p2 x.b.l2 x.b.c2], .blk X49 34 [.bool y.a.n, .slice y.a.p y.a.l y.a.c, .bool y.a.m, .slice y.a.p2 y.a.l2 y.a.c2, .bool y.b.n, .slice y.b.p y.b.l y.b.c, .bool y.b.m, .slice y.b.p2 y.b.l2 y.b.c2], .blk X54 34 [.bool false, .slice none 0 0, .bool false, .slice none 0 0, .bool false, .slice none 0 0, .bool false, .slice none 0 0], .blk X59 34 [.bool x.a.n, .slice x.a.p x.a.l x.a.c, .bool x.a.m, .slice x.a.p2 x.a.l2 x.a.c2, .bool x.b.n, .slice x.b.p x.b.l x.b.c, .bool x.b.m, .slice x.b.p2 x.b.l2 x.b.c2]] from hh)
 clear hh hd ho
 (try simp only [Act.put])
 by_cases c67 : x.p < y.p
 ·have C1 := zH c67
  clear c67
  go_upto_region 2 with fail
  refine wp_region_lit ?_
  refine qV (.pointer (some ⟨X59, 0, none⟩)) ?_
  refine zd X59 (0) (rc x.a) (H65.out.range (i := 3) (by rfl) 0 4) Tryz.underlying32 ?_
  refine qV (.pointer (some ⟨X49, 0, none⟩)) ?_
  refine zd X49 (0) (rc y.a) (H65.out.range (i := 1) (by rfl) 0 4) Tryz.underlying32 ?_
  refine zc (less_any 60000 _ _ x.p y.p _ (RV.Is.nin (XA.out.dig H65.out.dig0) (Nat.le_trans BXA.out (by omega))) (RV.Is.nin (YA.out.dig H65.out.dig0) (Nat.le_trans BYA.out (by omega))) (by omega)) ?_
  rintro e w70 ⟨rfl, hx⟩
  have H71 := zH (H65.out.step hx)
  clear hx
  refine ⟨.bool true, by rw [dec_t C1.out], ?_⟩
  try simp only [Act.put, zA, zB, zC]
  go_upto_region 3 with fail
  refine wp_region_lit ?_
  refine qV (.pointer (some ⟨X49, 0, none⟩)) ?_
  refine zd X49 (0) (rc y.a) (H71.out.range (i := 1) (by rfl) 0 4) Tryz.underlying32 ?_
  refine zq (.pointer (some ⟨X59, 0, none⟩)) ?_
  refine mv_st (by rfl) _ _ _ (by rfl) H71.out (ix := 3) (by rfl) 0 [.bool y.a.n, .slice y.a.p y.a.l y.a.c, .bool y.a.m, .slice y.a.p2 y.a.l2 y.a.c2] (by rfl) (by rfl) (by simp) (by kernel_rfl) (by simp [Value.oneCell']) (by simp [NoUL]) ?_
  intro w75 hh hd ho
  have H76 := zH (show Hp w w75 [.blk X44 34 [.bool x.a.n, .slice x.a.p x.a.l x.a.c, .bool x.a.m, .slice x.a.p2 x.a.l2 x.a.c2, .bool x.b.n, .slice x.b.p x.b.l x.b.c, .bool x.b.m, .slice x.b.p2 x.b.l2 x.b.c2], .blk X49 34 [.bool y.a.n, .slice y.a.p y.a.l y.a.c, .bool y.a.m, .slice y.a.p2 y.a.l2 y.a.c2, .bool y.b.n, .slice y.b.p y.b.l y.b.c, .bool y.b.m, .slice y.b.p2 y.b.l2 y.b.c2], .blk X54 34 [.bool false, .slice none 0 0, .bool false, .slice none 0 0, .bool false, .slice none 0 0, .bool false, .slice none 0 0], .blk X59 34 [.bool y.a.n, .slice y.a.p y.a.l y.a.c, .bool y.a.m, .slice y.a.p2 y.a.l2 y.a.c2, .bool x.b.n, .slice x.b.p x.b.l x.b.c, .bool x.b.m, .slice x.b.p2 x.b.l2 x.b.c2]] from hh)
  clear hh hd ho
  (try simp only [Act.put])
  by_cases c78 : y.q < x.q
  ·have C2 := zH c78
   clear c78
   go_upto_region 4 with fail
   refine wp_region_lit ?_
   refine qV (.pointer (some ⟨X49, 4, none⟩)) ?_
   refine zd X49 (4) (rc y.b) (H76.out.range (i := 1) (by rfl) 4 4) Tryz.underlying32 ?_
   refine qV (.pointer (some ⟨X59, 4, none⟩)) ?_
   refine zd X59 (4) (rc x.b) (H76.out.range (i := 3) (by rfl) 4 4) Tryz.underlying32 ?_
   refine zc (less_any 60000 _ _ y.q x.q _ (RV.Is.nin (YB.out.dig H76.out.dig0) (Nat.le_trans BYB.out (by omega))) (RV.Is.nin (XB.out.dig H76.out.dig0) (Nat.le_trans BXB.out (by omega))) (by omega)) ?_
   rintro e w81 ⟨rfl, hx⟩
   have H82 := zH (H76.out.step hx)
   clear hx
   refine ⟨.bool true, by rw [dec_t C2.out], ?_⟩
   try simp only [Act.put, zA, zB, zC]
   go_upto_region 5 with fail
   refine wp_region_lit ?_
   refine qV (.pointer (some ⟨X49, 4, none⟩)) ?_
   refine zd X49 (4) (rc y.b) (H82.out.range (i := 1) (by rfl) 4 4) Tryz.underlying32 ?_
   refine zq (.pointer (some ⟨X59, 4, none⟩)) ?_
   refine mv_st (by rfl) _ _ _ (by rfl) H82.out (ix := 3) (by rfl) 4 [.bool y.b.n, .slice y.b.p y.b.l y.b.c, .bool y.b.m, .slice y.b.p2 y.b.l2 y.b.c2] (by rfl) (by rfl) (by simp) (by kernel_rfl) (by simp [Value.oneCell']) (by simp [NoUL]) ?_
   intro w86 hh hd ho
   have H87 := zH (show Hp w w86 [.blk X44 34 [.bool x.a.n, .slice x.a.p x.a.l x.a.c, .bool x.a.m, .slice x.a.p2 x.a.l2 x.a.c2, .bool x.b.n, .slice x.b.p x.b.l x.b.c, .bool x.b.m, .slice x.b.p2 x.b.l2 x.b.c2], .blk X49 34 [.bool y.a.n, .slice y.a.p y.a.l y.a.c, .bool y.a.m, .slice y.a.p2 y.a.l2 y.a.c2, .bool y.b.n, .slice y.b.p y.b.l y.b.c, .bool y.b.m, .slice y.b.p2 y.b.l2 y.b.c2], .blk X54 34 [.bool false, .slice none 0 0, .bool false, .slice none 0 0, .bool false, .slice none 0 0, .bool false, .slice none 0 0], .blk X59 34 [.bool y.a.n, .slice y.a.p y.a.l y.a.c, .bool y.a.m, .slice y.a.p2 y.a.l2 y.a.c2, .bool y.b.n, .slice y.b.p y.b.l y.b.c, .bool y.b.m, .slice y.b.p2 y.b.l2 y.b.c2]] from hh)
   clear hh hd ho
   (try simp only [Act.put])
   go_upto_region 6 with fail
   refine wp_region_lit ?_
   refine zd X59 (0) [.bool y.a.n, .slice y.a.p y.a.l y.a.c, .bool y.a.m, .slice y.a.p2 y.a.l2 y.a.c2, .bool y.b.n, .slice y.b.p y.b.l y.b.c, .bool y.b.m, .slice y.b.p2 y.b.l2 y.b.c2] (H87.out.range (i := 3) (by rfl) 0 8) Tryz.underlying34 ?_
   refine mv_st (by rfl) _ _ _ (by rfl) H87.out (ix := 2) (by rfl) 0 [.bool y.a.n, .slice y.a.p y.a.l y.a.c, .bool y.a.m, .slice y.a.p2 y.a.l2 y.a.c2, .bool y.b.n, .slice y.b.p y.b.l y.b.c, .bool y.b.m, .slice y.b.p2 y.b.l2 y.b.c2] (by rfl) (by rfl) (by simp) (by kernel_rfl) (by simp [Value.oneCell']) (by simp [NoUL]) ?_
   intro w89 hh hd ho
   have H90 := zH (show Hp w w89 [.blk X44 34 [.bool x.a.n, .slice x.a.p x.a.l x.a.c, .bool x.a.m, .slice x.a.p2 x.a.l2 x.a.c2, .bool x.b.n, .slice x.b.p x.b.l x.b.c, .bool x.b.m, .slice x.b.p2 x.b.l2 x.b.c2], .blk X49 34 [.bool y.a.n, .slice y.a.p y.a.l y.a.c, .bool y.a.m, .slice y.a.p2 y.a.l2 y.a.c2, .bool y.b.n, .slice y.b.p y.b.l y.b.c, .bool y.b.m, .slice y.b.p2 y.b.l2 y.b.c2], .blk X54 34 [.bool y.a.n, .slice y.a.p y.a.l y.a.c, .bool y.a.m, .slice y.a.p2 y.a.l2 y.a.c2, .bool y.b.n, .slice y.b.p y.b.l y.b.c, .bool y.b.m, .slice y.b.p2 y.b.l2 y.b.c2], .blk X59 34 [.bool y.a.n, .slice y.a.p y.a.l y.a.c, .bool y.a.m, .slice y.a.p2 y.a.l2 y.a.c2, .bool y.b.n, .slice y.b.p y.b.l y.b.c, .bool y.b.m, .slice y.b.p2 y.b.l2 y.b.c2]] from hh)
   clear hh hd ho
   (try simp only [Act.put])
   go_wp2_with fail
   refine bodyPost_ret (v := .agg #[.bool y.a.n, .slice y.a.p y.a.l y.a.c, .bool y.a.m, .slice y.a.p2 y.a.l2 y.a.c2, .bool y.b.n, .slice y.b.p y.b.l y.b.c, .bool y.b.m, .slice y.b.p2 y.b.l2 y.b.c2]) ?_ rfl ⟨(⟨y.a, y.b, y.p, y.q⟩ : SpE), rfl, ⟨(YA.out.dig H90.out.dig0), (YB.out.dig H90.out.dig0), BYA.out, BYB.out⟩, (by unfold cut2 SpE.vl; simp only [if_pos C1.out, if_pos C2.out]), H90.out.ext⟩
   exact results_cell1 rfl rfl ((H90.out.blk (i := 2) (by rfl)).loadVar rfl rfl (by rfl))
  have C2 := zH c78
  clear c78
  go_upto_region 4 with fail
  refine wp_region_lit ?_
  refine qV (.pointer (some ⟨X49, 4, none⟩)) ?_
  refine zd X49 (4) (rc y.b) (H76.out.range (i := 1) (by rfl) 4 4) Tryz.underlying32 ?_
  refine qV (.pointer (some ⟨X59, 4, none⟩)) ?_
  refine zd X59 (4) (rc x.b) (H76.out.range (i := 3) (by rfl) 4 4) Tryz.underlying32 ?_
  refine zc (less_any 60000 _ _ y.q x.q _ (RV.Is.nin (YB.out.dig H76.out.dig0) (Nat.le_trans BYB.out (by omega))) (RV.Is.nin (XB.out.dig H76.out.dig0) (Nat.le_trans BXB.out (by omega))) (by omega)) ?_
  rintro e w94 ⟨rfl, hx⟩
  have H95 := zH (H76.out.step hx)
  clear hx
  refine ⟨.bool false, by rw [dec_f C2.out], ?_⟩
  try simp only [Act.put, zA, zB, zC]
  go_upto_region 6 with fail
  refine wp_region_lit ?_
  refine zd X59 (0) [.bool y.a.n, .slice y.a.p y.a.l y.a.c, .bool y.a.m, .slice y.a.p2 y.a.l2 y.a.c2, .bool x.b.n, .slice x.b.p x.b.l x.b.c, .bool x.b.m, .slice x.b.p2 x.b.l2 x.b.c2] (H95.out.range (i := 3) (by rfl) 0 8) Tryz.underlying34 ?_
  refine mv_st (by rfl) _ _ _ (by rfl) H95.out (ix := 2) (by rfl) 0 [.bool y.a.n, .slice y.a.p y.a.l y.a.c, .bool y.a.m, .slice y.a.p2 y.a.l2 y.a.c2, .bool x.b.n, .slice x.b.p x.b.l x.b.c, .bool x.b.m, .slice x.b.p2 x.b.l2 x.b.c2] (by rfl) (by rfl) (by simp) (by kernel_rfl) (by simp [Value.oneCell']) (by simp [NoUL]) ?_
  intro w97 hh hd ho
  have H98 := zH (show Hp w w97 [.blk X44 34 [.bool x.a.n, .slice x.a.p x.a.l x.a.c, .bool x.a.m, .slice x.a.p2 x.a.l2 x.a.c2, .bool x.b.n, .slice x.b.p x.b.l x.b.c, .bool x.b.m, .slice x.b.p2 x.b.l2 x.b.c2], .blk X49 34 [.bool y.a.n, .slice y.a.p y.a.l y.a.c, .bool y.a.m, .slice y.a.p2 y.a.l2 y.a.c2, .bool y.b.n, .slice y.b.p y.b.l y.b.c, .bool y.b.m, .slice y.b.p2 y.b.l2 y.b.c2], .blk X54 34 [.bool y.a.n, .slice y.a.p y.a.l y.a.c, .bool y.a.m, .slice y.a.p2 y.a.l2 y.a.c2, .bool x.b.n, .slice x.b.p x.b.l x.b.c, .bool x.b.m, .slice x.b.p2 x.b.l2 x.b.c2], .blk X59 34 [.bool y.a.n, .slice y.a.p y.a.l y.a.c, .bool y.a.m, .slice y.a.p2 y.a.l2 y.a.c2, .bool x.b.n, .slice x.b.p x.b.l x.b.c, .bool x.b.m, .slice x.b.p2 x.b.l2 x.b.c2]] from hh)
  clear hh hd ho
  (try simp only [Act.put])
  go_wp2_with fail
  refine bodyPost_ret (v := .agg #[.bool y.a.n, .slice y.a.p y.a.l y.a.c, .bool y.a.m, .slice y.a.p2 y.a.l2 y.a.c2, .bool x.b.n, .slice x.b.p x.b.l x.b.c, .bool x.b.m, .slice x.b.p2 x.b.l2 x.b.c2]) ?_ rfl ⟨(⟨y.a, x.b, y.p, x.q⟩ : SpE), rfl, ⟨(YA.out.dig H98.out.dig0), (XB.out.dig H98.out.dig0), BYA.out, BXB.out⟩, (by unfold cut2 SpE.vl; simp only [if_pos C1.out, if_neg C2.out]), H98.out.ext⟩
  exact results_cell1 rfl rfl ((H98.out.blk (i := 2) (by rfl)).loadVar rfl rfl (by rfl))
 have C1 := zH c67
 clear c67
 go_upto_region 2 with fail
 refine wp_region_lit ?_
 refine qV (.pointer (some ⟨X59, 0, none⟩)) ?_
 refine zd X59 (0) (rc x.a) (H65.out.range (i := 3) (by rfl) 0 4) Tryz.underlying32 ?_
 refine qV (.pointer (some ⟨X49, 0, none⟩)) ?_
 refine zd X49 (0) (rc y.a) (H65.out.range (i := 1) (by rfl) 0 4) Tryz.underlying32 ?_
 refine zc (less_any 60000 _ _ x.p y.p _ (RV.Is.nin (XA.out.dig H65.out.dig0) (Nat.le_trans BXA.out (by omega))) (RV.Is.nin (YA.out.dig H65.out.dig0) (Nat.le_trans BYA.out (by omega))) (by omega)) ?_
 rintro e w102 ⟨rfl, hx⟩
 have H103 := zH (H65.out.step hx)
 clear hx
 refine ⟨.bool false, by rw [dec_f C1.out], ?_⟩
 try simp only [Act.put, zA, zB, zC]
 by_cases c105 : y.q < x.q
 ·have C2 := zH c105
  clear c105
  go_upto_region 4 with fail
  refine wp_region_lit ?_
  refine qV (.pointer (some ⟨X49, 4, none⟩)) ?_
  refine zd X49 (4) (rc y.b) (H103.out.range (i := 1) (by rfl) 4 4) Tryz.underlying32 ?_
  refine qV (.pointer (some ⟨X59, 4, none⟩)) ?_
  refine zd X59 (4) (rc x.b) (H103.out.range (i := 3) (by rfl) 4 4) Tryz.underlying32 ?_
  refine zc (less_any 60000 _ _ y.q x.q _ (RV.Is.nin (YB.out.dig H103.out.dig0) (Nat.le_trans BYB.out (by omega))) (RV.Is.nin (XB.out.dig H103.out.dig0) (Nat.le_trans BXB.out (by omega))) (by omega)) ?_
  rintro e w108 ⟨rfl, hx⟩
  have H109 := zH (H103.out.step hx)
  clear hx
  refine ⟨.bool true, by rw [dec_t C2.out], ?_⟩
  try simp only [Act.put, zA, zB, zC]
  go_upto_region 5 with fail
  refine wp_region_lit ?_
  refine qV (.pointer (some ⟨X49, 4, none⟩)) ?_
  refine zd X49 (4) (rc y.b) (H109.out.range (i := 1) (by rfl) 4 4) Tryz.underlying32 ?_
  refine zq (.pointer (some ⟨X59, 4, none⟩)) ?_
  refine mv_st (by rfl) _ _ _ (by rfl) H109.out (ix := 3) (by rfl) 4 [.bool y.b.n, .slice y.b.p y.b.l y.b.c, .bool y.b.m, .slice y.b.p2 y.b.l2 y.b.c2] (by rfl) (by rfl) (by simp) (by kernel_rfl) (by simp [Value.oneCell']) (by simp [NoUL]) ?_
  intro w113 hh hd ho
  have H114 := zH (show Hp w w113 [.blk X44 34 [.bool x.a.n, .slice x.a.p x.a.l x.a.c, .bool x.a.m, .slice x.a.p2 x.a.l2 x.a.c2, .bool x.b.n, .slice x.b.p x.b.l x.b.c, .bool x.b.m, .slice x.b.p2 x.b.l2 x.b.c2], .blk X49 34 [.bool y.a.n, .slice y.a.p y.a.l y.a.c, .bool y.a.m, .slice y.a.p2 y.a.l2 y.a.c2, .bool y.b.n, .slice y.b.p y.b.l y.b.c, .bool y.b.m, .slice y.b.p2 y.b.l2 y.b.c2], .blk X54 34 [.bool false, .slice none 0 0, .bool false, .slice none 0 0, .bool false, .slice none 0 0, .bool false, .slice none 0 0], .blk X59 34 [.bool x.a.n, .slice x.a.p x.a.l x.a.c, .bool x.a.m, .slice x.a.p2 x.a.l2 x.a.c2, .bool y.b.n, .slice y.b.p y.b.l y.b.c, .bool y.b.m, .slice y.b.p2 y.b.l2 y.b.c2]] from hh)
  clear hh hd ho
  (try simp only [Act.put])
  go_upto_region 6 with fail
  refine wp_region_lit ?_
  refine zd X59 (0) [.bool x.a.n, .slice x.a.p x.a.l x.a.c, .bool x.a.m, .slice x.a.p2 x.a.l2 x.a.c2, .bool y.b.n, .slice y.b.p y.b.l y.b.c, .bool y.b.m, .slice y.b.p2 y.b.l2 y.b.c2] (H114.out.range (i := 3) (by rfl) 0 8) Tryz.underlying34 ?_
  refine mv_st (by rfl) _ _ _ (by rfl) H114.out (ix := 2) (by rfl) 0 [.bool x.a.n, .slice x.a.p x.a.l x.a.c, .bool x.a.m, .slice x.a.p2 x.a.l2 x.a.c2, .bool y.b.n, .slice y.b.p y.b.l y.b.c, .bool y.b.m, .slice y.b.p2 y.b.l2 y.b.c2] (by rfl) (by rfl) (by simp) (by kernel_rfl) (by simp [Value.oneCell']) (by simp [NoUL]) ?_
  intro w116 hh hd ho
  have H117 := zH (show Hp w w116 [.blk X44 34 [.bool x.a.n, .slice x.a.p x.a.l x.a.c, .bool x.a.m, .slice x.a.p2 x.a.l2 x.a.c2, .bool x.b.n, .slice x.b.p x.b.l x.b.c, .bool x.b.m, .slice x.b.p2 x.b.l2 x.b.c2], .blk X49 34 [.bool y.a.n, .slice y.a.p y.a.l y.a.c, .bool y.a.m, .slice y.a.p2 y.a.l2 y.a.c2, .bool y.b.n, .slice y.b.p y.b.l y.b.c, .bool y.b.m, .slice y.b.p2 y.b.l2 y.b.c2], .blk X54 34 [.bool x.a.n, .slice x.a.p x.a.l x.a.c, .bool x.a.m, .slice x.a.p2 x.a.l2 x.a.c2, .bool y.b.n, .slice y.b.p y.b.l y.b.c, .bool y.b.m, .slice y.b.p2 y.b.l2 y.b.c2], .blk X59 34 [.bool x.a.n, .slice x.a.p x.a.l x.a.c, .bool x.a.m, .slice x.a.p2 x.a.l2 x.a.c2, .bool y.b.n, .slice y.b.p y.b.l y.b.c, .bool y.b.m, .slice y.b.p2 y.b.l2 y.b.c2]] from hh)
  clear hh hd ho
  (try simp only [Act.put])
  go_wp2_with fail
  refine bodyPost_ret (v := .agg #[.bool x.a.n, .slice x.a.p x.a.l x.a.c, .bool x.a.m, .slice x.a.p2 x.a.l2 x.a.c2, .bool y.b.n, .slice y.b.p y.b.l y.b.c, .bool y.b.m, .slice y.b.p2 y.b.l2 y.b.c2]) ?_ rfl ⟨(⟨x.a, y.b, x.p, y.q⟩ : SpE), rfl, ⟨(XA.out.dig H117.out.dig0), (YB.out.dig H117.out.dig0), BXA.out, BYB.out⟩, (by unfold cut2 SpE.vl; simp only [if_neg C1.out, if_pos C2.out]), H117.out.ext⟩
  exact results_cell1 rfl rfl ((H117.out.blk (i := 2) (by rfl)).loadVar rfl rfl (by rfl))
 have C2 := zH c105
 clear c105
 go_upto_region 4 with fail
 refine wp_region_lit ?_
 refine qV (.pointer (some ⟨X49, 4, none⟩)) ?_
 refine zd X49 (4) (rc y.b) (H103.out.range (i := 1) (by rfl) 4 4) Tryz.underlying32 ?_
 refine qV (.pointer (some ⟨X59, 4, none⟩)) ?_
 refine zd X59 (4) (rc x.b) (H103.out.range (i := 3) (by rfl) 4 4) Tryz.underlying32 ?_
 refine zc (less_any 60000 _ _ y.q x.q _ (RV.Is.nin (YB.out.dig H103.out.dig0) (Nat.le_trans BYB.out (by omega))) (RV.Is.nin (XB.out.dig H103.out.dig0) (Nat.le_trans BXB.out (by omega))) (by omega)) ?_
 rintro e w121 ⟨rfl, hx⟩
 have H122 := zH (H103.out.step hx)
 clear hx
 refine ⟨.bool false, by rw [dec_f C2.out], ?_⟩
 try simp only [Act.put, zA, zB, zC]
 go_upto_region 6 with fail
 refine wp_region_lit ?_
 refine zd X59 (0) [.bool x.a.n, .slice x.a.p x.a.l x.a.c, .bool x.a.m, .slice x.a.p2 x.a.l2 x.a.c2, .bool x.b.n, .slice x.b.p x.b.l x.b.c, .bool x.b.m, .slice x.b.p2 x.b.l2 x.b.c2] (H122.out.range (i := 3) (by rfl) 0 8) Tryz.underlying34 ?_
 refine mv_st (by rfl) _ _ _ (by rfl) H122.out (ix := 2) (by rfl) 0 [.bool x.a.n, .slice x.a.p x.a.l x.a.c, .bool x.a.m, .slice x.a.p2 x.a.l2 x.a.c2, .bool x.b.n, .slice x.b.p x.b.l x.b.c, .bool x.b.m, .slice x.b.p2 x.b.l2 x.b.c2] (by rfl) (by rfl) (by simp) (by kernel_rfl) (by simp [Value.oneCell']) (by simp [NoUL]) ?_
 intro w124 hh hd ho
 have H125 := zH (show Hp w w124 [.blk X44 34 [.bool x.a.n, .slice x.a.p x.a.l x.a.c, .bool x.a.m, .slice x.a.p2 x.a.l2 x.a.c2, .bool x.b.n, .slice x.b.p x.b.l x.b.c, .bool x.b.m, .slice x.b.p2 x.b.l2 x.b.c2], .blk X49 34 [.bool y.a.n, .slice y.a.p y.a.l y.a.c, .bool y.a.m, .slice y.a.p2 y.a.l2 y.a.c2, .bool y.b.n, .slice y.b.p y.b.l y.b.c, .bool y.b.m, .slice y.b.p2 y.b.l2 y.b.c2], .blk X54 34 [.bool x.a.n, .slice x.a.p x.a.l x.a.c, .bool x.a.m, .slice x.a.p2 x.a.l2 x.a.c2, .bool x.b.n, .slice x.b.p x.b.l x.b.c, .bool x.b.m, .slice x.b.p2 x.b.l2 x.b.c2], .blk X59 34 [.bool x.a.n, .slice x.a.p x.a.l x.a.c, .bool x.a.m, .slice x.a.p2 x.a.l2 x.a.c2, .bool x.b.n, .slice x.b.p x.b.l x.b.c, .bool x.b.m, .slice x.b.p2 x.b.l2 x.b.c2]] from hh)
 clear hh hd ho
 (try simp only [Act.put])
 go_wp2_with fail
 refine bodyPost_ret (v := .agg #[.bool x.a.n, .slice x.a.p x.a.l x.a.c, .bool x.a.m, .slice x.a.p2 x.a.l2 x.a.c2, .bool x.b.n, .slice x.b.p x.b.l x.b.c, .bool x.b.m, .slice x.b.p2 x.b.l2 x.b.c2]) ?_ rfl ⟨(⟨x.a, x.b, x.p, x.q⟩ : SpE), rfl, ⟨(XA.out.dig H125.out.dig0), (XB.out.dig H125.out.dig0), BXA.out, BXB.out⟩, (by unfold cut2 SpE.vl; simp only [if_neg C1.out, if_neg C2.out]), H125.out.ext⟩
 exact results_cell1 rfl rfl ((H125.out.blk (i := 2) (by rfl)).loadVar rfl rfl (by rfl))

def interRow (pl ql : List SpE) (i : Nat) : List QQ := ((pl.take i).map SpE.vl).flatMap fun a => (ql.map SpE.vl).map (cut2 a)
def interPart (x : SpE) (ql : List SpE) (k : Nat) : List QQ := ((ql.take k).map SpE.vl).map (cut2 x.vl)
theorem interPart_succ {x y : SpE} {ql : List SpE} {k : Nat} (h : ql[k]? = some y) : interPart x ql (k + 1) = interPart x ql k ++ [cut2 x.vl y.vl] := by
  unfold interPart
  rw [List.take_add_one, h]
  simp
theorem interRow_succ {x : SpE} {pl ql : List SpE} {i : Nat} (h : pl[i]? = some x) : interRow pl ql (i + 1) = interRow pl ql i ++ interPart x ql ql.length := by
  unfold interRow interPart
  rw [List.take_add_one, h, List.take_of_length_le (Nat.le_refl _)]
  simp [List.flatMap_append]
theorem interRow_all (pl ql : List SpE) : sortedV (interRow pl ql pl.length) = rinterV (pl.map SpE.vl) (ql.map SpE.vl) := by
  unfold interRow rinterV
  rw [List.take_of_length_le (Nat.le_refl _)]
theorem zo {P : Program} {l : List Oper} {Q : Exit → Act → World → Prop} {md : Region.Mode} {S : World → Prop} {oi : Oper} {fuel : Nat} {listed : Array Bool} {a : Act} {w : World} {v : Value} (i : Nat) (listed' : Array Bool) (hS : S w) (h : wpAnyH P md l.toArray Q S fuel listed' (a.put oi.dst v) w) (hi : l[i]? = some oi := by rfl) (hs : Region.noSelect l.toArray = true := by kernel_rfl) (hf : Region.free md l.toArray listed i = true := by kernel_rfl) (hr : (Region.ready md l.toArray listed).contains i = true := by kernel_rfl) (hv : ∀ w, S w → (execOp a.eval oi).run P w = .ok (.value v) w) (hQ : ∀ c a w, Q (.panic c) (a.put oi.dst v) w → Q (.panic c) a w := by intro _ _ _ h; exact h) (hw : Region.wanted oi (yielded l.toArray a.tmps) = true := by rfl) (hl : listed.setIfInBounds i true = listed' := by kernel_rfl) : wpAnyH P md l.toArray Q S (fuel + 1) listed a w := md_val hi hs hf hr hQ hw hv hS hl h
set_option maxRecDepth 20000 in
set_option maxHeartbeats 4000000 in
theorem rinter_any (L : Nat) (u v : Value) (ps qs : List QQ) (w : World) (hu : SpansV L w u ps) (hv : SpansV L w v qs) (h1L : 1 ≤ L) (hL : L ≤ 60000) (hn : ps.length ≤ 60 ∧ qs.length ≤ 60) :
  Calls Tryz.prog 10 #[u, v] w fun e w' => ∃ v es, e = .returned v ∧ SpR L w' w.heap.size v es ∧ es.map SpE.vl = rinterV (mergeV ps) (mergeV qs) ∧ es.length ≤ 4000 ∧ Ext w w' := by
 obtain ⟨Aa, ca, ea, rfl, he_, hc_, ho_⟩ := SpansV.list hu
 have HEa := zH he_
 have HCa := zH hc_
 have HOa := zH ho_
 have HUa := zH hu
 clear he_ hc_ ho_
 obtain ⟨Ab, cb, eb, rfl, he_, hc_, ho_⟩ := SpansV.list hv
 have HEb := zH he_
 have HCb := zH hc_
 have HOb := zH ho_
 have HUb := zH hv
 clear he_ hc_ ho_
 clear hu hv
 go_enter Tryz.func10, Tryz.ntmps10
 have H0 := zH (Hp.start w)
 go_upto_region 0 with fail
 refine wp_region_lit ?_
 refine zq (.slice none 0 0) ?_
 go_upto_region 1 with fail
 refine wp_region_lit ?_
 refine qV (.slice Aa ea.length ca) ?_
 refine zc (rmerge_any L (.slice Aa ea.length ca) ps _ (HUa.out.ext H0.out.ext) h1L (by omega) (by omega)) ?_
 rintro e w3 ⟨v_, es4, rfl, hv1_, hv2_, hv3_, hx⟩
 have VL4 := zH hv2_
 have LN4 := zH hv3_
 have OK4 := zH hv1_.2
 obtain ⟨A4, c4, rfl, hA_⟩ := RowN.form hv1_.1
 have HA4 := zH hA_
 clear hv2_ hv3_ hA_
 have H5 := zH (show Hp w w3 [ro 34 8 A4 es4.length c4 SpE.cells es4] from H0.out.addRow hx hv1_.1)
 clear hv1_
 clear hx
 refine zn ?_
 refine qV (.slice Ab eb.length cb) ?_
 refine zc (rmerge_any L (.slice Ab eb.length cb) qs _ (HUb.out.ext H5.out.ext) h1L (by omega) (by omega)) ?_
 rintro e w8 ⟨v_, es9, rfl, hv1_, hv2_, hv3_, hx⟩
 have VL9 := zH hv2_
 have LN9 := zH hv3_
 have OK9 := zH hv1_.2
 obtain ⟨A9, c9, rfl, hA_⟩ := RowN.form hv1_.1
 have HA9 := zH hA_
 clear hv2_ hv3_ hA_
 have H10 := zH (show Hp w w8 [ro 34 8 A4 es4.length c4 SpE.cells es4, ro 34 8 A9 es9.length c9 SpE.cells es9] from H5.out.addRow hx hv1_.1)
 have D10 := zH (Dig.of_ext hx)
 clear hv1_
 clear hx
 refine zn ?_
 refine qV (.slice A4 es4.length c4) ?_
 refine zq (.slice A9 es9.length c9) ?_
 have hpl : es4.length ≤ 60 := by have := LN4.out; omega
 have hql : es9.length ≤ 60 := by have := LN9.out; omega
 go_upto_region 2 with fail
 refine wp_region_lit ?_
 refine zp (w' := w8.alloc (.cells #[] 34)) (.slice (some ⟨w8.heap.size, 0, none⟩) 0 0) (by go_simp) ?_
 have hh := H10.out.addEmpty 34 8
 have hd := Dig.of_ext ((Ext.refl w8).alloc (.cells #[] 34))
 generalize w8.alloc (.cells #[] 34) = w14 at hh hd ⊢
 generalize w8.heap.size = X15 at hh ⊢
 have H16 := zH (show Hp w w14 [ro 34 8 A4 es4.length c4 SpE.cells es4, ro 34 8 A9 es9.length c9 SpE.cells es9, ro 34 8 (some ⟨X15, 0, none⟩) 0 0 SpE.cells ([])] from hh)
 have D16 := zH (hd)
 clear hh hd
 refine zq (.slice (some ⟨X15, 0, none⟩) 0 0) ?_
 go_upto_region 3 with fail
 refine wp_region_lit ?_
 refine zq (.int .i64 0) ?_
 go_wp2_with fail
 go_loopg [7, 8] (es4.length) (fun cq v20 v21 wr => ∃ (i : Nat) (m : Nat) (es : List SpE) (A1 : Option Addr) (c1 : Nat), cq = es4.length - i ∧ v20 = .slice A1 m c1 ∧ v21 = .int .i64 (i : Int) ∧ (i ≤ es4.length) ∧ (m = es.length ∧ m ≤ i * 60) ∧ (es.map SpE.vl = interRow es4 es9 i) ∧ (∀ e, e ∈ es → e.Ok L wr) ∧ Hp w wr [.row 34 8 (.slice A4 es4.length c4) (es4.length) (List.flatMap SpE.cells es4), .row 34 8 (.slice A9 es9.length c9) (es9.length) (List.flatMap SpE.cells es9), .row 34 8 (.slice A1 m c1) (m) (List.flatMap SpE.cells es)] ∧ Dig w14 wr)
 case atStart => exact ⟨0, 0, [], some ⟨X15, 0, none⟩, 0, rfl, rfl, rfl, Nat.zero_le _, ⟨rfl, Nat.le_refl _⟩, rfl, (by simp), H16.out, Dig.refl _⟩
 case round =>
  obtain ⟨i, m, es, A1, c1, rfl, rfl, rfl, q_HKI, q_HM, q_HV, q_HOE, hh_, hd_⟩ := hrel
  generalize wr = w22 at *
  have HKI := zH q_HKI
  clear q_HKI
  have HM := zH q_HM
  clear q_HM
  have HV := zH q_HV
  clear q_HV
  have HOE := zH q_HOE
  clear q_HOE
  have H24 := zH hh_
  have D24 := zH hd_
  clear hh_ hd_ H16
  by_cases c25 : i < es4.length
  ·have HLT := zH c25
   clear c25
   have hlt := HLT.out
   have hlt2 : (i : Int) < (es4.length : Int) := by omega
   obtain ⟨gp, rfl⟩ := HA4.out (by omega)
   obtain ⟨ex, he_⟩ : ∃ ex, es4[i]? = some ex := ⟨_, List.getElem?_eq_getElem hlt⟩
   have HEex := zH he_
   have HOex := zH (OK4.out ex (List.mem_of_getElem? he_))
   have RAex := zH HOex.out.1
   have RBex := zH HOex.out.2.1
   have BAex := zH HOex.out.2.2.1
   have BBex := zH HOex.out.2.2.2
   clear he_
   go_wp2_with fail
   go_loopg [7, 9] (es9.length) (fun cq v26 v27 wr => ∃ (k : Nat) (m2 : Nat) (es2 : List SpE) (A2 : Option Addr) (c2 : Nat), cq = es9.length - k ∧ v26 = .slice A2 m2 c2 ∧ v27 = .int .i64 (k : Int) ∧ (k ≤ es9.length) ∧ (m2 = es2.length ∧ m2 ≤ i * 60 + k) ∧ (es2.map SpE.vl = interRow es4 es9 i ++ interPart ex es9 k) ∧ (∀ e, e ∈ es2 → e.Ok L wr) ∧ Hp w wr [.row 34 8 (.slice (some ⟨gp, 0, none⟩) es4.length c4) (es4.length) (List.flatMap SpE.cells es4), .row 34 8 (.slice A9 es9.length c9) (es9.length) (List.flatMap SpE.cells es9), .row 34 8 (.slice A2 m2 c2) (m2) (List.flatMap SpE.cells es2)] ∧ Dig w22 wr)
   case atStart => exact ⟨0, m, es, A1, c1, rfl, rfl, rfl, Nat.zero_le _, HM.out, (by rw [HV.out]; unfold interPart; simp), (fun e_ he_ => (HOE.out e_ he_)), H24.out, Dig.refl _⟩
   case round =>
    obtain ⟨k, m2, es2, A2, c2, rfl, rfl, rfl, q_HKU, q_HM2, q_HV2, q_HOE2, hh_, hd_⟩ := hrel
    generalize wr = w28 at *
    have HKU := zH q_HKU
    clear q_HKU
    have HM2 := zH q_HM2
    clear q_HM2
    have HV2 := zH q_HV2
    clear q_HV2
    have HOE2 := zH q_HOE2
    clear q_HOE2
    have H30 := zH hh_
    have D30 := zH hd_
    clear hh_ hd_ H24
    by_cases c31 : k < es9.length
    ·have HLU := zH c31
     clear c31
     have hlu := HLU.out
     have hm2 := HM2.out.2
     have hlu2 : (k : Int) < (es9.length : Int) := by omega
     obtain ⟨gq, rfl⟩ := HA9.out (by omega)
     obtain ⟨ey, he_⟩ : ∃ ey, es9[k]? = some ey := ⟨_, List.getElem?_eq_getElem hlu⟩
     have HEey := zH he_
     have HOey := zH (OK9.out ey (List.mem_of_getElem? he_))
     have RAey := zH HOey.out.1
     have RBey := zH HOey.out.2.1
     have BAey := zH HOey.out.2.2.1
     have BBey := zH HOey.out.2.2.2
     clear he_
     go_upto_region 9 with fail
     refine wp_region_held_drew (S := fun x => Fr (fun kz => Value.ownBlock (.slice A2 m2 c2) = some kz) w28 x) (by kernel_rfl) (Fr.of_ext zb) (fun _ => ?_)
     have H32 := zH (H30.out.step (Ext.refl w28).drew)
     have D32 := zH (Dig.of_ext (w := w28) zb)
     refine zx 0 (bs 13 1) (.slice A2 m2 c2) (Fr.of_ext zb) ?_
     refine zx 1 (bs 13 3) (.slice (some ⟨gp, 0, none⟩) es4.length c4) (Fr.of_ext zb) ?_
     refine zx 2 (bs 13 7) (.int .i64 (i : Int)) (Fr.of_ext zb) ?_
     refine zo 3 (bs 13 15) (v := .pointer (some ⟨gp, i * 8, none⟩)) (Fr.of_ext zb) ?_ (hv := by intro w hSw; exact ezi (k := i) Tryz.underlying22 (l := hlt) (f := (Nat.zero_add _).symm))
     refine zr 4 (bs 13 31) gp (i * 8) [.bool ex.a.n, .slice ex.a.p ex.a.l ex.a.c, .bool ex.a.m, .slice ex.a.p2 ex.a.l2 ex.a.c2, .bool ex.b.n, .slice ex.b.p ex.b.l ex.b.c, .bool ex.b.m, .slice ex.b.p2 ex.b.l2 ex.b.c2] (fun x hx => Fr.range hx (show World.rangeAt w28 gp (i * 8) [.bool ex.a.n, .slice ex.a.p ex.a.l ex.a.c, .bool ex.a.m, .slice ex.a.p2 ex.a.l2 ex.a.c2, .bool ex.b.n, .slice ex.b.p ex.b.l ex.b.c, .bool ex.b.m, .slice ex.b.p2 ex.b.l2 ex.b.c2] from (H30.out.elem (f := SpE.cells) (i := 0) (by rfl) SpE.len HEex.out)) (H30.out.offRow (i := 0) (j := 2) (by rfl) (by rfl) (by decide) (by rfl))) Tryz.underlying34 (Fr.of_ext zb) ?_
     refine zx 5 (bs 13 63) (.slice (some ⟨gq, 0, none⟩) es9.length c9) (Fr.of_ext zb) ?_
     refine zx 6 (bs 13 127) (.int .i64 (k : Int)) (Fr.of_ext zb) ?_
     refine zo 7 (bs 13 255) (v := .pointer (some ⟨gq, k * 8, none⟩)) (Fr.of_ext zb) ?_ (hv := by intro w hSw; exact ezi (k := k) Tryz.underlying22 (l := hlu) (f := (Nat.zero_add _).symm))
     refine zr 8 (bs 13 511) gq (k * 8) [.bool ey.a.n, .slice ey.a.p ey.a.l ey.a.c, .bool ey.a.m, .slice ey.a.p2 ey.a.l2 ey.a.c2, .bool ey.b.n, .slice ey.b.p ey.b.l ey.b.c, .bool ey.b.m, .slice ey.b.p2 ey.b.l2 ey.b.c2] (fun x hx => Fr.range hx (show World.rangeAt w28 gq (k * 8) [.bool ey.a.n, .slice ey.a.p ey.a.l ey.a.c, .bool ey.a.m, .slice ey.a.p2 ey.a.l2 ey.a.c2, .bool ey.b.n, .slice ey.b.p ey.b.l ey.b.c, .bool ey.b.m, .slice ey.b.p2 ey.b.l2 ey.b.c2] from (H30.out.elem (f := SpE.cells) (i := 1) (by rfl) SpE.len HEey.out)) (H30.out.offRow (i := 1) (j := 2) (by rfl) (by rfl) (by decide) (by rfl))) Tryz.underlying34 (Fr.of_ext zb) ?_
     have DD43 := zH (((((D10.out.trans D16.out).trans D24.out).trans D30.out).trans D32.out))
     have DD44 := zH ((((D16.out.trans D24.out).trans D30.out).trans D32.out))
     refine mC 9 (bs 13 1023) (common_any L (by omega) ex ey _ ⟨(RAex.out.dig DD43.out), (RBex.out.dig DD43.out), BAex.out, BBex.out⟩ ⟨(RAey.out.dig DD44.out), (RBey.out.dig DD44.out), BAey.out, BBey.out⟩) ?_
     rintro e w41 ⟨z42, rfl, hz_, hzv_, hx⟩
     have H45 := zH (H32.out.step hx)
     have D45 := zH (show Dig w28.drew w41 from Dig.of_ext hx)
     have S48 := zH (show Fr (fun kz => Value.ownBlock (.slice A2 m2 c2) = some kz) w28 w41 from (Fr.of_ext zb).trans (Fr.of_ext hx))
     have RA42 := zH hz_.1
     have RB42 := zH hz_.2.1
     have BA42 := zH hz_.2.2.1
     have BB42 := zH hz_.2.2.2
     have VZ42 := zH hzv_
     clear hz_ hzv_
     clear hx
     refine zm S48.out ?_
     refine mU 10 (bs 13 2047) (v := .slice (some ⟨w41.heap.size, 0, none⟩) 1 1) (w' := (w41.alloc (.cells ([.bool z42.a.n, .slice z42.a.p z42.a.l z42.a.c, .bool z42.a.m, .slice z42.a.p2 z42.a.l2 z42.a.c2, .bool z42.b.n, .slice z42.b.p z42.b.l z42.b.c, .bool z42.b.m, .slice z42.b.p2 z42.b.l2 z42.b.c2] : List Value).toArray 34))) (S48.out.trans (Fr.of_ext ((Ext.refl w41).alloc _))) ?_
     try simp only [Act.put, zA, zB, zC]
     refine md_app (j := 11) (listed' := (bs 13 4095)) (by rfl) (by kernel_rfl) (by rfl) _ _ _ (by rfl) elSpan (by rfl) H45.out (ix := 2) (by rfl) 1 1 [.bool z42.a.n, .slice z42.a.p z42.a.l z42.a.c, .bool z42.a.m, .slice z42.a.p2 z42.a.l2 z42.a.c2, .bool z42.b.n, .slice z42.b.p z42.b.l z42.b.c, .bool z42.b.m, .slice z42.b.p2 z42.b.l2 z42.b.c2] (by rfl) rfl (by simp [Value.oneCell']) (by simp [NoUL]) (by decide) (by unfold maxLen; exact (by omega)) (by omega) (by kernel_rfl) ?_
     intro g50 cp51 w49 hf hh hd hg
     have Fg50 := zH hf
     clear hf
     rw [show List.flatMap SpE.cells es2 ++ [.bool z42.a.n, .slice z42.a.p z42.a.l z42.a.c, .bool z42.a.m, .slice z42.a.p2 z42.a.l2 z42.a.c2, .bool z42.b.n, .slice z42.b.p z42.b.l z42.b.c, .bool z42.b.m, .slice z42.b.p2 z42.b.l2 z42.b.c2] = List.flatMap SpE.cells (es2 ++ [(⟨z42.a, z42.b, z42.p, z42.q⟩ : SpE)]) from flat_snoc SpE.cells _ (⟨z42.a, z42.b, z42.p, z42.q⟩ : SpE)] at hh
     have H52 := zH (show Hp w w49 [ro 34 8 (some ⟨gp, 0, none⟩) es4.length c4 SpE.cells es4, ro 34 8 (some ⟨gq, 0, none⟩) es9.length c9 SpE.cells es9, ro 34 8 (some ⟨g50, 0, none⟩) (m2 + 1) cp51 SpE.cells (es2 ++ [(⟨z42.a, z42.b, z42.p, z42.q⟩ : SpE)])] from hh)
     have D52 := zH (hd)
     have S54 := zH (show Fr (fun kz => Value.ownBlock (.slice A2 m2 c2) = some kz) w28 w49 from Fr.trans_new (S48.out.trans (Fr.of_ext ((Ext.refl _).alloc _))) hg (fun j hj => .inl hj))
     clear hh hd hg
     refine ⟨S54.out, ?_⟩
     try simp only [Act.put, zA, zB, zC]
     refine zx 12 (bs 13 8191) (.slice (some ⟨g50, 0, none⟩) (m2 + 1) cp51) S54.out ?_
     refine wpAnyH_done (by kernel_rfl) ?_ _
     have DD56 := zH (((D32.out.trans D45.out).trans D52.out))
     have DD57 := zH ((((D30.out.trans D32.out).trans D45.out).trans D52.out))
     go_wp2_with fail
     go_roundg (es9.length - (k + 1))
     case measure => exact (by omega)
     case rel => exact ⟨k + 1, m2 + 1, es2 ++ [(⟨z42.a, z42.b, z42.p, z42.q⟩ : SpE)], some ⟨g50, 0, none⟩, cp51, rfl, rfl, (by go_num), hlu, ⟨by rw [List.length_append, ← HM2.out.1]; rfl, by omega⟩, (by rw [List.map_append, HV2.out, interPart_succ HEey.out, List.append_assoc, ← VZ42.out]; rfl), (fun g_ hg_ => (List.mem_append.1 hg_).elim (fun hg_ => (HOE2.out g_ hg_).dig DD56.out) (fun hg_ => by rw [List.mem_singleton.1 hg_]; exact ⟨(RA42.out.dig D52.out), (RB42.out.dig D52.out), BA42.out, BB42.out⟩)), H52.out, DD57.out⟩
    have HLU := zH c31
    clear c31
    have hlu := HLU.out
    have hm2 := HM2.out.2
    have hku := HKU.out
    obtain rfl : k = es9.length := by omega
    have hge : ¬ (es9.length : Int) < (es9.length : Int) := by omega
    have DD58 := zH ((D24.out.trans D30.out))
    go_wp2_with fail
    go_roundg (es4.length - (i + 1))
    case measure => exact (by omega)
    case rel => exact ⟨i + 1, m2, es2, A2, c2, rfl, rfl, (by go_num), hlt, ⟨HM2.out.1, by omega⟩, (by rw [HV2.out, interRow_succ HEex.out]), (fun e_ he_ => (HOE2.out e_ he_)), H30.out, DD58.out⟩
  have HLT := zH c25
  clear c25
  have hlt := HLT.out
  have hki := HKI.out
  have hm := HM.out.2
  obtain rfl : i = es4.length := by omega
  have hge : ¬ (es4.length : Int) < (es4.length : Int) := by omega
  go_upto_region 10 with fail
  refine wp_region_lit ?_
  refine qV (.slice A1 m c1) ?_
  refine zc (rsorted_any L (.slice A1 m c1) (List.map SpE.vl es) _ (spans_of_in (H24.out.row (i := 2) (by rfl)) HM.out.1 (fun e_ he_ => ((fun e_ he_ => (HOE.out e_ he_)) e_ he_).i)) h1L (by omega) (by rw [List.length_map, ← HM.out.1]; omega)) ?_
  rintro e w60 ⟨v_, es61, rfl, hv1_, hv2_, hv3_, hx⟩
  have VL61 := zH hv2_
  have LN61 := zH hv3_
  have OK61 := zH hv1_.2
  obtain ⟨A61, c61, rfl, hA_⟩ := RowN.form hv1_.1
  have HA61 := zH hA_
  clear hv2_ hv3_ hA_
  have H62 := zH (show Hp w w60 [ro 34 8 A4 es4.length c4 SpE.cells es4, ro 34 8 A9 es9.length c9 SpE.cells es9, ro 34 8 A1 m c1 SpE.cells es, ro 34 8 A61 es61.length c61 SpE.cells es61] from H24.out.addRow hx hv1_.1)
  clear hv1_
  clear hx
  refine zn ?_
  refine zq (.slice A61 es61.length c61) ?_
  go_wp2_with fail
  go_ret
  first | exact ⟨_, es61, rfl, SpR.base ⟨H62.out.row (i := 3) (by rfl), OK61.out⟩ (Nat.le_refl _), (by rw [VL61.out, HV.out, interRow_all, VL4.out, VL9.out]), (Nat.le_trans LN61.out (by rw [List.length_map, ← HM.out.1]; omega)), H62.out.ext⟩ | exact ⟨_, rfl, es61, SpR.base ⟨H62.out.row (i := 3) (by rfl), OK61.out⟩ (Nat.le_refl _), (by rw [VL61.out, HV.out, interRow_all, VL4.out, VL9.out]), (Nat.le_trans LN61.out (by rw [List.length_map, ← HM.out.1]; omega)), H62.out.ext⟩

def subSt (e : Rat) (st : List QQ × Rat) (c : QQ) : List QQ × Rat := if st.2 < c.2 ∧ c.1 < e then (st.1 ++ [(st.2, c.1)], c.2) else st
def subF (x : SpE) (ql : List SpE) (k : Nat) : List QQ × Rat := ((ql.take k).map SpE.vl).foldl (subSt x.q) ([], x.p)
def subRow (pl ql : List SpE) (i : Nat) : List QQ := subL ((pl.take i).map SpE.vl) (ql.map SpE.vl)
theorem cuts_fold (e : Rat) : ∀ (cs : List QQ) (pre : List QQ) (f : Rat), pre ++ cutsV e f cs = (cs.foldl (subSt e) (pre, f)).1 ++ [((cs.foldl (subSt e) (pre, f)).2, e)]
  | [], pre, f => by rw [cutsV]; rfl
  | c :: cs, pre, f => by
    rw [cutsV, List.foldl_cons]
    unfold subSt
    dsimp only
    split
    · have h := cuts_fold e cs (pre ++ [(f, c.1)]) c.2
      unfold subSt at h
      rw [← h]
      simp
    have h := cuts_fold e cs pre f
    unfold subSt at h
    exact h
theorem subF_zero (x : SpE) (ql : List SpE) : subF x ql 0 = ([], x.p) := rfl
theorem subF_yes {x y : SpE} {ql : List SpE} {k : Nat} (h : ql[k]? = some y) (hc : (subF x ql k).2 < y.q ∧ y.p < x.q) : subF x ql (k + 1) = ((subF x ql k).1 ++ [((subF x ql k).2, y.p)], y.q) := by
  have e : subF x ql (k + 1) = subSt x.q (subF x ql k) y.vl := by unfold subF; rw [List.take_add_one, h]; simp
  rw [e]
  unfold subSt
  exact if_pos hc
theorem subF_no {x y : SpE} {ql : List SpE} {k : Nat} (h : ql[k]? = some y) (hc : ¬ ((subF x ql k).2 < y.q ∧ y.p < x.q)) : subF x ql (k + 1) = subF x ql k := by
  have e : subF x ql (k + 1) = subSt x.q (subF x ql k) y.vl := by unfold subF; rw [List.take_add_one, h]; simp
  rw [e]
  unfold subSt
  exact if_neg hc
theorem subRow_succ {x : SpE} {pl ql : List SpE} {i : Nat} (h : pl[i]? = some x) : subRow pl ql (i + 1) = subRow pl ql i ++ ((subF x ql ql.length).1 ++ [((subF x ql ql.length).2, x.q)]) := by
  unfold subRow subL
  rw [List.take_add_one, h]
  simp only [Option.toList_some, List.map_append, List.map_cons, List.map_nil, List.flatMap_append, List.flatMap_cons, List.flatMap_nil, List.append_nil]
  congr 1
  have h2 := cuts_fold x.q (ql.map SpE.vl) [] x.p
  rw [List.nil_append] at h2
  unfold subF
  rw [List.take_of_length_le (Nat.le_refl _)]
  exact h2
theorem nodup_le {α : Type} : ∀ {l m : List α}, l.Pairwise (fun a b => a ≠ b) → (∀ a, a ∈ l → a ∈ m) → l.length ≤ m.length
  | [], m, _, _ => Nat.zero_le _
  | a :: l, m, h, hs => by
    obtain ⟨m1, m2, rfl⟩ := List.append_of_mem (hs a (List.mem_cons_self ..))
    obtain ⟨h1, h2⟩ := List.pairwise_cons.1 h
    have h3 := nodup_le (m := m1 ++ m2) h2 (fun b hb => by
      have h4 := hs b (List.mem_cons_of_mem _ hb)
      have h5 := h1 b hb
      simp only [List.mem_append, List.mem_cons] at h4 ⊢
      rcases h4 with h4 | rfl | h4
      · exact .inl h4
      · exact absurd rfl h5
      exact .inr h4)
    simp only [List.length_append, List.length_cons] at h3 ⊢
    omega
theorem cuts_left (e : Rat) : ∀ (cs : List QQ) (f : Rat) (p : QQ), p ∈ cutsV e f cs → p.1 = f ∨ ∃ c, c ∈ cs ∧ p.1 = c.2
  | [], f, p, h => by
    rw [cutsV, List.mem_singleton] at h
    exact .inl (by rw [h])
  | c :: cs, f, p, h => by
    rw [cutsV] at h
    split at h
    · rcases List.mem_cons.1 h with rfl | h
      · exact .inl rfl
      rcases cuts_left e cs c.2 p h with h1 | ⟨d, h1, h2⟩
      · exact .inr ⟨c, List.mem_cons_self .., h1⟩
      exact .inr ⟨d, List.mem_cons_of_mem _ h1, h2⟩
    rcases cuts_left e cs f p h with h1 | ⟨d, h1, h2⟩
    · exact .inl h1
    exact .inr ⟨d, List.mem_cons_of_mem _ h1, h2⟩
theorem subV_len {x y : List QQ} (hx : Sep x) (hy : Sep y) : (subV x y).length ≤ x.length + y.length := by
 have hs := subV_sep hx hy
 have h := nodup_le (l := (subV x y).map Prod.fst) (m := x.map Prod.fst ++ y.map Prod.snd) (by
  rw [List.pairwise_map]
  have h1 : (subV x y).Pairwise (fun a b => a.1 < b.1) := by
   refine List.Pairwise.imp_of_mem ?_ hs.1
   intro a b ha hb hab
   have := hs.2 a ha
   grind
  exact List.Pairwise.imp (fun hab => by grind) h1) (fun a ha => by
  obtain ⟨p, hp, rfl⟩ := List.mem_map.1 ha
  have h2 := (mem_some2.1 hp).1
  obtain ⟨s, hs1, hs2⟩ := List.mem_flatMap.1 h2
  rw [List.mem_append]
  rcases cuts_left _ _ _ _ hs2 with h3 | ⟨c, h3, h4⟩
  ·exact .inl (List.mem_map.2 ⟨s, hs1, h3.symm⟩)
  exact .inr (List.mem_map.2 ⟨c, h3, h4.symm⟩))
 simpa using h
theorem subRow_all (pl ql : List SpE) : subRow pl ql pl.length = subL (pl.map SpE.vl) (ql.map SpE.vl) := by
  unfold subRow
  rw [List.take_of_length_le (Nat.le_refl _)]

set_option maxRecDepth 20000 in
set_option maxHeartbeats 4000000 in
theorem rsubt_any (L : Nat) (u v : Value) (ps qs : List QQ) (w : World) (hu : SpansV L w u ps) (hv : SpansV L w v qs) (h1L : 1 ≤ L) (hL : L ≤ 60000) (hn : ps.length ≤ 60 ∧ qs.length ≤ 60) :
  Calls Tryz.prog 12 #[u, v] w fun e w' => ∃ v es, e = .returned v ∧ SpR L w' w.heap.size v es ∧ es.map SpE.vl = subV (mergeV ps) (mergeV qs) ∧ es.length ≤ 4000 ∧ Ext w w' := by
 obtain ⟨Aa, ca, ea, rfl, he_, hc_, ho_⟩ := SpansV.list hu
 have HEa := zH he_
 have HCa := zH hc_
 have HOa := zH ho_
 have HUa := zH hu
 clear he_ hc_ ho_
 obtain ⟨Ab, cb, eb, rfl, he_, hc_, ho_⟩ := SpansV.list hv
 have HEb := zH he_
 have HCb := zH hc_
 have HOb := zH ho_
 have HUb := zH hv
 clear he_ hc_ ho_
 clear hu hv
 go_enter Tryz.func12, Tryz.ntmps12
 have H0 := zH (Hp.start w)
 go_upto_region 0 with fail
 refine wp_region_lit ?_
 refine zq (.slice none 0 0) ?_
 go_upto_region 1 with fail
 refine wp_region_lit ?_
 refine qV (.slice Aa ea.length ca) ?_
 refine zc (rmerge_any L (.slice Aa ea.length ca) ps _ (HUa.out.ext H0.out.ext) h1L (by omega) (by omega)) ?_
 rintro e w145 ⟨v_, es146, rfl, hv1_, hv2_, hv3_, hx⟩
 have VL146 := zH hv2_
 have LN146 := zH hv3_
 have OK146 := zH hv1_.2
 obtain ⟨A146, c146, rfl, hA_⟩ := RowN.form hv1_.1
 have HA146 := zH hA_
 clear hv2_ hv3_ hA_
 have H147 := zH (show Hp w w145 [ro 34 8 A146 es146.length c146 SpE.cells es146] from H0.out.addRow hx hv1_.1)
 clear hv1_
 clear hx
 refine zn ?_
 refine qV (.slice Ab eb.length cb) ?_
 refine zc (rmerge_any L (.slice Ab eb.length cb) qs _ (HUb.out.ext H147.out.ext) h1L (by omega) (by omega)) ?_
 rintro e w150 ⟨v_, es151, rfl, hv1_, hv2_, hv3_, hx⟩
 have VL151 := zH hv2_
 have LN151 := zH hv3_
 have OK151 := zH hv1_.2
 obtain ⟨A151, c151, rfl, hA_⟩ := RowN.form hv1_.1
 have HA151 := zH hA_
 clear hv2_ hv3_ hA_
 have H152 := zH (show Hp w w150 [ro 34 8 A146 es146.length c146 SpE.cells es146, ro 34 8 A151 es151.length c151 SpE.cells es151] from H147.out.addRow hx hv1_.1)
 have D152 := zH (Dig.of_ext hx)
 clear hv1_
 clear hx
 refine zn ?_
 refine qV (.slice A146 es146.length c146) ?_
 refine zq (.slice A151 es151.length c151) ?_
 have hpl : es146.length ≤ 60 := by have := LN146.out; omega
 have hql : es151.length ≤ 60 := by have := LN151.out; omega
 go_upto_region 2 with fail
 refine wp_region_lit ?_
 refine zp (w' := w150.alloc (.cells #[] 34)) (.slice (some ⟨w150.heap.size, 0, none⟩) 0 0) (by go_simp) ?_
 have hh := H152.out.addEmpty 34 8
 have hd := Dig.of_ext ((Ext.refl w150).alloc (.cells #[] 34))
 generalize w150.alloc (.cells #[] 34) = w156 at hh hd ⊢
 generalize w150.heap.size = X157 at hh ⊢
 have H158 := zH (show Hp w w156 [ro 34 8 A146 es146.length c146 SpE.cells es146, ro 34 8 A151 es151.length c151 SpE.cells es151, ro 34 8 (some ⟨X157, 0, none⟩) 0 0 SpE.cells ([])] from hh)
 have D158 := zH (hd)
 clear hh hd
 refine zq (.slice (some ⟨X157, 0, none⟩) 0 0) ?_
 go_upto_region 3 with fail
 refine wp_region_lit ?_
 refine zq (.int .i64 0) ?_
 go_wp2_with fail
 go_loopg [7, 8] (es146.length) (fun cq v162 v163 wr => ∃ (i : Nat) (m : Nat) (es : List SpE) (A1 : Option Addr) (c1 : Nat), cq = es146.length - i ∧ v162 = .slice A1 m c1 ∧ v163 = .int .i64 (i : Int) ∧ (i ≤ es146.length) ∧ (m = es.length ∧ m ≤ i * 61) ∧ (es.map SpE.vl = subRow es146 es151 i) ∧ (∀ e, e ∈ es → e.Ok L wr) ∧ Hp w wr [.row 34 8 (.slice A146 es146.length c146) (es146.length) (List.flatMap SpE.cells es146), .row 34 8 (.slice A151 es151.length c151) (es151.length) (List.flatMap SpE.cells es151), .row 34 8 (.slice A1 m c1) (m) (List.flatMap SpE.cells es)] ∧ Dig w156 wr)
 case atStart => exact ⟨0, 0, [], some ⟨X157, 0, none⟩, 0, rfl, rfl, rfl, Nat.zero_le _, ⟨rfl, Nat.le_refl _⟩, rfl, (by simp), H158.out, Dig.refl _⟩
 case round =>
  obtain ⟨i, m, es, A1, c1, rfl, rfl, rfl, q_HKI, q_HM, q_HV, q_HOE, hh_, hd_⟩ := hrel
  generalize wr = w164 at *
  have HKI := zH q_HKI
  clear q_HKI
  have HM := zH q_HM
  clear q_HM
  have HV := zH q_HV
  clear q_HV
  have HOE := zH q_HOE
  clear q_HOE
  have H166 := zH hh_
  have D166 := zH hd_
  clear hh_ hd_ H158
  by_cases c167 : i < es146.length
  ·have HLT := zH c167
   clear c167
   have hlt := HLT.out
   have hlt2 : (i : Int) < (es146.length : Int) := by omega
   obtain ⟨gp, rfl⟩ := HA146.out (by omega)
   obtain ⟨ex, he_⟩ : ∃ ex, es146[i]? = some ex := ⟨_, List.getElem?_eq_getElem hlt⟩
   have HEex := zH he_
   have HOex := zH (OK146.out ex (List.mem_of_getElem? he_))
   have RAex := zH HOex.out.1
   have RBex := zH HOex.out.2.1
   have BAex := zH HOex.out.2.2.1
   have BBex := zH HOex.out.2.2.2
   clear he_
   go_upto_region 6 with fail
   refine wp_region_lit ?_
   refine qV (.slice (some ⟨gp, 0, none⟩) es146.length c146) ?_
   refine zq (.int .i64 (i : Int)) ?_
   refine zp (w' := w164) (.pointer (some ⟨gp, i * 8, none⟩)) (by exact ezi (k := i) Tryz.underlying22 (l := hlt) (f := (Nat.zero_add _).symm)) ?_
   refine qV (.pointer (some ⟨gp, i * 8, none⟩)) ?_
   refine zd gp (i * 8) (rc ex.a) (range_part (H166.out.elem (f := SpE.cells) (i := 0) (by rfl) SpE.len HEex.out) 0 4) Tryz.underlying32 ?_
   refine mv_alloc (T := 32) (zs := [.bool false, .slice none 0 0, .bool false, .slice none 0 0]) (by rfl) (by go_simp) H166.out (by simp [NoUL]) ?_
   intro X172 w173 hh hx hge
   have H174 := zH (show Hp w w173 [ro 34 8 (some ⟨gp, 0, none⟩) es146.length c146 SpE.cells es146, ro 34 8 A151 es151.length c151 SpE.cells es151, ro 34 8 A1 m c1 SpE.cells es, .blk X172 32 rz] from hh)
   have D174 := zH (Dig.of_ext hx)
   clear hh hx hge
   try simp only [Act.put, zA, zB, zC]
   refine mv_st (by rfl) _ _ _ (by rfl) H174.out (ix := 3) (by rfl) 0 [.bool ex.a.n, .slice ex.a.p ex.a.l ex.a.c, .bool ex.a.m, .slice ex.a.p2 ex.a.l2 ex.a.c2] (by rfl) (by rfl) (by simp) (by kernel_rfl) (by simp [Value.oneCell']) (by simp [NoUL]) ?_
   intro w177 hh hd ho
   have H178 := zH (show Hp w w177 [ro 34 8 (some ⟨gp, 0, none⟩) es146.length c146 SpE.cells es146, ro 34 8 A151 es151.length c151 SpE.cells es151, ro 34 8 A1 m c1 SpE.cells es, .blk X172 32 (rc ex.a)] from hh)
   have D178 := zH (hd)
   clear hh hd ho
   (try simp only [Act.put])
   have DD180 := zH ((D174.out.trans D178.out))
   have DD181 := zH (((((D152.out.trans D158.out).trans D166.out).trans D174.out).trans D178.out))
   go_wp2_with fail
   go_loopg [7, 10] (es151.length) (fun cq v182 v183 wr => ∃ (k : Nat) (m2 : Nat) (es2 : List SpE) (A2 : Option Addr) (c2 : Nat) (rf : RV) (f : Rat), cq = es151.length - k ∧ v182 = .slice A2 m2 c2 ∧ v183 = .int .i64 (k : Int) ∧ (k ≤ es151.length) ∧ (m2 = es2.length ∧ m2 ≤ i * 61 + k) ∧ (es2.map SpE.vl = subRow es146 es151 i ++ (subF ex es151 k).1) ∧ (∀ e, e ∈ es2 → e.Ok L wr) ∧ (rf.Is wr f) ∧ (Nm.rl f ≤ L) ∧ (f = (subF ex es151 k).2) ∧ Hp w wr [.row 34 8 (.slice (some ⟨gp, 0, none⟩) es146.length c146) (es146.length) (List.flatMap SpE.cells es146), .row 34 8 (.slice A151 es151.length c151) (es151.length) (List.flatMap SpE.cells es151), .row 34 8 (.slice A2 m2 c2) (m2) (List.flatMap SpE.cells es2), .blk X172 32 [.bool rf.n, .slice rf.p rf.l rf.c, .bool rf.m, .slice rf.p2 rf.l2 rf.c2]] ∧ Dig w177 wr)
   case atStart => exact ⟨0, m, es, A1, c1, ex.a, ex.p, rfl, rfl, rfl, Nat.zero_le _, HM.out, (by rw [HV.out, subF_zero, List.append_nil]), (fun e_ he_ => (HOE.out e_ he_).dig DD180.out), (RAex.out.dig DD181.out), BAex.out, rfl, H178.out, Dig.refl _⟩
   case round =>
    obtain ⟨k, m2, es2, A2, c2, rf, f, rfl, rfl, rfl, q_HKU, q_HM2, q_HV2, q_HOE2, q_RF, q_BF, q_HFV, hh_, hd_⟩ := hrel
    generalize wr = w184 at *
    have HKU := zH q_HKU
    clear q_HKU
    have HM2 := zH q_HM2
    clear q_HM2
    have HV2 := zH q_HV2
    clear q_HV2
    have HOE2 := zH q_HOE2
    clear q_HOE2
    have RF := zH q_RF
    clear q_RF
    have BF := zH q_BF
    clear q_BF
    have HFV := zH q_HFV
    clear q_HFV
    have H186 := zH hh_
    have D186 := zH hd_
    clear hh_ hd_ H178
    by_cases c187 : k < es151.length
    ·have HLU := zH c187
     clear c187
     have hlu := HLU.out
     have hlu2 : (k : Int) < (es151.length : Int) := by omega
     obtain ⟨gq, rfl⟩ := HA151.out (by omega)
     obtain ⟨ey, he_⟩ : ∃ ey, es151[k]? = some ey := ⟨_, List.getElem?_eq_getElem hlu⟩
     have HEey := zH he_
     have HOey := zH (OK151.out ey (List.mem_of_getElem? he_))
     have RAey := zH HOey.out.1
     have RBey := zH HOey.out.2.1
     have BAey := zH HOey.out.2.2.1
     have BBey := zH HOey.out.2.2.2
     clear he_
     by_cases c188 : f < ey.q
     ·have C1 := zH c188
      clear c188
      by_cases c189 : ey.p < ex.q
      ·have C2 := zH c189
       clear c189
       go_upto_region 10 with fail
       refine zy ?_
       have H190 := zH (H186.out.step (Ext.refl w184).drew)
       have D190 := zH (Dig.of_ext (w := w184) zb)
       refine zg 0 (bs 20 1) X172 (0) (rc rf) (H186.out.range (i := 3) (by rfl) 0 4) Tryz.underlying32 zb ?_
       refine zx 1 (bs 20 3) (.slice (some ⟨gq, 0, none⟩) es151.length c151) zb ?_
       refine zx 2 (bs 20 7) (.int .i64 (k : Int)) zb ?_
       refine zu 3 (bs 20 15) (v := .pointer (some ⟨gq, k * 8, none⟩)) zb ?_ (hv := by intro w hSw; exact ezi (k := k) Tryz.underlying22 (l := hlu) (f := (Nat.zero_add _).symm))
       refine mX 4 (bs 20 31) (.pointer (some ⟨gq, k * 8 + 4, none⟩)) zb ?_
       refine zg 5 (bs 20 63) gq (k * 8 + 4) (rc ey.b) (range_part (H186.out.elem (f := SpE.cells) (i := 1) (by rfl) SpE.len HEey.out) 4 4) Tryz.underlying32 zb ?_
       have DD197 := zH ((((((D158.out.trans D166.out).trans D174.out).trans D178.out).trans D186.out).trans D190.out))
       refine mC 6 (bs 20 127) (less_any 60000 _ _ f ey.q _ (RV.Is.nin (RF.out.dig D190.out) (Nat.le_trans BF.out (by omega))) (RV.Is.nin (RBey.out.dig DD197.out) (Nat.le_trans BBey.out (by omega))) (by omega)) ?_
       rintro e w196 ⟨rfl, hx⟩
       have H198 := zH (H190.out.step hx)
       have D198 := zH (show Dig w184.drew w196 from Dig.of_ext hx)
       have S200 := zH (show Ext w184 w196 from zb.trans hx)
       clear hx
       refine ⟨.bool true, by rw [dec_t C1.out], S200.out, ?_⟩
       try simp only [Act.put, zA, zB, zC]
       refine zx 7 (bs 20 255) (.bool true) S200.out ?_
       refine zx 8 (bs 20 511) (.slice (some ⟨gq, 0, none⟩) es151.length c151) S200.out ?_
       refine zx 9 (bs 20 1023) (.int .i64 (k : Int)) S200.out ?_
       refine zu 10 (bs 20 2047) (v := .pointer (some ⟨gq, k * 8, none⟩)) S200.out ?_ (hv := by intro w hSw; exact ezi (k := k) Tryz.underlying22 (l := hlu) (f := (Nat.zero_add _).symm))
       refine mX 11 (bs 20 4095) (.pointer (some ⟨gq, k * 8, none⟩)) S200.out ?_
       refine zg 12 (bs 20 8191) gq (k * 8) (rc ey.a) (range_part (H186.out.elem (f := SpE.cells) (i := 1) (by rfl) SpE.len HEey.out) 0 4) Tryz.underlying32 S200.out ?_
       refine zx 13 (bs 20 16383) (.slice (some ⟨gp, 0, none⟩) es146.length c146) S200.out ?_
       refine zx 14 (bs 20 32767) (.int .i64 (i : Int)) S200.out ?_
       refine zu 15 (bs 20 65535) (v := .pointer (some ⟨gp, i * 8, none⟩)) S200.out ?_ (hv := by intro w hSw; exact ezi (k := i) Tryz.underlying22 (l := hlt) (f := (Nat.zero_add _).symm))
       refine mX 16 (bs 20 131071) (.pointer (some ⟨gp, i * 8 + 4, none⟩)) S200.out ?_
       refine zg 17 (bs 20 262143) gp (i * 8 + 4) (rc ex.b) (range_part (H186.out.elem (f := SpE.cells) (i := 0) (by rfl) SpE.len HEex.out) 4 4) Tryz.underlying32 S200.out ?_
       have DD211 := zH (((((((D158.out.trans D166.out).trans D174.out).trans D178.out).trans D186.out).trans D190.out).trans D198.out))
       have DD212 := zH ((((((((D152.out.trans D158.out).trans D166.out).trans D174.out).trans D178.out).trans D186.out).trans D190.out).trans D198.out))
       refine mC 18 (bs 20 524287) (less_any 60000 _ _ ey.p ex.q _ (RV.Is.nin (RAey.out.dig DD211.out) (Nat.le_trans BAey.out (by omega))) (RV.Is.nin (RBex.out.dig DD212.out) (Nat.le_trans BBex.out (by omega))) (by omega)) ?_
       rintro e w210 ⟨rfl, hx⟩
       have H213 := zH (H198.out.step hx)
       have D213 := zH (Dig.of_ext hx)
       have S215 := zH (S200.out.trans hx)
       clear hx
       refine ⟨.bool true, by rw [dec_t C2.out], S215.out, ?_⟩
       try simp only [Act.put, zA, zB, zC]
       refine zx 19 (bs 20 1048575) (.bool true) S215.out ?_
       refine wpAnyH_done (by kernel_rfl) ?_ _
       go_upto_region 11 with fail
       refine wp_region_held_drew (S := fun x => Fr (fun kz => Value.ownBlock (.slice A2 m2 c2) = some kz) w210 x) (by kernel_rfl) (Fr.of_ext zb) (fun _ => ?_)
       have H217 := zH (H213.out.step (Ext.refl w210).drew)
       have D217 := zH (Dig.of_ext (w := w210) zb)
       refine mX 0 (bs 11 1) (.slice A2 m2 c2) (Fr.of_ext zb) ?_
       refine zr 1 (bs 11 3) X172 (0) [.bool rf.n, .slice rf.p rf.l rf.c, .bool rf.m, .slice rf.p2 rf.l2 rf.c2] (fun x hx => Fr.range hx (show World.rangeAt w210 X172 (0) [.bool rf.n, .slice rf.p rf.l rf.c, .bool rf.m, .slice rf.p2 rf.l2 rf.c2] from (H213.out.range (i := 3) (by rfl) 0 4)) (H213.out.offRow (i := 3) (j := 2) (by rfl) (by rfl) (by decide) (by rfl))) Tryz.underlying32 (Fr.of_ext zb) ?_
       refine zx 2 (bs 11 7) (.slice (some ⟨gq, 0, none⟩) es151.length c151) (Fr.of_ext zb) ?_
       refine zx 3 (bs 11 15) (.int .i64 (k : Int)) (Fr.of_ext zb) ?_
       refine zu 4 (bs 11 31) (v := .pointer (some ⟨gq, k * 8, none⟩)) (Fr.of_ext zb) ?_ (hv := by intro w hSw; exact ezi (k := k) Tryz.underlying22 (l := hlu) (f := (Nat.zero_add _).symm))
       refine mX 5 (bs 11 63) (.pointer (some ⟨gq, k * 8, none⟩)) (Fr.of_ext zb) ?_
       refine zr 6 (bs 11 127) gq (k * 8) [.bool ey.a.n, .slice ey.a.p ey.a.l ey.a.c, .bool ey.a.m, .slice ey.a.p2 ey.a.l2 ey.a.c2] (fun x hx => Fr.range hx (show World.rangeAt w210 gq (k * 8) [.bool ey.a.n, .slice ey.a.p ey.a.l ey.a.c, .bool ey.a.m, .slice ey.a.p2 ey.a.l2 ey.a.c2] from (range_part (H213.out.elem (f := SpE.cells) (i := 1) (by rfl) SpE.len HEey.out) 0 4)) (H213.out.offRow (i := 1) (j := 2) (by rfl) (by rfl) (by decide) (by rfl))) Tryz.underlying32 (Fr.of_ext zb) ?_
       refine zx 7 (bs 11 255) (.agg #[.bool rf.n, .slice rf.p rf.l rf.c, .bool rf.m, .slice rf.p2 rf.l2 rf.c2, .bool ey.a.n, .slice ey.a.p ey.a.l ey.a.c, .bool ey.a.m, .slice ey.a.p2 ey.a.l2 ey.a.c2]) (Fr.of_ext zb) ?_
       refine mU 8 (bs 11 511) (v := .slice (some ⟨w210.drew.heap.size, 0, none⟩) 1 1) (w' := (w210.drew.alloc (.cells ([.bool rf.n, .slice rf.p rf.l rf.c, .bool rf.m, .slice rf.p2 rf.l2 rf.c2, .bool ey.a.n, .slice ey.a.p ey.a.l ey.a.c, .bool ey.a.m, .slice ey.a.p2 ey.a.l2 ey.a.c2] : List Value).toArray 34))) ((Fr.of_ext zb).trans (Fr.of_ext ((Ext.refl w210.drew).alloc _))) ?_
       try simp only [Act.put, zA, zB, zC]
       refine md_app (j := 9) (listed' := (bs 11 1023)) (by rfl) (by kernel_rfl) (by rfl) _ _ _ (by rfl) elSpan (by rfl) H217.out (ix := 2) (by rfl) 1 1 [.bool rf.n, .slice rf.p rf.l rf.c, .bool rf.m, .slice rf.p2 rf.l2 rf.c2, .bool ey.a.n, .slice ey.a.p ey.a.l ey.a.c, .bool ey.a.m, .slice ey.a.p2 ey.a.l2 ey.a.c2] (by rfl) rfl (by simp [Value.oneCell']) (by simp [NoUL]) (by decide) (by unfold maxLen; exact (by have ob4 := HM2.out.2; omega)) (by have ob4 := HM2.out.2; omega) (by kernel_rfl) ?_
       intro g226 cp227 w225 hf hh hd hg
       have Fg226 := zH hf
       clear hf
       rw [show List.flatMap SpE.cells es2 ++ [.bool rf.n, .slice rf.p rf.l rf.c, .bool rf.m, .slice rf.p2 rf.l2 rf.c2, .bool ey.a.n, .slice ey.a.p ey.a.l ey.a.c, .bool ey.a.m, .slice ey.a.p2 ey.a.l2 ey.a.c2] = List.flatMap SpE.cells (es2 ++ [(⟨rf, ey.a, f, ey.p⟩ : SpE)]) from flat_snoc SpE.cells _ (⟨rf, ey.a, f, ey.p⟩ : SpE)] at hh
       have H228 := zH (show Hp w w225 [ro 34 8 (some ⟨gp, 0, none⟩) es146.length c146 SpE.cells es146, ro 34 8 (some ⟨gq, 0, none⟩) es151.length c151 SpE.cells es151, ro 34 8 (some ⟨g226, 0, none⟩) (m2 + 1) cp227 SpE.cells (es2 ++ [(⟨rf, ey.a, f, ey.p⟩ : SpE)]), .blk X172 32 (rc rf)] from hh)
       have D228 := zH (show Dig w210.drew w225 from hd)
       have S230 := zH (show Fr (fun kz => Value.ownBlock (.slice A2 m2 c2) = some kz) w210 w225 from Fr.trans_new ((Fr.of_ext zb).trans (Fr.of_ext ((Ext.refl _).alloc _))) hg (fun j hj => .inl hj))
       clear hh hd hg
       refine ⟨S230.out, ?_⟩
       try simp only [Act.put, zA, zB, zC]
       refine zx 10 (bs 11 2047) (.slice (some ⟨g226, 0, none⟩) (m2 + 1) cp227) S230.out ?_
       refine wpAnyH_done (by kernel_rfl) ?_ _
       go_upto_region 12 with fail
       refine wp_region_lit ?_
       refine qV (.slice (some ⟨gq, 0, none⟩) es151.length c151) ?_
       refine zq (.int .i64 (k : Int)) ?_
       refine zp (w' := w225) (.pointer (some ⟨gq, k * 8, none⟩)) (by exact ezi (k := k) Tryz.underlying22 (l := hlu) (f := (Nat.zero_add _).symm)) ?_
       refine qV (.pointer (some ⟨gq, k * 8 + 4, none⟩)) ?_
       refine zd gq (k * 8 + 4) (rc ey.b) (range_part (H228.out.elem (f := SpE.cells) (i := 1) (by rfl) SpE.len HEey.out) 4 4) Tryz.underlying32 ?_
       refine mv_st (by rfl) _ _ _ (by rfl) H228.out (ix := 3) (by rfl) 0 [.bool ey.b.n, .slice ey.b.p ey.b.l ey.b.c, .bool ey.b.m, .slice ey.b.p2 ey.b.l2 ey.b.c2] (by rfl) (by rfl) (by simp) (by kernel_rfl) (by simp [Value.oneCell']) (by simp [NoUL]) ?_
       intro w236 hh hd ho
       have H237 := zH (show Hp w w236 [ro 34 8 (some ⟨gp, 0, none⟩) es146.length c146 SpE.cells es146, ro 34 8 (some ⟨gq, 0, none⟩) es151.length c151 SpE.cells es151, ro 34 8 (some ⟨g226, 0, none⟩) (m2 + 1) cp227 SpE.cells (es2 ++ [(⟨rf, ey.a, f, ey.p⟩ : SpE)]), .blk X172 32 (rc ey.b)] from hh)
       have D237 := zH (hd)
       clear hh hd ho
       (try simp only [Act.put])
       have DD239 := zH ((((((D190.out.trans D198.out).trans D213.out).trans D217.out).trans D228.out).trans D237.out))
       have DD240 := zH (((((((((((D158.out.trans D166.out).trans D174.out).trans D178.out).trans D186.out).trans D190.out).trans D198.out).trans D213.out).trans D217.out).trans D228.out).trans D237.out))
       have DD241 := zH (((((((D186.out.trans D190.out).trans D198.out).trans D213.out).trans D217.out).trans D228.out).trans D237.out))
       go_wp2_with fail
       go_roundg (es151.length - (k + 1))
       case measure => exact (by have ob4 := HM2.out.2; omega)
       case rel => exact ⟨k + 1, m2 + 1, es2 ++ [(⟨rf, ey.a, f, ey.p⟩ : SpE)], some ⟨g226, 0, none⟩, cp227, ey.b, ey.q, rfl, rfl, (by go_num), hlu, ⟨by rw [List.length_append, ← HM2.out.1]; rfl, by have := HM2.out.2; omega⟩, (by rw [List.map_append, HV2.out, (subF_yes HEey.out ⟨by rw [← HFV.out]; exact C1.out, C2.out⟩), List.append_assoc, ← HFV.out]; rfl), (fun g_ hg_ => (List.mem_append.1 hg_).elim (fun hg_ => (HOE2.out g_ hg_).dig DD239.out) (fun hg_ => by rw [List.mem_singleton.1 hg_]; exact ⟨(RF.out.dig DD239.out), (RAey.out.dig DD240.out), BF.out, BAey.out⟩)), (RBey.out.dig DD240.out), BBey.out, (by rw [(subF_yes HEey.out ⟨by rw [← HFV.out]; exact C1.out, C2.out⟩)]), H237.out, DD241.out⟩
      have C2 := zH c189
      clear c189
      go_upto_region 10 with fail
      refine zy ?_
      have H242 := zH (H186.out.step (Ext.refl w184).drew)
      have D242 := zH (Dig.of_ext (w := w184) zb)
      refine zg 0 (bs 20 1) X172 (0) (rc rf) (H186.out.range (i := 3) (by rfl) 0 4) Tryz.underlying32 zb ?_
      refine zx 1 (bs 20 3) (.slice (some ⟨gq, 0, none⟩) es151.length c151) zb ?_
      refine zx 2 (bs 20 7) (.int .i64 (k : Int)) zb ?_
      refine zu 3 (bs 20 15) (v := .pointer (some ⟨gq, k * 8, none⟩)) zb ?_ (hv := by intro w hSw; exact ezi (k := k) Tryz.underlying22 (l := hlu) (f := (Nat.zero_add _).symm))
      refine mX 4 (bs 20 31) (.pointer (some ⟨gq, k * 8 + 4, none⟩)) zb ?_
      refine zg 5 (bs 20 63) gq (k * 8 + 4) (rc ey.b) (range_part (H186.out.elem (f := SpE.cells) (i := 1) (by rfl) SpE.len HEey.out) 4 4) Tryz.underlying32 zb ?_
      have DD249 := zH ((((((D158.out.trans D166.out).trans D174.out).trans D178.out).trans D186.out).trans D242.out))
      refine mC 6 (bs 20 127) (less_any 60000 _ _ f ey.q _ (RV.Is.nin (RF.out.dig D242.out) (Nat.le_trans BF.out (by omega))) (RV.Is.nin (RBey.out.dig DD249.out) (Nat.le_trans BBey.out (by omega))) (by omega)) ?_
      rintro e w248 ⟨rfl, hx⟩
      have H250 := zH (H242.out.step hx)
      have D250 := zH (show Dig w184.drew w248 from Dig.of_ext hx)
      have S252 := zH (show Ext w184 w248 from zb.trans hx)
      clear hx
      refine ⟨.bool true, by rw [dec_t C1.out], S252.out, ?_⟩
      try simp only [Act.put, zA, zB, zC]
      refine zx 7 (bs 20 255) (.bool true) S252.out ?_
      refine zx 8 (bs 20 511) (.slice (some ⟨gq, 0, none⟩) es151.length c151) S252.out ?_
      refine zx 9 (bs 20 1023) (.int .i64 (k : Int)) S252.out ?_
      refine zu 10 (bs 20 2047) (v := .pointer (some ⟨gq, k * 8, none⟩)) S252.out ?_ (hv := by intro w hSw; exact ezi (k := k) Tryz.underlying22 (l := hlu) (f := (Nat.zero_add _).symm))
      refine mX 11 (bs 20 4095) (.pointer (some ⟨gq, k * 8, none⟩)) S252.out ?_
      refine zg 12 (bs 20 8191) gq (k * 8) (rc ey.a) (range_part (H186.out.elem (f := SpE.cells) (i := 1) (by rfl) SpE.len HEey.out) 0 4) Tryz.underlying32 S252.out ?_
      refine zx 13 (bs 20 16383) (.slice (some ⟨gp, 0, none⟩) es146.length c146) S252.out ?_
      refine zx 14 (bs 20 32767) (.int .i64 (i : Int)) S252.out ?_
      refine zu 15 (bs 20 65535) (v := .pointer (some ⟨gp, i * 8, none⟩)) S252.out ?_ (hv := by intro w hSw; exact ezi (k := i) Tryz.underlying22 (l := hlt) (f := (Nat.zero_add _).symm))
      refine mX 16 (bs 20 131071) (.pointer (some ⟨gp, i * 8 + 4, none⟩)) S252.out ?_
      refine zg 17 (bs 20 262143) gp (i * 8 + 4) (rc ex.b) (range_part (H186.out.elem (f := SpE.cells) (i := 0) (by rfl) SpE.len HEex.out) 4 4) Tryz.underlying32 S252.out ?_
      have DD263 := zH (((((((D158.out.trans D166.out).trans D174.out).trans D178.out).trans D186.out).trans D242.out).trans D250.out))
      have DD264 := zH ((((((((D152.out.trans D158.out).trans D166.out).trans D174.out).trans D178.out).trans D186.out).trans D242.out).trans D250.out))
      refine mC 18 (bs 20 524287) (less_any 60000 _ _ ey.p ex.q _ (RV.Is.nin (RAey.out.dig DD263.out) (Nat.le_trans BAey.out (by omega))) (RV.Is.nin (RBex.out.dig DD264.out) (Nat.le_trans BBex.out (by omega))) (by omega)) ?_
      rintro e w262 ⟨rfl, hx⟩
      have H265 := zH (H250.out.step hx)
      have D265 := zH (Dig.of_ext hx)
      have S267 := zH (S252.out.trans hx)
      clear hx
      refine ⟨.bool false, by rw [dec_f C2.out], S267.out, ?_⟩
      try simp only [Act.put, zA, zB, zC]
      refine zx 19 (bs 20 1048575) (.bool false) S267.out ?_
      refine wpAnyH_done (by kernel_rfl) ?_ _
      have DD269 := zH (((D242.out.trans D250.out).trans D265.out))
      have DD270 := zH ((((D186.out.trans D242.out).trans D250.out).trans D265.out))
      go_wp2_with fail
      go_roundg (es151.length - (k + 1))
      case measure => exact (by have ob4 := HM2.out.2; omega)
      case rel => exact ⟨k + 1, m2, es2, A2, c2, rf, f, rfl, rfl, (by go_num), hlu, ⟨HM2.out.1, by have := HM2.out.2; omega⟩, (by rw [HV2.out, subF_no HEey.out (fun h_ => C2.out h_.2)]), (fun e_ he_ => (HOE2.out e_ he_).dig DD269.out), (RF.out.dig DD269.out), BF.out, (by rw [HFV.out, subF_no HEey.out (fun h_ => C2.out h_.2)]), H265.out, DD270.out⟩
     have C1 := zH c188
     clear c188
     go_upto_region 10 with fail
     refine zy ?_
     have H271 := zH (H186.out.step (Ext.refl w184).drew)
     have D271 := zH (Dig.of_ext (w := w184) zb)
     refine zg 0 (bs 20 1) X172 (0) (rc rf) (H186.out.range (i := 3) (by rfl) 0 4) Tryz.underlying32 zb ?_
     refine zx 1 (bs 20 3) (.slice (some ⟨gq, 0, none⟩) es151.length c151) zb ?_
     refine zx 2 (bs 20 7) (.int .i64 (k : Int)) zb ?_
     refine zu 3 (bs 20 15) (v := .pointer (some ⟨gq, k * 8, none⟩)) zb ?_ (hv := by intro w hSw; exact ezi (k := k) Tryz.underlying22 (l := hlu) (f := (Nat.zero_add _).symm))
     refine mX 4 (bs 20 31) (.pointer (some ⟨gq, k * 8 + 4, none⟩)) zb ?_
     refine zg 5 (bs 20 63) gq (k * 8 + 4) (rc ey.b) (range_part (H186.out.elem (f := SpE.cells) (i := 1) (by rfl) SpE.len HEey.out) 4 4) Tryz.underlying32 zb ?_
     have DD278 := zH ((((((D158.out.trans D166.out).trans D174.out).trans D178.out).trans D186.out).trans D271.out))
     refine mC 6 (bs 20 127) (less_any 60000 _ _ f ey.q _ (RV.Is.nin (RF.out.dig D271.out) (Nat.le_trans BF.out (by omega))) (RV.Is.nin (RBey.out.dig DD278.out) (Nat.le_trans BBey.out (by omega))) (by omega)) ?_
     rintro e w277 ⟨rfl, hx⟩
     have H279 := zH (H271.out.step hx)
     have D279 := zH (show Dig w184.drew w277 from Dig.of_ext hx)
     have S281 := zH (show Ext w184 w277 from zb.trans hx)
     clear hx
     refine ⟨.bool false, by rw [dec_f C1.out], S281.out, ?_⟩
     try simp only [Act.put, zA, zB, zC]
     refine zx 7 (bs 20 255) (.bool false) S281.out ?_
     refine zs 8 (bs 20 511) S281.out ?_
     refine zs 9 (bs 20 1023) S281.out ?_
     refine zs 10 (bs 20 2047) S281.out ?_
     refine zs 11 (bs 20 4095) S281.out ?_
     refine zs 12 (bs 20 8191) S281.out ?_
     refine zs 13 (bs 20 16383) S281.out ?_
     refine zs 14 (bs 20 32767) S281.out ?_
     refine zs 15 (bs 20 65535) S281.out ?_
     refine zs 16 (bs 20 131071) S281.out ?_
     refine zs 17 (bs 20 262143) S281.out ?_
     refine zs 18 (bs 20 524287) S281.out ?_
     refine zx 19 (bs 20 1048575) (.bool false) S281.out ?_
     refine wpAnyH_done (by kernel_rfl) ?_ _
     have DD284 := zH ((D271.out.trans D279.out))
     have DD285 := zH (((D186.out.trans D271.out).trans D279.out))
     go_wp2_with fail
     go_roundg (es151.length - (k + 1))
     case measure => exact (by have ob4 := HM2.out.2; omega)
     case rel => exact ⟨k + 1, m2, es2, A2, c2, rf, f, rfl, rfl, (by go_num), hlu, ⟨HM2.out.1, by have := HM2.out.2; omega⟩, (by rw [HV2.out, subF_no HEey.out (fun h_ => C1.out (by rw [HFV.out]; exact h_.1))]), (fun e_ he_ => (HOE2.out e_ he_).dig DD284.out), (RF.out.dig DD284.out), BF.out, (by rw [HFV.out, subF_no HEey.out (fun h_ => C1.out (by rw [HFV.out]; exact h_.1))]), H279.out, DD285.out⟩
    have HLU := zH c187
    clear c187
    have hlu := HLU.out
    have hku := HKU.out
    obtain rfl : k = es151.length := by omega
    have hge : ¬ (es151.length : Int) < (es151.length : Int) := by omega
    go_upto_region 13 with fail
    refine wp_region_held_drew (S := fun x => Fr (fun kz => Value.ownBlock (.slice A2 m2 c2) = some kz) w184 x) (by kernel_rfl) (Fr.of_ext zb) (fun _ => ?_)
    have H286 := zH (H186.out.step (Ext.refl w184).drew)
    have D286 := zH (Dig.of_ext (w := w184) zb)
    refine mX 0 (bs 11 1) (.slice A2 m2 c2) (Fr.of_ext zb) ?_
    refine zr 1 (bs 11 3) X172 (0) [.bool rf.n, .slice rf.p rf.l rf.c, .bool rf.m, .slice rf.p2 rf.l2 rf.c2] (fun x hx => Fr.range hx (show World.rangeAt w184 X172 (0) [.bool rf.n, .slice rf.p rf.l rf.c, .bool rf.m, .slice rf.p2 rf.l2 rf.c2] from (H186.out.range (i := 3) (by rfl) 0 4)) (H186.out.offRow (i := 3) (j := 2) (by rfl) (by rfl) (by decide) (by rfl))) Tryz.underlying32 (Fr.of_ext zb) ?_
    refine zx 2 (bs 11 7) (.slice (some ⟨gp, 0, none⟩) es146.length c146) (Fr.of_ext zb) ?_
    refine zx 3 (bs 11 15) (.int .i64 (i : Int)) (Fr.of_ext zb) ?_
    refine zu 4 (bs 11 31) (v := .pointer (some ⟨gp, i * 8, none⟩)) (Fr.of_ext zb) ?_ (hv := by intro w hSw; exact ezi (k := i) Tryz.underlying22 (l := hlt) (f := (Nat.zero_add _).symm))
    refine mX 5 (bs 11 63) (.pointer (some ⟨gp, i * 8 + 4, none⟩)) (Fr.of_ext zb) ?_
    refine zr 6 (bs 11 127) gp (i * 8 + 4) [.bool ex.b.n, .slice ex.b.p ex.b.l ex.b.c, .bool ex.b.m, .slice ex.b.p2 ex.b.l2 ex.b.c2] (fun x hx => Fr.range hx (show World.rangeAt w184 gp (i * 8 + 4) [.bool ex.b.n, .slice ex.b.p ex.b.l ex.b.c, .bool ex.b.m, .slice ex.b.p2 ex.b.l2 ex.b.c2] from (range_part (H186.out.elem (f := SpE.cells) (i := 0) (by rfl) SpE.len HEex.out) 4 4)) (H186.out.offRow (i := 0) (j := 2) (by rfl) (by rfl) (by decide) (by rfl))) Tryz.underlying32 (Fr.of_ext zb) ?_
    refine zx 7 (bs 11 255) (.agg #[.bool rf.n, .slice rf.p rf.l rf.c, .bool rf.m, .slice rf.p2 rf.l2 rf.c2, .bool ex.b.n, .slice ex.b.p ex.b.l ex.b.c, .bool ex.b.m, .slice ex.b.p2 ex.b.l2 ex.b.c2]) (Fr.of_ext zb) ?_
    refine mU 8 (bs 11 511) (v := .slice (some ⟨w184.drew.heap.size, 0, none⟩) 1 1) (w' := (w184.drew.alloc (.cells ([.bool rf.n, .slice rf.p rf.l rf.c, .bool rf.m, .slice rf.p2 rf.l2 rf.c2, .bool ex.b.n, .slice ex.b.p ex.b.l ex.b.c, .bool ex.b.m, .slice ex.b.p2 ex.b.l2 ex.b.c2] : List Value).toArray 34))) ((Fr.of_ext zb).trans (Fr.of_ext ((Ext.refl w184.drew).alloc _))) ?_
    try simp only [Act.put, zA, zB, zC]
    refine md_app (j := 9) (listed' := (bs 11 1023)) (by rfl) (by kernel_rfl) (by rfl) _ _ _ (by rfl) elSpan (by rfl) H286.out (ix := 2) (by rfl) 1 1 [.bool rf.n, .slice rf.p rf.l rf.c, .bool rf.m, .slice rf.p2 rf.l2 rf.c2, .bool ex.b.n, .slice ex.b.p ex.b.l ex.b.c, .bool ex.b.m, .slice ex.b.p2 ex.b.l2 ex.b.c2] (by rfl) rfl (by simp [Value.oneCell']) (by simp [NoUL]) (by decide) (by unfold maxLen; exact (by have ob3 := HM2.out.2; omega)) (by have ob3 := HM2.out.2; omega) (by kernel_rfl) ?_
    intro g295 cp296 w294 hf hh hd hg
    have Fg295 := zH hf
    clear hf
    rw [show List.flatMap SpE.cells es2 ++ [.bool rf.n, .slice rf.p rf.l rf.c, .bool rf.m, .slice rf.p2 rf.l2 rf.c2, .bool ex.b.n, .slice ex.b.p ex.b.l ex.b.c, .bool ex.b.m, .slice ex.b.p2 ex.b.l2 ex.b.c2] = List.flatMap SpE.cells (es2 ++ [(⟨rf, ex.b, f, ex.q⟩ : SpE)]) from flat_snoc SpE.cells _ (⟨rf, ex.b, f, ex.q⟩ : SpE)] at hh
    have H297 := zH (show Hp w w294 [ro 34 8 (some ⟨gp, 0, none⟩) es146.length c146 SpE.cells es146, ro 34 8 A151 es151.length c151 SpE.cells es151, ro 34 8 (some ⟨g295, 0, none⟩) (m2 + 1) cp296 SpE.cells (es2 ++ [(⟨rf, ex.b, f, ex.q⟩ : SpE)]), .blk X172 32 (rc rf)] from hh)
    have D297 := zH (show Dig w184.drew w294 from hd)
    have S299 := zH (show Fr (fun kz => Value.ownBlock (.slice A2 m2 c2) = some kz) w184 w294 from Fr.trans_new ((Fr.of_ext zb).trans (Fr.of_ext ((Ext.refl _).alloc _))) hg (fun j hj => .inl hj))
    clear hh hd hg
    refine ⟨S299.out, ?_⟩
    try simp only [Act.put, zA, zB, zC]
    refine zx 10 (bs 11 2047) (.slice (some ⟨g295, 0, none⟩) (m2 + 1) cp296) S299.out ?_
    refine wpAnyH_done (by kernel_rfl) ?_ _
    have DD301 := zH ((D286.out.trans D297.out))
    have DD302 := zH ((((((((D152.out.trans D158.out).trans D166.out).trans D174.out).trans D178.out).trans D186.out).trans D286.out).trans D297.out))
    have DD303 := zH ((((((D166.out.trans D174.out).trans D178.out).trans D186.out).trans D286.out).trans D297.out))
    go_wp2_with fail
    go_roundg (es146.length - (i + 1))
    case measure => exact (by have ob3 := HM2.out.2; omega)
    case rel => exact ⟨i + 1, m2 + 1, es2 ++ [(⟨rf, ex.b, f, ex.q⟩ : SpE)], some ⟨g295, 0, none⟩, cp296, rfl, rfl, (by go_num), hlt, ⟨by rw [List.length_append, ← HM2.out.1]; rfl, by have := HM2.out.2; omega⟩, (by rw [List.map_append, HV2.out, subRow_succ HEex.out, List.append_assoc, ← HFV.out]; rfl), (fun g_ hg_ => (List.mem_append.1 hg_).elim (fun hg_ => (HOE2.out g_ hg_).dig DD301.out) (fun hg_ => by rw [List.mem_singleton.1 hg_]; exact ⟨(RF.out.dig DD301.out), (RBex.out.dig DD302.out), BF.out, BBex.out⟩)), H297.out.take 3, DD303.out⟩
  have HLT := zH c167
  clear c167
  have hlt := HLT.out
  have hki := HKI.out
  have hm := HM.out.2
  obtain rfl : i = es146.length := by omega
  have hge : ¬ (es146.length : Int) < (es146.length : Int) := by omega
  go_upto_region 14 with fail
  refine wp_region_lit ?_
  refine qV (.slice A1 m c1) ?_
  refine zc (rsorted_any L (.slice A1 m c1) (List.map SpE.vl es) _ (spans_of_in (H166.out.row (i := 2) (by rfl)) HM.out.1 (fun e_ he_ => ((fun e_ he_ => (HOE.out e_ he_)) e_ he_).i)) h1L (by omega) (by rw [List.length_map, ← HM.out.1]; omega)) ?_
  rintro e w305 ⟨v_, es306, rfl, hv1_, hv2_, hv3_, hx⟩
  have VL306 := zH hv2_
  have LN306 := zH hv3_
  have OK306 := zH hv1_.2
  obtain ⟨A306, c306, rfl, hA_⟩ := RowN.form hv1_.1
  have HA306 := zH hA_
  clear hv2_ hv3_ hA_
  have H307 := zH (show Hp w w305 [ro 34 8 A146 es146.length c146 SpE.cells es146, ro 34 8 A151 es151.length c151 SpE.cells es151, ro 34 8 A1 m c1 SpE.cells es, ro 34 8 A306 es306.length c306 SpE.cells es306] from H166.out.addRow hx hv1_.1)
  clear hv1_
  clear hx
  refine zn ?_
  refine zq (.slice A306 es306.length c306) ?_
  go_wp2_with fail
  go_ret
  first | exact ⟨_, es306, rfl, SpR.base ⟨H307.out.row (i := 3) (by rfl), OK306.out⟩ (Nat.le_refl _), (by rw [VL306.out, HV.out, subRow_all, VL146.out, VL151.out]; exact subV_eq (mergeV_law ps).1 (mergeV_law qs).1), (Nat.le_trans LN306.out (by rw [List.length_map, ← HM.out.1]; omega)), H307.out.ext⟩ | exact ⟨_, rfl, es306, SpR.base ⟨H307.out.row (i := 3) (by rfl), OK306.out⟩ (Nat.le_refl _), (by rw [VL306.out, HV.out, subRow_all, VL146.out, VL151.out]; exact subV_eq (mergeV_law ps).1 (mergeV_law qs).1), (Nat.le_trans LN306.out (by rw [List.length_map, ← HM.out.1]; omega)), H307.out.ext⟩
end Go.Proofs.YtaeeeailoiioaadGreat
