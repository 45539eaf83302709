/- Contracts that the claim stands on: XExm to XSmPoly. -/
import Derived.Deep.Upon
import Derived.Test.YtaeeeailoiioaabGreatM6
namespace Go.Proofs.YtaeeeailoiioaabGreat
open Go.RowKit
attribute [local go_sem ↓] Go.wp_at_zero Go.wp_at_succ run_max_ii run_min_ii
set_option maxRecDepth 20000 in
set_option maxHeartbeats 4000000 in
theorem example_any (w : World) : Calls Tryz.prog 8 #[] w fun e w' => e = .returned (.bool true) ∧ Ext w w' := by
 go_enter Tryz.func8, Tryz.ntmps8
 have H0 := zH (Hp.start w)
 go_upto_region 0 with fail
 refine wp_region_lit ?_
 refine qV (.bool false) ?_
 (try simp only [Act.put, List.setIfInBounds_toArray, List.set_cons_zero])
 go_upto_region 1 with fail
 refine wp_region_lit ?_
 refine qV (.agg #[.int .i64 0, .int .i64 0]) ?_
 refine zq (.agg #[.int .i64 4, .int .i64 0]) ?_
 refine qV (.agg #[.int .i64 4, .int .i64 4]) ?_
 refine zq (.agg #[.int .i64 0, .int .i64 4]) ?_
 refine mv_lit (T := 53) (zs := [.int .i64 0, .int .i64 0, .int .i64 4, .int .i64 0, .int .i64 4, .int .i64 4, .int .i64 0, .int .i64 4]) (n := 4) (by rfl) (by go_simp) H0.out (by simp [NoUL]) ?_
 intro X6 w7 hh hx hge
 have H8 := zH (show Hp w w7 [.blk X6 53 [.int .i64 0, .int .i64 0, .int .i64 4, .int .i64 0, .int .i64 4, .int .i64 4, .int .i64 0, .int .i64 4]] from hh)
 clear hh hx hge
 try simp only [Act.put, zA, zB, zC]
 refine mv_lit (T := 54) (zs := [.slice (some ⟨X6, 0, none⟩) 4 4]) (n := 1) (by rfl) (by go_simp) H8.out (by simp [NoUL]) ?_
 intro X10 w11 hh hx hge
 have H12 := zH (show Hp w w11 [.blk X6 53 [.int .i64 0, .int .i64 0, .int .i64 4, .int .i64 0, .int .i64 4, .int .i64 4, .int .i64 0, .int .i64 4], .blk X10 54 [.slice (some ⟨X6, 0, none⟩) 4 4]] from hh)
 clear hh hx hge
 try simp only [Act.put, zA, zB, zC]
 refine zq (.slice (some ⟨X10, 0, none⟩) 1 1) ?_
 go_upto_region 2 with fail
 refine wp_region_lit ?_
 refine qV (.slice (some ⟨X10, 0, none⟩) 1 1) ?_
 refine zc (q03From 1 _ (by omega) (by omega)) ?_
 rintro e w16 ⟨c_, rfl, hc_, hx⟩
 have H18 := zH (H12.out.step hx)
 obtain ⟨r17, rfl, hr_⟩ := hc_
 have R17 := zH hr_
 have B17 := zH (rl_i64 1 (by omega) (by omega))
 clear hr_
 clear hx
 refine zn ?_
 refine zc (spans_any 3 (.slice (some ⟨X10, 0, none⟩) 1 1) exR 1 r17 (((1) : Int) : Rat) _ (exRings (X1 := X6) (X2 := X10) H18.out (by rfl) (by rfl)) (RV.Is.isIn R17.out (Nat.le_trans B17.out (by decide))) (by decide) (by decide) (by decide) (by decide) (by decide)) ?_
 rintro e w20 ⟨v_, es21, rfl, hv1_, hv2_, hv3_, hx⟩
 have VL21 := zH hv2_
 have LN21 := zH hv3_
 have OK21 := zH hv1_.2
 obtain ⟨A21, c21, rfl, hA_⟩ := RowN.form hv1_.1
 have HA21 := zH hA_
 clear hv2_ hv3_ hA_
 have H22 := zH (show Hp w w20 [.blk X6 53 [.int .i64 0, .int .i64 0, .int .i64 4, .int .i64 0, .int .i64 4, .int .i64 4, .int .i64 0, .int .i64 4], .blk X10 54 [.slice (some ⟨X6, 0, none⟩) 4 4], ro 51 8 A21 es21.length c21 SpE.cells es21] from H18.out.addRow hx hv1_.1)
 clear hv1_
 clear hx
 refine zn ?_
 refine zq (.slice A21 es21.length c21) ?_
 go_upto_region 3 with fail
 refine wp_region_lit ?_
 refine qV (.slice (some ⟨X10, 0, none⟩) 1 1) ?_
 refine zc (q03From 1 _ (by omega) (by omega)) ?_
 rintro e w26 ⟨c_, rfl, hc_, hx⟩
 have H28 := zH (H22.out.step hx)
 have D28 := zH (Dig.of_ext hx)
 obtain ⟨r27, rfl, hr_⟩ := hc_
 have R27 := zH hr_
 have B27 := zH (rl_i64 1 (by omega) (by omega))
 clear hr_
 clear hx
 refine zn ?_
 refine zc (crossings_any 3 _ exR r27 (((1) : Int) : Rat) _ (exRings (X1 := X6) (X2 := X10) H28.out (by rfl) (by rfl)) (RV.Is.isIn R27.out (Nat.le_trans B27.out (by decide))) (by decide) (by decide) (by decide) (by decide)) ?_
 rintro e w30 ⟨A1, c1, A2, c2, n_, em, rfl, rfl, hr1_, hr2_, hok_, hcv_, hx⟩
 obtain ⟨ea, eb, rfl, hva_, hvb_⟩ := two_of_map (hcv_.trans ex_marks)
 have HVA := zH hva_
 have HVB := zH hvb_
 have HOKX := zH hok_
 clear hcv_ hva_ hvb_ hok_
 obtain ⟨g1, rfl⟩ : ∃ g, A1 = some ⟨g, 0, none⟩ := by obtain ⟨A_, c_, h1_, h2_⟩ := RowN.form hr1_; injection h1_ with h1_ _ _; rw [h1_]; exact h2_ (by simp)
 obtain ⟨g2, rfl⟩ : ∃ g, A2 = some ⟨g, 0, none⟩ := by obtain ⟨A_, c_, h1_, h2_⟩ := RowN.form hr2_; injection h1_ with h1_ _ _; rw [h1_]; exact h2_ (by simp)
 have H31 := zH (show Hp w w30 [.blk X6 53 [.int .i64 0, .int .i64 0, .int .i64 4, .int .i64 0, .int .i64 4, .int .i64 4, .int .i64 0, .int .i64 4], .blk X10 54 [.slice (some ⟨X6, 0, none⟩) 4 4], ro 51 8 A21 es21.length c21 SpE.cells es21, ro 27 4 (some ⟨g1, 0, none⟩) 2 c1 MkE.cx ([ea, eb]), ro 3 1 (some ⟨g2, 0, none⟩) 2 c2 MkE.cu ([ea, eb])] from H28.out.addRow2 hx hr1_ hr2_ (by decide))
 have D31 := zH (Dig.of_ext hx)
 clear hx hr1_ hr2_
 refine zn ?_
 refine qV (.tuple #[.slice (some ⟨g1, 0, none⟩) 2 c1, .slice (some ⟨g2, 0, none⟩) 2 c2]) ?_
 refine zq (.slice (some ⟨g1, 0, none⟩) 2 c1) ?_
 refine qV (.slice (some ⟨g2, 0, none⟩) 2 c2) ?_
 refine zq (.slice (some ⟨g1, 0, none⟩) 2 c1) ?_
 refine zq (.slice (some ⟨g2, 0, none⟩) 2 c2) ?_
 have HEA := zH (show [ea, eb][0]? = some ea from rfl)
 have HEB := zH (show [ea, eb][1]? = some eb from rfl)
 have hua := (HOKX.out ea (by simp)).2.2
 have hub := (HOKX.out eb (by simp)).2.2
 have hsum : ea.up = -1 ∧ eb.up = 1 := ⟨congrArg Prod.snd HVA.out, congrArg Prod.snd HVB.out⟩
 go_upto_region 4 with fail
 refine zy ?_
 have H38 := zH (H31.out.step (Ext.refl w30).drew)
 have D38 := zH (Dig.of_ext (w := w30) zb)
 refine zx 0 (bs 29 1) (.slice A21 es21.length c21) zb ?_
 refine mC 1 (bs 29 3) (q03From 0 _ (by have ob0 := hua.1; have ob1 := hua.2; have ob2 := hub.1; have ob3 := hub.2; have ob4 := hsum.1; have ob5 := hsum.2; omega) (by have ob0 := hua.1; have ob1 := hua.2; have ob2 := hub.1; have ob3 := hub.2; have ob4 := hsum.1; have ob5 := hsum.2; omega)) ?_
 rintro e w41 ⟨c_, rfl, hc_, hx⟩
 have H43 := zH (H38.out.step hx)
 have D43 := zH (show Dig w30.drew w41 from Dig.of_ext hx)
 have S45 := zH (show Ext w30 w41 from zb.trans hx)
 obtain ⟨r42, rfl, hr_⟩ := hc_
 have R42 := zH hr_
 have B42 := zH (rl_i64 0 (by have ob0 := hua.1; have ob1 := hua.2; have ob2 := hub.1; have ob3 := hub.2; have ob4 := hsum.1; have ob5 := hsum.2; omega) (by have ob0 := hua.1; have ob1 := hua.2; have ob2 := hub.1; have ob3 := hub.2; have ob4 := hsum.1; have ob5 := hsum.2; omega))
 clear hr_
 clear hx
 refine zm S45.out ?_
 refine mC 2 (bs 29 7) (q03From 4 _ (by have ob0 := hua.1; have ob1 := hua.2; have ob2 := hub.1; have ob3 := hub.2; have ob4 := hsum.1; have ob5 := hsum.2; omega) (by have ob0 := hua.1; have ob1 := hua.2; have ob2 := hub.1; have ob3 := hub.2; have ob4 := hsum.1; have ob5 := hsum.2; omega)) ?_
 rintro e w46 ⟨c_, rfl, hc_, hx⟩
 have H48 := zH (H43.out.step hx)
 have D48 := zH (Dig.of_ext hx)
 have S50 := zH (S45.out.trans hx)
 obtain ⟨r47, rfl, hr_⟩ := hc_
 have R47 := zH hr_
 have B47 := zH (rl_i64 4 (by have ob0 := hua.1; have ob1 := hua.2; have ob2 := hub.1; have ob3 := hub.2; have ob4 := hsum.1; have ob5 := hsum.2; omega) (by have ob0 := hua.1; have ob1 := hua.2; have ob2 := hub.1; have ob3 := hub.2; have ob4 := hsum.1; have ob5 := hsum.2; omega))
 clear hr_
 clear hx
 refine zm S50.out ?_
 refine zx 3 (bs 29 15) (.agg #[.bool r42.n, .slice r42.p r42.l r42.c, .bool r42.m, .slice r42.p2 r42.l2 r42.c2, .bool r47.n, .slice r47.p r47.l r47.c, .bool r47.m, .slice r47.p2 r47.l2 r47.c2]) S50.out ?_
 refine md_lit (T := 51) (zs := [.bool r42.n, .slice r42.p r42.l r42.c, .bool r42.m, .slice r42.p2 r42.l2 r42.c2, .bool r47.n, .slice r47.p r47.l r47.c, .bool r47.m, .slice r47.p2 r47.l2 r47.c2]) (n := 1) (i := 4) (listed' := (bs 29 31)) (by rfl) (by kernel_rfl) (by rfl) (by go_simp) (by kernel_rfl) H48.out (by simp [NoUL]) ?_
 intro X52 w53 hh hx hge
 have H54 := zH (show Hp w w53 [.blk X6 53 [.int .i64 0, .int .i64 0, .int .i64 4, .int .i64 0, .int .i64 4, .int .i64 4, .int .i64 0, .int .i64 4], .blk X10 54 [.slice (some ⟨X6, 0, none⟩) 4 4], ro 51 8 A21 es21.length c21 SpE.cells es21, ro 27 4 (some ⟨g1, 0, none⟩) 2 c1 MkE.cx ([ea, eb]), ro 3 1 (some ⟨g2, 0, none⟩) 2 c2 MkE.cu ([ea, eb]), .blk X52 51 [.bool r42.n, .slice r42.p r42.l r42.c, .bool r42.m, .slice r42.p2 r42.l2 r42.c2, .bool r47.n, .slice r47.p r47.l r47.c, .bool r47.m, .slice r47.p2 r47.l2 r47.c2]] from hh)
 have D54 := zH (Dig.of_ext hx)
 have S56 := zH (S50.out.trans hx)
 clear hh hx hge
 refine ⟨S56.out, ?_⟩
 try simp only [Act.put, zA, zB, zC]
 have DD59 := zH ((((((D28.out.trans D31.out).trans D38.out).trans D43.out).trans D48.out).trans D54.out))
 have DD60 := zH ((D48.out.trans D54.out))
 refine mC 5 (bs 29 63) (r18same_any 60000 (.slice A21 es21.length c21) (.slice (some ⟨X52, 0, none⟩) 1 1) _ _ es21 ([(⟨r42, r47, (((0) : Int) : Rat), (((4) : Int) : Rat)⟩ : SpE)]) _ (SpR.up (L := (3 + 8)) ⟨H54.out.row (i := 2) (by rfl), (fun e_ he_ => (OK21.out e_ he_).dig DD59.out)⟩ (by omega)) ⟨H54.out.litRow (i := 5) (n := 1) (by rfl) (by rfl) (by decide), (by simp only [List.forall_mem_cons, List.not_mem_nil, false_imp_iff, implies_true, and_true]; exact ⟨(R42.out.dig DD60.out), (R47.out.dig D54.out), (Nat.le_trans B42.out (by omega)), (Nat.le_trans B47.out (by omega))⟩)⟩ (by rw [VL21.out, ex_marks, ex_spans]; rfl) (by omega) (Nat.le_trans LN21.out (by decide))) ?_
 rintro e w58 ⟨rfl, hx⟩
 have H61 := zH (H54.out.step hx)
 have D61 := zH (Dig.of_ext hx)
 have S63 := zH (S56.out.trans hx)
 clear hx
 refine zm S63.out ?_
 refine zx 6 (bs 29 127) (.bool true) S63.out ?_
 refine zx 7 (bs 29 255) (.slice (some ⟨g1, 0, none⟩) 2 c1) S63.out ?_
 refine mC 8 (bs 29 511) (q03From 0 _ (by have ob0 := hua.1; have ob1 := hua.2; have ob2 := hub.1; have ob3 := hub.2; have ob4 := hsum.1; have ob5 := hsum.2; omega) (by have ob0 := hua.1; have ob1 := hua.2; have ob2 := hub.1; have ob3 := hub.2; have ob4 := hsum.1; have ob5 := hsum.2; omega)) ?_
 rintro e w66 ⟨c_, rfl, hc_, hx⟩
 have H68 := zH (H61.out.step hx)
 have D68 := zH (Dig.of_ext hx)
 have S70 := zH (S63.out.trans hx)
 obtain ⟨r67, rfl, hr_⟩ := hc_
 have R67 := zH hr_
 have B67 := zH (rl_i64 0 (by have ob0 := hua.1; have ob1 := hua.2; have ob2 := hub.1; have ob3 := hub.2; have ob4 := hsum.1; have ob5 := hsum.2; omega) (by have ob0 := hua.1; have ob1 := hua.2; have ob2 := hub.1; have ob3 := hub.2; have ob4 := hsum.1; have ob5 := hsum.2; omega))
 clear hr_
 clear hx
 refine zm S70.out ?_
 refine mC 9 (bs 29 1023) (q03From 4 _ (by have ob0 := hua.1; have ob1 := hua.2; have ob2 := hub.1; have ob3 := hub.2; have ob4 := hsum.1; have ob5 := hsum.2; omega) (by have ob0 := hua.1; have ob1 := hua.2; have ob2 := hub.1; have ob3 := hub.2; have ob4 := hsum.1; have ob5 := hsum.2; omega)) ?_
 rintro e w71 ⟨c_, rfl, hc_, hx⟩
 have H73 := zH (H68.out.step hx)
 have D73 := zH (Dig.of_ext hx)
 have S75 := zH (S70.out.trans hx)
 obtain ⟨r72, rfl, hr_⟩ := hc_
 have R72 := zH hr_
 have B72 := zH (rl_i64 4 (by have ob0 := hua.1; have ob1 := hua.2; have ob2 := hub.1; have ob3 := hub.2; have ob4 := hsum.1; have ob5 := hsum.2; omega) (by have ob0 := hua.1; have ob1 := hua.2; have ob2 := hub.1; have ob3 := hub.2; have ob4 := hsum.1; have ob5 := hsum.2; omega))
 clear hr_
 clear hx
 refine zm S75.out ?_
 refine md_lit (T := 27) (zs := [.bool r67.n, .slice r67.p r67.l r67.c, .bool r67.m, .slice r67.p2 r67.l2 r67.c2, .bool r72.n, .slice r72.p r72.l r72.c, .bool r72.m, .slice r72.p2 r72.l2 r72.c2]) (n := 2) (i := 10) (listed' := (bs 29 2047)) (by rfl) (by kernel_rfl) (by rfl) (by go_simp) (by kernel_rfl) H73.out (by simp [NoUL]) ?_
 intro X76 w77 hh hx hge
 have H78 := zH (show Hp w w77 [.blk X6 53 [.int .i64 0, .int .i64 0, .int .i64 4, .int .i64 0, .int .i64 4, .int .i64 4, .int .i64 0, .int .i64 4], .blk X10 54 [.slice (some ⟨X6, 0, none⟩) 4 4], ro 51 8 A21 es21.length c21 SpE.cells es21, ro 27 4 (some ⟨g1, 0, none⟩) 2 c1 MkE.cx ([ea, eb]), ro 3 1 (some ⟨g2, 0, none⟩) 2 c2 MkE.cu ([ea, eb]), .blk X52 51 [.bool r42.n, .slice r42.p r42.l r42.c, .bool r42.m, .slice r42.p2 r42.l2 r42.c2, .bool r47.n, .slice r47.p r47.l r47.c, .bool r47.m, .slice r47.p2 r47.l2 r47.c2], .blk X76 27 [.bool r67.n, .slice r67.p r67.l r67.c, .bool r67.m, .slice r67.p2 r67.l2 r67.c2, .bool r72.n, .slice r72.p r72.l r72.c, .bool r72.m, .slice r72.p2 r72.l2 r72.c2]] from hh)
 have D78 := zH (Dig.of_ext hx)
 have S80 := zH (S75.out.trans hx)
 clear hh hx hge
 refine ⟨S80.out, ?_⟩
 try simp only [Act.put, zA, zB, zC]
 have DD83 := zH ((((((((D38.out.trans D43.out).trans D48.out).trans D54.out).trans D61.out).trans D68.out).trans D73.out).trans D78.out))
 have DD84 := zH ((D73.out.trans D78.out))
 refine mC 11 (bs 29 4095) (sameAll_any 60000 (.slice (some ⟨g1, 0, none⟩) 2 c1) (.slice (some ⟨X76, 0, none⟩) 2 2) [(0 : Rat), (4 : Rat)] _ (by have hr_ : RowN w77 _ 27 4 (.slice (some ⟨g1, 0, none⟩) 2 c1) 2 (List.flatMap MkE.cx [ea, eb]) := H78.out.row (i := 3) (by rfl); have h := RsV.of_row (L := 60000) MkE.a MkE.q hr_ rfl (fun e_ he_ => by have h1 := ((HOKX.out e_ he_).dig DD83.out); exact ⟨h1.1, Nat.le_trans h1.2.1 (by decide)⟩); rwa [show List.map MkE.q [ea, eb] = [(0 : Rat), (4 : Rat)] from by have q1 : ea.q = 0 := congrArg Prod.fst HVA.out; have q2 : eb.q = 4 := congrArg Prod.fst HVB.out; simp [q1, q2]] at h) (by have hr_ : RowN w77 _ 27 4 (.slice (some ⟨X76, 0, none⟩) 2 2) 2 [.bool r67.n, .slice r67.p r67.l r67.c, .bool r67.m, .slice r67.p2 r67.l2 r67.c2, .bool r72.n, .slice r72.p r72.l r72.c, .bool r72.m, .slice r72.p2 r72.l2 r72.c2] := H78.out.litRow (i := 6) (by rfl) (by rfl) (by decide); have h := RsV.of_row (L := 60000) (es := [(⟨r67, 0, 0⟩ : MkE), ⟨r72, 4, 0⟩]) MkE.a MkE.q hr_ rfl (by simp only [List.forall_mem_cons, List.not_mem_nil, false_imp_iff, implies_true, and_true]; exact ⟨⟨(R67.out.dig DD84.out), (Nat.le_trans B67.out (by omega))⟩, (R72.out.dig D78.out), (Nat.le_trans B72.out (by omega))⟩); exact h) (by decide) (by decide)) ?_
 rintro e w82 ⟨rfl, hx⟩
 have H85 := zH (H78.out.step hx)
 have S87 := zH (S80.out.trans hx)
 clear hx
 refine zm S87.out ?_
 refine zx 12 (bs 29 8191) (.bool true) S87.out ?_
 refine zx 13 (bs 29 16383) (.bool true) S87.out ?_
 refine zx 14 (bs 29 32767) (.slice (some ⟨g2, 0, none⟩) 2 c2) S87.out ?_
 refine zx 15 (bs 29 65535) (.int .i64 2) S87.out ?_
 refine zu 16 (bs 29 131071) (v := .bool true) S87.out ?_ (hv := by intro w hSw; exact ezq (e := (dec_t (by have ob0 := hua.1; have ob1 := hua.2; have ob2 := hub.1; have ob3 := hub.2; have ob4 := hsum.1; have ob5 := hsum.2; omega))))
 refine zx 17 (bs 29 262143) (.bool true) S87.out ?_
 refine zx 18 (bs 29 524287) (.bool true) S87.out ?_
 refine zx 19 (bs 29 1048575) (.slice (some ⟨g2, 0, none⟩) 2 c2) S87.out ?_
 refine zu 20 (bs 29 2097151) (v := .pointer (some ⟨g2, 0 * 1, none⟩)) S87.out ?_ (hv := by intro w hSw; exact ezi (k := 0) Tryz.underlying42 (l := (by decide)) (f := (Nat.zero_add _).symm))
 refine zf 21 (bs 29 4194303) g2 (0 * 1) (.int .i64 ea.up) (H31.out.elem (f := MkE.cu) (i := 4) (by rfl) MkE.cu_len HEA.out) S87.out ?_
 refine zx 22 (bs 29 8388607) (.slice (some ⟨g2, 0, none⟩) 2 c2) S87.out ?_
 refine zu 23 (bs 29 16777215) (v := .pointer (some ⟨g2, 1 * 1, none⟩)) S87.out ?_ (hv := by intro w hSw; exact ezi (k := 1) Tryz.underlying42 (l := (by decide)) (f := (Nat.zero_add _).symm))
 refine zf 24 (bs 29 33554431) g2 (1 * 1) (.int .i64 eb.up) (H31.out.elem (f := MkE.cu) (i := 4) (by rfl) MkE.cu_len HEB.out) S87.out ?_
 refine zu 25 (bs 29 67108863) (v := .int .i64 (ea.up + eb.up)) S87.out ?_ (hv := by intro w hSw; exact ez1 (by have ob0 := hua.1; have ob1 := hua.2; have ob2 := hub.1; have ob3 := hub.2; have ob4 := hsum.1; have ob5 := hsum.2; omega))
 refine zu 26 (bs 29 134217727) (v := .bool true) S87.out ?_ (hv := by intro w hSw; exact ezq (e := (dec_t (by have ob0 := hua.1; have ob1 := hua.2; have ob2 := hub.1; have ob3 := hub.2; have ob4 := hsum.1; have ob5 := hsum.2; omega))))
 refine zx 27 (bs 29 268435455) (.bool true) S87.out ?_
 refine mX 28 (bs 29 536870911) (.bool true) S87.out ?_
 (try simp only [Act.put, List.setIfInBounds_toArray, List.set_cons_zero])
 refine wpAnyH_done (by kernel_rfl) ?_ _
 go_wp2_with fail
 go_ret
 exact ⟨rfl, H85.out.ext⟩

theorem q03FromInts (a b : Int) (w : World) (h1 : -9223372036854775808 ≤ a) (h2 : a ≤ 9223372036854775807) (h3 : -9223372036854775808 ≤ b) (h4 : b ≤ 9223372036854775807) (hb : b ≠ 0) :
    Calls Tryz.prog 75 #[.int .i64 a, .int .i64 b] w fun e w' => ∃ c, e = .returned (.tuple #[.agg c, .int .i64 0]) ∧ NIs w' c ((a : Rat) / (b : Rat)) ∧ Ext w w' := by
  refine (r3fromInts_any a b w h1 h2 h3 h4 hb).mono fun e w' h => ?_
  obtain ⟨c, rfl, h3, h4⟩ := RetRE.v h
  exact ⟨_, rfl, ⟨c, rfl, by rw [← Rat.divInt_eq_div]; exact h3⟩, h4⟩
theorem xat_other (ax ay bx bY : Int) (y : Rat) : (ax : Rat) + (((bx - ax : Int) : Rat) / ((bY - ay : Int) : Rat)) * (y - (ay : Rat)) = xatV ax ay bx bY y := by
  unfold xatV
  rw [Rat.div_def, Rat.div_def, show ((1 : Int) : Rat) = 1 from rfl]
  grind
theorem rl_quo {ax ay bx bY : Int} (ha : okPt ax ay = true) (hb : okPt bx bY = true) : Nm.rl (((bx - ax : Int) : Rat) / ((bY - ay : Int) : Rat)) ≤ 2 := by
  unfold okPt at ha hb
  simp only [Bool.and_eq_true, decide_eq_true_eq] at ha hb
  have q := Nm.rl_div ((bx - ax : Int) : Rat) ((bY - ay : Int) : Rat)
  have e3 := rlI (bY - ay) (by omega)
  have e4 := rlI (bx - ax) (by omega)
  omega
set_option maxRecDepth 20000 in
set_option maxHeartbeats 4000000 in
theorem rxat_any (L : Nat) (ax ay bx bY : Int) (ry : RV) (y : Rat) (w : World) (hy : ry.In L w y) (h1L : 1 ≤ L) (hL : L ≤ 2000) (ha : okPt ax ay = true) (hb : okPt bx bY = true) (hne : ay ≠ bY) (hlo : ((min ay bY : Int) : Rat) ≤ y) (hhi : y ≤ ((max ay bY : Int) : Rat)) :
  Calls Tryz.prog 45 #[.agg #[.int .i64 ax, .int .i64 ay], .agg #[.int .i64 bx, .int .i64 bY], .agg #[.bool ry.n, .slice ry.p ry.l ry.c, .bool ry.m, .slice ry.p2 ry.l2 ry.c2]] w fun e w' => ∃ r : RV, e = .returned (.tuple #[.agg #[.bool r.n, .slice r.p r.l r.c, .bool r.m, .slice r.p2 r.l2 r.c2], .bool true]) ∧ r.Is w' (xatV ax ay bx bY y) ∧ Ext w w' := by
 have HK := zH (show (-1048576 ≤ ax ∧ ax ≤ 1048576 ∧ -1048576 ≤ ay ∧ ay ≤ 1048576) ∧ (-1048576 ≤ bx ∧ bx ≤ 1048576 ∧ -1048576 ≤ bY ∧ bY ≤ 1048576) by have h1 := ha; have h2 := hb; unfold okPt at h1 h2; simp only [Bool.and_eq_true, decide_eq_true_eq] at h1 h2; omega)
 have RY := zH hy
 have HA := zH ha
 have HB := zH hb
 have HNE := zH hne
 have HLO := zH hlo
 have HHI := zH hhi
 clear hy ha hb hne hlo hhi
 go_enter Tryz.func45, Tryz.ntmps45
 have H0 := zH (Hp.start w)
 go_upto_region 0 with fail
 refine wp_region_lit ?_
 refine mv_alloc (T := 53) (zs := [.int .i64 ax, .int .i64 ay]) (by rfl) (by go_simp) H0.out (by simp [NoUL]) ?_
 intro X1 w2 hh hx hge
 have H3 := zH (show Hp w w2 [.blk X1 53 [.int .i64 ax, .int .i64 ay]] from hh)
 clear hh hx hge
 try simp only [Act.put, zA, zB, zC]
 refine mv_alloc (T := 53) (zs := [.int .i64 bx, .int .i64 bY]) (by rfl) (by go_simp) H3.out (by simp [NoUL]) ?_
 intro X6 w7 hh hx hge
 have H8 := zH (show Hp w w7 [.blk X1 53 [.int .i64 ax, .int .i64 ay], .blk X6 53 [.int .i64 bx, .int .i64 bY]] from hh)
 clear hh hx hge
 try simp only [Act.put, zA, zB, zC]
 refine mv_alloc (T := 27) (zs := [.bool ry.n, .slice ry.p ry.l ry.c, .bool ry.m, .slice ry.p2 ry.l2 ry.c2]) (by rfl) (by go_simp) H8.out (by simp [NoUL]) ?_
 intro X11 w12 hh hx hge
 have H13 := zH (show Hp w w12 [.blk X1 53 [.int .i64 ax, .int .i64 ay], .blk X6 53 [.int .i64 bx, .int .i64 bY], .blk X11 27 (rc ry)] from hh)
 clear hh hx hge
 try simp only [Act.put, zA, zB, zC]
 refine mv_alloc (T := 27) (zs := [.bool false, .slice none 0 0, .bool false, .slice none 0 0]) (by rfl) (by go_simp) H13.out (by simp [NoUL]) ?_
 intro X16 w17 hh hx hge
 have H18 := zH (show Hp w w17 [.blk X1 53 [.int .i64 ax, .int .i64 ay], .blk X6 53 [.int .i64 bx, .int .i64 bY], .blk X11 27 (rc ry), .blk X16 27 rz] from hh)
 clear hh hx hge
 try simp only [Act.put, zA, zB, zC]
 refine zq (.bool false) ?_
 go_upto_region 1 with fail
 refine zy ?_
 have H22 := zH (H18.out.step (Ext.refl w17).drew)
 refine zg 0 (bs 37 1) X1 (0) [.int .i64 ax, .int .i64 ay] (H18.out.range (i := 0) (by rfl) 0 2) Tryz.underlying53 zb ?_
 refine mC 1 (bs 37 3) (rvalid_any ax ay _) ?_
 rintro e w24 ⟨rfl, hx⟩
 have H25 := zH (H22.out.step hx)
 have S27 := zH (show Ext w17 w24 from zb.trans hx)
 clear hx
 refine ⟨.bool true, by rw [HA.out], S27.out, ?_⟩
 try simp only [Act.put, zA, zB, zC]
 refine zx 2 (bs 37 7) (.bool false) S27.out ?_
 refine mX 3 (bs 37 15) (.bool false) S27.out ?_
 refine zg 4 (bs 37 31) X6 (0) [.int .i64 bx, .int .i64 bY] (H18.out.range (i := 1) (by rfl) 0 2) Tryz.underlying53 S27.out ?_
 refine mC 5 (bs 37 63) (rvalid_any bx bY _) ?_
 rintro e w30 ⟨rfl, hx⟩
 have H31 := zH (H25.out.step hx)
 have S33 := zH (S27.out.trans hx)
 clear hx
 refine ⟨.bool true, by rw [HB.out], S33.out, ?_⟩
 try simp only [Act.put, zA, zB, zC]
 refine zx 6 (bs 37 127) (.bool false) S33.out ?_
 refine zx 7 (bs 37 255) (.bool false) S33.out ?_
 refine zx 8 (bs 37 511) (.bool false) S33.out ?_
 refine zx 9 (bs 37 1023) (.pointer (some ⟨X1, 1, none⟩)) S33.out ?_
 refine zf 10 (bs 37 2047) X1 1 (.int .i64 ay) (H18.out.range (i := 0) (by rfl) 1 1) S33.out ?_
 refine zx 11 (bs 37 4095) (.pointer (some ⟨X6, 1, none⟩)) S33.out ?_
 refine zf 12 (bs 37 8191) X6 1 (.int .i64 bY) (H18.out.range (i := 1) (by rfl) 1 1) S33.out ?_
 refine zu 13 (bs 37 16383) (v := .bool false) S33.out ?_ (hv := by intro w hSw; exact ezq (e := (dec_f HNE.out)))
 refine zx 14 (bs 37 32767) (.bool false) S33.out ?_
 refine mX 15 (bs 37 65535) (.bool false) S33.out ?_
 refine zg 16 (bs 37 131071) X11 (0) (rc ry) (H18.out.range (i := 2) (by rfl) 0 4) Tryz.underlying27 S33.out ?_
 refine zx 17 (bs 37 262143) (.pointer (some ⟨X1, 1, none⟩)) S33.out ?_
 refine zf 18 (bs 37 524287) X1 1 (.int .i64 ay) (H18.out.range (i := 0) (by rfl) 1 1) S33.out ?_
 refine zx 19 (bs 37 1048575) (.pointer (some ⟨X6, 1, none⟩)) S33.out ?_
 refine zf 20 (bs 37 2097151) X6 1 (.int .i64 bY) (H18.out.range (i := 1) (by rfl) 1 1) S33.out ?_
 refine zx 21 (bs 37 4194303) (.int .i64 (min ay bY)) S33.out ?_
 refine mC 22 (bs 37 8388607) (q03From (min ay bY) _ (by have ob0 := HK.out; have ob1 := HNE.out; omega) (by have ob0 := HK.out; have ob1 := HNE.out; omega)) ?_
 rintro e w45 ⟨c_, rfl, hc_, hx⟩
 have H47 := zH (H31.out.step hx)
 have S49 := zH (S33.out.trans hx)
 obtain ⟨r46, rfl, hr_⟩ := hc_
 have R46 := zH hr_
 have B46 := zH (rl_i64 (min ay bY) (by have ob0 := HK.out; have ob1 := HNE.out; omega) (by have ob0 := HK.out; have ob1 := HNE.out; omega))
 clear hr_
 clear hx
 refine zm S49.out ?_
 refine mC 23 (bs 37 16777215) (q03Cmp (L := 60000) (RV.In.nin (RV.In.mono (RY.out.dig H47.out.dig0) (by omega))) (RV.Is.nin R46.out (Nat.le_trans B46.out (by omega))) (by omega)) ?_
 rintro e w50 ⟨rfl, hx⟩
 have H51 := zH (H47.out.step hx)
 have S53 := zH (S49.out.trans hx)
 clear hx
 refine zm S53.out ?_
 refine zu 24 (bs 37 33554431) (v := .bool false) S53.out ?_ (hv := by intro w hSw; exact ezl (e := (dec_f (fun hh => (fun h_ => absurd h_ (Rat.not_lt.2 HLO.out)) (rcmp_lt.1 hh)))))
 refine zx 25 (bs 37 67108863) (.bool false) S53.out ?_
 refine mX 26 (bs 37 134217727) (.bool false) S53.out ?_
 refine zg 27 (bs 37 268435455) X11 (0) (rc ry) (H18.out.range (i := 2) (by rfl) 0 4) Tryz.underlying27 S53.out ?_
 refine zx 28 (bs 37 536870911) (.pointer (some ⟨X1, 1, none⟩)) S53.out ?_
 refine zf 29 (bs 37 1073741823) X1 1 (.int .i64 ay) (H18.out.range (i := 0) (by rfl) 1 1) S53.out ?_
 refine zx 30 (bs 37 2147483647) (.pointer (some ⟨X6, 1, none⟩)) S53.out ?_
 refine zf 31 (bs 37 4294967295) X6 1 (.int .i64 bY) (H18.out.range (i := 1) (by rfl) 1 1) S53.out ?_
 refine zx 32 (bs 37 8589934591) (.int .i64 (max ay bY)) S53.out ?_
 refine mC 33 (bs 37 17179869183) (q03From (max ay bY) _ (by have ob0 := HK.out; have ob1 := HNE.out; omega) (by have ob0 := HK.out; have ob1 := HNE.out; omega)) ?_
 rintro e w60 ⟨c_, rfl, hc_, hx⟩
 have H62 := zH (H51.out.step hx)
 have S64 := zH (S53.out.trans hx)
 obtain ⟨r61, rfl, hr_⟩ := hc_
 have R61 := zH hr_
 have B61 := zH (rl_i64 (max ay bY) (by have ob0 := HK.out; have ob1 := HNE.out; omega) (by have ob0 := HK.out; have ob1 := HNE.out; omega))
 clear hr_
 clear hx
 refine zm S64.out ?_
 refine mC 34 (bs 37 34359738367) (q03Cmp (L := 60000) (RV.In.nin (RV.In.mono (RY.out.dig H62.out.dig0) (by omega))) (RV.Is.nin R61.out (Nat.le_trans B61.out (by omega))) (by omega)) ?_
 rintro e w65 ⟨rfl, hx⟩
 have H66 := zH (H62.out.step hx)
 have S68 := zH (S64.out.trans hx)
 clear hx
 refine zm S68.out ?_
 refine zu 35 (bs 37 68719476735) (v := .bool false) S68.out ?_ (hv := by intro w hSw; exact ezg (e := (dec_f (fun hh => (fun h_ => absurd h_ (Rat.not_lt.2 HHI.out)) (rcmp_gt.1 hh)))))
 refine zx 36 (bs 37 137438953471) (.bool false) S68.out ?_
 refine wpAnyH_done (by kernel_rfl) ?_ _
 go_upto_region 3 with fail
 refine wp_region_lit ?_
 refine zq (.pointer (some ⟨X6, 0, none⟩)) ?_
 refine ze X6 0 (.int .i64 bx) (H66.out.range (i := 1) (by rfl) 0 1) ?_
 refine zq (.pointer (some ⟨X1, 0, none⟩)) ?_
 refine ze X1 0 (.int .i64 ax) (H66.out.range (i := 0) (by rfl) 0 1) ?_
 refine zp (w' := w65) (.int .i64 (bx - ax)) (by exact ez2 (by have ob0 := HK.out; have ob1 := HNE.out; omega)) ?_
 refine zq (.pointer (some ⟨X6, 1, none⟩)) ?_
 refine ze X6 1 (.int .i64 bY) (H66.out.range (i := 1) (by rfl) 1 1) ?_
 refine zq (.pointer (some ⟨X1, 1, none⟩)) ?_
 refine ze X1 1 (.int .i64 ay) (H66.out.range (i := 0) (by rfl) 1 1) ?_
 refine zp (w' := w65) (.int .i64 (bY - ay)) (by exact ez2 (by have ob0 := HK.out; have ob1 := HNE.out; omega)) ?_
 refine zc (q03FromInts (bx - ax) (bY - ay) _ (by have ob0 := HK.out; have ob1 := HNE.out; omega) (by have ob0 := HK.out; have ob1 := HNE.out; omega) (by have ob0 := HK.out; have ob1 := HNE.out; omega) (by have ob0 := HK.out; have ob1 := HNE.out; omega) (by have ob0 := HK.out; have ob1 := HNE.out; omega)) ?_
 rintro e w77 ⟨c_, rfl, hc_, hx⟩
 have H79 := zH (H66.out.step hx)
 obtain ⟨r78, rfl, hr_⟩ := hc_
 have R78 := zH hr_
 have B78 := zH (rl_quo HA.out HB.out)
 clear hr_
 clear hx
 refine zn ?_
 refine qV (.tuple #[.agg #[.bool r78.n, .slice r78.p r78.l r78.c, .bool r78.m, .slice r78.p2 r78.l2 r78.c2], .int .i64 0]) ?_
 refine zq (.agg #[.bool r78.n, .slice r78.p r78.l r78.c, .bool r78.m, .slice r78.p2 r78.l2 r78.c2]) ?_
 refine zq (.int .i64 0) ?_
 refine mv_alloc (T := 27) (zs := [.bool false, .slice none 0 0, .bool false, .slice none 0 0]) (by rfl) (by go_simp) H79.out (by simp [NoUL]) ?_
 intro X84 w85 hh hx hge
 have H86 := zH (show Hp w w85 [.blk X1 53 [.int .i64 ax, .int .i64 ay], .blk X6 53 [.int .i64 bx, .int .i64 bY], .blk X11 27 (rc ry), .blk X16 27 rz, .blk X84 27 rz] from hh)
 have D86 := zH (Dig.of_ext hx)
 clear hh hx hge
 try simp only [Act.put, zA, zB, zC]
 refine mv_st (by rfl) _ _ _ (by rfl) H86.out (ix := 4) (by rfl) 0 [.bool r78.n, .slice r78.p r78.l r78.c, .bool r78.m, .slice r78.p2 r78.l2 r78.c2] (by rfl) (by rfl) (by simp) (by kernel_rfl) (by simp [Value.oneCell']) (by simp [NoUL]) ?_
 intro w89 hh hd ho
 have H90 := zH (show Hp w w89 [.blk X1 53 [.int .i64 ax, .int .i64 ay], .blk X6 53 [.int .i64 bx, .int .i64 bY], .blk X11 27 (rc ry), .blk X16 27 rz, .blk X84 27 (rc r78)] from hh)
 have D90 := zH (hd)
 clear hh hd ho
 (try simp only [Act.put])
 refine zq (.int .i64 0) ?_
 go_upto_region 4 with fail
 refine wp_region_held_drew (S := fun x => Fr (fun kz => kz = X16) w89 x) (by kernel_rfl) (Fr.of_ext zb) (fun _ => ?_)
 have H93 := zH (H90.out.step (Ext.refl w89).drew)
 have D93 := zH (Dig.of_ext (w := w89) zb)
 refine zx 0 (bs 13 1) (.pointer (some ⟨X1, 0, none⟩)) (Fr.of_ext zb) ?_
 refine md_ld1 (g := X1) (o := 0) (v := .int .i64 ax) (i := 1) (listed' := (bs 13 3)) (by rfl) (by kernel_rfl) (by kernel_rfl) (by kernel_rfl) (by intro _ _ _ h; exact h) (by rfl) (fun x hx => Fr.cell hx (show World.cell? w89 ⟨X1, 0, none⟩ = some (.int .i64 ax) from cell_of_range (H90.out.range (i := 0) (by rfl) 0 1)) (H90.out.offBlk (i := 0) (j := 3) (by rfl) (by rfl) (by decide) (by rfl))) (by intro x hq; go_simp <;> with_reducible rfl) (Fr.of_ext zb) (by kernel_rfl) ?_
 refine mR 3 (bs 13 11) X84 (0) [.bool r78.n, .slice r78.p r78.l r78.c, .bool r78.m, .slice r78.p2 r78.l2 r78.c2] (fun x hx => Fr.range hx (show World.rangeAt w89 X84 (0) [.bool r78.n, .slice r78.p r78.l r78.c, .bool r78.m, .slice r78.p2 r78.l2 r78.c2] from (H90.out.range (i := 4) (by rfl) 0 4)) (H90.out.offBlk (i := 4) (j := 3) (by rfl) (by rfl) (by decide) (by rfl))) Tryz.underlying27 (Fr.of_ext zb) ?_
 refine zr 4 (bs 13 27) X11 (0) [.bool ry.n, .slice ry.p ry.l ry.c, .bool ry.m, .slice ry.p2 ry.l2 ry.c2] (fun x hx => Fr.range hx (show World.rangeAt w89 X11 (0) [.bool ry.n, .slice ry.p ry.l ry.c, .bool ry.m, .slice ry.p2 ry.l2 ry.c2] from (H90.out.range (i := 2) (by rfl) 0 4)) (H90.out.offBlk (i := 2) (j := 3) (by rfl) (by rfl) (by decide) (by rfl))) Tryz.underlying27 (Fr.of_ext zb) ?_
 refine zx 5 (bs 13 59) (.pointer (some ⟨X1, 1, none⟩)) (Fr.of_ext zb) ?_
 refine md_ld1 (g := X1) (o := 1) (v := .int .i64 ay) (i := 6) (listed' := (bs 13 123)) (by rfl) (by kernel_rfl) (by kernel_rfl) (by kernel_rfl) (by intro _ _ _ h; exact h) (by rfl) (fun x hx => Fr.cell hx (show World.cell? w89 ⟨X1, 1, none⟩ = some (.int .i64 ay) from cell_of_range (H90.out.range (i := 0) (by rfl) 1 1)) (H90.out.offBlk (i := 0) (j := 3) (by rfl) (by rfl) (by decide) (by rfl))) (by intro x hq; go_simp <;> with_reducible rfl) (Fr.of_ext zb) (by kernel_rfl) ?_
 try simp only [Act.put, zA, zB, zC]
 refine mC 2 (bs 13 127) (q03From ax _ (by have ob0 := HK.out; have ob1 := HNE.out; omega) (by have ob0 := HK.out; have ob1 := HNE.out; omega)) ?_
 rintro e w97 ⟨c_, rfl, hc_, hx⟩
 have H99 := zH (H93.out.step hx)
 have D99 := zH (show Dig w89.drew w97 from Dig.of_ext hx)
 have S102 := zH (show Fr (fun kz => kz = X16) w89 w97 from (Fr.of_ext zb).trans (Fr.of_ext hx))
 obtain ⟨r98, rfl, hr_⟩ := hc_
 have R98 := zH hr_
 have B98 := zH (rl_i64 ax (by have ob0 := HK.out; have ob1 := HNE.out; omega) (by have ob0 := HK.out; have ob1 := HNE.out; omega))
 clear hr_
 clear hx
 refine zm S102.out ?_
 refine mC 7 (bs 13 255) (q03From ay _ (by have ob0 := HK.out; have ob1 := HNE.out; omega) (by have ob0 := HK.out; have ob1 := HNE.out; omega)) ?_
 rintro e w103 ⟨c_, rfl, hc_, hx⟩
 have H105 := zH (H99.out.step hx)
 have D105 := zH (Dig.of_ext hx)
 have S108 := zH (show Fr (fun kz => kz = X16) w89 w103 from S102.out.trans (Fr.of_ext hx))
 obtain ⟨r104, rfl, hr_⟩ := hc_
 have R104 := zH hr_
 have B104 := zH (rl_i64 ay (by have ob0 := HK.out; have ob1 := HNE.out; omega) (by have ob0 := HK.out; have ob1 := HNE.out; omega))
 clear hr_
 clear hx
 refine zm S108.out ?_
 refine mC 8 (bs 13 511) (q03Sub (L := 60000) (RV.In.nin (RV.In.mono (RY.out.dig H105.out.dig0) (by omega))) (RV.Is.nin R104.out (Nat.le_trans B104.out (by omega))) (by omega)) ?_
 rintro e w109 ⟨c_, rfl, hc_, hx⟩
 have H111 := zH (H105.out.step hx)
 have D111 := zH (Dig.of_ext hx)
 have S114 := zH (show Fr (fun kz => kz = X16) w89 w109 from S108.out.trans (Fr.of_ext hx))
 obtain ⟨r110, rfl, hr_⟩ := hc_
 have R110 := zH hr_
 clear hr_
 have B110 := zH (show Nm.rl (y - (((ay) : Int) : Rat)) ≤ L + 2 + 1 from by have h1 := (show Nm.rl y ≤ L from by have h := (RY.out.dig H111.out.dig0).rl; omega); have h2 := B104.out; have h3 := Nm.rl_sub y (((ay) : Int) : Rat); omega)
 clear hx
 refine zm S114.out ?_
 have DD117 := zH ((((((D86.out.trans D90.out).trans D93.out).trans D99.out).trans D105.out).trans D111.out))
 refine mC 9 (bs 13 1023) (q03Mul (L := 60000) (RV.Is.nin (R78.out.dig DD117.out) (Nat.le_trans B78.out (by omega))) (RV.Is.nin R110.out (Nat.le_trans B110.out (by omega))) (by omega)) ?_
 rintro e w115 ⟨c_, rfl, hc_, hx⟩
 have H118 := zH (H111.out.step hx)
 have D118 := zH (Dig.of_ext hx)
 have S121 := zH (show Fr (fun kz => kz = X16) w89 w115 from S114.out.trans (Fr.of_ext hx))
 obtain ⟨r116, rfl, hr_⟩ := hc_
 have R116 := zH hr_
 clear hr_
 have B116 := zH (show Nm.rl ((((bx - ax : Int) : Rat) / ((bY - ay : Int) : Rat)) * (y - (((ay) : Int) : Rat))) ≤ 2 + (L + 2 + 1) from by have h1 := B78.out; have h2 := B110.out; have h3 := Nm.rl_mul (((bx - ax : Int) : Rat) / ((bY - ay : Int) : Rat)) (y - (((ay) : Int) : Rat)); omega)
 clear hx
 refine zm S121.out ?_
 have DD124 := zH (((D105.out.trans D111.out).trans D118.out))
 refine mC 10 (bs 13 2047) (q03Add (L := 60000) (RV.Is.nin (R98.out.dig DD124.out) (Nat.le_trans B98.out (by omega))) (RV.Is.nin R116.out (Nat.le_trans B116.out (by omega))) (by omega)) ?_
 rintro e w122 ⟨c_, rfl, hc_, hx⟩
 have H125 := zH (H118.out.step hx)
 have S128 := zH (show Fr (fun kz => kz = X16) w89 w122 from S121.out.trans (Fr.of_ext hx))
 obtain ⟨r123, rfl, hr_⟩ := hc_
 have R123 := zH hr_
 clear hr_
 clear hx
 refine zm S128.out ?_
 refine md_st (i := 11) (listed' := (bs 13 4095)) (by rfl) (by kernel_rfl) (by rfl) (by kernel_rfl) _ _ _ (by rfl) H125.out (ix := 3) (by rfl) 0 [.bool r123.n, .slice r123.p r123.l r123.c, .bool r123.m, .slice r123.p2 r123.l2 r123.c2] (by rfl) (by rfl) (by simp) (by kernel_rfl) (by simp [Value.oneCell']) (by simp [NoUL]) ?_
 intro w129 hh hd ho
 have H130 := zH (show Hp w w129 [.blk X1 53 [.int .i64 ax, .int .i64 ay], .blk X6 53 [.int .i64 bx, .int .i64 bY], .blk X11 27 (rc ry), .blk X16 27 (rc r123), .blk X84 27 (rc r78)] from hh)
 have D130 := zH (hd)
 have S132 := zH (show Fr (fun kz => kz = X16) w89 w129 from Fr.trans_new S128.out ho (fun j hj => .inl (by simpa using hj.symm)))
 clear hh hd ho
 refine ⟨S132.out, ?_⟩
 (try simp only [Act.put])
 refine zx 12 (bs 13 8191) (.bool true) S132.out ?_
 refine wpAnyH_done (by kernel_rfl) ?_ _
 go_wp2_with fail
 refine bodyPost_ret (v := .tuple #[.agg #[.bool r123.n, .slice r123.p r123.l r123.c, .bool r123.m, .slice r123.p2 r123.l2 r123.c2], .bool true]) ?_ rfl ⟨_, rfl, by rw [← xat_other]; exact (R123.out.dig D130.out), H130.out.ext⟩
 exact results_c1t1 rfl rfl ((H130.out.blk (i := 3) (by rfl)).loadVar rfl rfl (by rfl)) rfl
end Go.Proofs.YtaeeeailoiioaabGreat

namespace Go.Proofs.YtaeeeailoiioaabGreat
open Go.RowKit
attribute [local go_sem ↓] Go.wp_at_zero Go.wp_at_succ run_eql_point run_neq_point
set_option maxRecDepth 20000 in
set_option maxHeartbeats 4000000 in
theorem r16Valid_any (u : Value) (rs : List Ring) (w : World) (hu : RingsV w u rs) (hn : rs.length ≤ 100000) (hr : ∀ r, r ∈ rs → r.length ≤ 100000) :
    Calls Tryz.prog 42 #[u] w fun e w' => e = .returned (.bool (okR rs)) ∧ Ext w w' := by
  obtain ⟨A, cu, rfl, hA⟩ := hu
  have HA := zH hA
  have HR := zH hr
  clear hA hr
  go_enter Tryz.func42, Tryz.ntmps42
  go_wp2_with fail
  go_loopg [3, 4] rs.length (fun c n i wr => ∃ k m : Nat, k ≤ rs.length ∧ c = rs.length - k ∧ i = .int .i64 k ∧ n = .int .i64 m ∧ m = tot (rs.take k) ∧ m ≤ 4096 ∧ (∀ i r, i < k → rs[i]? = some r → okAll r = true) ∧ Ext w wr)
  case atStart => exact ⟨0, 0, Nat.zero_le _, rfl, rfl, rfl, rfl, Nat.zero_le _, fun i r h => absurd h (Nat.not_lt_zero _), Ext.refl _⟩
  case round =>
    obtain ⟨k, m, hk, rfl, rfl, rfl, hm, hm2, ho, hx⟩ := hrel
    have HO := zH ho
    have HX := zH hx
    have HM := zH hm
    clear ho hx hm
    by_cases hlt : k < rs.length
    · obtain ⟨r, hr⟩ : ∃ r, rs[k]? = some r := ⟨_, List.getElem?_eq_getElem hlt⟩
      obtain ⟨g, off, rfl, hp⟩ := HA.out (by omega)
      obtain ⟨B, cb, h1, h2⟩ := hp k r hr
      have c1 := HX.out.get h1
      have HC1 := zH c1
      have HP := zH (h2.ext HX.out)
      have HRL := zH (HR.out r (List.mem_of_getElem? hr))
      have HRK := zH hr
      have HTS := zH (tot_succ hr)
      have hlt2 : (k : Int) < (rs.length : Int) := by omega
      have HLT := zH hlt
      have hrl := HRL.out
      obtain ⟨m2, hm3⟩ : ∃ m2, m2 = m + r.length := ⟨_, rfl⟩
      have e1 : (m : Int) + (r.length : Int) = (m2 : Int) := by omega
      have wm : IntKind.i64.wrap (m2 : Int) = (m2 : Int) := by rw [IntKind.wrap_i64]; omega
      have ws : IntKind.i64.wrap (4096 - (m : Int)) = 4096 - (m : Int) := by rw [IntKind.wrap_i64]; omega
      have HM2 := zH (show m2 = tot (rs.take (k + 1)) by rw [HTS.out, ← HM.out]; exact hm3)
      have HM3 := zH hm3
      clear hp h1 h2 hr hlt
      by_cases hbig : 4096 < m2
      · have hbz : 4096 - (m : Int) < (r.length : Int) := by omega
        have HF := zH (okR_stop HRK.out (Or.inl (by rw [← HM2.out]; exact hbig)))
        clear hm3
        go_wp2_with fail
        go_ret
        exact ⟨by rw [HF.out]; rfl, HX.out⟩
      · have hbz : ¬ 4096 - (m : Int) < (r.length : Int) := by omega
        clear hm3
        go_wp2_with fail
        generalize wr = W0 at *
        go_loopg [5] r.length (fun c j wi => ∃ t : Nat, t ≤ r.length ∧ c = r.length - t ∧ j = .int .i64 t ∧ okAll (r.take t) = true ∧ Ext W0 wi)
        case atStart => exact ⟨0, Nat.zero_le _, rfl, rfl, rfl, Ext.refl _⟩
        case round =>
          obtain ⟨t, ht, rfl, rfl, hot, hxt⟩ := hrel
          have HOT := zH hot
          have HXT := zH hxt
          have c2 := HXT.out.get HC1.out
          clear hot hxt c1
          by_cases hlt3 : t < r.length
          · obtain ⟨A2, cap2, ev, hv⟩ := HP.out
            injection ev with ev1 ev2 ev3
            subst ev1 ev3
            clear ev2
            obtain ⟨g2, off2, rfl, hp2⟩ := hv (by rintro rfl; simp at hlt3)
            obtain ⟨d0, d1⟩ := (hp2.ext HXT.out) t hlt3
            have hgd : r.getD t (0, 0) = r[t] := by simp [List.getD, hlt3]
            rw [hgd] at d0 d1
            have HSU := zH (okAll_step r t hlt3 HOT.out)
            have HST := zH (okAll_stop r t hlt3)
            have hlt4 : (t : Int) < (r.length : Int) := by omega
            have HL3 := zH hlt3
            generalize r[t] = x at *
            clear hp2 hv hgd hlt3
            by_cases hok : okPt x.1 x.2 = true
            · have hb : (!okPt x.1 x.2) = false := by rw [hok]; rfl
              go_wp2_with (go_at_call 73; refine (rvalid_any _ _ _).mono ?_; rintro e w2 ⟨rfl, hx2⟩)
              go_roundg (r.length - (t + 1))
              case measure => have := HL3.out; omega
              case rel => exact ⟨t + 1, HL3.out, rfl, by go_num, HSU.out hok, HXT.out.trans hx2⟩
            · replace hok := eq_false_of_ne_true hok
              have hb : (!okPt x.1 x.2) = true := by rw [hok]; rfl
              have HF := zH (okR_stop HRK.out (Or.inr (HST.out hok)))
              go_wp2_with (go_at_call 73; refine (rvalid_any _ _ _).mono ?_; rintro e w2 ⟨rfl, hx2⟩)
              go_ret
              exact ⟨by rw [HF.out]; rfl, (HX.out.trans HXT.out).trans hx2⟩
          · have hge3 : ¬ (t : Int) < (r.length : Int) := by omega
            have HE := zH (okAll_end r t ht hlt3 HOT.out)
            go_wp2_with fail
            go_roundg (rs.length - (k + 1))
            case measure => have := HLT.out; omega
            case rel => exact ⟨k + 1, m2, HLT.out, rfl, by go_num, rfl, HM2.out, by omega, fun i r2 hi hr2 => by
              rcases Nat.lt_or_ge i k with h | h
              · exact HO.out i r2 h hr2
              · obtain rfl : i = k := by omega
                rw [HRK.out] at hr2
                injection hr2 with hr2
                rw [← hr2]; exact HE.out, HX.out.trans HXT.out⟩
    · obtain rfl : k = rs.length := by omega
      have HF := zH (okR_end (rs := rs) (by have h := HM.out; rw [List.take_of_length_le (Nat.le_refl _)] at h; omega) HO.out)
      have hge : ¬ (rs.length : Int) < (rs.length : Int) := by omega
      go_wp2_with fail
      go_ret
      exact ⟨by rw [HF.out]; rfl, HX.out⟩
end Go.Proofs.YtaeeeailoiioaabGreat

namespace Go.Proofs.YtaeeeailoiioaabGreat
open Go.RowKit
attribute [local go_sem ↓] Go.wp_at_zero Go.wp_at_succ run_max_ii run_min_ii
theorem ev_rem {P : Program} {ρ : Operand → Value} {o : Oper} {w : World} {A B E : Int} {t t' : TypeId} {x y : Operand} (ho : o.op = .binOp .rem t x y t') (hx : ρ x = .int .i64 A) (hy : ρ y = .int .i64 B) (hB : B ≠ 0) (hE : A.tmod B = E) (_h1 : -9223372036854775808 ≤ E) (_h2 : E ≤ 9223372036854775807) : (execOp ρ o).run P w = .ok (.value (.int .i64 E)) w := by
  unfold execOp
  simp only [ho, hx, hy]
  simp [go_sem, hB, hE]
theorem ev_neqpt {ρ : Operand → Value} {o : Oper} {w : World} {a b c d : Int} {bb : Bool} {t' : TypeId} {x y : Operand} (ho : o.op = .binOp .neq 53 x y t') (hx : ρ x = .agg #[.int .i64 a, .int .i64 b]) (hy : ρ y = .agg #[.int .i64 c, .int .i64 d]) (h : (!(a == c && b == d)) = bb) :
    (execOp ρ o).run Tryz.prog w = .ok (.value (.bool bb)) w := by
  subst h
  unfold execOp
  simp only [ho, hx, hy]
  simp [go_sem, run_neq_point]

def edC (e : Edge) : List Value := [.int .i64 e.1.1, .int .i64 e.1.2, .int .i64 e.2.1, .int .i64 e.2.2]
theorem edC_len (e : Edge) : (edC e).length = 4 := rfl
theorem range_one {w : World} {g o : Nat} {v : Value} (h : w.cell? ⟨g, o, none⟩ = some v) : w.rangeAt g o [v] := by
  intro j u hj
  match j, hj with
  | 0, hj => injection hj with hj; rw [← hj]; exact h
  | k + 1, hj => simp at hj
theorem range_pt {w : World} {g off i : Nat} {ps : List (Int × Int)} {a : Int × Int} (h : PtsAt w g off ps) (hi : ps[i]? = some a) : w.rangeAt g (off + i * 2) [.int .i64 a.1, .int .i64 a.2] := by
  have hl := (List.getElem?_eq_some_iff.1 hi).1
  have h1 := h i hl
  have e : ps.getD i (0, 0) = a := by rw [List.getD_eq_getElem?_getD, hi]; rfl
  rw [e] at h1
  intro j u hj
  match j, hj with
  | 0, hj => injection hj with hj; rw [← hj]; exact h1.1
  | 1, hj => injection hj with hj; rw [← hj]; exact h1.2
  | k + 2, hj => simp at hj
theorem edge_bound {rs : List Ring} {k n : Nat} {r : Ring} (hok : okR rs = true) (h : rs[k]? = some r) (hn : n ≤ r.length) : (edgesV (rs.take k) ++ ringEn r n).length ≤ 4096 :=
  Nat.le_trans (edges_pre h hn).length_le (Nat.le_trans (edgesV_len rs) (okR_tot hok))
def edgesOf (rs : List Ring) : List Edge := edgesV (if okR rs = true then rs else [])
theorem edgesOf_t {rs : List Ring} (h : okR rs = true) : edgesOf rs = edgesV rs := by unfold edgesOf; rw [if_pos h]
theorem edgesOf_f {rs : List Ring} (h : ¬ okR rs = true) : edgesOf rs = [] := by unfold edgesOf; rw [if_neg h]; rfl
theorem zo {P : Program} {l : List Oper} {Q : Exit → Act → World → Prop} {md : Region.Mode} {S : World → Prop} {oi : Oper} {fuel : Nat} {listed : Array Bool} {a : Act} {w : World} {v : Value} (i : Nat) (listed' : Array Bool) (hS : S w) (h : wpAnyH P md l.toArray Q S fuel listed' (a.put oi.dst v) w) (hi : l[i]? = some oi := by rfl) (hs : Region.noSelect l.toArray = true := by kernel_rfl) (hf : Region.free md l.toArray listed i = true := by kernel_rfl) (hr : (Region.ready md l.toArray listed).contains i = true := by kernel_rfl) (hv : ∀ w, S w → (execOp a.eval oi).run P w = .ok (.value v) w) (hQ : ∀ c a w, Q (.panic c) (a.put oi.dst v) w → Q (.panic c) a w := by intro _ _ _ h; exact h) (hw : Region.wanted oi (yielded l.toArray a.tmps) = true := by rfl) (hl : listed.setIfInBounds i true = listed' := by kernel_rfl) : wpAnyH P md l.toArray Q S (fuel + 1) listed a w := md_val hi hs hf hr hQ hw hv hS hl h
set_option maxRecDepth 20000 in
set_option maxHeartbeats 4000000 in
theorem redges_any (u : Value) (rs : List Ring) (w : World) (hu : RingsV w u rs) (hn : rs.length ≤ 100000) (hr : ∀ r, r ∈ rs → r.length ≤ 100000) :
  Calls Tryz.prog 43 #[u] w fun e w' => ∃ A n c, e = .returned (.slice A n c) ∧ n = (edgesOf rs).length ∧ RowN w' w.heap.size 71 4 (.slice A n c) n (List.flatMap edC (edgesOf rs)) ∧ Ext w w' := by
 have HU := zH hu
 have HN := zH hn
 have HR := zH hr
 obtain ⟨A, cu, rfl, hA⟩ := hu
 have HA := zH hA
 clear hA hr
 go_enter Tryz.func43, Tryz.ntmps43
 have H0 := zH (Hp.start w)
 by_cases c1 : okR rs = true
 ·have HV := zH c1
  clear c1
  go_upto_region 0 with fail
  refine wp_region_lit ?_
  refine zq (.slice none 0 0) ?_
  go_upto_region 1 with fail
  refine wp_region_lit ?_
  refine zq (.slice none 0 0) ?_
  have H4 := zH (show Hp w w [ro 71 4 none 0 0 edC ([])] from H0.out.addNil 71 4)
  go_upto_region 2 with fail
  refine wp_region_lit ?_
  refine qV (.slice A rs.length cu) ?_
  refine zc (r16Valid_any _ rs _ (HU.out.ext H4.out.ext) HN.out HR.out) ?_
  rintro e w6 ⟨rfl, hx⟩
  have H7 := zH (H4.out.step hx)
  clear hx
  refine ⟨.bool true, by rw [HV.out], ?_⟩
  try simp only [Act.put, zA, zB, zC]
  refine zq (.bool false) ?_
  go_wp2_with fail
  go_loopg [3, 4] (rs.length) (fun cq v10 v11 wr => ∃ (i : Nat) (m : Nat) (es : List Edge) (A1 : Option Addr) (c1 : Nat), cq = rs.length - i ∧ v10 = .slice A1 m c1 ∧ v11 = .int .i64 (i : Int) ∧ (i ≤ rs.length) ∧ (m = es.length) ∧ (es = edgesV (rs.take i)) ∧ Hp w wr [.row 71 4 (.slice A1 m c1) (m) (List.flatMap edC es)] ∧ Dig w6 wr)
  case atStart => exact ⟨0, 0, [], none, 0, rfl, rfl, rfl, Nat.zero_le _, rfl, rfl, H7.out, Dig.refl _⟩
  case round =>
   obtain ⟨i, m, es, A1, c1, rfl, rfl, rfl, q_HKI, q_HM, q_HES, hh_, hd_⟩ := hrel
   generalize wr = w12 at *
   have HKI := zH q_HKI
   clear q_HKI
   have HM := zH q_HM
   clear q_HM
   have HES := zH q_HES
   clear q_HES
   have H14 := zH hh_
   have D14 := zH hd_
   clear hh_ hd_ H7
   by_cases c15 : i < rs.length
   ·have HLT := zH c15
    clear c15
    have hlt := HLT.out
    have hlt2 : (i : Int) < (rs.length : Int) := by omega
    obtain ⟨r, hri_⟩ : ∃ r, rs[i]? = some r := ⟨_, List.getElem?_eq_getElem hlt⟩
    have HRI := zH hri_
    have hrl := HR.out r (List.mem_of_getElem? hri_)
    obtain ⟨g, off, rfl, hp_⟩ := HA.out (by omega)
    obtain ⟨B, cb, h1_, A2_, cb2_, hv_, h2_⟩ := hp_ i r hri_
    injection hv_ with e1_ e2_ e3_
    subst e1_
    have HRC := zH h1_
    have HPT := zH h2_
    clear hri_ hp_ h1_ h2_ e2_ e3_
    go_upto_region 7 with fail
    refine wp_region_lit ?_
    refine zq (.int .i64 0) ?_
    go_wp2_with fail
    go_loopg [3, 5] (r.length) (fun cq v17 v18 wr => ∃ (k : Nat) (m2 : Nat) (es2 : List Edge) (A2 : Option Addr) (c2 : Nat), cq = r.length - k ∧ v17 = .slice A2 m2 c2 ∧ v18 = .int .i64 (k : Int) ∧ (k ≤ r.length) ∧ (m2 = es2.length) ∧ (es2 = edgesV (rs.take i) ++ ringEn r k) ∧ Hp w wr [.row 71 4 (.slice A2 m2 c2) (m2) (List.flatMap edC es2)] ∧ Dig w12 wr)
    case atStart => exact ⟨0, m, es, A1, c1, rfl, rfl, rfl, Nat.zero_le _, HM.out, (by rw [HES.out]; simp [ringEn]), H14.out, Dig.refl _⟩
    case round =>
     obtain ⟨k, m2, es2, A2, c2, rfl, rfl, rfl, q_HKU, q_HM2, q_HES2, hh_, hd_⟩ := hrel
     generalize wr = w19 at *
     have HKU := zH q_HKU
     clear q_HKU
     have HM2 := zH q_HM2
     clear q_HM2
     have HES2 := zH q_HES2
     clear q_HES2
     have H21 := zH hh_
     have D21 := zH hd_
     clear hh_ hd_ H14
     by_cases c22 : k < r.length
     ·have HLU := zH c22
      clear c22
      have hlu := HLU.out
      have hr0 : r ≠ [] := by intro h_; rw [h_] at hlu; simp at hlu
      obtain ⟨gr, ofr, rfl, hpa_⟩ := HPT.out hr0
      have HPA := zH hpa_
      obtain ⟨⟨a0, a1⟩, ha_⟩ : ∃ a, r[k]? = some a := ⟨_, List.getElem?_eq_getElem hlu⟩
      have hmod : (k + 1) % r.length < r.length := Nat.mod_lt _ (by omega)
      obtain ⟨⟨b0, b1⟩, hb_⟩ : ∃ b, r[(k + 1) % r.length]? = some b := ⟨_, List.getElem?_eq_getElem hmod⟩
      have HED := zH (edgeAt_some ha_ hb_)
      have HPK := zH (range_pt hpa_ ha_)
      have HPJ := zH (range_pt hpa_ hb_)
      have HREM := zH (show (((k + 1 : Nat) : Int)).tmod (r.length : Int) = (((k + 1) % r.length : Nat) : Int) by rw [Int.tmod_eq_emod_of_nonneg (by omega)]; simp)
      have HLE := zH (show m2 ≤ 4096 by rw [HM2.out, HES2.out]; exact edge_bound HV.out HRI.out (Nat.le_of_lt hlu))
      clear ha_ hb_ hpa_ hr0
      dsimp only at HPK HPJ
      generalize hj_ : (k + 1) % r.length = j at *
      clear hj_
      go_upto_region 8 with fail
      refine wp_region_lit ?_
      refine qV (.int .i64 (k : Int)) ?_
      refine zq (.slice (some ⟨g, off, none⟩) rs.length cu) ?_
      refine zq (.int .i64 (i : Int)) ?_
      refine zp (w' := w19) (.pointer (some ⟨g, off + i, none⟩)) (by exact ezi (k := i) Tryz.underlying39 (l := hlt) (f := (show off + i = off + i * 1 by omega))) ?_
      refine ze g (off + i) (.slice (some ⟨gr, ofr, none⟩) r.length cb) (range_one (H21.out.ext.get HRC.out)) ?_
      refine zq (.int .i64 ((r.length : Nat) : Int)) ?_
      refine zp (w' := w19) (.bool true) (by exact ezl (e := (dec_t (by have ob5 := HLE.out; omega)))) ?_
      go_upto_region 10 with fail
      refine wp_region_lit ?_
      refine qV (.slice (some ⟨g, off, none⟩) rs.length cu) ?_
      refine zq (.int .i64 (i : Int)) ?_
      refine zp (w' := w19) (.pointer (some ⟨g, off + i, none⟩)) (by exact ezi (k := i) Tryz.underlying39 (l := hlt) (f := (show off + i = off + i * 1 by omega))) ?_
      refine ze g (off + i) (.slice (some ⟨gr, ofr, none⟩) r.length cb) (range_one (H21.out.ext.get HRC.out)) ?_
      refine zq (.int .i64 (k : Int)) ?_
      refine zp (w' := w19) (.pointer (some ⟨gr, ofr + k * 2, none⟩)) (by exact ezi (k := k) Tryz.underlying54 (l := hlu) (f := rfl)) ?_
      refine zd gr (ofr + k * 2) [.int .i64 a0, .int .i64 a1] (range_ext HPK.out H21.out.ext) Tryz.underlying53 ?_
      refine mv_alloc (T := 53) (zs := [.int .i64 0, .int .i64 0]) (by rfl) (by go_simp) H21.out (by simp [NoUL]) ?_
      intro X34 w35 hh hx hge
      have H36 := zH (show Hp w w35 [ro 71 4 A2 m2 c2 edC es2, .blk X34 53 [.int .i64 0, .int .i64 0]] from hh)
      have D36 := zH (Dig.of_ext hx)
      clear hh hx hge
      try simp only [Act.put, zA, zB, zC]
      refine mv_st (by rfl) _ _ _ (by rfl) H36.out (ix := 1) (by rfl) 0 [.int .i64 a0, .int .i64 a1] (by rfl) (by rfl) (by simp) (by kernel_rfl) (by simp [Value.oneCell']) (by simp [NoUL]) ?_
      intro w39 hh hd ho
      have H40 := zH (show Hp w w39 [ro 71 4 A2 m2 c2 edC es2, .blk X34 53 [.int .i64 a0, .int .i64 a1]] from hh)
      have D40 := zH (hd)
      clear hh hd ho
      (try simp only [Act.put])
      go_upto_region 11 with fail
      refine zy ?_
      have H42 := zH (H40.out.step (Ext.refl w39).drew)
      have D42 := zH (Dig.of_ext (w := w39) zb)
      refine zx 0 (bs 16 1) (.slice (some ⟨g, off, none⟩) rs.length cu) zb ?_
      refine zx 1 (bs 16 3) (.int .i64 (i : Int)) zb ?_
      refine zu 2 (bs 16 7) (v := .pointer (some ⟨g, off + i, none⟩)) zb ?_ (hv := by intro w hSw; exact ezi (k := i) Tryz.underlying39 (l := hlt) (f := (show off + i = off + i * 1 by omega)))
      refine zf 3 (bs 16 15) g (off + i) (.slice (some ⟨gr, ofr, none⟩) r.length cb) (range_one (H40.out.ext.get HRC.out)) zb ?_
      refine zx 4 (bs 16 31) (.int .i64 (k : Int)) zb ?_
      refine zu 5 (bs 16 63) (v := .int .i64 ((k + 1 : Nat) : Int)) zb ?_ (hv := by intro w hSw; exact ez1 (by have ob5 := HLE.out; omega))
      refine zx 6 (bs 16 127) (.slice (some ⟨g, off, none⟩) rs.length cu) zb ?_
      refine zx 7 (bs 16 255) (.int .i64 (i : Int)) zb ?_
      refine zu 8 (bs 16 511) (v := .pointer (some ⟨g, off + i, none⟩)) zb ?_ (hv := by intro w hSw; exact ezi (k := i) Tryz.underlying39 (l := hlt) (f := (show off + i = off + i * 1 by omega)))
      refine zf 9 (bs 16 1023) g (off + i) (.slice (some ⟨gr, ofr, none⟩) r.length cb) (range_one (H40.out.ext.get HRC.out)) zb ?_
      refine zx 10 (bs 16 2047) (.int .i64 ((r.length : Nat) : Int)) zb ?_
      refine zu 11 (bs 16 4095) (v := .int .i64 (j : Int)) zb ?_ (hv := by intro w hSw; exact ev_rem (by rfl) (by rfl) (by rfl) (by omega) HREM.out (by omega) (by omega))
      refine zo 12 (bs 16 8191) (v := .pointer (some ⟨gr, ofr + j * 2, none⟩)) zb ?_ (hv := by intro w hSw; exact ezi (k := j) Tryz.underlying54 (l := hmod) (f := rfl))
      refine zg 13 (bs 16 16383) gr (ofr + j * 2) [.int .i64 b0, .int .i64 b1] (range_ext HPJ.out H40.out.ext) Tryz.underlying53 zb ?_
      refine md_alloc (T := 53) (zs := [.int .i64 0, .int .i64 0]) (i := 14) (listed' := (bs 16 32767)) (by rfl) (by kernel_rfl) (by rfl) (by go_simp) (by kernel_rfl) H42.out (by simp [NoUL]) ?_
      intro X55 w56 hh hx hge
      have H57 := zH (show Hp w w56 [ro 71 4 A2 m2 c2 edC es2, .blk X34 53 [.int .i64 a0, .int .i64 a1], .blk X55 53 [.int .i64 0, .int .i64 0]] from hh)
      have D57 := zH (show Dig w39.drew w56 from Dig.of_ext hx)
      have S60 := zH (show Ext w39 w56 from zb.trans hx)
      have G59 := zH (show w39.heap.size ≤ X55 from Nat.le_trans zb.size hge)
      clear hh hx hge
      refine ⟨S60.out, ?_⟩
      try simp only [Act.put, zA, zB, zC]
      refine md_st (i := 15) (listed' := (bs 16 65535)) (by rfl) (by kernel_rfl) (by rfl) (by kernel_rfl) _ _ _ (by rfl) H57.out (ix := 2) (by rfl) 0 [.int .i64 b0, .int .i64 b1] (by rfl) (by rfl) (by simp) (by kernel_rfl) (by simp [Value.oneCell']) (by simp [NoUL]) ?_
      intro w61 hh hd ho
      have H62 := zH (show Hp w w61 [ro 71 4 A2 m2 c2 edC es2, .blk X34 53 [.int .i64 a0, .int .i64 a1], .blk X55 53 [.int .i64 b0, .int .i64 b1]] from hh)
      have D62 := zH (hd)
      have S64 := zH (show Ext w39 w61 from Own.ext ho S60.out G59.out)
      clear hh hd ho
      refine ⟨S64.out, ?_⟩
      (try simp only [Act.put])
      refine wpAnyH_done (by kernel_rfl) ?_ _
      by_cases c65 : (a0, a1) = (b0, b1)
      ·have C := zH c65
       clear c65
       go_upto_region 12 with fail
       refine wp_region_lit ?_
       refine zd X34 (0) [.int .i64 a0, .int .i64 a1] (H62.out.range (i := 1) (by rfl) 0 2) Tryz.underlying53 ?_
       refine zd X55 (0) [.int .i64 b0, .int .i64 b1] (H62.out.range (i := 2) (by rfl) 0 2) Tryz.underlying53 ?_
       refine zp (w' := w61) (.bool false) (by exact ev_neqpt (by rfl) (by rfl) (by rfl) (by have h_ := C.out; injection h_ with h1_ h2_; simp [h1_, h2_])) ?_
       have DD67 := zH ((((((D21.out.trans D36.out).trans D40.out).trans D42.out).trans D57.out).trans D62.out))
       go_wp2_with fail
       go_roundg (r.length - (k + 1))
       case measure => exact (by have ob5 := HLE.out; omega)
       case rel => exact ⟨k + 1, m2, es2, A2, c2, rfl, rfl, (by go_num), hlu, HM2.out, (by rw [HES2.out, ringEn_succ_none (HED.out.trans (if_pos C.out))]), H62.out.take 1, DD67.out⟩
      have C := zH c65
      clear c65
      go_upto_region 12 with fail
      refine wp_region_lit ?_
      refine zd X34 (0) [.int .i64 a0, .int .i64 a1] (H62.out.range (i := 1) (by rfl) 0 2) Tryz.underlying53 ?_
      refine zd X55 (0) [.int .i64 b0, .int .i64 b1] (H62.out.range (i := 2) (by rfl) 0 2) Tryz.underlying53 ?_
      refine zp (w' := w61) (.bool true) (by exact ev_neqpt (by rfl) (by rfl) (by rfl) (by have h_ := C.out; simp only [Bool.not_eq_true', Bool.and_eq_false_iff, beq_eq_false_iff_ne]; exact (Classical.em (a0 = b0)).elim (fun q_ => .inr (fun q2_ => h_ (by rw [q_, q2_]))) .inl)) ?_
      go_upto_region 13 with fail
      refine wp_region_lit ?_
      refine qV (.slice A2 m2 c2) ?_
      refine zd X34 (0) [.int .i64 a0, .int .i64 a1] (H62.out.range (i := 1) (by rfl) 0 2) Tryz.underlying53 ?_
      refine zd X55 (0) [.int .i64 b0, .int .i64 b1] (H62.out.range (i := 2) (by rfl) 0 2) Tryz.underlying53 ?_
      refine zq (.agg #[.int .i64 a0, .int .i64 a1, .int .i64 b0, .int .i64 b1]) ?_
      refine zp (w' := (w61.alloc (.cells ([.int .i64 a0, .int .i64 a1, .int .i64 b0, .int .i64 b1] : List Value).toArray 71))) (.slice (some ⟨w61.heap.size, 0, none⟩) 1 1) (by go_simp) ?_
      refine mv_app (by rfl) _ _ _ (by rfl) elPP (by rfl) H62.out (ix := 0) (by rfl) 1 1 [.int .i64 a0, .int .i64 a1, .int .i64 b0, .int .i64 b1] (by rfl) rfl (by simp [Value.oneCell']) (by simp [NoUL]) (by decide) (by unfold maxLen; exact (by have ob5 := HLE.out; omega)) (by have ob5 := HLE.out; omega) ?_
      intro g72 cp73 w71 hf hh hd hg
      have Fg72 := zH hf
      clear hf
      rw [show List.flatMap edC es2 ++ [.int .i64 a0, .int .i64 a1, .int .i64 b0, .int .i64 b1] = List.flatMap edC (es2 ++ [((a0, a1), (b0, b1))]) from flat_snoc edC _ ((a0, a1), (b0, b1))] at hh
      have H74 := zH (show Hp w w71 [ro 71 4 (some ⟨g72, 0, none⟩) (m2 + 1) cp73 edC (es2 ++ [((a0, a1), (b0, b1))]), .blk X34 53 [.int .i64 a0, .int .i64 a1], .blk X55 53 [.int .i64 b0, .int .i64 b1]] from hh)
      have D74 := zH (hd)
      clear hh hd hg
      try simp only [Act.put, zA, zB, zC]
      refine zq (.slice (some ⟨g72, 0, none⟩) (m2 + 1) cp73) ?_
      have DD77 := zH (((((((D21.out.trans D36.out).trans D40.out).trans D42.out).trans D57.out).trans D62.out).trans D74.out))
      go_wp2_with fail
      go_roundg (r.length - (k + 1))
      case measure => exact (by have ob5 := HLE.out; omega)
      case rel => exact ⟨k + 1, m2 + 1, es2 ++ [((a0, a1), (b0, b1))], some ⟨g72, 0, none⟩, cp73, rfl, rfl, (by go_num), hlu, (by rw [List.length_append, HM2.out]; rfl), (by rw [HES2.out, ringEn_succ_some (HED.out.trans (if_neg C.out)), List.append_assoc]), H74.out.take 1, DD77.out⟩
     have HLU := zH c22
     clear c22
     have hlu := HLU.out
     have hku := HKU.out
     obtain rfl : k = r.length := by omega
     go_upto_region 8 with fail
     refine wp_region_lit ?_
     refine qV (.int .i64 ((r.length : Nat) : Int)) ?_
     refine zq (.slice (some ⟨g, off, none⟩) rs.length cu) ?_
     refine zq (.int .i64 (i : Int)) ?_
     refine zp (w' := w19) (.pointer (some ⟨g, off + i, none⟩)) (by exact ezi (k := i) Tryz.underlying39 (l := hlt) (f := (show off + i = off + i * 1 by omega))) ?_
     refine ze g (off + i) (.slice B r.length cb) (range_one (H21.out.ext.get HRC.out)) ?_
     refine zq (.int .i64 ((r.length : Nat) : Int)) ?_
     refine zp (w' := w19) (.bool false) (by exact ezl (e := (dec_f (Int.lt_irrefl _)))) ?_
     have DD84 := zH ((D14.out.trans D21.out))
     go_wp2_with fail
     go_roundg (rs.length - (i + 1))
     case measure => exact (by omega)
     case rel => exact ⟨i + 1, m2, es2, A2, c2, rfl, rfl, (by go_num), hlt, HM2.out, (by rw [HES2.out, edgesV_take HRI.out]), H21.out, DD84.out⟩
   have HLT := zH c15
   clear c15
   have hlt := HLT.out
   have hki := HKI.out
   obtain rfl : i = rs.length := by omega
   have hge : ¬ (rs.length : Int) < (rs.length : Int) := by omega
   have HEE := zH (show es = edgesOf rs by rw [HES.out, List.take_length, edgesOf_t HV.out])
   go_upto_region 14 with fail
   refine wp_region_lit ?_
   refine qV (.slice A1 m c1) ?_
   refine zq (.slice A1 m c1) ?_
   go_wp2_with fail
   go_ret
   exact ⟨A1, m, c1, rfl, by rw [HM.out, HEE.out], by rw [← HEE.out]; exact H14.out.row (i := 0) (by rfl), H14.out.ext⟩
 have HV := zH c1
 clear c1
 go_upto_region 0 with fail
 refine wp_region_lit ?_
 refine zq (.slice none 0 0) ?_
 go_upto_region 1 with fail
 refine wp_region_lit ?_
 refine zq (.slice none 0 0) ?_
 go_upto_region 2 with fail
 refine wp_region_lit ?_
 refine qV (.slice A rs.length cu) ?_
 refine zc (r16Valid_any _ rs _ (HU.out.ext H0.out.ext) HN.out HR.out) ?_
 rintro e w90 ⟨rfl, hx⟩
 have H91 := zH (H0.out.step hx)
 clear hx
 refine ⟨.bool false, by rw [Bool.eq_false_iff.2 HV.out], ?_⟩
 try simp only [Act.put, zA, zB, zC]
 refine zq (.bool true) ?_
 go_upto_region 3 with fail
 refine wp_region_lit ?_
 refine qV (.slice none 0 0) ?_
 refine zq (.slice none 0 0) ?_
 go_wp2_with fail
 go_ret
 exact ⟨none, 0, 0, rfl, by rw [edgesOf_f HV.out]; rfl, by rw [edgesOf_f HV.out]; exact RowN.nil _ _ _ _, H91.out.ext⟩
end Go.Proofs.YtaeeeailoiioaabGreat

namespace Go.Proofs.YtaeeeailoiioaabGreat
open Go.RowKit Go.Deep

section
variable {P : Program} {w0 w : World} {m : List Ent} {ix : Nat} {a : Act} {Q : Exit → Act → World → Prop}
end

def SpE.OkI (L : Nat) (w : World) (e : SpE) : Prop := e.a.In L w e.p ∧ e.b.In L w e.q
theorem SpE.Ok.i {L : Nat} {w : World} {e : SpE} (h : e.Ok L w) : e.OkI L w := ⟨h.1.isIn h.2.2.1, h.2.1.isIn h.2.2.2⟩
theorem SpE.OkI.ext {L : Nat} {w w' : World} {e : SpE} (h : e.OkI L w) (x : Ext w w') : e.OkI L w' := ⟨h.1.ext x, h.2.ext x⟩
theorem choose_list {α : Type} [Inhabited α] (n : Nat) (p : Nat → α → Prop) (h : ∀ i, i < n → ∃ x, p i x) : ∃ l : List α, l.length = n ∧ ∀ i x, l[i]? = some x → p i x := by
 induction n with
 | zero => exact ⟨[], rfl, fun i x hx => by simp at hx⟩
 | succ n ih =>
  obtain ⟨l, h1, h2⟩ := ih (fun i hi => h i (by omega))
  obtain ⟨x, hx⟩ := h n (by omega)
  refine ⟨l ++ [x], by simp [h1], fun i y hy => ?_⟩
  by_cases hi : i < l.length
  ·rw [List.getElem?_append_left hi] at hy
   exact h2 i y hy
  rw [List.getElem?_append_right (by omega)] at hy
  have : i - l.length = 0 := by
   have := (List.getElem?_eq_some_iff.1 hy).1
   simp at this
   omega
  rw [this] at hy
  obtain rfl : x = y := by simpa using hy
  obtain rfl : i = n := by omega
  exact hx
instance : Inhabited SpE := ⟨⟨⟨false, none, 0, 0, false, none, 0, 0⟩, ⟨false, none, 0, 0, false, none, 0, 0⟩, 0, 0⟩⟩
theorem SpansV.list {L : Nat} {w : World} {v : Value} {ps : List (Rat × Rat)} (h : SpansV L w v ps) :
  ∃ (A : Option Addr) (cap : Nat) (es : List SpE), v = .slice A es.length cap ∧ es.map SpE.vl = ps ∧ (0 < es.length → ∃ ad, A = some ad ∧ ∀ j u, (es.flatMap SpE.cells)[j]? = some u → w.cell? (ad.add j) = some u) ∧ ∀ e, e ∈ es → e.OkI L w := by
 obtain ⟨A, cap, rfl, hA⟩ := h
 by_cases h0 : 0 < ps.length
 ·obtain ⟨g, off, rfl, hp⟩ := hA h0
  obtain ⟨es, hl, he⟩ := choose_list (α := SpE) ps.length (fun i e => ps[i]? = some e.vl ∧ w.rangeAt g (off + i * 8) e.cells ∧ e.OkI L w) (fun i hi => by
   obtain ⟨cs, h1, a, b, h2, h3, h4⟩ := hp i ps[i] (List.getElem?_eq_getElem hi)
   refine ⟨⟨a, b, ps[i].1, ps[i].2⟩, List.getElem?_eq_getElem hi, ?_, h3, h4⟩
   have e : cs = SpE.cells ⟨a, b, ps[i].1, ps[i].2⟩ := by
    have h5 := congrArg Array.toList h2
    simpa [SpE.cells] using h5
   rw [← e]
   exact h1)
  refine ⟨_, cap, es, by rw [hl], ?_, fun _ => ⟨_, rfl, fun j u hj => ?_⟩, fun e hm => ?_⟩
  ·refine List.ext_getElem? fun i => ?_
   rw [List.getElem?_map]
   by_cases hi : i < es.length
   ·rw [List.getElem?_eq_getElem hi]
    exact (he i _ (List.getElem?_eq_getElem hi)).1.symm
   rw [List.getElem?_eq_none (by omega), List.getElem?_eq_none (by omega)]; rfl
  ·have hj2 : j < es.length * 8 := by
    have := (List.getElem?_eq_some_iff.1 hj).1
    rwa [flat_len SpE.len] at this
   have hi : j / 8 < es.length := by omega
   have h1 := (he (j / 8) _ (List.getElem?_eq_getElem hi)).2.1
   have h2 : (SpE.cells es[j / 8])[j % 8]? = some u := by
    have hl8 : j % 8 < (SpE.cells es[j / 8]).length := by show _ < 8; omega
    have h6 := flat_get SpE.len es (j / 8) _ (List.getElem?_eq_getElem hi) (j % 8) _ (List.getElem?_eq_getElem hl8)
    rw [show j / 8 * 8 + j % 8 = j by omega, hj] at h6
    rw [List.getElem?_eq_getElem hl8]
    exact h6.symm
   have h3 := h1 (j % 8) u h2
   have e : (⟨g, off, none⟩ : Addr).add j = ⟨g, off + j / 8 * 8 + j % 8, none⟩ := by
    unfold Addr.add
    by_cases hz : j = 0
    ·subst hz; simp
    rw [if_neg hz]
    congr 1
    show off + j = _
    omega
   rw [e]
   exact h3
  obtain ⟨i, hi⟩ := List.mem_iff_getElem?.1 hm
  exact (he i e hi).2.2
 have h1 : ps = [] := List.eq_nil_of_length_eq_zero (by omega)
 subst h1
 exact ⟨A, cap, [], rfl, rfl, fun h2 => absurd h2 (by simp), fun e he => by simp at he⟩
section
variable {w0 w w' : World} {m : List Ent}
end
theorem RowN.cap {w : World} {base : Nat} {e : TypeId} {size : Nat} {A : Option Addr} {n c : Nat} {xs : List Value} (h : RowN w base e size (.slice A n c) n xs) : n ≤ c := by
  obtain ⟨_, ⟨hv, rfl⟩ | ⟨g, cap, rest, hv, _, _, h3, _⟩⟩ := h
  · exact Nat.zero_le _
  injection hv with e1 e2 e3
  omega
section
variable {P : Program} {w0 w : World} {m : List Ent} {ix : Nat} {a : Act} {Q : Exit → Act → World → Prop} {rest : List Oper} {op : Oper} {ops : Array Oper}
theorem mv_stElem {α : Type} {f : α → List Value} (hw : Region.wanted op (yielded ops a.tmps) = true) (ty : TypeId) (x y : Operand) (ho : op.op = .store ty x y) {g n cap size : Nat} {t : TypeId} {es : List α} (hH : Hp w0 w m) (hi : m[ix]? = some (.row t size (.slice (some ⟨g, 0, none⟩) n cap) n (es.flatMap f)))
  (hc : ∀ x, (f x).length = size) (k : Nat) (z : α) (hk : k < es.length) (vs : List Value) (hf : f z = vs) (o : Nat) (hko : o = k * size) (hx : a.eval x = .pointer (some ⟨g, o, none⟩)) (hy : a.eval y = .agg vs.toArray) (hz : (P.info? ty).map (·.size) = some vs.length) (h1 : ∀ v, v ∈ vs → v.oneCell' = true) (hn : NoUL vs)
  (h : ∀ w', Hp w0 w' (m.set ix (.row t size (.slice (some ⟨g, 0, none⟩) n cap) n ((es.set k z).flatMap f))) → Dig w w' → Own g w w' → wpList P ops Q rest (a.put op.dst undef) w') : wpList P ops Q (op :: rest) a w := by
 subst hf
 subst hko
 refine mv_stRow hw ty x y ho hH hi (k * size) (f z) hx hy ?_ hz h1 hn (fun w' h2 h3 h4 => h w' ?_ h3 h4)
 ·rw [flat_length hc, hc]
  calc k * size + size = (k + 1) * size := by rw [Nat.add_mul]; omega
   _ ≤ es.length * size := Nat.mul_le_mul_right _ hk
 rw [flat_set hc es k hk z] at h2
 exact h2
theorem mv_stElem1 {α : Type} {f : α → List Value} (hw : Region.wanted op (yielded ops a.tmps) = true) (ty : TypeId) (x y : Operand) (ho : op.op = .store ty x y) {g n cap : Nat} {t : TypeId} {es : List α} (hH : Hp w0 w m) (hi : m[ix]? = some (.row t 1 (.slice (some ⟨g, 0, none⟩) n cap) n (es.flatMap f)))
  (hc : ∀ x, (f x).length = 1) (k : Nat) (z : α) (hk : k < es.length) (v : Value) (hf : f z = [v]) (o : Nat) (hko : o = k * 1) (hx : a.eval x = .pointer (some ⟨g, o, none⟩)) (hy : a.eval y = v) (hz : (P.info? ty).map (·.size) = some 1) (hcc : v.cells = #[v]) (h1 : v.oneCell' = true) (hn : NoUL [v])
  (h : ∀ w', Hp w0 w' (m.set ix (.row t 1 (.slice (some ⟨g, 0, none⟩) n cap) n ((es.set k z).flatMap f))) → Dig w w' → Own g w w' → wpList P ops Q rest (a.put op.dst undef) w') : wpList P ops Q (op :: rest) a w := by
 subst hko
 refine mv_stRow1 hw ty x y ho hH hi (k * 1) v hx hy ?_ hz hcc h1 hn (fun w' h2 h3 h4 => h w' ?_ h3 h4)
 ·rw [flat_length hc]
  omega
 have h5 := flat_set hc es k hk z
 rw [hf] at h5
 rw [← h5]
 exact h2
end
end Go.Proofs.YtaeeeailoiioaabGreat

namespace Go.Proofs.YtaeeeailoiioaabGreat
open Go.RowKit
attribute [local go_sem ↓] Go.wp_at_zero Go.wp_at_succ run_max_ii run_min_ii
theorem wkK : Stb.Wk ltK := wkQ' fun e : MkE => e.vl
theorem srt_mk {es : List MkE} (h : Stb.Srt ltM (es.map MkE.vl)) : Stb.Srt ltK es := by
  unfold Stb.Srt at h ⊢
  rw [List.pairwise_map] at h
  exact h
theorem edgesOf_len (rs : List Ring) : (edgesOf rs).length ≤ 4096 := by
  unfold edgesOf
  refine Nat.le_trans (edgesV_len _) ?_
  split
  · rename_i h; exact okR_tot h
  decide
theorem edgesOf_ok (rs : List Ring) : ∀ e, e ∈ edgesOf rs → okE e := by
  unfold edgesOf
  split
  · rename_i h; exact edges_ok h
  intro e he; simp [edgesV] at he
theorem marksV_of (y : Rat) (rs : List Ring) : marksV y rs = Stb.stab ltM ((edgesOf rs).filterMap (crossV y)) := rfl
theorem crs_some {y : Rat} {l : List Edge} {i : Nat} {e : Edge} {z : QI} (h : l[i]? = some e) (hc : crossV y e = some z) : Stb.stab ltM ((l.take (i + 1)).filterMap (crossV y)) = Stb.ins ltM (Stb.stab ltM ((l.take i).filterMap (crossV y))) z := by
  rw [List.take_add_one, h, List.filterMap_append, show (some e).toList = [e] from rfl, List.filterMap_cons, hc, List.filterMap_nil, Stb.stab_snoc]
theorem crs_none {y : Rat} {l : List Edge} {i : Nat} {e : Edge} (h : l[i]? = some e) (hc : crossV y e = none) : Stb.stab ltM ((l.take (i + 1)).filterMap (crossV y)) = Stb.stab ltM ((l.take i).filterMap (crossV y)) := by
  rw [List.take_add_one, h, List.filterMap_append, show (some e).toList = [e] from rfl, List.filterMap_cons, hc, List.filterMap_nil, List.append_nil]
theorem ins_at {α : Type} {es : List α} {y : α} {q : Nat} (hq : q < es.length) : (es.take (q + 1) ++ y :: es.drop (q + 1))[q]? = some es[q] ∧ (es.take (q + 1) ++ y :: es.drop (q + 1))[q + 1]? = some y ∧
  ((es.take (q + 1) ++ y :: es.drop (q + 1)).set (q + 1) es[q]).set q y = es.take q ++ y :: es.drop q ∧ ∀ z, z ∈ es.drop q → z = es[q] ∨ z ∈ es.drop (q + 1) := by
 have g1 : (es.take (q + 1) ++ y :: es.drop (q + 1))[q]? = some es[q] := by
  rw [List.getElem?_append_left (by rw [List.length_take]; omega), List.getElem?_take, if_pos (by omega)]
  exact List.getElem?_eq_getElem hq
 have g2 : (es.take (q + 1) ++ y :: es.drop (q + 1))[q + 1]? = some y := by
  rw [List.getElem?_append_right (by rw [List.length_take]; omega), List.length_take, show q + 1 - min (q + 1) es.length = 0 by omega]
  rfl
 refine ⟨g1, g2, ?_, fun z hz => ?_⟩
 ·rw [← swp_eq g2 g1]
  have h := swps_left [] es [] y q hq
  simp only [List.nil_append, List.append_nil, List.length_nil, Nat.zero_add] at h
  exact h
 rw [List.drop_eq_getElem_cons hq] at hz
 exact List.mem_cons.1 hz
set_option maxRecDepth 20000 in
set_option maxHeartbeats 4000000 in
theorem rcrossings_any (L : Nat) (u : Value) (rs : List Ring) (ry : RV) (y : Rat) (w : World) (hu : RingsV w u rs) (hy : ry.In L w y) (h1L : 1 ≤ L) (hL : L ≤ 2000) (hn : rs.length ≤ 100000) (hr : ∀ r, r ∈ rs → r.length ≤ 100000) :
  Calls Tryz.prog 19 #[u, .agg #[.bool ry.n, .slice ry.p ry.l ry.c, .bool ry.m, .slice ry.p2 ry.l2 ry.c2]] w (CrossRet L rs y w) := by
 have HU := zH hu
 have HN := zH hn
 have HR := zH hr
 have RY := zH hy
 clear hu hn hr hy
 go_enter Tryz.func19, Tryz.ntmps19
 have H0 := zH (Hp.start w)
 go_upto_region 0 with fail
 refine wp_region_lit ?_
 refine mv_alloc (T := 27) (zs := [.bool ry.n, .slice ry.p ry.l ry.c, .bool ry.m, .slice ry.p2 ry.l2 ry.c2]) (by rfl) (by go_simp) H0.out (by simp [NoUL]) ?_
 intro X1 w2 hh hx hge
 have H3 := zH (show Hp w w2 [.blk X1 27 (rc ry)] from hh)
 clear hh hx hge
 try simp only [Act.put, zA, zB, zC]
 refine qV (.slice none 0 0) ?_
 refine zq (.slice none 0 0) ?_
 go_upto_region 1 with fail
 refine wp_region_lit ?_
 refine zp (w' := w2.alloc (.cells #[] 27)) (.slice (some ⟨w2.heap.size, 0, none⟩) 0 0) (by go_simp) ?_
 have hh := H3.out.addEmpty 27 4
 have hd := Dig.of_ext ((Ext.refl w2).alloc (.cells #[] 27))
 generalize w2.alloc (.cells #[] 27) = w8 at hh hd ⊢
 generalize w2.heap.size = X9 at hh ⊢
 have H10 := zH (show Hp w w8 [.blk X1 27 (rc ry), ro 27 4 (some ⟨X9, 0, none⟩) 0 0 MkE.cx ([])] from hh)
 clear hh hd
 refine zq (.slice (some ⟨X9, 0, none⟩) 0 0) ?_
 go_upto_region 2 with fail
 refine wp_region_lit ?_
 refine zp (w' := w8.alloc (.cells #[] 3)) (.slice (some ⟨w8.heap.size, 0, none⟩) 0 0) (by go_simp) ?_
 have hh := H10.out.addEmpty 3 1
 have hd := Dig.of_ext ((Ext.refl w8).alloc (.cells #[] 3))
 generalize w8.alloc (.cells #[] 3) = w13 at hh hd ⊢
 generalize w8.heap.size = X14 at hh ⊢
 have H15 := zH (show Hp w w13 [.blk X1 27 (rc ry), ro 27 4 (some ⟨X9, 0, none⟩) 0 0 MkE.cx ([]), ro 3 1 (some ⟨X14, 0, none⟩) 0 0 MkE.cu ([])] from hh)
 clear hh hd
 refine zq (.slice (some ⟨X14, 0, none⟩) 0 0) ?_
 by_cases c18 : okR rs = true
 ·have HV := zH c18
  clear c18
  go_upto_region 3 with fail
  refine wp_region_lit ?_
  refine qV (u) ?_
  refine zc (r16Valid_any _ rs _ (HU.out.ext H15.out.ext) HN.out HR.out) ?_
  rintro e w20 ⟨rfl, hx⟩
  have H21 := zH (H15.out.step hx)
  clear hx
  refine ⟨.bool true, by rw [HV.out], ?_⟩
  try simp only [Act.put, zA, zB, zC]
  refine zq (.bool false) ?_
  go_upto_region 5 with fail
  refine wp_region_lit ?_
  refine qV (u) ?_
  refine zc (redges_any u rs _ (HU.out.ext H21.out.ext) HN.out HR.out) ?_
  rintro e w25 ⟨Ae, nE_, ce, rfl, rfl, hrow_, hx⟩
  obtain ⟨Ae2_, ce2_, hv_, hA_⟩ := RowN.form hrow_
  obtain rfl : Ae = Ae2_ := by injection hv_
  have HAE := zH hA_
  clear hA_ hv_
  have H26 := zH (show Hp w w25 [.blk X1 27 (rc ry), ro 27 4 (some ⟨X9, 0, none⟩) 0 0 MkE.cx ([]), ro 3 1 (some ⟨X14, 0, none⟩) 0 0 MkE.cu ([]), ro 71 4 Ae ((edgesOf rs).length) ce edC (edgesOf rs)] from H21.out.addRow hx hrow_)
  clear hrow_
  clear hx
  refine zn ?_
  refine zq (.slice Ae ((edgesOf rs).length) ce) ?_
  have HEL := zH (edgesOf_len rs)
  go_upto_region 6 with fail
  refine wp_region_lit ?_
  refine zq (.int .i64 0) ?_
  go_wp2_with fail
  go_loopg [6, 7, 9] ((edgesOf rs).length) (fun cq v30 v31 v32 wr => ∃ (i : Nat) (m : Nat) (es : List MkE) (A1 : Option Addr) (c1 : Nat) (A2 : Option Addr) (c2 : Nat), cq = ((edgesOf rs).length) - i ∧ v30 = .slice A1 m c1 ∧ v31 = .slice A2 m c2 ∧ v32 = .int .i64 (i : Int) ∧ (i ≤ (edgesOf rs).length) ∧ (m = es.length ∧ m ≤ i) ∧ (es.map MkE.vl = Stb.stab ltM (((edgesOf rs).take i).filterMap (crossV y))) ∧ (∀ e, e ∈ es → e.Ok (L + 8) wr) ∧ Hp w wr [.blk X1 27 [.bool ry.n, .slice ry.p ry.l ry.c, .bool ry.m, .slice ry.p2 ry.l2 ry.c2], .row 27 4 (.slice A1 m c1) (m) (List.flatMap MkE.cx es), .row 3 1 (.slice A2 m c2) (m) (List.flatMap MkE.cu es), .row 71 4 (.slice Ae ((edgesOf rs).length) ce) ((edgesOf rs).length) (List.flatMap edC (edgesOf rs))] ∧ Dig w25 wr)
  case atStart => exact ⟨0, 0, [], some ⟨X9, 0, none⟩, 0, some ⟨X14, 0, none⟩, 0, rfl, rfl, rfl, rfl, Nat.zero_le _, ⟨rfl, Nat.le_refl _⟩, rfl, (by simp), H26.out, Dig.refl _⟩
  case round =>
   obtain ⟨i, m, es, A1, c1, A2, c2, rfl, rfl, rfl, rfl, q_HKI, q_HM, q_HVL, q_HOE, hh_, hd_⟩ := hrel
   generalize wr = w33 at *
   have HKI := zH q_HKI
   clear q_HKI
   have HM := zH q_HM
   clear q_HM
   have HVL := zH q_HVL
   clear q_HVL
   have HOE := zH q_HOE
   clear q_HOE
   have H35 := zH hh_
   have D35 := zH hd_
   clear hh_ hd_ H26
   by_cases c36 : i < (edgesOf rs).length
   ·have HLT := zH c36
    clear c36
    have hlt := HLT.out
    have hlt2 : (i : Int) < ((edgesOf rs).length : Int) := by omega
    have hi4 : i < 4096 := by have h_ := HEL.out; omega
    obtain ⟨ge, rfl⟩ := HAE.out (by omega)
    obtain ⟨⟨⟨ax, ay⟩, ⟨bx, bY⟩⟩, he_⟩ : ∃ e, (edgesOf rs)[i]? = some e := ⟨_, List.getElem?_eq_getElem hlt⟩
    have HE := zH he_
    have HKE := zH (edgesOf_ok rs _ (List.mem_of_getElem? he_))
    have HOA := zH HKE.out.1
    have HOB := zH HKE.out.2
    clear he_
    dsimp only at HOA HOB
    have HPT := zH (show (-1048576 ≤ ay ∧ ay ≤ 1048576) ∧ (-1048576 ≤ bY ∧ bY ≤ 1048576) by have h1 := HOA.out; have h2 := HOB.out; unfold okPt at h1 h2; simp only [Bool.and_eq_true, decide_eq_true_eq] at h1 h2; omega)
    have hv37 := HPT.out
    have hv38 := HEL.out
    have hv39 := HM.out.2
    go_upto_region 9 with fail
    refine zy ?_
    have H40 := zH (H35.out.step (Ext.refl w33).drew)
    have D40 := zH (Dig.of_ext (w := w33) zb)
    refine zx 0 (bs 14 1) (.slice (some ⟨ge, 0, none⟩) ((edgesOf rs).length) ce) zb ?_
    refine zx 1 (bs 14 3) (.int .i64 (i : Int)) zb ?_
    refine zu 2 (bs 14 7) (v := .pointer (some ⟨ge, i * 4, none⟩)) zb ?_ (hv := by intro w hSw; exact ezi (k := i) Tryz.underlying69 (l := hlt) (f := (Nat.zero_add _).symm))
    refine mX 3 (bs 14 15) (.pointer (some ⟨ge, i * 4, none⟩)) zb ?_
    refine zg 4 (bs 14 31) ge (i * 4) [.int .i64 ax, .int .i64 ay] (range_part (H35.out.elem (f := edC) (i := 3) (by rfl) edC_len HE.out) 0 2) Tryz.underlying53 zb ?_
    refine zx 5 (bs 14 63) (.slice (some ⟨ge, 0, none⟩) ((edgesOf rs).length) ce) zb ?_
    refine zx 6 (bs 14 127) (.int .i64 (i : Int)) zb ?_
    refine zu 7 (bs 14 255) (v := .pointer (some ⟨ge, i * 4, none⟩)) zb ?_ (hv := by intro w hSw; exact ezi (k := i) Tryz.underlying69 (l := hlt) (f := (Nat.zero_add _).symm))
    refine mX 8 (bs 14 511) (.pointer (some ⟨ge, i * 4 + 2, none⟩)) zb ?_
    refine zg 9 (bs 14 1023) ge (i * 4 + 2) [.int .i64 bx, .int .i64 bY] (range_part (H35.out.elem (f := edC) (i := 3) (by rfl) edC_len HE.out) 2 2) Tryz.underlying53 zb ?_
    refine md_alloc2 (i := 10) (j := 11) (T := 53) (U := 53) (zs := [.int .i64 0, .int .i64 0]) (us := [.int .i64 0, .int .i64 0]) (li := (bs 14 2047)) (lj := (bs 14 3071)) (lij := (bs 14 4095)) (by rfl) (by rfl) (by kernel_rfl) (by kernel_rfl) (by kernel_rfl) (by kernel_rfl) (by kernel_rfl) (by kernel_rfl) (by kernel_rfl) (by rfl) (by rfl) (by decide) (by intro r_ x_; go_simp) (by intro r_ x_; go_simp) (fun x y h1 h2 => h1.trans h2) zb H40.out (by simp [NoUL]) (by simp [NoUL]) ?_
    intro X50 Y51 w52 hh hx hg1 hg2 hs
    have H53 := zH (show Hp w w52 [.blk X1 27 (rc ry), ro 27 4 A1 m c1 MkE.cx es, ro 3 1 A2 m c2 MkE.cu es, ro 71 4 (some ⟨ge, 0, none⟩) ((edgesOf rs).length) ce edC (edgesOf rs), .blk X50 53 [.int .i64 0, .int .i64 0], .blk Y51 53 [.int .i64 0, .int .i64 0]] from hh)
    have D53 := zH (show Dig w33.drew w52 from Dig.of_ext hx)
    have S55 := zH (show Ext w33 w52 from hs)
    have G56 := zH (show w33.heap.size ≤ X50 from Nat.le_trans zb.size hg1)
    have G57 := zH (show w33.heap.size ≤ Y51 from Nat.le_trans zb.size hg2)
    clear hh hx hg1 hg2 hs
    try simp only [Act.put, zA, zB, zC]
    refine md_st (i := 12) (listed' := (bs 14 8191)) (by rfl) (by kernel_rfl) (by rfl) (by kernel_rfl) _ _ _ (by rfl) H53.out (ix := 4) (by rfl) 0 [.int .i64 ax, .int .i64 ay] (by rfl) (by rfl) (by simp) (by kernel_rfl) (by simp [Value.oneCell']) (by simp [NoUL]) ?_
    intro w58 hh hd ho
    have H59 := zH (show Hp w w58 [.blk X1 27 (rc ry), ro 27 4 A1 m c1 MkE.cx es, ro 3 1 A2 m c2 MkE.cu es, ro 71 4 (some ⟨ge, 0, none⟩) ((edgesOf rs).length) ce edC (edgesOf rs), .blk X50 53 [.int .i64 ax, .int .i64 ay], .blk Y51 53 [.int .i64 0, .int .i64 0]] from hh)
    have D59 := zH (hd)
    have S61 := zH (show Ext w33 w58 from Own.ext ho S55.out G56.out)
    clear hh hd ho
    refine ⟨S61.out, ?_⟩
    (try simp only [Act.put])
    refine md_st (i := 13) (listed' := (bs 14 16383)) (by rfl) (by kernel_rfl) (by rfl) (by kernel_rfl) _ _ _ (by rfl) H59.out (ix := 5) (by rfl) 0 [.int .i64 bx, .int .i64 bY] (by rfl) (by rfl) (by simp) (by kernel_rfl) (by simp [Value.oneCell']) (by simp [NoUL]) ?_
    intro w62 hh hd ho
    have H63 := zH (show Hp w w62 [.blk X1 27 (rc ry), ro 27 4 A1 m c1 MkE.cx es, ro 3 1 A2 m c2 MkE.cu es, ro 71 4 (some ⟨ge, 0, none⟩) ((edgesOf rs).length) ce edC (edgesOf rs), .blk X50 53 [.int .i64 ax, .int .i64 ay], .blk Y51 53 [.int .i64 bx, .int .i64 bY]] from hh)
    have D63 := zH (hd)
    have S65 := zH (show Ext w33 w62 from Own.ext ho S61.out G57.out)
    clear hh hd ho
    refine ⟨S65.out, ?_⟩
    (try simp only [Act.put])
    refine wpAnyH_done (by kernel_rfl) ?_ _
    go_upto_region 10 with fail
    refine zy ?_
    have H66 := zH (H63.out.step (Ext.refl w62).drew)
    have D66 := zH (Dig.of_ext (w := w62) zb)
    refine zx 0 (bs 10 1) (.pointer (some ⟨X50, 1, none⟩)) zb ?_
    refine zf 1 (bs 10 3) X50 1 (.int .i64 ay) (H63.out.range (i := 4) (by rfl) 1 1) zb ?_
    refine zx 3 (bs 10 11) (.pointer (some ⟨Y51, 1, none⟩)) zb ?_
    refine zf 4 (bs 10 27) Y51 1 (.int .i64 bY) (H63.out.range (i := 5) (by rfl) 1 1) zb ?_
    refine tuple2 (f := 2) 2 5 6 7 47 50 12 13 27 z4 (fun v w => ∃ c, v = .agg c ∧ NIs w c (((ay) : Int) : Rat)) (fun v w => ∃ c, v = .agg c ∧ NIs w c (((bY) : Int) : Rat)) rfl rfl rfl rfl (by decide) (by decide) (by kernel_rfl) (fun _ hx => zb.trans hx) (fun _ _ _ h e => by obtain ⟨c, h1, h2⟩ := h; exact ⟨c, h1, h2.ext e⟩) (fun _ _ _ h e => by obtain ⟨c, h1, h2⟩ := h; exact ⟨c, h1, h2.ext e⟩) ?ht70c1 ?ht70c2 ?ht70c3 ?ht70c4 ?ht70e _ _ _ _ (by kernel_rfl) rfl
    case ht70c1 =>
     intro v1 v2 v3 v4 w1 K hxq hSw hK
     try simp only [Act.put, zA, zB, zC]
     rw [if_pos (by rfl)]
     refine wp_call_op (by go_simp) (q03From ay _ (by omega) (by omega)) ?_
     rintro e w' ⟨c_, rfl, hc_, hx⟩
     refine ⟨_, rfl, ?_⟩
     have hk := hK.out _ _ ⟨c_, rfl, hc_⟩ hx
     try simp only [Act.put, zA, zB, zC]
     simp only [Act.put, zA, zB, zC] at hk
     exact hk
    case ht70c2 =>
     intro v1 v2 v3 v4 w1 K hxq hSw hK
     try simp only [Act.put, zA, zB, zC]
     rw [if_pos (by rfl)]
     refine wp_call_op (by go_simp) (q03From bY _ (by omega) (by omega)) ?_
     rintro e w' ⟨c_, rfl, hc_, hx⟩
     refine ⟨_, rfl, ?_⟩
     have hk := hK.out _ _ ⟨c_, rfl, hc_⟩ hx
     try simp only [Act.put, zA, zB, zC]
     simp only [Act.put, zA, zB, zC] at hk
     exact hk
    case ht70c3 =>
     intro v1 v2 v3 v4 w1 K hxq hSw hK
     try simp only [Act.put, zA, zB, zC]
     go_simp
     have hk := hK.out
     simp only [Act.put, zA, zB, zC] at hk
     exact hk
    case ht70c4 =>
     intro v1 v2 v3 v4 w1 K hxq hSw hK
     try simp only [Act.put, zA, zB, zC]
     go_simp
     have hk := hK.out
     simp only [Act.put, zA, zB, zC] at hk
     exact hk
    case ht70e =>
    intro v1_ v2_ X73 Y74 w75 hx hSw xp1 xp2 xb1 xb2 xz1 xz2 n12
    have hh := H66.out.add2 hx xb1 xb2 xz1 xz2 n12 (by simp [NoUL]) (by simp [NoUL])
    have H76 := zH (show Hp w w75 [.blk X1 27 (rc ry), ro 27 4 A1 m c1 MkE.cx es, ro 3 1 A2 m c2 MkE.cu es, ro 71 4 (some ⟨ge, 0, none⟩) ((edgesOf rs).length) ce edC (edgesOf rs), .blk X50 53 [.int .i64 ax, .int .i64 ay], .blk Y51 53 [.int .i64 bx, .int .i64 bY], .blk X73 27 rz, .blk Y74 27 rz] from hh)
    have D76 := zH (show Dig w62.drew w75 from Dig.of_ext hx)
    have S78 := zH (show Ext w62 w75 from zb.trans hx)
    have G79 := zH (show w62.heap.size ≤ X73 from Nat.le_trans zb.size xz1)
    have G80 := zH (show w62.heap.size ≤ Y74 from Nat.le_trans zb.size xz2)
    obtain ⟨c_, rfl, hc_⟩ := xp1
    obtain ⟨r71, rfl, hr_⟩ := hc_
    have R71 := zH hr_
    have B71 := zH (rl_i64 ay (by omega) (by omega))
    clear hr_
    obtain ⟨c_, rfl, hc_⟩ := xp2
    obtain ⟨r72, rfl, hr_⟩ := hc_
    have R72 := zH hr_
    have B72 := zH (rl_i64 bY (by omega) (by omega))
    clear hr_
    clear hh hx hSw xb1 xb2 xz1 xz2 n12
    try simp only [Act.put, zA, zB, zC]
    refine md_st (i := 8) (listed' := (bs 10 511)) (by rfl) (by kernel_rfl) (by rfl) (by kernel_rfl) _ _ _ (by rfl) H76.out (ix := 6) (by rfl) 0 [.bool r71.n, .slice r71.p r71.l r71.c, .bool r71.m, .slice r71.p2 r71.l2 r71.c2] (by rfl) (by rfl) (by simp) (by kernel_rfl) (by simp [Value.oneCell']) (by simp [NoUL]) ?_
    intro w81 hh hd ho
    have H82 := zH (show Hp w w81 [.blk X1 27 (rc ry), ro 27 4 A1 m c1 MkE.cx es, ro 3 1 A2 m c2 MkE.cu es, ro 71 4 (some ⟨ge, 0, none⟩) ((edgesOf rs).length) ce edC (edgesOf rs), .blk X50 53 [.int .i64 ax, .int .i64 ay], .blk Y51 53 [.int .i64 bx, .int .i64 bY], .blk X73 27 (rc r71), .blk Y74 27 rz] from hh)
    have D82 := zH (hd)
    have S84 := zH (show Ext w62 w81 from Own.ext ho S78.out G79.out)
    clear hh hd ho
    refine ⟨S84.out, ?_⟩
    (try simp only [Act.put])
    refine md_st (i := 9) (listed' := (bs 10 1023)) (by rfl) (by kernel_rfl) (by rfl) (by kernel_rfl) _ _ _ (by rfl) H82.out (ix := 7) (by rfl) 0 [.bool r72.n, .slice r72.p r72.l r72.c, .bool r72.m, .slice r72.p2 r72.l2 r72.c2] (by rfl) (by rfl) (by simp) (by kernel_rfl) (by simp [Value.oneCell']) (by simp [NoUL]) ?_
    intro w85 hh hd ho
    have H86 := zH (show Hp w w85 [.blk X1 27 (rc ry), ro 27 4 A1 m c1 MkE.cx es, ro 3 1 A2 m c2 MkE.cu es, ro 71 4 (some ⟨ge, 0, none⟩) ((edgesOf rs).length) ce edC (edgesOf rs), .blk X50 53 [.int .i64 ax, .int .i64 ay], .blk Y51 53 [.int .i64 bx, .int .i64 bY], .blk X73 27 (rc r71), .blk Y74 27 (rc r72)] from hh)
    have D86 := zH (hd)
    have S88 := zH (show Ext w62 w85 from Own.ext ho S84.out G80.out)
    clear hh hd ho
    refine ⟨S88.out, ?_⟩
    (try simp only [Act.put])
    refine wpAnyH_done (by kernel_rfl) ?_ _
    go_upto_region 11 with fail
    refine wp_region_lit ?_
    refine zq (.int .i64 0) ?_
    by_cases c90 : ((ay : Int) : Rat) < y
    ·have C1 := zH c90
     clear c90
     by_cases c91 : y < ((bY : Int) : Rat)
     ·have C2 := zH c91
      clear c91
      go_upto_region 12 with fail
      refine wp_region_lit ?_
      refine zd X73 (0) (rc r71) (H86.out.range (i := 6) (by rfl) 0 4) Tryz.underlying27 ?_
      refine zd X1 (0) (rc ry) (H86.out.range (i := 0) (by rfl) 0 4) Tryz.underlying27 ?_
      have DD93 := zH ((D82.out.trans D86.out))
      refine zc (less_any 60000 _ _ (((ay) : Int) : Rat) y _ (RV.Is.nin (R71.out.dig DD93.out) (Nat.le_trans B71.out (by omega))) (RV.In.nin (RV.In.mono (RY.out.dig H86.out.dig0) (by omega))) (by omega)) ?_
      rintro e w92 ⟨rfl, hx⟩
      have H94 := zH (H86.out.step hx)
      have D94 := zH (Dig.of_ext hx)
      clear hx
      refine ⟨.bool true, by rw [dec_t C1.out], ?_⟩
      try simp only [Act.put, zA, zB, zC]
      refine qV (.bool true) ?_
      refine zd X1 (0) (rc ry) (H94.out.range (i := 0) (by rfl) 0 4) Tryz.underlying27 ?_
      refine zd Y74 (0) (rc r72) (H94.out.range (i := 7) (by rfl) 0 4) Tryz.underlying27 ?_
      have DD98 := zH ((DD93.out.trans D94.out))
      refine zc (less_any 60000 _ _ y (((bY) : Int) : Rat) _ (RV.In.nin (RV.In.mono (RY.out.dig H94.out.dig0) (by omega))) (RV.Is.nin (R72.out.dig DD98.out) (Nat.le_trans B72.out (by omega))) (by omega)) ?_
      rintro e w97 ⟨rfl, hx⟩
      have H99 := zH (H94.out.step hx)
      have D99 := zH (Dig.of_ext hx)
      clear hx
      refine ⟨.bool true, by rw [dec_t C2.out], ?_⟩
      try simp only [Act.put, zA, zB, zC]
      refine zq (.bool true) ?_
      go_upto_region 13 with fail
      refine wp_region_lit ?_
      refine zq (.int .i64 1) ?_
      go_upto_region 14 with fail
      refine wp_region_lit ?_
      refine zd Y74 (0) (rc r72) (H99.out.range (i := 7) (by rfl) 0 4) Tryz.underlying27 ?_
      refine zd X1 (0) (rc ry) (H99.out.range (i := 0) (by rfl) 0 4) Tryz.underlying27 ?_
      have DD104 := zH ((DD98.out.trans D99.out))
      refine zc (less_any 60000 _ _ (((bY) : Int) : Rat) y _ (RV.Is.nin (R72.out.dig DD104.out) (Nat.le_trans B72.out (by omega))) (RV.In.nin (RV.In.mono (RY.out.dig H99.out.dig0) (by omega))) (by omega)) ?_
      rintro e w103 ⟨rfl, hx⟩
      have H105 := zH (H99.out.step hx)
      have D105 := zH (Dig.of_ext hx)
      clear hx
      refine ⟨.bool false, by rw [dec_f (fun h_ => absurd h_ (Rat.not_lt.2 (Rat.le_of_lt C2.out)))], ?_⟩
      try simp only [Act.put, zA, zB, zC]
      refine zq (.bool false) ?_
      refine zk ?_
      refine zk ?_
      refine zk ?_
      refine zq (.bool false) ?_
      go_upto_region 16 with fail
      refine wp_region_lit ?_
      refine zq (.int .i64 1) ?_
      refine zp (w' := w103) (.bool false) (by exact ezq (e := (dec_f (by omega)))) ?_
      go_upto_region 17 with fail
      refine wp_region_lit ?_
      refine zd X50 (0) [.int .i64 ax, .int .i64 ay] (H105.out.range (i := 4) (by rfl) 0 2) Tryz.underlying53 ?_
      refine zd Y51 (0) [.int .i64 bx, .int .i64 bY] (H105.out.range (i := 5) (by rfl) 0 2) Tryz.underlying53 ?_
      refine zd X1 (0) (rc ry) (H105.out.range (i := 0) (by rfl) 0 4) Tryz.underlying27 ?_
      refine zc (rxat_any L ax ay bx bY ry y _ (RY.out.dig H105.out.dig0) h1L hL HOA.out HOB.out (xat_pre (.inl ⟨C1.out, C2.out⟩)).1 (xat_pre (.inl ⟨C1.out, C2.out⟩)).2.1 (xat_pre (.inl ⟨C1.out, C2.out⟩)).2.2) ?_
      rintro e w111 ⟨r112, rfl, hr_, hx⟩
      have H113 := zH (H105.out.step hx)
      have D113 := zH (Dig.of_ext hx)
      have R112 := zH hr_
      have B112 := zH (rl_xat (ax := ax) (bx := bx) HOA.out HOB.out RY.out.rl)
      clear hr_
      clear hx
      refine zn ?_
      refine qV (.tuple #[.agg #[.bool r112.n, .slice r112.p r112.l r112.c, .bool r112.m, .slice r112.p2 r112.l2 r112.c2], .bool true]) ?_
      refine zq (.agg #[.bool r112.n, .slice r112.p r112.l r112.c, .bool r112.m, .slice r112.p2 r112.l2 r112.c2]) ?_
      refine zq (.bool true) ?_
      refine mv_alloc (T := 27) (zs := [.bool false, .slice none 0 0, .bool false, .slice none 0 0]) (by rfl) (by go_simp) H113.out (by simp [NoUL]) ?_
      intro X118 w119 hh hx hge
      have H120 := zH (show Hp w w119 [.blk X1 27 (rc ry), ro 27 4 A1 m c1 MkE.cx es, ro 3 1 A2 m c2 MkE.cu es, ro 71 4 (some ⟨ge, 0, none⟩) ((edgesOf rs).length) ce edC (edgesOf rs), .blk X50 53 [.int .i64 ax, .int .i64 ay], .blk Y51 53 [.int .i64 bx, .int .i64 bY], .blk X73 27 (rc r71), .blk Y74 27 (rc r72), .blk X118 27 rz] from hh)
      have D120 := zH (Dig.of_ext hx)
      clear hh hx hge
      try simp only [Act.put, zA, zB, zC]
      refine mv_st (by rfl) _ _ _ (by rfl) H120.out (ix := 8) (by rfl) 0 [.bool r112.n, .slice r112.p r112.l r112.c, .bool r112.m, .slice r112.p2 r112.l2 r112.c2] (by rfl) (by rfl) (by simp) (by kernel_rfl) (by simp [Value.oneCell']) (by simp [NoUL]) ?_
      intro w123 hh hd ho
      have H124 := zH (show Hp w w123 [.blk X1 27 (rc ry), ro 27 4 A1 m c1 MkE.cx es, ro 3 1 A2 m c2 MkE.cu es, ro 71 4 (some ⟨ge, 0, none⟩) ((edgesOf rs).length) ce edC (edgesOf rs), .blk X50 53 [.int .i64 ax, .int .i64 ay], .blk Y51 53 [.int .i64 bx, .int .i64 bY], .blk X73 27 (rc r71), .blk Y74 27 (rc r72), .blk X118 27 (rc r112)] from hh)
      have D124 := zH (hd)
      clear hh hd ho
      (try simp only [Act.put])
      refine zq (.bool true) ?_
      go_upto_region 18 with fail
      refine wp_region_lit ?_
      refine qV (.slice A1 m c1) ?_
      refine zd X118 (0) (rc r112) (H124.out.range (i := 8) (by rfl) 0 4) Tryz.underlying27 ?_
      refine zp (w' := (w123.alloc (.cells ([.bool r112.n, .slice r112.p r112.l r112.c, .bool r112.m, .slice r112.p2 r112.l2 r112.c2] : List Value).toArray 27))) (.slice (some ⟨w123.heap.size, 0, none⟩) 1 1) (by go_simp) ?_
      refine mv_app (by rfl) _ _ _ (by rfl) elRat (by rfl) H124.out (ix := 1) (by rfl) 1 1 [.bool r112.n, .slice r112.p r112.l r112.c, .bool r112.m, .slice r112.p2 r112.l2 r112.c2] (by rfl) rfl (by simp [Value.oneCell']) (by simp [NoUL]) (by decide) (by unfold maxLen; exact (by omega)) (by omega) ?_
      intro g129 cp130 w128 hf hh hd hg
      have Fg129 := zH hf
      clear hf
      rw [show List.flatMap MkE.cx es ++ [.bool r112.n, .slice r112.p r112.l r112.c, .bool r112.m, .slice r112.p2 r112.l2 r112.c2] = List.flatMap MkE.cx (es ++ [(⟨r112, (xatV ax ay bx bY y), 1⟩ : MkE)]) from flat_snoc MkE.cx _ (⟨r112, (xatV ax ay bx bY y), 1⟩ : MkE)] at hh
      have H131 := zH (show Hp w w128 [.blk X1 27 (rc ry), ro 27 4 (some ⟨g129, 0, none⟩) (m + 1) cp130 MkE.cx (es ++ [(⟨r112, (xatV ax ay bx bY y), 1⟩ : MkE)]), ro 3 1 A2 m c2 MkE.cu es, ro 71 4 (some ⟨ge, 0, none⟩) ((edgesOf rs).length) ce edC (edgesOf rs), .blk X50 53 [.int .i64 ax, .int .i64 ay], .blk Y51 53 [.int .i64 bx, .int .i64 bY], .blk X73 27 (rc r71), .blk Y74 27 (rc r72), .blk X118 27 (rc r112)] from hh)
      have D131 := zH (hd)
      clear hh hd hg
      try simp only [Act.put, zA, zB, zC]
      refine zq (.slice (some ⟨g129, 0, none⟩) (m + 1) cp130) ?_
      go_upto_region 19 with fail
      refine wp_region_lit ?_
      refine qV (.slice A2 m c2) ?_
      refine zq (.int .i64 1) ?_
      refine zp (w' := (w128.alloc (.cells ([.int .i64 1] : List Value).toArray 3))) (.slice (some ⟨w128.heap.size, 0, none⟩) 1 1) (by go_simp) ?_
      refine mv_app (by rfl) _ _ _ (by rfl) elInt (by rfl) H131.out (ix := 2) (by rfl) 1 1 [.int .i64 1] (by rfl) rfl (by simp [Value.oneCell']) (by simp [NoUL]) (by decide) (by unfold maxLen; exact (by omega)) (by omega) ?_
      intro g137 cp138 w136 hf hh hd hg
      have Fg137 := zH hf
      clear hf
      rw [show List.flatMap MkE.cu es ++ [.int .i64 1] = List.flatMap MkE.cu (es ++ [(⟨r112, (xatV ax ay bx bY y), 1⟩ : MkE)]) from flat_snoc MkE.cu _ (⟨r112, (xatV ax ay bx bY y), 1⟩ : MkE)] at hh
      have H139 := zH (show Hp w w136 [.blk X1 27 (rc ry), ro 27 4 (some ⟨g129, 0, none⟩) (m + 1) cp130 MkE.cx (es ++ [(⟨r112, (xatV ax ay bx bY y), 1⟩ : MkE)]), ro 3 1 (some ⟨g137, 0, none⟩) (m + 1) cp138 MkE.cu (es ++ [(⟨r112, (xatV ax ay bx bY y), 1⟩ : MkE)]), ro 71 4 (some ⟨ge, 0, none⟩) ((edgesOf rs).length) ce edC (edgesOf rs), .blk X50 53 [.int .i64 ax, .int .i64 ay], .blk Y51 53 [.int .i64 bx, .int .i64 bY], .blk X73 27 (rc r71), .blk Y74 27 (rc r72), .blk X118 27 (rc r112)] from hh)
      have D139 := zH (hd)
      clear hh hd hg
      try simp only [Act.put, zA, zB, zC]
      refine zq (.slice (some ⟨g137, 0, none⟩) (m + 1) cp138) ?_
      obtain ⟨ey, hey_⟩ : ∃ ey : MkE, ey = (⟨r112, (xatV ax ay bx bY y), 1⟩ : MkE) := ⟨_, rfl⟩
      have HZ := zH hey_
      have H142 := zH (show Hp w w136 [.blk X1 27 (rc ry), ro 27 4 (some ⟨g129, 0, none⟩) (m + 1) cp130 MkE.cx (es.take m ++ ey :: es.drop m), ro 3 1 (some ⟨g137, 0, none⟩) (m + 1) cp138 MkE.cu (es.take m ++ ey :: es.drop m), ro 71 4 (some ⟨ge, 0, none⟩) ((edgesOf rs).length) ce edC (edgesOf rs), .blk X50 53 [.int .i64 ax, .int .i64 ay], .blk Y51 53 [.int .i64 bx, .int .i64 bY], .blk X73 27 (rc r71), .blk Y74 27 (rc r72), .blk X118 27 (rc r112)] from by rw [show es.take m ++ ey :: es.drop m = es ++ [(⟨r112, (xatV ax ay bx bY y), 1⟩ : MkE)] by rw [List.take_of_length_le (by have := HM.out.1; omega), List.drop_of_length_le (by have := HM.out.1; omega), HZ.out]]; exact H139.out)
      have DD143 := zH ((((D120.out.trans D124.out).trans D131.out).trans D139.out))
      have HOY := zH (show ey.Ok (L + 8) w136 from by rw [HZ.out]; exact ⟨(R112.out.dig DD143.out), (show Nm.rl (xatV ax ay bx bY y) ≤ L + 8 by have q_ := B112.out; omega), (show (-1 : Int) ≤ 1 by decide), (show 1 ≤ (1 : Int) by decide)⟩)
      have HVY := zH (show ey.vl = (xatV ax ay bx bY y, 1) from by rw [HZ.out]; rfl)
      have HINS := zH (show (Stb.ins ltK es ey).map MkE.vl = Stb.stab ltM (((edgesOf rs).take (i + 1)).filterMap (crossV y)) by rw [crs_some HE.out (cross_up (a := (ax, ay)) (b := (bx, bY)) ⟨C1.out, C2.out⟩), ← HVL.out, ← HVY.out]; exact ins_map MkE.vl (fun _ _ => rfl) es ey)
      have HSRT := zH (show Stb.Srt ltK es from srt_mk (by rw [HVL.out]; exact Stb.stab_srt wkM _))
      go_upto_region 20 with fail
      refine wp_region_lit ?_
      refine qV (.slice (some ⟨g129, 0, none⟩) (m + 1) cp130) ?_
      refine zq (.int .i64 ((m + 1 : Nat) : Int)) ?_
      refine zp (w' := w136) (.int .i64 (m : Int)) (by exact ez2 (by omega)) ?_
      refine zq (.int .i64 (m : Int)) ?_
      have DD148 := zH ((((((((((((((((D40.out.trans D53.out).trans D59.out).trans D63.out).trans D66.out).trans D76.out).trans D82.out).trans D86.out).trans D94.out).trans D99.out).trans D105.out).trans D113.out).trans D120.out).trans D124.out).trans D131.out).trans D139.out))
      go_wp2_with fail
      go_loopg [17] (m + 1) (fun cq v149 wr => ∃ (t : Nat) (u : Nat), cq = (m + 1) - t ∧ v149 = .int .i64 (u : Int) ∧ (t + u = m) ∧ (∀ z, z ∈ es.drop u → ltK ey z = true) ∧ (∀ e, e ∈ es.take u ++ ey :: es.drop u → e.Ok (L + 8) wr) ∧ Hp w wr [.blk X1 27 [.bool ry.n, .slice ry.p ry.l ry.c, .bool ry.m, .slice ry.p2 ry.l2 ry.c2], .row 27 4 (.slice (some ⟨g129, 0, none⟩) (m + 1) cp130) (m + 1) (List.flatMap MkE.cx (es.take u ++ ey :: es.drop u)), .row 3 1 (.slice (some ⟨g137, 0, none⟩) (m + 1) cp138) (m + 1) (List.flatMap MkE.cu (es.take u ++ ey :: es.drop u)), .row 71 4 (.slice (some ⟨ge, 0, none⟩) ((edgesOf rs).length) ce) ((edgesOf rs).length) (List.flatMap edC (edgesOf rs)), .blk X50 53 [.int .i64 ax, .int .i64 ay], .blk Y51 53 [.int .i64 bx, .int .i64 bY], .blk X73 27 [.bool r71.n, .slice r71.p r71.l r71.c, .bool r71.m, .slice r71.p2 r71.l2 r71.c2], .blk Y74 27 [.bool r72.n, .slice r72.p r72.l r72.c, .bool r72.m, .slice r72.p2 r72.l2 r72.c2], .blk X118 27 [.bool r112.n, .slice r112.p r112.l r112.c, .bool r112.m, .slice r112.p2 r112.l2 r112.c2]] ∧ Dig w136 wr)
      case atStart => exact ⟨0, m, rfl, rfl, Nat.zero_add _, (fun z_ hz_ => by rw [List.drop_of_length_le (by have := HM.out.1; omega)] at hz_; simp at hz_), (fun g_ hg_ => by rw [List.take_of_length_le (by have := HM.out.1; omega), List.drop_of_length_le (by have := HM.out.1; omega)] at hg_; exact (List.mem_append.1 hg_).elim (fun hg_ => (HOE.out g_ hg_).dig DD148.out) (fun hg_ => by rw [List.mem_singleton.1 hg_]; exact HOY.out)), H142.out, Dig.refl _⟩
      case round =>
       obtain ⟨t, u, rfl, rfl, q_HTU, q_HALL, q_HOK2, hh_, hd_⟩ := hrel
       generalize wr = w150 at *
       have HTU := zH q_HTU
       clear q_HTU
       have HALL := zH q_HALL
       clear q_HALL
       have HOK2 := zH q_HOK2
       clear q_HOK2
       have H152 := zH hh_
       have D152 := zH hd_
       clear hh_ hd_ H142
       by_cases c153 : 0 < u
       ·have HU0 := zH c153
        clear c153
        have hu0 := HU0.out
        obtain ⟨q, rfl⟩ : ∃ q, u = q + 1 := ⟨u - 1, by omega⟩
        have HTQ := zH (show q < es.length by have h1 := HTU.out; have h2 := HM.out.1; omega)
        have hqm : q < m := by have h1 := HTU.out; omega
        obtain ⟨gx_, gy_, gs_, gz_⟩ := ins_at (y := ey) HTQ.out
        obtain ⟨ex, hex_⟩ : ∃ ex, ex = es[q]'HTQ.out := ⟨_, rfl⟩
        rw [← hex_] at gx_ gs_ gz_
        have HXE := zH hex_
        have GX := zH gx_
        have GY := zH gy_
        have GS := zH gs_
        have GZ := zH gz_
        have HLX := zH (List.getElem?_eq_some_iff.1 gx_).1
        have HLY := zH (List.getElem?_eq_some_iff.1 gy_).1
        clear gx_ gy_ gs_ gz_ hex_
        have OX := zH (HOK2.out ex (List.mem_of_getElem? GX.out))
        have OY := zH (HOK2.out ey (List.mem_of_getElem? GY.out))
        have RX := zH OX.out.1
        have RZ := zH OY.out.1
        have BX := zH OX.out.2.1
        have BZ := zH OY.out.2.1
        have HXS := zH OX.out.2.2
        have HYS := zH OY.out.2.2
        have hv154 := HEL.out
        have hv155 := HM.out.2
        have hv156 := HXS.out
        have hv157 := HYS.out
        rcases hcb_ : ltK ey ex with _ | _
        ·have CB := zH hcb_
         clear hcb_
         go_upto_region 21 with fail
         refine zy ?_
         have H158 := zH (H152.out.step (Ext.refl w150).drew)
         have D158 := zH (Dig.of_ext (w := w150) zb)
         refine zx 0 (bs 23 1) (.int .i64 ((q + 1 : Nat) : Int)) zb ?_
         refine zu 1 (bs 23 3) (v := .bool true) zb ?_ (hv := by intro w hSw; exact ezg (e := (dec_t (by omega))))
         refine zx 2 (bs 23 7) (.bool true) zb ?_
         refine zx 3 (bs 23 15) (.slice (some ⟨g129, 0, none⟩) (m + 1) cp130) zb ?_
         refine zx 4 (bs 23 31) (.int .i64 ((q + 1 : Nat) : Int)) zb ?_
         refine zo 5 (bs 23 63) (v := .pointer (some ⟨g129, (q + 1) * 4, none⟩)) zb ?_ (hv := by intro w hSw; exact ezi (k := q + 1) Tryz.underlying41 (l := (show q + 1 < m + 1 by omega)) (f := (Nat.zero_add _).symm))
         refine zg 6 (bs 23 127) g129 ((q + 1) * 4) (rc ey.a) (H152.out.elem (f := MkE.cx) (i := 1) (by rfl) MkE.cx_len GY.out) Tryz.underlying27 zb ?_
         refine zx 7 (bs 23 255) (.slice (some ⟨g137, 0, none⟩) (m + 1) cp138) zb ?_
         refine zx 8 (bs 23 511) (.int .i64 ((q + 1 : Nat) : Int)) zb ?_
         refine zu 9 (bs 23 1023) (v := .pointer (some ⟨g137, (q + 1) * 1, none⟩)) zb ?_ (hv := by intro w hSw; exact ezi (k := q + 1) Tryz.underlying42 (l := (show q + 1 < m + 1 by omega)) (f := (Nat.zero_add _).symm))
         refine zf 10 (bs 23 2047) g137 ((q + 1) * 1) (.int .i64 ey.up) (H152.out.elem (f := MkE.cu) (i := 2) (by rfl) MkE.cu_len GY.out) zb ?_
         refine zx 11 (bs 23 4095) (.slice (some ⟨g129, 0, none⟩) (m + 1) cp130) zb ?_
         refine zx 12 (bs 23 8191) (.int .i64 ((q + 1 : Nat) : Int)) zb ?_
         refine zu 13 (bs 23 16383) (v := .int .i64 (q : Int)) zb ?_ (hv := by intro w hSw; exact ez2 (by omega))
         refine zo 14 (bs 23 32767) (v := .pointer (some ⟨g129, q * 4, none⟩)) zb ?_ (hv := by intro w hSw; exact ezi (k := q) Tryz.underlying41 (l := (show q < m + 1 by omega)) (f := (Nat.zero_add _).symm))
         refine zg 15 (bs 23 65535) g129 (q * 4) (rc ex.a) (H152.out.elem (f := MkE.cx) (i := 1) (by rfl) MkE.cx_len GX.out) Tryz.underlying27 zb ?_
         refine zx 16 (bs 23 131071) (.slice (some ⟨g137, 0, none⟩) (m + 1) cp138) zb ?_
         refine zx 17 (bs 23 262143) (.int .i64 ((q + 1 : Nat) : Int)) zb ?_
         refine zu 18 (bs 23 524287) (v := .int .i64 (q : Int)) zb ?_ (hv := by intro w hSw; exact ez2 (by omega))
         refine zu 19 (bs 23 1048575) (v := .pointer (some ⟨g137, q * 1, none⟩)) zb ?_ (hv := by intro w hSw; exact ezi (k := q) Tryz.underlying42 (l := (show q < m + 1 by omega)) (f := (Nat.zero_add _).symm))
         refine zf 20 (bs 23 2097151) g137 (q * 1) (.int .i64 ex.up) (H152.out.elem (f := MkE.cu) (i := 2) (by rfl) MkE.cu_len GX.out) zb ?_
         refine mC 21 (bs 23 4194303) (before_any 60000 _ _ ey.q ex.q ey.up ex.up _ (RV.Is.nin (RZ.out.dig D158.out) (Nat.le_trans BZ.out (by omega))) (RV.Is.nin (RX.out.dig D158.out) (Nat.le_trans BX.out (by omega))) (by decide)) ?_
         rintro e w177 ⟨rfl, hx⟩
         have H178 := zH (H158.out.step hx)
         have D178 := zH (show Dig w150.drew w177 from Dig.of_ext hx)
         have S180 := zH (show Ext w150 w177 from zb.trans hx)
         clear hx
         refine ⟨.bool false, by rw [show beforeV ey.q ey.up ex.q ex.up = false from CB.out], S180.out, ?_⟩
         try simp only [Act.put, zA, zB, zC]
         refine zx 22 (bs 23 8388607) (.bool false) S180.out ?_
         refine wpAnyH_done (by kernel_rfl) ?_ _
         have H182 := zH (show Hp w w177 [.blk X1 27 (rc ry), ro 27 4 (some ⟨g129, 0, none⟩) (m + 1) cp130 MkE.cx (Stb.ins ltK es ey), ro 3 1 (some ⟨g137, 0, none⟩) (m + 1) cp138 MkE.cu (Stb.ins ltK es ey), ro 71 4 (some ⟨ge, 0, none⟩) ((edgesOf rs).length) ce edC (edgesOf rs), .blk X50 53 [.int .i64 ax, .int .i64 ay], .blk Y51 53 [.int .i64 bx, .int .i64 bY], .blk X73 27 (rc r71), .blk Y74 27 (rc r72), .blk X118 27 (rc r112)] from by rw [Stb.ins_stop wkK HSRT.out HALL.out (by have h1 := HTQ.out; omega) (Or.inr ⟨q, rfl, HTQ.out, by rw [← HXE.out]; exact CB.out⟩)]; exact H178.out)
         have DD183 := zH ((D158.out.trans D178.out))
         have DD184 := zH ((((((((((((((((((((D35.out.trans D40.out).trans D53.out).trans D59.out).trans D63.out).trans D66.out).trans D76.out).trans D82.out).trans D86.out).trans D94.out).trans D99.out).trans D105.out).trans D113.out).trans D120.out).trans D124.out).trans D131.out).trans D139.out).trans D152.out).trans D158.out).trans D178.out))
         go_wp2_with fail
         go_roundg ((edgesOf rs).length - (i + 1))
         case measure => exact (by omega)
         case rel => exact ⟨i + 1, m + 1, Stb.ins ltK es ey, some ⟨g129, 0, none⟩, cp130, some ⟨g137, 0, none⟩, cp138, rfl, rfl, rfl, (by go_num), hlt, ⟨by rw [Stb.ins_len, HM.out.1], by have := HM.out.2; omega⟩, HINS.out, (fun g_ hg_ => by rw [Stb.ins_stop wkK HSRT.out HALL.out (by have h1 := HTQ.out; omega) (Or.inr ⟨q, rfl, HTQ.out, by rw [← HXE.out]; exact CB.out⟩)] at hg_; exact ((HOK2.out g_ hg_).dig DD183.out)), H182.out.take 4, DD184.out⟩
        have CB := zH hcb_
        clear hcb_
        go_upto_region 21 with fail
        refine zy ?_
        have H185 := zH (H152.out.step (Ext.refl w150).drew)
        have D185 := zH (Dig.of_ext (w := w150) zb)
        refine zx 0 (bs 23 1) (.int .i64 ((q + 1 : Nat) : Int)) zb ?_
        refine zu 1 (bs 23 3) (v := .bool true) zb ?_ (hv := by intro w hSw; exact ezg (e := (dec_t (by omega))))
        refine zx 2 (bs 23 7) (.bool true) zb ?_
        refine zx 3 (bs 23 15) (.slice (some ⟨g129, 0, none⟩) (m + 1) cp130) zb ?_
        refine zx 4 (bs 23 31) (.int .i64 ((q + 1 : Nat) : Int)) zb ?_
        refine zo 5 (bs 23 63) (v := .pointer (some ⟨g129, (q + 1) * 4, none⟩)) zb ?_ (hv := by intro w hSw; exact ezi (k := q + 1) Tryz.underlying41 (l := (show q + 1 < m + 1 by omega)) (f := (Nat.zero_add _).symm))
        refine zg 6 (bs 23 127) g129 ((q + 1) * 4) (rc ey.a) (H152.out.elem (f := MkE.cx) (i := 1) (by rfl) MkE.cx_len GY.out) Tryz.underlying27 zb ?_
        refine zx 7 (bs 23 255) (.slice (some ⟨g137, 0, none⟩) (m + 1) cp138) zb ?_
        refine zx 8 (bs 23 511) (.int .i64 ((q + 1 : Nat) : Int)) zb ?_
        refine zu 9 (bs 23 1023) (v := .pointer (some ⟨g137, (q + 1) * 1, none⟩)) zb ?_ (hv := by intro w hSw; exact ezi (k := q + 1) Tryz.underlying42 (l := (show q + 1 < m + 1 by omega)) (f := (Nat.zero_add _).symm))
        refine zf 10 (bs 23 2047) g137 ((q + 1) * 1) (.int .i64 ey.up) (H152.out.elem (f := MkE.cu) (i := 2) (by rfl) MkE.cu_len GY.out) zb ?_
        refine zx 11 (bs 23 4095) (.slice (some ⟨g129, 0, none⟩) (m + 1) cp130) zb ?_
        refine zx 12 (bs 23 8191) (.int .i64 ((q + 1 : Nat) : Int)) zb ?_
        refine zu 13 (bs 23 16383) (v := .int .i64 (q : Int)) zb ?_ (hv := by intro w hSw; exact ez2 (by omega))
        refine zo 14 (bs 23 32767) (v := .pointer (some ⟨g129, q * 4, none⟩)) zb ?_ (hv := by intro w hSw; exact ezi (k := q) Tryz.underlying41 (l := (show q < m + 1 by omega)) (f := (Nat.zero_add _).symm))
        refine zg 15 (bs 23 65535) g129 (q * 4) (rc ex.a) (H152.out.elem (f := MkE.cx) (i := 1) (by rfl) MkE.cx_len GX.out) Tryz.underlying27 zb ?_
        refine zx 16 (bs 23 131071) (.slice (some ⟨g137, 0, none⟩) (m + 1) cp138) zb ?_
        refine zx 17 (bs 23 262143) (.int .i64 ((q + 1 : Nat) : Int)) zb ?_
        refine zu 18 (bs 23 524287) (v := .int .i64 (q : Int)) zb ?_ (hv := by intro w hSw; exact ez2 (by omega))
        refine zu 19 (bs 23 1048575) (v := .pointer (some ⟨g137, q * 1, none⟩)) zb ?_ (hv := by intro w hSw; exact ezi (k := q) Tryz.underlying42 (l := (show q < m + 1 by omega)) (f := (Nat.zero_add _).symm))
        refine zf 20 (bs 23 2097151) g137 (q * 1) (.int .i64 ex.up) (H152.out.elem (f := MkE.cu) (i := 2) (by rfl) MkE.cu_len GX.out) zb ?_
        refine mC 21 (bs 23 4194303) (before_any 60000 _ _ ey.q ex.q ey.up ex.up _ (RV.Is.nin (RZ.out.dig D185.out) (Nat.le_trans BZ.out (by omega))) (RV.Is.nin (RX.out.dig D185.out) (Nat.le_trans BX.out (by omega))) (by decide)) ?_
        rintro e w204 ⟨rfl, hx⟩
        have H205 := zH (H185.out.step hx)
        have D205 := zH (show Dig w150.drew w204 from Dig.of_ext hx)
        have S207 := zH (show Ext w150 w204 from zb.trans hx)
        clear hx
        refine ⟨.bool true, by rw [show beforeV ey.q ey.up ex.q ex.up = true from CB.out], S207.out, ?_⟩
        try simp only [Act.put, zA, zB, zC]
        refine zx 22 (bs 23 8388607) (.bool true) S207.out ?_
        refine wpAnyH_done (by kernel_rfl) ?_ _
        go_upto_region 23 with fail
        refine zy ?_
        have H209 := zH (H205.out.step (Ext.refl w204).drew)
        have D209 := zH (Dig.of_ext (w := w204) zb)
        refine zx 0 (bs 11 1) (.slice (some ⟨g129, 0, none⟩) (m + 1) cp130) zb ?_
        refine zx 1 (bs 11 3) (.int .i64 ((q + 1 : Nat) : Int)) zb ?_
        refine zo 2 (bs 11 7) (v := .pointer (some ⟨g129, (q + 1) * 4, none⟩)) zb ?_ (hv := by intro w hSw; exact ezi (k := q + 1) Tryz.underlying41 (l := (show q + 1 < m + 1 by omega)) (f := (Nat.zero_add _).symm))
        refine zg 3 (bs 11 15) g129 ((q + 1) * 4) (rc ey.a) (H205.out.elem (f := MkE.cx) (i := 1) (by rfl) MkE.cx_len GY.out) Tryz.underlying27 zb ?_
        refine zx 4 (bs 11 31) (.slice (some ⟨g137, 0, none⟩) (m + 1) cp138) zb ?_
        refine zx 5 (bs 11 63) (.int .i64 ((q + 1 : Nat) : Int)) zb ?_
        refine zu 6 (bs 11 127) (v := .pointer (some ⟨g137, (q + 1) * 1, none⟩)) zb ?_ (hv := by intro w hSw; exact ezi (k := q + 1) Tryz.underlying42 (l := (show q + 1 < m + 1 by omega)) (f := (Nat.zero_add _).symm))
        refine zf 7 (bs 11 255) g137 ((q + 1) * 1) (.int .i64 ey.up) (H205.out.elem (f := MkE.cu) (i := 2) (by rfl) MkE.cu_len GY.out) zb ?_
        refine md_alloc (T := 27) (zs := [.bool false, .slice none 0 0, .bool false, .slice none 0 0]) (i := 8) (listed' := (bs 11 511)) (by rfl) (by kernel_rfl) (by rfl) (by go_simp) (by kernel_rfl) H209.out (by simp [NoUL]) ?_
        intro X217 w218 hh hx hge
        have H219 := zH (show Hp w w218 [.blk X1 27 (rc ry), ro 27 4 (some ⟨g129, 0, none⟩) (m + 1) cp130 MkE.cx (es.take (q + 1) ++ ey :: es.drop (q + 1)), ro 3 1 (some ⟨g137, 0, none⟩) (m + 1) cp138 MkE.cu (es.take (q + 1) ++ ey :: es.drop (q + 1)), ro 71 4 (some ⟨ge, 0, none⟩) ((edgesOf rs).length) ce edC (edgesOf rs), .blk X50 53 [.int .i64 ax, .int .i64 ay], .blk Y51 53 [.int .i64 bx, .int .i64 bY], .blk X73 27 (rc r71), .blk Y74 27 (rc r72), .blk X118 27 (rc r112), .blk X217 27 rz] from hh)
        have D219 := zH (show Dig w204.drew w218 from Dig.of_ext hx)
        have S222 := zH (show Ext w204 w218 from zb.trans hx)
        have G221 := zH (show w204.heap.size ≤ X217 from Nat.le_trans zb.size hge)
        clear hh hx hge
        refine ⟨S222.out, ?_⟩
        try simp only [Act.put, zA, zB, zC]
        refine md_st (i := 9) (listed' := (bs 11 1023)) (by rfl) (by kernel_rfl) (by rfl) (by kernel_rfl) _ _ _ (by rfl) H219.out (ix := 9) (by rfl) 0 [.bool ey.a.n, .slice ey.a.p ey.a.l ey.a.c, .bool ey.a.m, .slice ey.a.p2 ey.a.l2 ey.a.c2] (by rfl) (by rfl) (by simp) (by kernel_rfl) (by simp [Value.oneCell']) (by simp [NoUL]) ?_
        intro w223 hh hd ho
        have H224 := zH (show Hp w w223 [.blk X1 27 (rc ry), ro 27 4 (some ⟨g129, 0, none⟩) (m + 1) cp130 MkE.cx (es.take (q + 1) ++ ey :: es.drop (q + 1)), ro 3 1 (some ⟨g137, 0, none⟩) (m + 1) cp138 MkE.cu (es.take (q + 1) ++ ey :: es.drop (q + 1)), ro 71 4 (some ⟨ge, 0, none⟩) ((edgesOf rs).length) ce edC (edgesOf rs), .blk X50 53 [.int .i64 ax, .int .i64 ay], .blk Y51 53 [.int .i64 bx, .int .i64 bY], .blk X73 27 (rc r71), .blk Y74 27 (rc r72), .blk X118 27 (rc r112), .blk X217 27 (rc ey.a)] from hh)
        have D224 := zH (hd)
        have S226 := zH (show Ext w204 w223 from Own.ext ho S222.out G221.out)
        clear hh hd ho
        refine ⟨S226.out, ?_⟩
        (try simp only [Act.put])
        refine zx 10 (bs 11 2047) (.int .i64 ey.up) S226.out ?_
        refine wpAnyH_done (by kernel_rfl) ?_ _
        go_upto_region 24 with fail
        refine wp_region_lit ?_
        refine qV (.slice (some ⟨g129, 0, none⟩) (m + 1) cp130) ?_
        refine zq (.int .i64 ((q + 1 : Nat) : Int)) ?_
        refine qV (.slice (some ⟨g129, 0, none⟩) (m + 1) cp130) ?_
        refine zq (.int .i64 ((q + 1 : Nat) : Int)) ?_
        refine zp (w' := w223) (.int .i64 (q : Int)) (by exact ez2 (by omega)) ?_
        refine zp (w' := w223) (.pointer (some ⟨g129, q * 4, none⟩)) (by exact ezi (k := q) Tryz.underlying41 (l := (show q < m + 1 by omega)) (f := (Nat.zero_add _).symm)) ?_
        refine zd g129 (q * 4) (rc ex.a) (H224.out.elem (f := MkE.cx) (i := 1) (by rfl) MkE.cx_len GX.out) Tryz.underlying27 ?_
        refine zp (w' := w223) (.pointer (some ⟨g129, (q + 1) * 4, none⟩)) (by exact ezi (k := q + 1) Tryz.underlying41 (l := (show q + 1 < m + 1 by omega)) (f := (Nat.zero_add _).symm)) ?_
        refine mv_stElem (f := MkE.cx) (by rfl) _ _ _ (by rfl) H224.out (ix := 1) (by rfl) MkE.cx_len (q + 1) ex HLY.out [.bool ex.a.n, .slice ex.a.p ex.a.l ex.a.c, .bool ex.a.m, .slice ex.a.p2 ex.a.l2 ex.a.c2] (by rfl) ((q + 1) * 4) (by rfl) (by rfl) (by rfl) (by kernel_rfl) (by simp [Value.oneCell']) (by simp [NoUL]) ?_
        intro w236 hh hd ho
        have H237 := zH (show Hp w w236 [.blk X1 27 (rc ry), ro 27 4 (some ⟨g129, 0, none⟩) (m + 1) cp130 MkE.cx ((es.take (q + 1) ++ ey :: es.drop (q + 1)).set (q + 1) ex), ro 3 1 (some ⟨g137, 0, none⟩) (m + 1) cp138 MkE.cu (es.take (q + 1) ++ ey :: es.drop (q + 1)), ro 71 4 (some ⟨ge, 0, none⟩) ((edgesOf rs).length) ce edC (edgesOf rs), .blk X50 53 [.int .i64 ax, .int .i64 ay], .blk Y51 53 [.int .i64 bx, .int .i64 bY], .blk X73 27 (rc r71), .blk Y74 27 (rc r72), .blk X118 27 (rc r112), .blk X217 27 (rc ey.a)] from hh)
        have D237 := zH (hd)
        clear hh hd ho
        (try simp only [Act.put])
        go_upto_region 25 with fail
        refine wp_region_lit ?_
        refine qV (.slice (some ⟨g129, 0, none⟩) (m + 1) cp130) ?_
        refine zq (.int .i64 ((q + 1 : Nat) : Int)) ?_
        refine zp (w' := w236) (.int .i64 (q : Int)) (by exact ez2 (by omega)) ?_
        refine zd X217 (0) (rc ey.a) (H237.out.range (i := 9) (by rfl) 0 4) Tryz.underlying27 ?_
        refine zp (w' := w236) (.pointer (some ⟨g129, q * 4, none⟩)) (by exact ezi (k := q) Tryz.underlying41 (l := (show q < m + 1 by omega)) (f := (Nat.zero_add _).symm)) ?_
        refine mv_stElem (f := MkE.cx) (by rfl) _ _ _ (by rfl) H237.out (ix := 1) (by rfl) MkE.cx_len q ey (by rw [List.length_set]; exact HLX.out) [.bool ey.a.n, .slice ey.a.p ey.a.l ey.a.c, .bool ey.a.m, .slice ey.a.p2 ey.a.l2 ey.a.c2] (by rfl) (q * 4) (by rfl) (by rfl) (by rfl) (by kernel_rfl) (by simp [Value.oneCell']) (by simp [NoUL]) ?_
        intro w244 hh hd ho
        have H245 := zH (show Hp w w244 [.blk X1 27 (rc ry), ro 27 4 (some ⟨g129, 0, none⟩) (m + 1) cp130 MkE.cx (((es.take (q + 1) ++ ey :: es.drop (q + 1)).set (q + 1) ex).set q ey), ro 3 1 (some ⟨g137, 0, none⟩) (m + 1) cp138 MkE.cu (es.take (q + 1) ++ ey :: es.drop (q + 1)), ro 71 4 (some ⟨ge, 0, none⟩) ((edgesOf rs).length) ce edC (edgesOf rs), .blk X50 53 [.int .i64 ax, .int .i64 ay], .blk Y51 53 [.int .i64 bx, .int .i64 bY], .blk X73 27 (rc r71), .blk Y74 27 (rc r72), .blk X118 27 (rc r112), .blk X217 27 (rc ey.a)] from hh)
        have D245 := zH (hd)
        clear hh hd ho
        (try simp only [Act.put])
        go_upto_region 26 with fail
        refine wp_region_lit ?_
        refine qV (.slice (some ⟨g137, 0, none⟩) (m + 1) cp138) ?_
        refine zq (.int .i64 ((q + 1 : Nat) : Int)) ?_
        refine qV (.slice (some ⟨g137, 0, none⟩) (m + 1) cp138) ?_
        refine zq (.int .i64 ((q + 1 : Nat) : Int)) ?_
        refine zp (w' := w244) (.int .i64 (q : Int)) (by exact ez2 (by omega)) ?_
        refine zp (w' := w244) (.pointer (some ⟨g137, q * 1, none⟩)) (by exact ezi (k := q) Tryz.underlying42 (l := (show q < m + 1 by omega)) (f := (Nat.zero_add _).symm)) ?_
        refine ze g137 (q * 1) (.int .i64 ex.up) (H245.out.elem (f := MkE.cu) (i := 2) (by rfl) MkE.cu_len GX.out) ?_
        refine zp (w' := w244) (.pointer (some ⟨g137, (q + 1) * 1, none⟩)) (by exact ezi (k := q + 1) Tryz.underlying42 (l := (show q + 1 < m + 1 by omega)) (f := (Nat.zero_add _).symm)) ?_
        refine mv_stElem1 (f := MkE.cu) (by rfl) _ _ _ (by rfl) H245.out (ix := 2) (by rfl) MkE.cu_len (q + 1) ex HLY.out (.int .i64 ex.up) (by rfl) ((q + 1) * 1) (by rfl) (by rfl) (by rfl) (by kernel_rfl) (by simp [Value.cells]) (by simp [Value.oneCell']) (by simp [NoUL]) ?_
        intro w255 hh hd ho
        have H256 := zH (show Hp w w255 [.blk X1 27 (rc ry), ro 27 4 (some ⟨g129, 0, none⟩) (m + 1) cp130 MkE.cx (((es.take (q + 1) ++ ey :: es.drop (q + 1)).set (q + 1) ex).set q ey), ro 3 1 (some ⟨g137, 0, none⟩) (m + 1) cp138 MkE.cu ((es.take (q + 1) ++ ey :: es.drop (q + 1)).set (q + 1) ex), ro 71 4 (some ⟨ge, 0, none⟩) ((edgesOf rs).length) ce edC (edgesOf rs), .blk X50 53 [.int .i64 ax, .int .i64 ay], .blk Y51 53 [.int .i64 bx, .int .i64 bY], .blk X73 27 (rc r71), .blk Y74 27 (rc r72), .blk X118 27 (rc r112), .blk X217 27 (rc ey.a)] from hh)
        have D256 := zH (hd)
        clear hh hd ho
        (try simp only [Act.put])
        go_upto_region 27 with fail
        refine wp_region_lit ?_
        refine qV (.slice (some ⟨g137, 0, none⟩) (m + 1) cp138) ?_
        refine zq (.int .i64 ((q + 1 : Nat) : Int)) ?_
        refine zp (w' := w255) (.int .i64 (q : Int)) (by exact ez2 (by omega)) ?_
        refine zq (.int .i64 ey.up) ?_
        refine zp (w' := w255) (.pointer (some ⟨g137, q * 1, none⟩)) (by exact ezi (k := q) Tryz.underlying42 (l := (show q < m + 1 by omega)) (f := (Nat.zero_add _).symm)) ?_
        refine mv_stElem1 (f := MkE.cu) (by rfl) _ _ _ (by rfl) H256.out (ix := 2) (by rfl) MkE.cu_len q ey (by rw [List.length_set]; exact HLX.out) (.int .i64 ey.up) (by rfl) (q * 1) (by rfl) (by rfl) (by rfl) (by kernel_rfl) (by simp [Value.cells]) (by simp [Value.oneCell']) (by simp [NoUL]) ?_
        intro w264 hh hd ho
        have H265 := zH (show Hp w w264 [.blk X1 27 (rc ry), ro 27 4 (some ⟨g129, 0, none⟩) (m + 1) cp130 MkE.cx (((es.take (q + 1) ++ ey :: es.drop (q + 1)).set (q + 1) ex).set q ey), ro 3 1 (some ⟨g137, 0, none⟩) (m + 1) cp138 MkE.cu (((es.take (q + 1) ++ ey :: es.drop (q + 1)).set (q + 1) ex).set q ey), ro 71 4 (some ⟨ge, 0, none⟩) ((edgesOf rs).length) ce edC (edgesOf rs), .blk X50 53 [.int .i64 ax, .int .i64 ay], .blk Y51 53 [.int .i64 bx, .int .i64 bY], .blk X73 27 (rc r71), .blk Y74 27 (rc r72), .blk X118 27 (rc r112), .blk X217 27 (rc ey.a)] from hh)
        have D265 := zH (hd)
        clear hh hd ho
        (try simp only [Act.put])
        go_upto_region 22 with fail
        refine wp_region_lit ?_
        refine zq (.int .i64 ((q + 1 : Nat) : Int)) ?_
        refine zp (w' := w264) (.int .i64 (q : Int)) (by exact ez2 (by omega)) ?_
        refine zq (.int .i64 (q : Int)) ?_
        have H270 := zH (show Hp w w264 [.blk X1 27 (rc ry), ro 27 4 (some ⟨g129, 0, none⟩) (m + 1) cp130 MkE.cx (es.take q ++ ey :: es.drop q), ro 3 1 (some ⟨g137, 0, none⟩) (m + 1) cp138 MkE.cu (es.take q ++ ey :: es.drop q), ro 71 4 (some ⟨ge, 0, none⟩) ((edgesOf rs).length) ce edC (edgesOf rs), .blk X50 53 [.int .i64 ax, .int .i64 ay], .blk Y51 53 [.int .i64 bx, .int .i64 bY], .blk X73 27 (rc r71), .blk Y74 27 (rc r72), .blk X118 27 (rc r112), .blk X217 27 (rc ey.a)] from by rw [← GS.out]; exact H265.out)
        have DD271 := zH (((((((((D185.out.trans D205.out).trans D209.out).trans D219.out).trans D224.out).trans D237.out).trans D245.out).trans D256.out).trans D265.out))
        have DD272 := zH ((((((((((D152.out.trans D185.out).trans D205.out).trans D209.out).trans D219.out).trans D224.out).trans D237.out).trans D245.out).trans D256.out).trans D265.out))
        go_wp2_with fail
        go_roundg (m + 1 - (t + 1))
        case measure => exact (by have ob6 := (show t < m + 1 by have h1 := HTU.out; omega); omega)
        case rel => exact ⟨t + 1, q, rfl, (by go_num), (by have h1 := HTU.out; omega), (fun z_ hz_ => (GZ.out z_ hz_).elim (fun h_ => by rw [h_]; exact CB.out) (HALL.out z_)), (fun g_ hg_ => by rw [← GS.out] at hg_; exact (List.mem_or_eq_of_mem_set hg_).elim (fun h_ => (List.mem_or_eq_of_mem_set h_).elim (fun h_ => (HOK2.out g_ h_).dig DD271.out) (fun h_ => by rw [h_]; exact OX.out.dig DD271.out)) (fun h_ => by rw [h_]; exact OY.out.dig DD271.out)), H270.out.take 9, DD272.out⟩
       have HU0 := zH c153
       clear c153
       obtain rfl : u = 0 := by have h := HU0.out; omega
       go_upto_region 21 with fail
       refine zy ?_
       have H273 := zH (H152.out.step (Ext.refl w150).drew)
       have D273 := zH (Dig.of_ext (w := w150) zb)
       refine zx 0 (bs 23 1) (.int .i64 0) zb ?_
       refine zu 1 (bs 23 3) (v := .bool false) zb ?_ (hv := by intro w hSw; exact ezg (e := (dec_f (by omega))))
       refine zx 2 (bs 23 7) (.bool false) zb ?_
       refine zs 3 (bs 23 15) zb ?_
       refine zs 4 (bs 23 31) zb ?_
       refine zs 5 (bs 23 63) zb ?_
       refine zs 6 (bs 23 127) zb ?_
       refine zs 7 (bs 23 255) zb ?_
       refine zs 8 (bs 23 511) zb ?_
       refine zs 9 (bs 23 1023) zb ?_
       refine zs 10 (bs 23 2047) zb ?_
       refine zs 11 (bs 23 4095) zb ?_
       refine zs 12 (bs 23 8191) zb ?_
       refine zs 13 (bs 23 16383) zb ?_
       refine zs 14 (bs 23 32767) zb ?_
       refine zs 15 (bs 23 65535) zb ?_
       refine zs 16 (bs 23 131071) zb ?_
       refine zs 17 (bs 23 262143) zb ?_
       refine zs 18 (bs 23 524287) zb ?_
       refine zs 19 (bs 23 1048575) zb ?_
       refine zs 20 (bs 23 2097151) zb ?_
       refine zs 21 (bs 23 4194303) zb ?_
       refine zx 22 (bs 23 8388607) (.bool false) zb ?_
       refine wpAnyH_done (by kernel_rfl) ?_ _
       have H279 := zH (show Hp w w150.drew [.blk X1 27 (rc ry), ro 27 4 (some ⟨g129, 0, none⟩) (m + 1) cp130 MkE.cx (Stb.ins ltK es ey), ro 3 1 (some ⟨g137, 0, none⟩) (m + 1) cp138 MkE.cu (Stb.ins ltK es ey), ro 71 4 (some ⟨ge, 0, none⟩) ((edgesOf rs).length) ce edC (edgesOf rs), .blk X50 53 [.int .i64 ax, .int .i64 ay], .blk Y51 53 [.int .i64 bx, .int .i64 bY], .blk X73 27 (rc r71), .blk Y74 27 (rc r72), .blk X118 27 (rc r112)] from by rw [Stb.ins_stop wkK HSRT.out HALL.out (Nat.zero_le _) (Or.inl rfl)]; exact H273.out)
       have DD280 := zH (((((((((((((((((((D35.out.trans D40.out).trans D53.out).trans D59.out).trans D63.out).trans D66.out).trans D76.out).trans D82.out).trans D86.out).trans D94.out).trans D99.out).trans D105.out).trans D113.out).trans D120.out).trans D124.out).trans D131.out).trans D139.out).trans D152.out).trans D273.out))
       go_wp2_with fail
       go_roundg ((edgesOf rs).length - (i + 1))
       case measure => exact (by omega)
       case rel => exact ⟨i + 1, m + 1, Stb.ins ltK es ey, some ⟨g129, 0, none⟩, cp130, some ⟨g137, 0, none⟩, cp138, rfl, rfl, rfl, (by go_num), hlt, ⟨by rw [Stb.ins_len, HM.out.1], by have := HM.out.2; omega⟩, HINS.out, (fun g_ hg_ => by rw [Stb.ins_stop wkK HSRT.out HALL.out (Nat.zero_le _) (Or.inl rfl)] at hg_; exact ((HOK2.out g_ hg_).dig D273.out)), H279.out.take 4, DD280.out⟩
     have C2 := zH c91
     clear c91
     go_upto_region 12 with fail
     refine wp_region_lit ?_
     refine zd X73 (0) (rc r71) (H86.out.range (i := 6) (by rfl) 0 4) Tryz.underlying27 ?_
     refine zd X1 (0) (rc ry) (H86.out.range (i := 0) (by rfl) 0 4) Tryz.underlying27 ?_
     have DD282 := zH ((D82.out.trans D86.out))
     refine zc (less_any 60000 _ _ (((ay) : Int) : Rat) y _ (RV.Is.nin (R71.out.dig DD282.out) (Nat.le_trans B71.out (by omega))) (RV.In.nin (RV.In.mono (RY.out.dig H86.out.dig0) (by omega))) (by omega)) ?_
     rintro e w281 ⟨rfl, hx⟩
     have H283 := zH (H86.out.step hx)
     have D283 := zH (Dig.of_ext hx)
     clear hx
     refine ⟨.bool true, by rw [dec_t C1.out], ?_⟩
     try simp only [Act.put, zA, zB, zC]
     refine qV (.bool true) ?_
     refine zd X1 (0) (rc ry) (H283.out.range (i := 0) (by rfl) 0 4) Tryz.underlying27 ?_
     refine zd Y74 (0) (rc r72) (H283.out.range (i := 7) (by rfl) 0 4) Tryz.underlying27 ?_
     have DD287 := zH ((DD282.out.trans D283.out))
     refine zc (less_any 60000 _ _ y (((bY) : Int) : Rat) _ (RV.In.nin (RV.In.mono (RY.out.dig H283.out.dig0) (by omega))) (RV.Is.nin (R72.out.dig DD287.out) (Nat.le_trans B72.out (by omega))) (by omega)) ?_
     rintro e w286 ⟨rfl, hx⟩
     have H288 := zH (H283.out.step hx)
     have D288 := zH (Dig.of_ext hx)
     clear hx
     refine ⟨.bool false, by rw [dec_f C2.out], ?_⟩
     try simp only [Act.put, zA, zB, zC]
     refine zq (.bool false) ?_
     by_cases c291 : ((bY : Int) : Rat) < y
     ·have C3 := zH c291
      clear c291
      go_upto_region 14 with fail
      refine wp_region_lit ?_
      refine zd Y74 (0) (rc r72) (H288.out.range (i := 7) (by rfl) 0 4) Tryz.underlying27 ?_
      refine zd X1 (0) (rc ry) (H288.out.range (i := 0) (by rfl) 0 4) Tryz.underlying27 ?_
      have DD293 := zH ((DD287.out.trans D288.out))
      refine zc (less_any 60000 _ _ (((bY) : Int) : Rat) y _ (RV.Is.nin (R72.out.dig DD293.out) (Nat.le_trans B72.out (by omega))) (RV.In.nin (RV.In.mono (RY.out.dig H288.out.dig0) (by omega))) (by omega)) ?_
      rintro e w292 ⟨rfl, hx⟩
      have H294 := zH (H288.out.step hx)
      have D294 := zH (Dig.of_ext hx)
      clear hx
      refine ⟨.bool true, by rw [dec_t C3.out], ?_⟩
      try simp only [Act.put, zA, zB, zC]
      refine qV (.bool true) ?_
      refine zd X1 (0) (rc ry) (H294.out.range (i := 0) (by rfl) 0 4) Tryz.underlying27 ?_
      refine zd X73 (0) (rc r71) (H294.out.range (i := 6) (by rfl) 0 4) Tryz.underlying27 ?_
      have DD298 := zH ((DD293.out.trans D294.out))
      refine zc (less_any 60000 _ _ y (((ay) : Int) : Rat) _ (RV.In.nin (RV.In.mono (RY.out.dig H294.out.dig0) (by omega))) (RV.Is.nin (R71.out.dig DD298.out) (Nat.le_trans B71.out (by omega))) (by omega)) ?_
      rintro e w297 ⟨rfl, hx⟩
      have H299 := zH (H294.out.step hx)
      have D299 := zH (Dig.of_ext hx)
      clear hx
      refine ⟨.bool false, by rw [dec_f (fun h_ => absurd h_ (Rat.not_lt.2 (Rat.le_of_lt C1.out)))], ?_⟩
      try simp only [Act.put, zA, zB, zC]
      refine zq (.bool false) ?_
      go_upto_region 16 with fail
      refine wp_region_lit ?_
      refine zq (.int .i64 0) ?_
      refine zp (w' := w297) (.bool true) (by exact ezq (e := (dec_t (by omega)))) ?_
      have DD304 := zH ((((((((((((D40.out.trans D53.out).trans D59.out).trans D63.out).trans D66.out).trans D76.out).trans D82.out).trans D86.out).trans D283.out).trans D288.out).trans D294.out).trans D299.out))
      have DD305 := zH (((((((((((((D35.out.trans D40.out).trans D53.out).trans D59.out).trans D63.out).trans D66.out).trans D76.out).trans D82.out).trans D86.out).trans D283.out).trans D288.out).trans D294.out).trans D299.out))
      go_wp2_with fail
      go_roundg ((edgesOf rs).length - (i + 1))
      case measure => exact (by omega)
      case rel => exact ⟨i + 1, m, es, A1, c1, A2, c2, rfl, rfl, rfl, (by go_num), hlt, ⟨HM.out.1, by have := HM.out.2; omega⟩, (by rw [HVL.out, crs_none HE.out (cross_no (a := (ax, ay)) (b := (bx, bY)) (fun h_ => C2.out h_.2) (fun h_ => absurd h_.2 (Rat.not_lt.2 (Rat.le_of_lt C1.out))))]), (fun g_ hg_ => (HOE.out g_ hg_).dig DD304.out), H299.out.take 4, DD305.out⟩
     have C3 := zH c291
     clear c291
     go_upto_region 14 with fail
     refine wp_region_lit ?_
     refine zd Y74 (0) (rc r72) (H288.out.range (i := 7) (by rfl) 0 4) Tryz.underlying27 ?_
     refine zd X1 (0) (rc ry) (H288.out.range (i := 0) (by rfl) 0 4) Tryz.underlying27 ?_
     have DD307 := zH ((DD287.out.trans D288.out))
     refine zc (less_any 60000 _ _ (((bY) : Int) : Rat) y _ (RV.Is.nin (R72.out.dig DD307.out) (Nat.le_trans B72.out (by omega))) (RV.In.nin (RV.In.mono (RY.out.dig H288.out.dig0) (by omega))) (by omega)) ?_
     rintro e w306 ⟨rfl, hx⟩
     have H308 := zH (H288.out.step hx)
     have D308 := zH (Dig.of_ext hx)
     clear hx
     refine ⟨.bool false, by rw [dec_f C3.out], ?_⟩
     try simp only [Act.put, zA, zB, zC]
     refine zq (.bool false) ?_
     refine zk ?_
     refine zk ?_
     refine zk ?_
     refine zq (.bool false) ?_
     go_upto_region 16 with fail
     refine wp_region_lit ?_
     refine zq (.int .i64 0) ?_
     refine zp (w' := w306) (.bool true) (by exact ezq (e := (dec_t (by omega)))) ?_
     have DD314 := zH (((((((((((D40.out.trans D53.out).trans D59.out).trans D63.out).trans D66.out).trans D76.out).trans D82.out).trans D86.out).trans D283.out).trans D288.out).trans D308.out))
     have DD315 := zH ((((((((((((D35.out.trans D40.out).trans D53.out).trans D59.out).trans D63.out).trans D66.out).trans D76.out).trans D82.out).trans D86.out).trans D283.out).trans D288.out).trans D308.out))
     go_wp2_with fail
     go_roundg ((edgesOf rs).length - (i + 1))
     case measure => exact (by omega)
     case rel => exact ⟨i + 1, m, es, A1, c1, A2, c2, rfl, rfl, rfl, (by go_num), hlt, ⟨HM.out.1, by have := HM.out.2; omega⟩, (by rw [HVL.out, crs_none HE.out (cross_no (a := (ax, ay)) (b := (bx, bY)) (fun h_ => C2.out h_.2) (fun h_ => C3.out h_.1))]), (fun g_ hg_ => (HOE.out g_ hg_).dig DD314.out), H308.out.take 4, DD315.out⟩
    have C1 := zH c90
    clear c90
    go_upto_region 12 with fail
    refine wp_region_lit ?_
    refine zd X73 (0) (rc r71) (H86.out.range (i := 6) (by rfl) 0 4) Tryz.underlying27 ?_
    refine zd X1 (0) (rc ry) (H86.out.range (i := 0) (by rfl) 0 4) Tryz.underlying27 ?_
    have DD317 := zH ((D82.out.trans D86.out))
    refine zc (less_any 60000 _ _ (((ay) : Int) : Rat) y _ (RV.Is.nin (R71.out.dig DD317.out) (Nat.le_trans B71.out (by omega))) (RV.In.nin (RV.In.mono (RY.out.dig H86.out.dig0) (by omega))) (by omega)) ?_
    rintro e w316 ⟨rfl, hx⟩
    have H318 := zH (H86.out.step hx)
    have D318 := zH (Dig.of_ext hx)
    clear hx
    refine ⟨.bool false, by rw [dec_f C1.out], ?_⟩
    try simp only [Act.put, zA, zB, zC]
    refine zq (.bool false) ?_
    refine zk ?_
    refine zk ?_
    refine zk ?_
    refine zq (.bool false) ?_
    by_cases c322 : ((bY : Int) : Rat) < y
    ·have C3 := zH c322
     clear c322
     by_cases c323 : y < ((ay : Int) : Rat)
     ·have C4 := zH c323
      clear c323
      go_upto_region 14 with fail
      refine wp_region_lit ?_
      refine zd Y74 (0) (rc r72) (H318.out.range (i := 7) (by rfl) 0 4) Tryz.underlying27 ?_
      refine zd X1 (0) (rc ry) (H318.out.range (i := 0) (by rfl) 0 4) Tryz.underlying27 ?_
      have DD325 := zH ((DD317.out.trans D318.out))
      refine zc (less_any 60000 _ _ (((bY) : Int) : Rat) y _ (RV.Is.nin (R72.out.dig DD325.out) (Nat.le_trans B72.out (by omega))) (RV.In.nin (RV.In.mono (RY.out.dig H318.out.dig0) (by omega))) (by omega)) ?_
      rintro e w324 ⟨rfl, hx⟩
      have H326 := zH (H318.out.step hx)
      have D326 := zH (Dig.of_ext hx)
      clear hx
      refine ⟨.bool true, by rw [dec_t C3.out], ?_⟩
      try simp only [Act.put, zA, zB, zC]
      refine qV (.bool true) ?_
      refine zd X1 (0) (rc ry) (H326.out.range (i := 0) (by rfl) 0 4) Tryz.underlying27 ?_
      refine zd X73 (0) (rc r71) (H326.out.range (i := 6) (by rfl) 0 4) Tryz.underlying27 ?_
      have DD330 := zH ((DD325.out.trans D326.out))
      refine zc (less_any 60000 _ _ y (((ay) : Int) : Rat) _ (RV.In.nin (RV.In.mono (RY.out.dig H326.out.dig0) (by omega))) (RV.Is.nin (R71.out.dig DD330.out) (Nat.le_trans B71.out (by omega))) (by omega)) ?_
      rintro e w329 ⟨rfl, hx⟩
      have H331 := zH (H326.out.step hx)
      have D331 := zH (Dig.of_ext hx)
      clear hx
      refine ⟨.bool true, by rw [dec_t C4.out], ?_⟩
      try simp only [Act.put, zA, zB, zC]
      refine zq (.bool true) ?_
      go_upto_region 15 with fail
      refine wp_region_lit ?_
      refine zq (.int .i64 (-1)) ?_
      go_upto_region 16 with fail
      refine wp_region_lit ?_
      refine zq (.int .i64 (-1)) ?_
      refine zp (w' := w329) (.bool false) (by exact ezq (e := (dec_f (by omega)))) ?_
      go_upto_region 17 with fail
      refine wp_region_lit ?_
      refine zd X50 (0) [.int .i64 ax, .int .i64 ay] (H331.out.range (i := 4) (by rfl) 0 2) Tryz.underlying53 ?_
      refine zd Y51 (0) [.int .i64 bx, .int .i64 bY] (H331.out.range (i := 5) (by rfl) 0 2) Tryz.underlying53 ?_
      refine zd X1 (0) (rc ry) (H331.out.range (i := 0) (by rfl) 0 4) Tryz.underlying27 ?_
      refine zc (rxat_any L ax ay bx bY ry y _ (RY.out.dig H331.out.dig0) h1L hL HOA.out HOB.out (xat_pre (.inr ⟨C3.out, C4.out⟩)).1 (xat_pre (.inr ⟨C3.out, C4.out⟩)).2.1 (xat_pre (.inr ⟨C3.out, C4.out⟩)).2.2) ?_
      rintro e w337 ⟨r338, rfl, hr_, hx⟩
      have H339 := zH (H331.out.step hx)
      have D339 := zH (Dig.of_ext hx)
      have R338 := zH hr_
      have B338 := zH (rl_xat (ax := ax) (bx := bx) HOA.out HOB.out RY.out.rl)
      clear hr_
      clear hx
      refine zn ?_
      refine qV (.tuple #[.agg #[.bool r338.n, .slice r338.p r338.l r338.c, .bool r338.m, .slice r338.p2 r338.l2 r338.c2], .bool true]) ?_
      refine zq (.agg #[.bool r338.n, .slice r338.p r338.l r338.c, .bool r338.m, .slice r338.p2 r338.l2 r338.c2]) ?_
      refine zq (.bool true) ?_
      refine mv_alloc (T := 27) (zs := [.bool false, .slice none 0 0, .bool false, .slice none 0 0]) (by rfl) (by go_simp) H339.out (by simp [NoUL]) ?_
      intro X344 w345 hh hx hge
      have H346 := zH (show Hp w w345 [.blk X1 27 (rc ry), ro 27 4 A1 m c1 MkE.cx es, ro 3 1 A2 m c2 MkE.cu es, ro 71 4 (some ⟨ge, 0, none⟩) ((edgesOf rs).length) ce edC (edgesOf rs), .blk X50 53 [.int .i64 ax, .int .i64 ay], .blk Y51 53 [.int .i64 bx, .int .i64 bY], .blk X73 27 (rc r71), .blk Y74 27 (rc r72), .blk X344 27 rz] from hh)
      have D346 := zH (Dig.of_ext hx)
      clear hh hx hge
      try simp only [Act.put, zA, zB, zC]
      refine mv_st (by rfl) _ _ _ (by rfl) H346.out (ix := 8) (by rfl) 0 [.bool r338.n, .slice r338.p r338.l r338.c, .bool r338.m, .slice r338.p2 r338.l2 r338.c2] (by rfl) (by rfl) (by simp) (by kernel_rfl) (by simp [Value.oneCell']) (by simp [NoUL]) ?_
      intro w349 hh hd ho
      have H350 := zH (show Hp w w349 [.blk X1 27 (rc ry), ro 27 4 A1 m c1 MkE.cx es, ro 3 1 A2 m c2 MkE.cu es, ro 71 4 (some ⟨ge, 0, none⟩) ((edgesOf rs).length) ce edC (edgesOf rs), .blk X50 53 [.int .i64 ax, .int .i64 ay], .blk Y51 53 [.int .i64 bx, .int .i64 bY], .blk X73 27 (rc r71), .blk Y74 27 (rc r72), .blk X344 27 (rc r338)] from hh)
      have D350 := zH (hd)
      clear hh hd ho
      (try simp only [Act.put])
      refine zq (.bool true) ?_
      go_upto_region 18 with fail
      refine wp_region_lit ?_
      refine qV (.slice A1 m c1) ?_
      refine zd X344 (0) (rc r338) (H350.out.range (i := 8) (by rfl) 0 4) Tryz.underlying27 ?_
      refine zp (w' := (w349.alloc (.cells ([.bool r338.n, .slice r338.p r338.l r338.c, .bool r338.m, .slice r338.p2 r338.l2 r338.c2] : List Value).toArray 27))) (.slice (some ⟨w349.heap.size, 0, none⟩) 1 1) (by go_simp) ?_
      refine mv_app (by rfl) _ _ _ (by rfl) elRat (by rfl) H350.out (ix := 1) (by rfl) 1 1 [.bool r338.n, .slice r338.p r338.l r338.c, .bool r338.m, .slice r338.p2 r338.l2 r338.c2] (by rfl) rfl (by simp [Value.oneCell']) (by simp [NoUL]) (by decide) (by unfold maxLen; exact (by omega)) (by omega) ?_
      intro g355 cp356 w354 hf hh hd hg
      have Fg355 := zH hf
      clear hf
      rw [show List.flatMap MkE.cx es ++ [.bool r338.n, .slice r338.p r338.l r338.c, .bool r338.m, .slice r338.p2 r338.l2 r338.c2] = List.flatMap MkE.cx (es ++ [(⟨r338, (xatV ax ay bx bY y), (-1)⟩ : MkE)]) from flat_snoc MkE.cx _ (⟨r338, (xatV ax ay bx bY y), (-1)⟩ : MkE)] at hh
      have H357 := zH (show Hp w w354 [.blk X1 27 (rc ry), ro 27 4 (some ⟨g355, 0, none⟩) (m + 1) cp356 MkE.cx (es ++ [(⟨r338, (xatV ax ay bx bY y), (-1)⟩ : MkE)]), ro 3 1 A2 m c2 MkE.cu es, ro 71 4 (some ⟨ge, 0, none⟩) ((edgesOf rs).length) ce edC (edgesOf rs), .blk X50 53 [.int .i64 ax, .int .i64 ay], .blk Y51 53 [.int .i64 bx, .int .i64 bY], .blk X73 27 (rc r71), .blk Y74 27 (rc r72), .blk X344 27 (rc r338)] from hh)
      have D357 := zH (hd)
      clear hh hd hg
      try simp only [Act.put, zA, zB, zC]
      refine zq (.slice (some ⟨g355, 0, none⟩) (m + 1) cp356) ?_
      go_upto_region 19 with fail
      refine wp_region_lit ?_
      refine qV (.slice A2 m c2) ?_
      refine zq (.int .i64 (-1)) ?_
      refine zp (w' := (w354.alloc (.cells ([.int .i64 (-1)] : List Value).toArray 3))) (.slice (some ⟨w354.heap.size, 0, none⟩) 1 1) (by go_simp) ?_
      refine mv_app (by rfl) _ _ _ (by rfl) elInt (by rfl) H357.out (ix := 2) (by rfl) 1 1 [.int .i64 (-1)] (by rfl) rfl (by simp [Value.oneCell']) (by simp [NoUL]) (by decide) (by unfold maxLen; exact (by omega)) (by omega) ?_
      intro g363 cp364 w362 hf hh hd hg
      have Fg363 := zH hf
      clear hf
      rw [show List.flatMap MkE.cu es ++ [.int .i64 (-1)] = List.flatMap MkE.cu (es ++ [(⟨r338, (xatV ax ay bx bY y), (-1)⟩ : MkE)]) from flat_snoc MkE.cu _ (⟨r338, (xatV ax ay bx bY y), (-1)⟩ : MkE)] at hh
      have H365 := zH (show Hp w w362 [.blk X1 27 (rc ry), ro 27 4 (some ⟨g355, 0, none⟩) (m + 1) cp356 MkE.cx (es ++ [(⟨r338, (xatV ax ay bx bY y), (-1)⟩ : MkE)]), ro 3 1 (some ⟨g363, 0, none⟩) (m + 1) cp364 MkE.cu (es ++ [(⟨r338, (xatV ax ay bx bY y), (-1)⟩ : MkE)]), ro 71 4 (some ⟨ge, 0, none⟩) ((edgesOf rs).length) ce edC (edgesOf rs), .blk X50 53 [.int .i64 ax, .int .i64 ay], .blk Y51 53 [.int .i64 bx, .int .i64 bY], .blk X73 27 (rc r71), .blk Y74 27 (rc r72), .blk X344 27 (rc r338)] from hh)
      have D365 := zH (hd)
      clear hh hd hg
      try simp only [Act.put, zA, zB, zC]
      refine zq (.slice (some ⟨g363, 0, none⟩) (m + 1) cp364) ?_
      obtain ⟨ey, hey_⟩ : ∃ ey : MkE, ey = (⟨r338, (xatV ax ay bx bY y), (-1)⟩ : MkE) := ⟨_, rfl⟩
      have HZ := zH hey_
      have H368 := zH (show Hp w w362 [.blk X1 27 (rc ry), ro 27 4 (some ⟨g355, 0, none⟩) (m + 1) cp356 MkE.cx (es.take m ++ ey :: es.drop m), ro 3 1 (some ⟨g363, 0, none⟩) (m + 1) cp364 MkE.cu (es.take m ++ ey :: es.drop m), ro 71 4 (some ⟨ge, 0, none⟩) ((edgesOf rs).length) ce edC (edgesOf rs), .blk X50 53 [.int .i64 ax, .int .i64 ay], .blk Y51 53 [.int .i64 bx, .int .i64 bY], .blk X73 27 (rc r71), .blk Y74 27 (rc r72), .blk X344 27 (rc r338)] from by rw [show es.take m ++ ey :: es.drop m = es ++ [(⟨r338, (xatV ax ay bx bY y), (-1)⟩ : MkE)] by rw [List.take_of_length_le (by have := HM.out.1; omega), List.drop_of_length_le (by have := HM.out.1; omega), HZ.out]]; exact H365.out)
      have DD369 := zH ((((D346.out.trans D350.out).trans D357.out).trans D365.out))
      have HOY := zH (show ey.Ok (L + 8) w362 from by rw [HZ.out]; exact ⟨(R338.out.dig DD369.out), (show Nm.rl (xatV ax ay bx bY y) ≤ L + 8 by have q_ := B338.out; omega), (show (-1 : Int) ≤ (-1) by decide), (show (-1) ≤ (1 : Int) by decide)⟩)
      have HVY := zH (show ey.vl = (xatV ax ay bx bY y, (-1)) from by rw [HZ.out]; rfl)
      have HINS := zH (show (Stb.ins ltK es ey).map MkE.vl = Stb.stab ltM (((edgesOf rs).take (i + 1)).filterMap (crossV y)) by rw [crs_some HE.out (cross_down (a := (ax, ay)) (b := (bx, bY)) ⟨C3.out, C4.out⟩), ← HVL.out, ← HVY.out]; exact ins_map MkE.vl (fun _ _ => rfl) es ey)
      have HSRT := zH (show Stb.Srt ltK es from srt_mk (by rw [HVL.out]; exact Stb.stab_srt wkM _))
      go_upto_region 20 with fail
      refine wp_region_lit ?_
      refine qV (.slice (some ⟨g355, 0, none⟩) (m + 1) cp356) ?_
      refine zq (.int .i64 ((m + 1 : Nat) : Int)) ?_
      refine zp (w' := w362) (.int .i64 (m : Int)) (by exact ez2 (by omega)) ?_
      refine zq (.int .i64 (m : Int)) ?_
      have DD374 := zH ((((((((((((((((D40.out.trans D53.out).trans D59.out).trans D63.out).trans D66.out).trans D76.out).trans D82.out).trans D86.out).trans D318.out).trans D326.out).trans D331.out).trans D339.out).trans D346.out).trans D350.out).trans D357.out).trans D365.out))
      go_wp2_with fail
      go_loopg [17] (m + 1) (fun cq v375 wr => ∃ (t : Nat) (u : Nat), cq = (m + 1) - t ∧ v375 = .int .i64 (u : Int) ∧ (t + u = m) ∧ (∀ z, z ∈ es.drop u → ltK ey z = true) ∧ (∀ e, e ∈ es.take u ++ ey :: es.drop u → e.Ok (L + 8) wr) ∧ Hp w wr [.blk X1 27 [.bool ry.n, .slice ry.p ry.l ry.c, .bool ry.m, .slice ry.p2 ry.l2 ry.c2], .row 27 4 (.slice (some ⟨g355, 0, none⟩) (m + 1) cp356) (m + 1) (List.flatMap MkE.cx (es.take u ++ ey :: es.drop u)), .row 3 1 (.slice (some ⟨g363, 0, none⟩) (m + 1) cp364) (m + 1) (List.flatMap MkE.cu (es.take u ++ ey :: es.drop u)), .row 71 4 (.slice (some ⟨ge, 0, none⟩) ((edgesOf rs).length) ce) ((edgesOf rs).length) (List.flatMap edC (edgesOf rs)), .blk X50 53 [.int .i64 ax, .int .i64 ay], .blk Y51 53 [.int .i64 bx, .int .i64 bY], .blk X73 27 [.bool r71.n, .slice r71.p r71.l r71.c, .bool r71.m, .slice r71.p2 r71.l2 r71.c2], .blk Y74 27 [.bool r72.n, .slice r72.p r72.l r72.c, .bool r72.m, .slice r72.p2 r72.l2 r72.c2], .blk X344 27 [.bool r338.n, .slice r338.p r338.l r338.c, .bool r338.m, .slice r338.p2 r338.l2 r338.c2]] ∧ Dig w362 wr)
      case atStart => exact ⟨0, m, rfl, rfl, Nat.zero_add _, (fun z_ hz_ => by rw [List.drop_of_length_le (by have := HM.out.1; omega)] at hz_; simp at hz_), (fun g_ hg_ => by rw [List.take_of_length_le (by have := HM.out.1; omega), List.drop_of_length_le (by have := HM.out.1; omega)] at hg_; exact (List.mem_append.1 hg_).elim (fun hg_ => (HOE.out g_ hg_).dig DD374.out) (fun hg_ => by rw [List.mem_singleton.1 hg_]; exact HOY.out)), H368.out, Dig.refl _⟩
      case round =>
       obtain ⟨t, u, rfl, rfl, q_HTU, q_HALL, q_HOK2, hh_, hd_⟩ := hrel
       generalize wr = w376 at *
       have HTU := zH q_HTU
       clear q_HTU
       have HALL := zH q_HALL
       clear q_HALL
       have HOK2 := zH q_HOK2
       clear q_HOK2
       have H378 := zH hh_
       have D378 := zH hd_
       clear hh_ hd_ H368
       by_cases c379 : 0 < u
       ·have HU0 := zH c379
        clear c379
        have hu0 := HU0.out
        obtain ⟨q, rfl⟩ : ∃ q, u = q + 1 := ⟨u - 1, by omega⟩
        have HTQ := zH (show q < es.length by have h1 := HTU.out; have h2 := HM.out.1; omega)
        have hqm : q < m := by have h1 := HTU.out; omega
        obtain ⟨gx_, gy_, gs_, gz_⟩ := ins_at (y := ey) HTQ.out
        obtain ⟨ex, hex_⟩ : ∃ ex, ex = es[q]'HTQ.out := ⟨_, rfl⟩
        rw [← hex_] at gx_ gs_ gz_
        have HXE := zH hex_
        have GX := zH gx_
        have GY := zH gy_
        have GS := zH gs_
        have GZ := zH gz_
        have HLX := zH (List.getElem?_eq_some_iff.1 gx_).1
        have HLY := zH (List.getElem?_eq_some_iff.1 gy_).1
        clear gx_ gy_ gs_ gz_ hex_
        have OX := zH (HOK2.out ex (List.mem_of_getElem? GX.out))
        have OY := zH (HOK2.out ey (List.mem_of_getElem? GY.out))
        have RX := zH OX.out.1
        have RZ := zH OY.out.1
        have BX := zH OX.out.2.1
        have BZ := zH OY.out.2.1
        have HXS := zH OX.out.2.2
        have HYS := zH OY.out.2.2
        have hv380 := HEL.out
        have hv381 := HM.out.2
        have hv382 := HXS.out
        have hv383 := HYS.out
        rcases hcb_ : ltK ey ex with _ | _
        ·have CB := zH hcb_
         clear hcb_
         go_upto_region 21 with fail
         refine zy ?_
         have H384 := zH (H378.out.step (Ext.refl w376).drew)
         have D384 := zH (Dig.of_ext (w := w376) zb)
         refine zx 0 (bs 23 1) (.int .i64 ((q + 1 : Nat) : Int)) zb ?_
         refine zu 1 (bs 23 3) (v := .bool true) zb ?_ (hv := by intro w hSw; exact ezg (e := (dec_t (by omega))))
         refine zx 2 (bs 23 7) (.bool true) zb ?_
         refine zx 3 (bs 23 15) (.slice (some ⟨g355, 0, none⟩) (m + 1) cp356) zb ?_
         refine zx 4 (bs 23 31) (.int .i64 ((q + 1 : Nat) : Int)) zb ?_
         refine zo 5 (bs 23 63) (v := .pointer (some ⟨g355, (q + 1) * 4, none⟩)) zb ?_ (hv := by intro w hSw; exact ezi (k := q + 1) Tryz.underlying41 (l := (show q + 1 < m + 1 by omega)) (f := (Nat.zero_add _).symm))
         refine zg 6 (bs 23 127) g355 ((q + 1) * 4) (rc ey.a) (H378.out.elem (f := MkE.cx) (i := 1) (by rfl) MkE.cx_len GY.out) Tryz.underlying27 zb ?_
         refine zx 7 (bs 23 255) (.slice (some ⟨g363, 0, none⟩) (m + 1) cp364) zb ?_
         refine zx 8 (bs 23 511) (.int .i64 ((q + 1 : Nat) : Int)) zb ?_
         refine zu 9 (bs 23 1023) (v := .pointer (some ⟨g363, (q + 1) * 1, none⟩)) zb ?_ (hv := by intro w hSw; exact ezi (k := q + 1) Tryz.underlying42 (l := (show q + 1 < m + 1 by omega)) (f := (Nat.zero_add _).symm))
         refine zf 10 (bs 23 2047) g363 ((q + 1) * 1) (.int .i64 ey.up) (H378.out.elem (f := MkE.cu) (i := 2) (by rfl) MkE.cu_len GY.out) zb ?_
         refine zx 11 (bs 23 4095) (.slice (some ⟨g355, 0, none⟩) (m + 1) cp356) zb ?_
         refine zx 12 (bs 23 8191) (.int .i64 ((q + 1 : Nat) : Int)) zb ?_
         refine zu 13 (bs 23 16383) (v := .int .i64 (q : Int)) zb ?_ (hv := by intro w hSw; exact ez2 (by omega))
         refine zo 14 (bs 23 32767) (v := .pointer (some ⟨g355, q * 4, none⟩)) zb ?_ (hv := by intro w hSw; exact ezi (k := q) Tryz.underlying41 (l := (show q < m + 1 by omega)) (f := (Nat.zero_add _).symm))
         refine zg 15 (bs 23 65535) g355 (q * 4) (rc ex.a) (H378.out.elem (f := MkE.cx) (i := 1) (by rfl) MkE.cx_len GX.out) Tryz.underlying27 zb ?_
         refine zx 16 (bs 23 131071) (.slice (some ⟨g363, 0, none⟩) (m + 1) cp364) zb ?_
         refine zx 17 (bs 23 262143) (.int .i64 ((q + 1 : Nat) : Int)) zb ?_
         refine zu 18 (bs 23 524287) (v := .int .i64 (q : Int)) zb ?_ (hv := by intro w hSw; exact ez2 (by omega))
         refine zu 19 (bs 23 1048575) (v := .pointer (some ⟨g363, q * 1, none⟩)) zb ?_ (hv := by intro w hSw; exact ezi (k := q) Tryz.underlying42 (l := (show q < m + 1 by omega)) (f := (Nat.zero_add _).symm))
         refine zf 20 (bs 23 2097151) g363 (q * 1) (.int .i64 ex.up) (H378.out.elem (f := MkE.cu) (i := 2) (by rfl) MkE.cu_len GX.out) zb ?_
         refine mC 21 (bs 23 4194303) (before_any 60000 _ _ ey.q ex.q ey.up ex.up _ (RV.Is.nin (RZ.out.dig D384.out) (Nat.le_trans BZ.out (by omega))) (RV.Is.nin (RX.out.dig D384.out) (Nat.le_trans BX.out (by omega))) (by decide)) ?_
         rintro e w403 ⟨rfl, hx⟩
         have H404 := zH (H384.out.step hx)
         have D404 := zH (show Dig w376.drew w403 from Dig.of_ext hx)
         have S406 := zH (show Ext w376 w403 from zb.trans hx)
         clear hx
         refine ⟨.bool false, by rw [show beforeV ey.q ey.up ex.q ex.up = false from CB.out], S406.out, ?_⟩
         try simp only [Act.put, zA, zB, zC]
         refine zx 22 (bs 23 8388607) (.bool false) S406.out ?_
         refine wpAnyH_done (by kernel_rfl) ?_ _
         have H408 := zH (show Hp w w403 [.blk X1 27 (rc ry), ro 27 4 (some ⟨g355, 0, none⟩) (m + 1) cp356 MkE.cx (Stb.ins ltK es ey), ro 3 1 (some ⟨g363, 0, none⟩) (m + 1) cp364 MkE.cu (Stb.ins ltK es ey), ro 71 4 (some ⟨ge, 0, none⟩) ((edgesOf rs).length) ce edC (edgesOf rs), .blk X50 53 [.int .i64 ax, .int .i64 ay], .blk Y51 53 [.int .i64 bx, .int .i64 bY], .blk X73 27 (rc r71), .blk Y74 27 (rc r72), .blk X344 27 (rc r338)] from by rw [Stb.ins_stop wkK HSRT.out HALL.out (by have h1 := HTQ.out; omega) (Or.inr ⟨q, rfl, HTQ.out, by rw [← HXE.out]; exact CB.out⟩)]; exact H404.out)
         have DD409 := zH ((D384.out.trans D404.out))
         have DD410 := zH ((((((((((((((((((((D35.out.trans D40.out).trans D53.out).trans D59.out).trans D63.out).trans D66.out).trans D76.out).trans D82.out).trans D86.out).trans D318.out).trans D326.out).trans D331.out).trans D339.out).trans D346.out).trans D350.out).trans D357.out).trans D365.out).trans D378.out).trans D384.out).trans D404.out))
         go_wp2_with fail
         go_roundg ((edgesOf rs).length - (i + 1))
         case measure => exact (by omega)
         case rel => exact ⟨i + 1, m + 1, Stb.ins ltK es ey, some ⟨g355, 0, none⟩, cp356, some ⟨g363, 0, none⟩, cp364, rfl, rfl, rfl, (by go_num), hlt, ⟨by rw [Stb.ins_len, HM.out.1], by have := HM.out.2; omega⟩, HINS.out, (fun g_ hg_ => by rw [Stb.ins_stop wkK HSRT.out HALL.out (by have h1 := HTQ.out; omega) (Or.inr ⟨q, rfl, HTQ.out, by rw [← HXE.out]; exact CB.out⟩)] at hg_; exact ((HOK2.out g_ hg_).dig DD409.out)), H408.out.take 4, DD410.out⟩
        have CB := zH hcb_
        clear hcb_
        go_upto_region 21 with fail
        refine zy ?_
        have H411 := zH (H378.out.step (Ext.refl w376).drew)
        have D411 := zH (Dig.of_ext (w := w376) zb)
        refine zx 0 (bs 23 1) (.int .i64 ((q + 1 : Nat) : Int)) zb ?_
        refine zu 1 (bs 23 3) (v := .bool true) zb ?_ (hv := by intro w hSw; exact ezg (e := (dec_t (by omega))))
        refine zx 2 (bs 23 7) (.bool true) zb ?_
        refine zx 3 (bs 23 15) (.slice (some ⟨g355, 0, none⟩) (m + 1) cp356) zb ?_
        refine zx 4 (bs 23 31) (.int .i64 ((q + 1 : Nat) : Int)) zb ?_
        refine zo 5 (bs 23 63) (v := .pointer (some ⟨g355, (q + 1) * 4, none⟩)) zb ?_ (hv := by intro w hSw; exact ezi (k := q + 1) Tryz.underlying41 (l := (show q + 1 < m + 1 by omega)) (f := (Nat.zero_add _).symm))
        refine zg 6 (bs 23 127) g355 ((q + 1) * 4) (rc ey.a) (H378.out.elem (f := MkE.cx) (i := 1) (by rfl) MkE.cx_len GY.out) Tryz.underlying27 zb ?_
        refine zx 7 (bs 23 255) (.slice (some ⟨g363, 0, none⟩) (m + 1) cp364) zb ?_
        refine zx 8 (bs 23 511) (.int .i64 ((q + 1 : Nat) : Int)) zb ?_
        refine zu 9 (bs 23 1023) (v := .pointer (some ⟨g363, (q + 1) * 1, none⟩)) zb ?_ (hv := by intro w hSw; exact ezi (k := q + 1) Tryz.underlying42 (l := (show q + 1 < m + 1 by omega)) (f := (Nat.zero_add _).symm))
        refine zf 10 (bs 23 2047) g363 ((q + 1) * 1) (.int .i64 ey.up) (H378.out.elem (f := MkE.cu) (i := 2) (by rfl) MkE.cu_len GY.out) zb ?_
        refine zx 11 (bs 23 4095) (.slice (some ⟨g355, 0, none⟩) (m + 1) cp356) zb ?_
        refine zx 12 (bs 23 8191) (.int .i64 ((q + 1 : Nat) : Int)) zb ?_
        refine zu 13 (bs 23 16383) (v := .int .i64 (q : Int)) zb ?_ (hv := by intro w hSw; exact ez2 (by omega))
        refine zo 14 (bs 23 32767) (v := .pointer (some ⟨g355, q * 4, none⟩)) zb ?_ (hv := by intro w hSw; exact ezi (k := q) Tryz.underlying41 (l := (show q < m + 1 by omega)) (f := (Nat.zero_add _).symm))
        refine zg 15 (bs 23 65535) g355 (q * 4) (rc ex.a) (H378.out.elem (f := MkE.cx) (i := 1) (by rfl) MkE.cx_len GX.out) Tryz.underlying27 zb ?_
        refine zx 16 (bs 23 131071) (.slice (some ⟨g363, 0, none⟩) (m + 1) cp364) zb ?_
        refine zx 17 (bs 23 262143) (.int .i64 ((q + 1 : Nat) : Int)) zb ?_
        refine zu 18 (bs 23 524287) (v := .int .i64 (q : Int)) zb ?_ (hv := by intro w hSw; exact ez2 (by omega))
        refine zu 19 (bs 23 1048575) (v := .pointer (some ⟨g363, q * 1, none⟩)) zb ?_ (hv := by intro w hSw; exact ezi (k := q) Tryz.underlying42 (l := (show q < m + 1 by omega)) (f := (Nat.zero_add _).symm))
        refine zf 20 (bs 23 2097151) g363 (q * 1) (.int .i64 ex.up) (H378.out.elem (f := MkE.cu) (i := 2) (by rfl) MkE.cu_len GX.out) zb ?_
        refine mC 21 (bs 23 4194303) (before_any 60000 _ _ ey.q ex.q ey.up ex.up _ (RV.Is.nin (RZ.out.dig D411.out) (Nat.le_trans BZ.out (by omega))) (RV.Is.nin (RX.out.dig D411.out) (Nat.le_trans BX.out (by omega))) (by decide)) ?_
        rintro e w430 ⟨rfl, hx⟩
        have H431 := zH (H411.out.step hx)
        have D431 := zH (show Dig w376.drew w430 from Dig.of_ext hx)
        have S433 := zH (show Ext w376 w430 from zb.trans hx)
        clear hx
        refine ⟨.bool true, by rw [show beforeV ey.q ey.up ex.q ex.up = true from CB.out], S433.out, ?_⟩
        try simp only [Act.put, zA, zB, zC]
        refine zx 22 (bs 23 8388607) (.bool true) S433.out ?_
        refine wpAnyH_done (by kernel_rfl) ?_ _
        go_upto_region 23 with fail
        refine zy ?_
        have H435 := zH (H431.out.step (Ext.refl w430).drew)
        have D435 := zH (Dig.of_ext (w := w430) zb)
        refine zx 0 (bs 11 1) (.slice (some ⟨g355, 0, none⟩) (m + 1) cp356) zb ?_
        refine zx 1 (bs 11 3) (.int .i64 ((q + 1 : Nat) : Int)) zb ?_
        refine zo 2 (bs 11 7) (v := .pointer (some ⟨g355, (q + 1) * 4, none⟩)) zb ?_ (hv := by intro w hSw; exact ezi (k := q + 1) Tryz.underlying41 (l := (show q + 1 < m + 1 by omega)) (f := (Nat.zero_add _).symm))
        refine zg 3 (bs 11 15) g355 ((q + 1) * 4) (rc ey.a) (H431.out.elem (f := MkE.cx) (i := 1) (by rfl) MkE.cx_len GY.out) Tryz.underlying27 zb ?_
        refine zx 4 (bs 11 31) (.slice (some ⟨g363, 0, none⟩) (m + 1) cp364) zb ?_
        refine zx 5 (bs 11 63) (.int .i64 ((q + 1 : Nat) : Int)) zb ?_
        refine zu 6 (bs 11 127) (v := .pointer (some ⟨g363, (q + 1) * 1, none⟩)) zb ?_ (hv := by intro w hSw; exact ezi (k := q + 1) Tryz.underlying42 (l := (show q + 1 < m + 1 by omega)) (f := (Nat.zero_add _).symm))
        refine zf 7 (bs 11 255) g363 ((q + 1) * 1) (.int .i64 ey.up) (H431.out.elem (f := MkE.cu) (i := 2) (by rfl) MkE.cu_len GY.out) zb ?_
        refine md_alloc (T := 27) (zs := [.bool false, .slice none 0 0, .bool false, .slice none 0 0]) (i := 8) (listed' := (bs 11 511)) (by rfl) (by kernel_rfl) (by rfl) (by go_simp) (by kernel_rfl) H435.out (by simp [NoUL]) ?_
        intro X443 w444 hh hx hge
        have H445 := zH (show Hp w w444 [.blk X1 27 (rc ry), ro 27 4 (some ⟨g355, 0, none⟩) (m + 1) cp356 MkE.cx (es.take (q + 1) ++ ey :: es.drop (q + 1)), ro 3 1 (some ⟨g363, 0, none⟩) (m + 1) cp364 MkE.cu (es.take (q + 1) ++ ey :: es.drop (q + 1)), ro 71 4 (some ⟨ge, 0, none⟩) ((edgesOf rs).length) ce edC (edgesOf rs), .blk X50 53 [.int .i64 ax, .int .i64 ay], .blk Y51 53 [.int .i64 bx, .int .i64 bY], .blk X73 27 (rc r71), .blk Y74 27 (rc r72), .blk X344 27 (rc r338), .blk X443 27 rz] from hh)
        have D445 := zH (show Dig w430.drew w444 from Dig.of_ext hx)
        have S448 := zH (show Ext w430 w444 from zb.trans hx)
        have G447 := zH (show w430.heap.size ≤ X443 from Nat.le_trans zb.size hge)
        clear hh hx hge
        refine ⟨S448.out, ?_⟩
        try simp only [Act.put, zA, zB, zC]
        refine md_st (i := 9) (listed' := (bs 11 1023)) (by rfl) (by kernel_rfl) (by rfl) (by kernel_rfl) _ _ _ (by rfl) H445.out (ix := 9) (by rfl) 0 [.bool ey.a.n, .slice ey.a.p ey.a.l ey.a.c, .bool ey.a.m, .slice ey.a.p2 ey.a.l2 ey.a.c2] (by rfl) (by rfl) (by simp) (by kernel_rfl) (by simp [Value.oneCell']) (by simp [NoUL]) ?_
        intro w449 hh hd ho
        have H450 := zH (show Hp w w449 [.blk X1 27 (rc ry), ro 27 4 (some ⟨g355, 0, none⟩) (m + 1) cp356 MkE.cx (es.take (q + 1) ++ ey :: es.drop (q + 1)), ro 3 1 (some ⟨g363, 0, none⟩) (m + 1) cp364 MkE.cu (es.take (q + 1) ++ ey :: es.drop (q + 1)), ro 71 4 (some ⟨ge, 0, none⟩) ((edgesOf rs).length) ce edC (edgesOf rs), .blk X50 53 [.int .i64 ax, .int .i64 ay], .blk Y51 53 [.int .i64 bx, .int .i64 bY], .blk X73 27 (rc r71), .blk Y74 27 (rc r72), .blk X344 27 (rc r338), .blk X443 27 (rc ey.a)] from hh)
        have D450 := zH (hd)
        have S452 := zH (show Ext w430 w449 from Own.ext ho S448.out G447.out)
        clear hh hd ho
        refine ⟨S452.out, ?_⟩
        (try simp only [Act.put])
        refine zx 10 (bs 11 2047) (.int .i64 ey.up) S452.out ?_
        refine wpAnyH_done (by kernel_rfl) ?_ _
        go_upto_region 24 with fail
        refine wp_region_lit ?_
        refine qV (.slice (some ⟨g355, 0, none⟩) (m + 1) cp356) ?_
        refine zq (.int .i64 ((q + 1 : Nat) : Int)) ?_
        refine qV (.slice (some ⟨g355, 0, none⟩) (m + 1) cp356) ?_
        refine zq (.int .i64 ((q + 1 : Nat) : Int)) ?_
        refine zp (w' := w449) (.int .i64 (q : Int)) (by exact ez2 (by omega)) ?_
        refine zp (w' := w449) (.pointer (some ⟨g355, q * 4, none⟩)) (by exact ezi (k := q) Tryz.underlying41 (l := (show q < m + 1 by omega)) (f := (Nat.zero_add _).symm)) ?_
        refine zd g355 (q * 4) (rc ex.a) (H450.out.elem (f := MkE.cx) (i := 1) (by rfl) MkE.cx_len GX.out) Tryz.underlying27 ?_
        refine zp (w' := w449) (.pointer (some ⟨g355, (q + 1) * 4, none⟩)) (by exact ezi (k := q + 1) Tryz.underlying41 (l := (show q + 1 < m + 1 by omega)) (f := (Nat.zero_add _).symm)) ?_
        refine mv_stElem (f := MkE.cx) (by rfl) _ _ _ (by rfl) H450.out (ix := 1) (by rfl) MkE.cx_len (q + 1) ex HLY.out [.bool ex.a.n, .slice ex.a.p ex.a.l ex.a.c, .bool ex.a.m, .slice ex.a.p2 ex.a.l2 ex.a.c2] (by rfl) ((q + 1) * 4) (by rfl) (by rfl) (by rfl) (by kernel_rfl) (by simp [Value.oneCell']) (by simp [NoUL]) ?_
        intro w462 hh hd ho
        have H463 := zH (show Hp w w462 [.blk X1 27 (rc ry), ro 27 4 (some ⟨g355, 0, none⟩) (m + 1) cp356 MkE.cx ((es.take (q + 1) ++ ey :: es.drop (q + 1)).set (q + 1) ex), ro 3 1 (some ⟨g363, 0, none⟩) (m + 1) cp364 MkE.cu (es.take (q + 1) ++ ey :: es.drop (q + 1)), ro 71 4 (some ⟨ge, 0, none⟩) ((edgesOf rs).length) ce edC (edgesOf rs), .blk X50 53 [.int .i64 ax, .int .i64 ay], .blk Y51 53 [.int .i64 bx, .int .i64 bY], .blk X73 27 (rc r71), .blk Y74 27 (rc r72), .blk X344 27 (rc r338), .blk X443 27 (rc ey.a)] from hh)
        have D463 := zH (hd)
        clear hh hd ho
        (try simp only [Act.put])
        go_upto_region 25 with fail
        refine wp_region_lit ?_
        refine qV (.slice (some ⟨g355, 0, none⟩) (m + 1) cp356) ?_
        refine zq (.int .i64 ((q + 1 : Nat) : Int)) ?_
        refine zp (w' := w462) (.int .i64 (q : Int)) (by exact ez2 (by omega)) ?_
        refine zd X443 (0) (rc ey.a) (H463.out.range (i := 9) (by rfl) 0 4) Tryz.underlying27 ?_
        refine zp (w' := w462) (.pointer (some ⟨g355, q * 4, none⟩)) (by exact ezi (k := q) Tryz.underlying41 (l := (show q < m + 1 by omega)) (f := (Nat.zero_add _).symm)) ?_
        refine mv_stElem (f := MkE.cx) (by rfl) _ _ _ (by rfl) H463.out (ix := 1) (by rfl) MkE.cx_len q ey (by rw [List.length_set]; exact HLX.out) [.bool ey.a.n, .slice ey.a.p ey.a.l ey.a.c, .bool ey.a.m, .slice ey.a.p2 ey.a.l2 ey.a.c2] (by rfl) (q * 4) (by rfl) (by rfl) (by rfl) (by kernel_rfl) (by simp [Value.oneCell']) (by simp [NoUL]) ?_
        intro w470 hh hd ho
        have H471 := zH (show Hp w w470 [.blk X1 27 (rc ry), ro 27 4 (some ⟨g355, 0, none⟩) (m + 1) cp356 MkE.cx (((es.take (q + 1) ++ ey :: es.drop (q + 1)).set (q + 1) ex).set q ey), ro 3 1 (some ⟨g363, 0, none⟩) (m + 1) cp364 MkE.cu (es.take (q + 1) ++ ey :: es.drop (q + 1)), ro 71 4 (some ⟨ge, 0, none⟩) ((edgesOf rs).length) ce edC (edgesOf rs), .blk X50 53 [.int .i64 ax, .int .i64 ay], .blk Y51 53 [.int .i64 bx, .int .i64 bY], .blk X73 27 (rc r71), .blk Y74 27 (rc r72), .blk X344 27 (rc r338), .blk X443 27 (rc ey.a)] from hh)
        have D471 := zH (hd)
        clear hh hd ho
        (try simp only [Act.put])
        go_upto_region 26 with fail
        refine wp_region_lit ?_
        refine qV (.slice (some ⟨g363, 0, none⟩) (m + 1) cp364) ?_
        refine zq (.int .i64 ((q + 1 : Nat) : Int)) ?_
        refine qV (.slice (some ⟨g363, 0, none⟩) (m + 1) cp364) ?_
        refine zq (.int .i64 ((q + 1 : Nat) : Int)) ?_
        refine zp (w' := w470) (.int .i64 (q : Int)) (by exact ez2 (by omega)) ?_
        refine zp (w' := w470) (.pointer (some ⟨g363, q * 1, none⟩)) (by exact ezi (k := q) Tryz.underlying42 (l := (show q < m + 1 by omega)) (f := (Nat.zero_add _).symm)) ?_
        refine ze g363 (q * 1) (.int .i64 ex.up) (H471.out.elem (f := MkE.cu) (i := 2) (by rfl) MkE.cu_len GX.out) ?_
        refine zp (w' := w470) (.pointer (some ⟨g363, (q + 1) * 1, none⟩)) (by exact ezi (k := q + 1) Tryz.underlying42 (l := (show q + 1 < m + 1 by omega)) (f := (Nat.zero_add _).symm)) ?_
        refine mv_stElem1 (f := MkE.cu) (by rfl) _ _ _ (by rfl) H471.out (ix := 2) (by rfl) MkE.cu_len (q + 1) ex HLY.out (.int .i64 ex.up) (by rfl) ((q + 1) * 1) (by rfl) (by rfl) (by rfl) (by kernel_rfl) (by simp [Value.cells]) (by simp [Value.oneCell']) (by simp [NoUL]) ?_
        intro w481 hh hd ho
        have H482 := zH (show Hp w w481 [.blk X1 27 (rc ry), ro 27 4 (some ⟨g355, 0, none⟩) (m + 1) cp356 MkE.cx (((es.take (q + 1) ++ ey :: es.drop (q + 1)).set (q + 1) ex).set q ey), ro 3 1 (some ⟨g363, 0, none⟩) (m + 1) cp364 MkE.cu ((es.take (q + 1) ++ ey :: es.drop (q + 1)).set (q + 1) ex), ro 71 4 (some ⟨ge, 0, none⟩) ((edgesOf rs).length) ce edC (edgesOf rs), .blk X50 53 [.int .i64 ax, .int .i64 ay], .blk Y51 53 [.int .i64 bx, .int .i64 bY], .blk X73 27 (rc r71), .blk Y74 27 (rc r72), .blk X344 27 (rc r338), .blk X443 27 (rc ey.a)] from hh)
        have D482 := zH (hd)
        clear hh hd ho
        (try simp only [Act.put])
        go_upto_region 27 with fail
        refine wp_region_lit ?_
        refine qV (.slice (some ⟨g363, 0, none⟩) (m + 1) cp364) ?_
        refine zq (.int .i64 ((q + 1 : Nat) : Int)) ?_
        refine zp (w' := w481) (.int .i64 (q : Int)) (by exact ez2 (by omega)) ?_
        refine zq (.int .i64 ey.up) ?_
        refine zp (w' := w481) (.pointer (some ⟨g363, q * 1, none⟩)) (by exact ezi (k := q) Tryz.underlying42 (l := (show q < m + 1 by omega)) (f := (Nat.zero_add _).symm)) ?_
        refine mv_stElem1 (f := MkE.cu) (by rfl) _ _ _ (by rfl) H482.out (ix := 2) (by rfl) MkE.cu_len q ey (by rw [List.length_set]; exact HLX.out) (.int .i64 ey.up) (by rfl) (q * 1) (by rfl) (by rfl) (by rfl) (by kernel_rfl) (by simp [Value.cells]) (by simp [Value.oneCell']) (by simp [NoUL]) ?_
        intro w490 hh hd ho
        have H491 := zH (show Hp w w490 [.blk X1 27 (rc ry), ro 27 4 (some ⟨g355, 0, none⟩) (m + 1) cp356 MkE.cx (((es.take (q + 1) ++ ey :: es.drop (q + 1)).set (q + 1) ex).set q ey), ro 3 1 (some ⟨g363, 0, none⟩) (m + 1) cp364 MkE.cu (((es.take (q + 1) ++ ey :: es.drop (q + 1)).set (q + 1) ex).set q ey), ro 71 4 (some ⟨ge, 0, none⟩) ((edgesOf rs).length) ce edC (edgesOf rs), .blk X50 53 [.int .i64 ax, .int .i64 ay], .blk Y51 53 [.int .i64 bx, .int .i64 bY], .blk X73 27 (rc r71), .blk Y74 27 (rc r72), .blk X344 27 (rc r338), .blk X443 27 (rc ey.a)] from hh)
        have D491 := zH (hd)
        clear hh hd ho
        (try simp only [Act.put])
        go_upto_region 22 with fail
        refine wp_region_lit ?_
        refine zq (.int .i64 ((q + 1 : Nat) : Int)) ?_
        refine zp (w' := w490) (.int .i64 (q : Int)) (by exact ez2 (by omega)) ?_
        refine zq (.int .i64 (q : Int)) ?_
        have H496 := zH (show Hp w w490 [.blk X1 27 (rc ry), ro 27 4 (some ⟨g355, 0, none⟩) (m + 1) cp356 MkE.cx (es.take q ++ ey :: es.drop q), ro 3 1 (some ⟨g363, 0, none⟩) (m + 1) cp364 MkE.cu (es.take q ++ ey :: es.drop q), ro 71 4 (some ⟨ge, 0, none⟩) ((edgesOf rs).length) ce edC (edgesOf rs), .blk X50 53 [.int .i64 ax, .int .i64 ay], .blk Y51 53 [.int .i64 bx, .int .i64 bY], .blk X73 27 (rc r71), .blk Y74 27 (rc r72), .blk X344 27 (rc r338), .blk X443 27 (rc ey.a)] from by rw [← GS.out]; exact H491.out)
        have DD497 := zH (((((((((D411.out.trans D431.out).trans D435.out).trans D445.out).trans D450.out).trans D463.out).trans D471.out).trans D482.out).trans D491.out))
        have DD498 := zH ((((((((((D378.out.trans D411.out).trans D431.out).trans D435.out).trans D445.out).trans D450.out).trans D463.out).trans D471.out).trans D482.out).trans D491.out))
        go_wp2_with fail
        go_roundg (m + 1 - (t + 1))
        case measure => exact (by have ob6 := (show t < m + 1 by have h1 := HTU.out; omega); omega)
        case rel => exact ⟨t + 1, q, rfl, (by go_num), (by have h1 := HTU.out; omega), (fun z_ hz_ => (GZ.out z_ hz_).elim (fun h_ => by rw [h_]; exact CB.out) (HALL.out z_)), (fun g_ hg_ => by rw [← GS.out] at hg_; exact (List.mem_or_eq_of_mem_set hg_).elim (fun h_ => (List.mem_or_eq_of_mem_set h_).elim (fun h_ => (HOK2.out g_ h_).dig DD497.out) (fun h_ => by rw [h_]; exact OX.out.dig DD497.out)) (fun h_ => by rw [h_]; exact OY.out.dig DD497.out)), H496.out.take 9, DD498.out⟩
       have HU0 := zH c379
       clear c379
       obtain rfl : u = 0 := by have h := HU0.out; omega
       go_upto_region 21 with fail
       refine zy ?_
       have H499 := zH (H378.out.step (Ext.refl w376).drew)
       have D499 := zH (Dig.of_ext (w := w376) zb)
       refine zx 0 (bs 23 1) (.int .i64 0) zb ?_
       refine zu 1 (bs 23 3) (v := .bool false) zb ?_ (hv := by intro w hSw; exact ezg (e := (dec_f (by omega))))
       refine zx 2 (bs 23 7) (.bool false) zb ?_
       refine zs 3 (bs 23 15) zb ?_
       refine zs 4 (bs 23 31) zb ?_
       refine zs 5 (bs 23 63) zb ?_
       refine zs 6 (bs 23 127) zb ?_
       refine zs 7 (bs 23 255) zb ?_
       refine zs 8 (bs 23 511) zb ?_
       refine zs 9 (bs 23 1023) zb ?_
       refine zs 10 (bs 23 2047) zb ?_
       refine zs 11 (bs 23 4095) zb ?_
       refine zs 12 (bs 23 8191) zb ?_
       refine zs 13 (bs 23 16383) zb ?_
       refine zs 14 (bs 23 32767) zb ?_
       refine zs 15 (bs 23 65535) zb ?_
       refine zs 16 (bs 23 131071) zb ?_
       refine zs 17 (bs 23 262143) zb ?_
       refine zs 18 (bs 23 524287) zb ?_
       refine zs 19 (bs 23 1048575) zb ?_
       refine zs 20 (bs 23 2097151) zb ?_
       refine zs 21 (bs 23 4194303) zb ?_
       refine zx 22 (bs 23 8388607) (.bool false) zb ?_
       refine wpAnyH_done (by kernel_rfl) ?_ _
       have H505 := zH (show Hp w w376.drew [.blk X1 27 (rc ry), ro 27 4 (some ⟨g355, 0, none⟩) (m + 1) cp356 MkE.cx (Stb.ins ltK es ey), ro 3 1 (some ⟨g363, 0, none⟩) (m + 1) cp364 MkE.cu (Stb.ins ltK es ey), ro 71 4 (some ⟨ge, 0, none⟩) ((edgesOf rs).length) ce edC (edgesOf rs), .blk X50 53 [.int .i64 ax, .int .i64 ay], .blk Y51 53 [.int .i64 bx, .int .i64 bY], .blk X73 27 (rc r71), .blk Y74 27 (rc r72), .blk X344 27 (rc r338)] from by rw [Stb.ins_stop wkK HSRT.out HALL.out (Nat.zero_le _) (Or.inl rfl)]; exact H499.out)
       have DD506 := zH (((((((((((((((((((D35.out.trans D40.out).trans D53.out).trans D59.out).trans D63.out).trans D66.out).trans D76.out).trans D82.out).trans D86.out).trans D318.out).trans D326.out).trans D331.out).trans D339.out).trans D346.out).trans D350.out).trans D357.out).trans D365.out).trans D378.out).trans D499.out))
       go_wp2_with fail
       go_roundg ((edgesOf rs).length - (i + 1))
       case measure => exact (by omega)
       case rel => exact ⟨i + 1, m + 1, Stb.ins ltK es ey, some ⟨g355, 0, none⟩, cp356, some ⟨g363, 0, none⟩, cp364, rfl, rfl, rfl, (by go_num), hlt, ⟨by rw [Stb.ins_len, HM.out.1], by have := HM.out.2; omega⟩, HINS.out, (fun g_ hg_ => by rw [Stb.ins_stop wkK HSRT.out HALL.out (Nat.zero_le _) (Or.inl rfl)] at hg_; exact ((HOK2.out g_ hg_).dig D499.out)), H505.out.take 4, DD506.out⟩
     have C4 := zH c323
     clear c323
     go_upto_region 14 with fail
     refine wp_region_lit ?_
     refine zd Y74 (0) (rc r72) (H318.out.range (i := 7) (by rfl) 0 4) Tryz.underlying27 ?_
     refine zd X1 (0) (rc ry) (H318.out.range (i := 0) (by rfl) 0 4) Tryz.underlying27 ?_
     have DD508 := zH ((DD317.out.trans D318.out))
     refine zc (less_any 60000 _ _ (((bY) : Int) : Rat) y _ (RV.Is.nin (R72.out.dig DD508.out) (Nat.le_trans B72.out (by omega))) (RV.In.nin (RV.In.mono (RY.out.dig H318.out.dig0) (by omega))) (by omega)) ?_
     rintro e w507 ⟨rfl, hx⟩
     have H509 := zH (H318.out.step hx)
     have D509 := zH (Dig.of_ext hx)
     clear hx
     refine ⟨.bool true, by rw [dec_t C3.out], ?_⟩
     try simp only [Act.put, zA, zB, zC]
     refine qV (.bool true) ?_
     refine zd X1 (0) (rc ry) (H509.out.range (i := 0) (by rfl) 0 4) Tryz.underlying27 ?_
     refine zd X73 (0) (rc r71) (H509.out.range (i := 6) (by rfl) 0 4) Tryz.underlying27 ?_
     have DD513 := zH ((DD508.out.trans D509.out))
     refine zc (less_any 60000 _ _ y (((ay) : Int) : Rat) _ (RV.In.nin (RV.In.mono (RY.out.dig H509.out.dig0) (by omega))) (RV.Is.nin (R71.out.dig DD513.out) (Nat.le_trans B71.out (by omega))) (by omega)) ?_
     rintro e w512 ⟨rfl, hx⟩
     have H514 := zH (H509.out.step hx)
     have D514 := zH (Dig.of_ext hx)
     clear hx
     refine ⟨.bool false, by rw [dec_f C4.out], ?_⟩
     try simp only [Act.put, zA, zB, zC]
     refine zq (.bool false) ?_
     go_upto_region 16 with fail
     refine wp_region_lit ?_
     refine zq (.int .i64 0) ?_
     refine zp (w' := w512) (.bool true) (by exact ezq (e := (dec_t (by omega)))) ?_
     have DD519 := zH (((((((((((D40.out.trans D53.out).trans D59.out).trans D63.out).trans D66.out).trans D76.out).trans D82.out).trans D86.out).trans D318.out).trans D509.out).trans D514.out))
     have DD520 := zH ((((((((((((D35.out.trans D40.out).trans D53.out).trans D59.out).trans D63.out).trans D66.out).trans D76.out).trans D82.out).trans D86.out).trans D318.out).trans D509.out).trans D514.out))
     go_wp2_with fail
     go_roundg ((edgesOf rs).length - (i + 1))
     case measure => exact (by omega)
     case rel => exact ⟨i + 1, m, es, A1, c1, A2, c2, rfl, rfl, rfl, (by go_num), hlt, ⟨HM.out.1, by have := HM.out.2; omega⟩, (by rw [HVL.out, crs_none HE.out (cross_no (a := (ax, ay)) (b := (bx, bY)) (fun h_ => C1.out h_.1) (fun h_ => C4.out h_.2))]), (fun g_ hg_ => (HOE.out g_ hg_).dig DD519.out), H514.out.take 4, DD520.out⟩
    have C3 := zH c322
    clear c322
    go_upto_region 14 with fail
    refine wp_region_lit ?_
    refine zd Y74 (0) (rc r72) (H318.out.range (i := 7) (by rfl) 0 4) Tryz.underlying27 ?_
    refine zd X1 (0) (rc ry) (H318.out.range (i := 0) (by rfl) 0 4) Tryz.underlying27 ?_
    have DD522 := zH ((DD317.out.trans D318.out))
    refine zc (less_any 60000 _ _ (((bY) : Int) : Rat) y _ (RV.Is.nin (R72.out.dig DD522.out) (Nat.le_trans B72.out (by omega))) (RV.In.nin (RV.In.mono (RY.out.dig H318.out.dig0) (by omega))) (by omega)) ?_
    rintro e w521 ⟨rfl, hx⟩
    have H523 := zH (H318.out.step hx)
    have D523 := zH (Dig.of_ext hx)
    clear hx
    refine ⟨.bool false, by rw [dec_f C3.out], ?_⟩
    try simp only [Act.put, zA, zB, zC]
    refine zq (.bool false) ?_
    refine zk ?_
    refine zk ?_
    refine zk ?_
    refine zq (.bool false) ?_
    go_upto_region 16 with fail
    refine wp_region_lit ?_
    refine zq (.int .i64 0) ?_
    refine zp (w' := w521) (.bool true) (by exact ezq (e := (dec_t (by omega)))) ?_
    have DD529 := zH ((((((((((D40.out.trans D53.out).trans D59.out).trans D63.out).trans D66.out).trans D76.out).trans D82.out).trans D86.out).trans D318.out).trans D523.out))
    have DD530 := zH (((((((((((D35.out.trans D40.out).trans D53.out).trans D59.out).trans D63.out).trans D66.out).trans D76.out).trans D82.out).trans D86.out).trans D318.out).trans D523.out))
    go_wp2_with fail
    go_roundg ((edgesOf rs).length - (i + 1))
    case measure => exact (by omega)
    case rel => exact ⟨i + 1, m, es, A1, c1, A2, c2, rfl, rfl, rfl, (by go_num), hlt, ⟨HM.out.1, by have := HM.out.2; omega⟩, (by rw [HVL.out, crs_none HE.out (cross_no (a := (ax, ay)) (b := (bx, bY)) (fun h_ => C1.out h_.1) (fun h_ => C3.out h_.1))]), (fun g_ hg_ => (HOE.out g_ hg_).dig DD529.out), H523.out.take 4, DD530.out⟩
   have HLT := zH c36
   clear c36
   have hlt := HLT.out
   have hki := HKI.out
   obtain rfl : i = (edgesOf rs).length := by omega
   have hge : ¬ ((edgesOf rs).length : Int) < ((edgesOf rs).length : Int) := by omega
   go_upto_region 28 with fail
   refine wp_region_lit ?_
   refine qV (.slice A1 m c1) ?_
   refine zq (.slice A2 m c2) ?_
   refine qV (.slice A1 m c1) ?_
   refine zq (.slice A2 m c2) ?_
   go_wp2_with fail
   go_ret2
   unfold CrossRet
   exact ⟨A1, c1, A2, c2, m, es, rfl, HM.out.1, H35.out.row (i := 1) (by rfl), H35.out.row (i := 2) (by rfl), HOE.out, (by rw [HVL.out, List.take_length, marksV_of]), H35.out.ext⟩
 have HV := zH c18
 clear c18
 go_upto_region 3 with fail
 refine wp_region_lit ?_
 refine qV (u) ?_
 refine zc (r16Valid_any _ rs _ (HU.out.ext H15.out.ext) HN.out HR.out) ?_
 rintro e w536 ⟨rfl, hx⟩
 have H537 := zH (H15.out.step hx)
 clear hx
 refine ⟨.bool false, by rw [Bool.eq_false_iff.2 HV.out], ?_⟩
 try simp only [Act.put, zA, zB, zC]
 refine zq (.bool true) ?_
 go_upto_region 4 with fail
 refine wp_region_lit ?_
 refine qV (.slice (some ⟨X9, 0, none⟩) 0 0) ?_
 refine zq (.slice (some ⟨X14, 0, none⟩) 0 0) ?_
 refine qV (.slice (some ⟨X9, 0, none⟩) 0 0) ?_
 refine zq (.slice (some ⟨X14, 0, none⟩) 0 0) ?_
 go_wp2_with fail
 go_ret2
 unfold CrossRet
 exact ⟨some ⟨X9, 0, none⟩, 0, some ⟨X14, 0, none⟩, 0, 0, [], rfl, rfl, H537.out.row (i := 1) (by rfl), H537.out.row (i := 2) (by rfl), (by simp), (by rw [marksV_of, edgesOf_f HV.out]; rfl), H537.out.ext⟩

def mtot (rs : List Ring) : Nat := (rs.map fun r => min r.length 1000).sum
def smPoly (rs : List Ring) : Bool := decide (rs.length ≤ 60) && decide (mtot rs ≤ 60)
theorem mtot_succ {rs : List Ring} {k : Nat} {r : Ring} (h : rs[k]? = some r) : mtot (rs.take (k + 1)) = mtot (rs.take k) + min r.length 1000 := by
  obtain ⟨hk, rfl⟩ := List.getElem?_eq_some_iff.1 h
  unfold mtot
  rw [List.take_succ_eq_append_getElem hk, List.map_append, List.sum_append]
  simp
theorem mtot_le (rs : List Ring) : mtot rs ≤ 1000 * rs.length := by
  induction rs with
  | nil => simp [mtot]
  | cons r rs ih =>
    unfold mtot at ih ⊢
    rw [List.map_cons, List.sum_cons, List.length_cons]
    have := Nat.min_le_right r.length 1000
    omega
theorem smPoly_out {rs : List Ring} (h : smPoly rs = true) : rs.length ≤ 60 ∧ mtot rs ≤ 60 := by
  unfold smPoly at h
  simpa using h
theorem wrap_add {n m : Nat} (h : n + m ≤ 4611686018427387904) : IntKind.i64.wrap ((n : Int) + (m : Int)) = ((n + m : Nat) : Int) := by
  rw [IntKind.wrap_i64]; omega
set_option maxRecDepth 20000 in
set_option maxHeartbeats 4000000 in
theorem smallPolygons_any (u : Value) (rs : List Ring) (w : World) (hu : RingsV w u rs) (hn : rs.length ≤ 9223372036854775807) :
  Calls Tryz.prog 17 #[u] w fun e w' => e = .returned (.bool (smPoly rs)) ∧ Ext w w' := by
 obtain ⟨A, cu, rfl, hA⟩ := hu
 have HA := zH hA
 have HN := zH hn
 clear hA
 go_enter Tryz.func17, Tryz.ntmps17
 go_wp2_with fail
 go_loopg [3, 7] rs.length (fun c s i wr => ∃ (k : Nat) (z : Int), k ≤ rs.length ∧ c = rs.length - k ∧ s = .int .i64 z ∧ i = .int .i64 k ∧ (rs.length ≤ 60 → z = (mtot (rs.take k) : Int)) ∧ Ext w wr)
 case atStart => exact ⟨0, 0, Nat.zero_le _, rfl, rfl, rfl, fun _ => rfl, Ext.refl _⟩
 case round =>
  obtain ⟨k, z, hk, rfl, rfl, rfl, hz0, hx⟩ := hrel
  have HX := zH hx
  have HZ := zH hz0
  clear hx hz0
  by_cases hlt : k < rs.length
  ·have hlt2 : (k : Int) < (rs.length : Int) := by omega
   obtain ⟨r, hr⟩ : ∃ r, rs[k]? = some r := ⟨_, List.getElem?_eq_getElem hlt⟩
   obtain ⟨g, off, rfl, hp⟩ := HA.out (by omega)
   obtain ⟨B, cb, h1, -⟩ := hp k r hr
   have h2 := HX.out.get h1
   have HW := zH (show rs.length ≤ 60 → IntKind.i64.wrap (z + min (r.length : Int) 1000) = (mtot (rs.take (k + 1)) : Int) by
    intro h60
    have hz := mtot_succ hr
    have hz2 : mtot (rs.take k) ≤ 1000 * rs.length := Nat.le_trans (mtot_le _) (Nat.mul_le_mul_left _ (by rw [List.length_take]; omega))
    have hz3 : min r.length 1000 ≤ 1000 := Nat.min_le_right ..
    have hm : min (r.length : Int) 1000 = ((min r.length 1000 : Nat) : Int) := by omega
    rw [HZ.out h60, hm, hz]
    exact wrap_add (by omega))
   have HLT := zH hlt
   clear hp h1 hr
   go_wp2_with fail
   go_roundg (rs.length - (k + 1))
   case measure => have := HLT.out; omega
   case rel => exact ⟨k + 1, _, HLT.out, rfl, rfl, by go_num, by intro h_; have h := HW.out h_; rw [IntKind.wrap_i64] at h; unfold wrap64; exact h, HX.out⟩
  obtain rfl : k = rs.length := by omega
  have hge : ¬ (rs.length : Int) < (rs.length : Int) := by omega
  rw [List.take_length] at *
  have hd : decide ((rs.length : Int) ≤ 60) = decide (rs.length ≤ 60) := decide_eq_decide.2 (by omega)
  have hd2 : decide ((mtot rs : Int) ≤ 60) = decide (mtot rs ≤ 60) := decide_eq_decide.2 (by omega)
  by_cases h1 : rs.length ≤ 60
  ·obtain rfl : z = (mtot rs : Int) := HZ.out h1
   have h1z : (rs.length : Int) ≤ 60 := by omega
   have HS := zH (show smPoly rs = decide (mtot rs ≤ 60) by unfold smPoly; simp [h1])
   have HD := zH hd2
   clear hd hd2
   go_wp2_with fail
   go_ret
   exact ⟨by rw [HS.out, ← HD.out]; rfl, HX.out⟩
  have h1z : ¬ (rs.length : Int) ≤ 60 := by omega
  have HS := zH (show smPoly rs = false by unfold smPoly; simp [h1])
  clear hd hd2
  go_wp2_with fail
  go_ret
  exact ⟨by rw [HS.out]; rfl, HX.out⟩
end Go.Proofs.YtaeeeailoiioaabGreat
