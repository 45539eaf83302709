/- Contracts that the claim stands on: XExm to XPLen. -/
import Derived.Test.YtaeeeailoiioaaaGreatM6
namespace Go.Proofs.YtaeeeailoiioaaaGreat
open Go.RowKit
attribute [local go_sem ↓] Go.wp_at_zero Go.wp_at_succ run_max_ii run_min_ii
set_option maxRecDepth 20000 in
set_option maxHeartbeats 4000000 in
theorem example_any (w : World) : Calls Tryz.prog 7 #[] w fun e w' => e = .returned (.bool true) ∧ Ext w w' := by
 go_enter Tryz.func7, Tryz.ntmps7
 have H0 := zH (Hp.start w)
 go_upto_region 0 with fail
 refine wp_region_lit ?_
 refine qV (.bool false) ?_
 (try simp only [Act.put, List.setIfInBounds_toArray, List.set_cons_zero])
 go_upto_region 1 with fail
 refine wp_region_lit ?_
 refine qV (.agg #[.int .i64 0, .int .i64 0]) ?_
 refine zq (.agg #[.int .i64 4, .int .i64 0]) ?_
 refine qV (.agg #[.int .i64 4, .int .i64 4]) ?_
 refine zq (.agg #[.int .i64 0, .int .i64 4]) ?_
 refine mv_lit (T := 46) (zs := [.int .i64 0, .int .i64 0, .int .i64 4, .int .i64 0, .int .i64 4, .int .i64 4, .int .i64 0, .int .i64 4]) (n := 4) (by rfl) (by go_simp) H0.out (by simp [NoUL]) ?_
 intro X6 w7 hh hx hge
 have H8 := zH (show Hp w w7 [.blk X6 46 [.int .i64 0, .int .i64 0, .int .i64 4, .int .i64 0, .int .i64 4, .int .i64 4, .int .i64 0, .int .i64 4]] from hh)
 clear hh hx hge
 try simp only [Act.put, zA, zB, zC]
 refine mv_lit (T := 47) (zs := [.slice (some ⟨X6, 0, none⟩) 4 4]) (n := 1) (by rfl) (by go_simp) H8.out (by simp [NoUL]) ?_
 intro X10 w11 hh hx hge
 have H12 := zH (show Hp w w11 [.blk X6 46 [.int .i64 0, .int .i64 0, .int .i64 4, .int .i64 0, .int .i64 4, .int .i64 4, .int .i64 0, .int .i64 4], .blk X10 47 [.slice (some ⟨X6, 0, none⟩) 4 4]] from hh)
 clear hh hx hge
 try simp only [Act.put, zA, zB, zC]
 refine zq (.slice (some ⟨X10, 0, none⟩) 1 1) ?_
 go_upto_region 2 with fail
 refine wp_region_lit ?_
 refine qV (.slice (some ⟨X10, 0, none⟩) 1 1) ?_
 refine zc (q03From 1 _ (by omega) (by omega)) ?_
 rintro e w16 ⟨c_, rfl, hc_, hx⟩
 have H18 := zH (H12.out.step hx)
 obtain ⟨r17, rfl, hr_⟩ := hc_
 have R17 := zH hr_
 have B17 := zH (rl_i64 1 (by omega) (by omega))
 clear hr_
 clear hx
 refine zn ?_
 refine zc (spans_any 3 (.slice (some ⟨X10, 0, none⟩) 1 1) exR 1 r17 (((1) : Int) : Rat) _ (exRings (X1 := X6) (X2 := X10) H18.out (by rfl) (by rfl)) (RV.Is.isIn R17.out (Nat.le_trans B17.out (by decide))) (by decide) (by decide) (by decide) (by decide) (by decide)) ?_
 rintro e w20 ⟨v_, es21, rfl, hv1_, hv2_, hv3_, hx⟩
 have VL21 := zH hv2_
 have LN21 := zH hv3_
 have OK21 := zH hv1_.2
 obtain ⟨A21, c21, rfl, hA_⟩ := RowN.form hv1_.1
 have HA21 := zH hA_
 clear hv2_ hv3_ hA_
 have H22 := zH (show Hp w w20 [.blk X6 46 [.int .i64 0, .int .i64 0, .int .i64 4, .int .i64 0, .int .i64 4, .int .i64 4, .int .i64 0, .int .i64 4], .blk X10 47 [.slice (some ⟨X6, 0, none⟩) 4 4], ro 31 8 A21 es21.length c21 SpE.cells es21] from H18.out.addRow hx hv1_.1)
 clear hv1_
 clear hx
 refine zn ?_
 refine zq (.slice A21 es21.length c21) ?_
 go_upto_region 3 with fail
 refine wp_region_lit ?_
 refine qV (.slice (some ⟨X10, 0, none⟩) 1 1) ?_
 refine zc (q03From 1 _ (by omega) (by omega)) ?_
 rintro e w26 ⟨c_, rfl, hc_, hx⟩
 have H28 := zH (H22.out.step hx)
 have D28 := zH (Dig.of_ext hx)
 obtain ⟨r27, rfl, hr_⟩ := hc_
 have R27 := zH hr_
 have B27 := zH (rl_i64 1 (by omega) (by omega))
 clear hr_
 clear hx
 refine zn ?_
 refine zc (crossings_any 3 _ exR r27 (((1) : Int) : Rat) _ (exRings (X1 := X6) (X2 := X10) H28.out (by rfl) (by rfl)) (RV.Is.isIn R27.out (Nat.le_trans B27.out (by decide))) (by decide) (by decide) (by decide) (by decide)) ?_
 rintro e w30 ⟨A1, c1, A2, c2, n_, em, rfl, rfl, hr1_, hr2_, hok_, hcv_, hx⟩
 obtain ⟨ea, eb, rfl, hva_, hvb_⟩ := two_of_map (hcv_.trans ex_marks)
 have HVA := zH hva_
 have HVB := zH hvb_
 have HOKX := zH hok_
 clear hcv_ hva_ hvb_ hok_
 obtain ⟨g1, rfl⟩ : ∃ g, A1 = some ⟨g, 0, none⟩ := by obtain ⟨A_, c_, h1_, h2_⟩ := RowN.form hr1_; injection h1_ with h1_ _ _; rw [h1_]; exact h2_ (by simp)
 obtain ⟨g2, rfl⟩ : ∃ g, A2 = some ⟨g, 0, none⟩ := by obtain ⟨A_, c_, h1_, h2_⟩ := RowN.form hr2_; injection h1_ with h1_ _ _; rw [h1_]; exact h2_ (by simp)
 have H31 := zH (show Hp w w30 [.blk X6 46 [.int .i64 0, .int .i64 0, .int .i64 4, .int .i64 0, .int .i64 4, .int .i64 4, .int .i64 0, .int .i64 4], .blk X10 47 [.slice (some ⟨X6, 0, none⟩) 4 4], ro 31 8 A21 es21.length c21 SpE.cells es21, ro 29 4 (some ⟨g1, 0, none⟩) 2 c1 MkE.cx ([ea, eb]), ro 3 1 (some ⟨g2, 0, none⟩) 2 c2 MkE.cu ([ea, eb])] from H28.out.addRow2 hx hr1_ hr2_ (by decide))
 have D31 := zH (Dig.of_ext hx)
 clear hx hr1_ hr2_
 refine zn ?_
 refine qV (.tuple #[.slice (some ⟨g1, 0, none⟩) 2 c1, .slice (some ⟨g2, 0, none⟩) 2 c2]) ?_
 refine zq (.slice (some ⟨g1, 0, none⟩) 2 c1) ?_
 refine qV (.slice (some ⟨g2, 0, none⟩) 2 c2) ?_
 refine zq (.slice (some ⟨g1, 0, none⟩) 2 c1) ?_
 refine zq (.slice (some ⟨g2, 0, none⟩) 2 c2) ?_
 have HEA := zH (show [ea, eb][0]? = some ea from rfl)
 have HEB := zH (show [ea, eb][1]? = some eb from rfl)
 have hua := (HOKX.out ea (by simp)).2.2
 have hub := (HOKX.out eb (by simp)).2.2
 have hsum : ea.up = -1 ∧ eb.up = 1 := ⟨congrArg Prod.snd HVA.out, congrArg Prod.snd HVB.out⟩
 go_upto_region 4 with fail
 refine zy ?_
 have H38 := zH (H31.out.step (Ext.refl w30).drew)
 have D38 := zH (Dig.of_ext (w := w30) zb)
 refine zx 0 (bs 29 1) (.slice A21 es21.length c21) zb ?_
 refine mC 1 (bs 29 3) (q03From 0 _ (by have ob0 := hua.1; have ob1 := hua.2; have ob2 := hub.1; have ob3 := hub.2; have ob4 := hsum.1; have ob5 := hsum.2; omega) (by have ob0 := hua.1; have ob1 := hua.2; have ob2 := hub.1; have ob3 := hub.2; have ob4 := hsum.1; have ob5 := hsum.2; omega)) ?_
 rintro e w41 ⟨c_, rfl, hc_, hx⟩
 have H43 := zH (H38.out.step hx)
 have D43 := zH (show Dig w30.drew w41 from Dig.of_ext hx)
 have S45 := zH (show Ext w30 w41 from zb.trans hx)
 obtain ⟨r42, rfl, hr_⟩ := hc_
 have R42 := zH hr_
 have B42 := zH (rl_i64 0 (by have ob0 := hua.1; have ob1 := hua.2; have ob2 := hub.1; have ob3 := hub.2; have ob4 := hsum.1; have ob5 := hsum.2; omega) (by have ob0 := hua.1; have ob1 := hua.2; have ob2 := hub.1; have ob3 := hub.2; have ob4 := hsum.1; have ob5 := hsum.2; omega))
 clear hr_
 clear hx
 refine zm S45.out ?_
 refine mC 2 (bs 29 7) (q03From 4 _ (by have ob0 := hua.1; have ob1 := hua.2; have ob2 := hub.1; have ob3 := hub.2; have ob4 := hsum.1; have ob5 := hsum.2; omega) (by have ob0 := hua.1; have ob1 := hua.2; have ob2 := hub.1; have ob3 := hub.2; have ob4 := hsum.1; have ob5 := hsum.2; omega)) ?_
 rintro e w46 ⟨c_, rfl, hc_, hx⟩
 have H48 := zH (H43.out.step hx)
 have D48 := zH (Dig.of_ext hx)
 have S50 := zH (S45.out.trans hx)
 obtain ⟨r47, rfl, hr_⟩ := hc_
 have R47 := zH hr_
 have B47 := zH (rl_i64 4 (by have ob0 := hua.1; have ob1 := hua.2; have ob2 := hub.1; have ob3 := hub.2; have ob4 := hsum.1; have ob5 := hsum.2; omega) (by have ob0 := hua.1; have ob1 := hua.2; have ob2 := hub.1; have ob3 := hub.2; have ob4 := hsum.1; have ob5 := hsum.2; omega))
 clear hr_
 clear hx
 refine zm S50.out ?_
 refine zx 3 (bs 29 15) (.agg #[.bool r42.n, .slice r42.p r42.l r42.c, .bool r42.m, .slice r42.p2 r42.l2 r42.c2, .bool r47.n, .slice r47.p r47.l r47.c, .bool r47.m, .slice r47.p2 r47.l2 r47.c2]) S50.out ?_
 refine md_lit (T := 31) (zs := [.bool r42.n, .slice r42.p r42.l r42.c, .bool r42.m, .slice r42.p2 r42.l2 r42.c2, .bool r47.n, .slice r47.p r47.l r47.c, .bool r47.m, .slice r47.p2 r47.l2 r47.c2]) (n := 1) (i := 4) (listed' := (bs 29 31)) (by rfl) (by kernel_rfl) (by rfl) (by go_simp) (by kernel_rfl) H48.out (by simp [NoUL]) ?_
 intro X52 w53 hh hx hge
 have H54 := zH (show Hp w w53 [.blk X6 46 [.int .i64 0, .int .i64 0, .int .i64 4, .int .i64 0, .int .i64 4, .int .i64 4, .int .i64 0, .int .i64 4], .blk X10 47 [.slice (some ⟨X6, 0, none⟩) 4 4], ro 31 8 A21 es21.length c21 SpE.cells es21, ro 29 4 (some ⟨g1, 0, none⟩) 2 c1 MkE.cx ([ea, eb]), ro 3 1 (some ⟨g2, 0, none⟩) 2 c2 MkE.cu ([ea, eb]), .blk X52 31 [.bool r42.n, .slice r42.p r42.l r42.c, .bool r42.m, .slice r42.p2 r42.l2 r42.c2, .bool r47.n, .slice r47.p r47.l r47.c, .bool r47.m, .slice r47.p2 r47.l2 r47.c2]] from hh)
 have D54 := zH (Dig.of_ext hx)
 have S56 := zH (S50.out.trans hx)
 clear hh hx hge
 refine ⟨S56.out, ?_⟩
 try simp only [Act.put, zA, zB, zC]
 have DD59 := zH ((((((D28.out.trans D31.out).trans D38.out).trans D43.out).trans D48.out).trans D54.out))
 have DD60 := zH ((D48.out.trans D54.out))
 refine mC 5 (bs 29 63) (r18same_any 60000 (.slice A21 es21.length c21) (.slice (some ⟨X52, 0, none⟩) 1 1) _ _ es21 ([(⟨r42, r47, (((0) : Int) : Rat), (((4) : Int) : Rat)⟩ : SpE)]) _ (SpR.up (L := (3 + 8)) ⟨H54.out.row (i := 2) (by rfl), (fun e_ he_ => (OK21.out e_ he_).dig DD59.out)⟩ (by omega)) ⟨H54.out.litRow (i := 5) (n := 1) (by rfl) (by rfl) (by decide), (by simp only [List.forall_mem_cons, List.not_mem_nil, false_imp_iff, implies_true, and_true]; exact ⟨(R42.out.dig DD60.out), (R47.out.dig D54.out), (Nat.le_trans B42.out (by omega)), (Nat.le_trans B47.out (by omega))⟩)⟩ (by rw [VL21.out, ex_marks, ex_spans]; rfl) (by omega) (Nat.le_trans LN21.out (by decide))) ?_
 rintro e w58 ⟨rfl, hx⟩
 have H61 := zH (H54.out.step hx)
 have D61 := zH (Dig.of_ext hx)
 have S63 := zH (S56.out.trans hx)
 clear hx
 refine zm S63.out ?_
 refine zx 6 (bs 29 127) (.bool true) S63.out ?_
 refine zx 7 (bs 29 255) (.slice (some ⟨g1, 0, none⟩) 2 c1) S63.out ?_
 refine mC 8 (bs 29 511) (q03From 0 _ (by have ob0 := hua.1; have ob1 := hua.2; have ob2 := hub.1; have ob3 := hub.2; have ob4 := hsum.1; have ob5 := hsum.2; omega) (by have ob0 := hua.1; have ob1 := hua.2; have ob2 := hub.1; have ob3 := hub.2; have ob4 := hsum.1; have ob5 := hsum.2; omega)) ?_
 rintro e w66 ⟨c_, rfl, hc_, hx⟩
 have H68 := zH (H61.out.step hx)
 have D68 := zH (Dig.of_ext hx)
 have S70 := zH (S63.out.trans hx)
 obtain ⟨r67, rfl, hr_⟩ := hc_
 have R67 := zH hr_
 have B67 := zH (rl_i64 0 (by have ob0 := hua.1; have ob1 := hua.2; have ob2 := hub.1; have ob3 := hub.2; have ob4 := hsum.1; have ob5 := hsum.2; omega) (by have ob0 := hua.1; have ob1 := hua.2; have ob2 := hub.1; have ob3 := hub.2; have ob4 := hsum.1; have ob5 := hsum.2; omega))
 clear hr_
 clear hx
 refine zm S70.out ?_
 refine mC 9 (bs 29 1023) (q03From 4 _ (by have ob0 := hua.1; have ob1 := hua.2; have ob2 := hub.1; have ob3 := hub.2; have ob4 := hsum.1; have ob5 := hsum.2; omega) (by have ob0 := hua.1; have ob1 := hua.2; have ob2 := hub.1; have ob3 := hub.2; have ob4 := hsum.1; have ob5 := hsum.2; omega)) ?_
 rintro e w71 ⟨c_, rfl, hc_, hx⟩
 have H73 := zH (H68.out.step hx)
 have D73 := zH (Dig.of_ext hx)
 have S75 := zH (S70.out.trans hx)
 obtain ⟨r72, rfl, hr_⟩ := hc_
 have R72 := zH hr_
 have B72 := zH (rl_i64 4 (by have ob0 := hua.1; have ob1 := hua.2; have ob2 := hub.1; have ob3 := hub.2; have ob4 := hsum.1; have ob5 := hsum.2; omega) (by have ob0 := hua.1; have ob1 := hua.2; have ob2 := hub.1; have ob3 := hub.2; have ob4 := hsum.1; have ob5 := hsum.2; omega))
 clear hr_
 clear hx
 refine zm S75.out ?_
 refine md_lit (T := 29) (zs := [.bool r67.n, .slice r67.p r67.l r67.c, .bool r67.m, .slice r67.p2 r67.l2 r67.c2, .bool r72.n, .slice r72.p r72.l r72.c, .bool r72.m, .slice r72.p2 r72.l2 r72.c2]) (n := 2) (i := 10) (listed' := (bs 29 2047)) (by rfl) (by kernel_rfl) (by rfl) (by go_simp) (by kernel_rfl) H73.out (by simp [NoUL]) ?_
 intro X76 w77 hh hx hge
 have H78 := zH (show Hp w w77 [.blk X6 46 [.int .i64 0, .int .i64 0, .int .i64 4, .int .i64 0, .int .i64 4, .int .i64 4, .int .i64 0, .int .i64 4], .blk X10 47 [.slice (some ⟨X6, 0, none⟩) 4 4], ro 31 8 A21 es21.length c21 SpE.cells es21, ro 29 4 (some ⟨g1, 0, none⟩) 2 c1 MkE.cx ([ea, eb]), ro 3 1 (some ⟨g2, 0, none⟩) 2 c2 MkE.cu ([ea, eb]), .blk X52 31 [.bool r42.n, .slice r42.p r42.l r42.c, .bool r42.m, .slice r42.p2 r42.l2 r42.c2, .bool r47.n, .slice r47.p r47.l r47.c, .bool r47.m, .slice r47.p2 r47.l2 r47.c2], .blk X76 29 [.bool r67.n, .slice r67.p r67.l r67.c, .bool r67.m, .slice r67.p2 r67.l2 r67.c2, .bool r72.n, .slice r72.p r72.l r72.c, .bool r72.m, .slice r72.p2 r72.l2 r72.c2]] from hh)
 have D78 := zH (Dig.of_ext hx)
 have S80 := zH (S75.out.trans hx)
 clear hh hx hge
 refine ⟨S80.out, ?_⟩
 try simp only [Act.put, zA, zB, zC]
 have DD83 := zH ((((((((D38.out.trans D43.out).trans D48.out).trans D54.out).trans D61.out).trans D68.out).trans D73.out).trans D78.out))
 have DD84 := zH ((D73.out.trans D78.out))
 refine mC 11 (bs 29 4095) (sameAll_any 60000 (.slice (some ⟨g1, 0, none⟩) 2 c1) (.slice (some ⟨X76, 0, none⟩) 2 2) [(0 : Rat), (4 : Rat)] _ (by have hr_ : RowN w77 _ 29 4 (.slice (some ⟨g1, 0, none⟩) 2 c1) 2 (List.flatMap MkE.cx [ea, eb]) := H78.out.row (i := 3) (by rfl); have h := RsV.of_row (L := 60000) MkE.a MkE.q hr_ rfl (fun e_ he_ => by have h1 := ((HOKX.out e_ he_).dig DD83.out); exact ⟨h1.1, Nat.le_trans h1.2.1 (by decide)⟩); rwa [show List.map MkE.q [ea, eb] = [(0 : Rat), (4 : Rat)] from by have q1 : ea.q = 0 := congrArg Prod.fst HVA.out; have q2 : eb.q = 4 := congrArg Prod.fst HVB.out; simp [q1, q2]] at h) (by have hr_ : RowN w77 _ 29 4 (.slice (some ⟨X76, 0, none⟩) 2 2) 2 [.bool r67.n, .slice r67.p r67.l r67.c, .bool r67.m, .slice r67.p2 r67.l2 r67.c2, .bool r72.n, .slice r72.p r72.l r72.c, .bool r72.m, .slice r72.p2 r72.l2 r72.c2] := H78.out.litRow (i := 6) (by rfl) (by rfl) (by decide); have h := RsV.of_row (L := 60000) (es := [(⟨r67, 0, 0⟩ : MkE), ⟨r72, 4, 0⟩]) MkE.a MkE.q hr_ rfl (by simp only [List.forall_mem_cons, List.not_mem_nil, false_imp_iff, implies_true, and_true]; exact ⟨⟨(R67.out.dig DD84.out), (Nat.le_trans B67.out (by omega))⟩, (R72.out.dig D78.out), (Nat.le_trans B72.out (by omega))⟩); exact h) (by decide) (by decide)) ?_
 rintro e w82 ⟨rfl, hx⟩
 have H85 := zH (H78.out.step hx)
 have S87 := zH (S80.out.trans hx)
 clear hx
 refine zm S87.out ?_
 refine zx 12 (bs 29 8191) (.bool true) S87.out ?_
 refine zx 13 (bs 29 16383) (.bool true) S87.out ?_
 refine zx 14 (bs 29 32767) (.slice (some ⟨g2, 0, none⟩) 2 c2) S87.out ?_
 refine zx 15 (bs 29 65535) (.int .i64 2) S87.out ?_
 refine zu 16 (bs 29 131071) (v := .bool true) S87.out ?_ (hv := by intro w hSw; exact ezq (e := (dec_t (by have ob0 := hua.1; have ob1 := hua.2; have ob2 := hub.1; have ob3 := hub.2; have ob4 := hsum.1; have ob5 := hsum.2; omega))))
 refine zx 17 (bs 29 262143) (.bool true) S87.out ?_
 refine zx 18 (bs 29 524287) (.bool true) S87.out ?_
 refine zx 19 (bs 29 1048575) (.slice (some ⟨g2, 0, none⟩) 2 c2) S87.out ?_
 refine zu 20 (bs 29 2097151) (v := .pointer (some ⟨g2, 0 * 1, none⟩)) S87.out ?_ (hv := by intro w hSw; exact ezi (k := 0) Tryz.underlying51 (l := (by decide)) (f := (Nat.zero_add _).symm))
 refine zf 21 (bs 29 4194303) g2 (0 * 1) (.int .i64 ea.up) (H31.out.elem (f := MkE.cu) (i := 4) (by rfl) MkE.cu_len HEA.out) S87.out ?_
 refine zx 22 (bs 29 8388607) (.slice (some ⟨g2, 0, none⟩) 2 c2) S87.out ?_
 refine zu 23 (bs 29 16777215) (v := .pointer (some ⟨g2, 1 * 1, none⟩)) S87.out ?_ (hv := by intro w hSw; exact ezi (k := 1) Tryz.underlying51 (l := (by decide)) (f := (Nat.zero_add _).symm))
 refine zf 24 (bs 29 33554431) g2 (1 * 1) (.int .i64 eb.up) (H31.out.elem (f := MkE.cu) (i := 4) (by rfl) MkE.cu_len HEB.out) S87.out ?_
 refine zu 25 (bs 29 67108863) (v := .int .i64 (ea.up + eb.up)) S87.out ?_ (hv := by intro w hSw; exact ez1 (by have ob0 := hua.1; have ob1 := hua.2; have ob2 := hub.1; have ob3 := hub.2; have ob4 := hsum.1; have ob5 := hsum.2; omega))
 refine zu 26 (bs 29 134217727) (v := .bool true) S87.out ?_ (hv := by intro w hSw; exact ezq (e := (dec_t (by have ob0 := hua.1; have ob1 := hua.2; have ob2 := hub.1; have ob3 := hub.2; have ob4 := hsum.1; have ob5 := hsum.2; omega))))
 refine zx 27 (bs 29 268435455) (.bool true) S87.out ?_
 refine mX 28 (bs 29 536870911) (.bool true) S87.out ?_
 (try simp only [Act.put, List.setIfInBounds_toArray, List.set_cons_zero])
 refine wpAnyH_done (by kernel_rfl) ?_ _
 go_wp2_with fail
 go_ret
 exact ⟨rfl, H85.out.ext⟩





theorem lenV_take {f t : Rat} {es : List SpE} {k : Nat} {e : SpE} (h : es[k]? = some e) : lenV f t ((es.map SpE.vl).take (k + 1)) = lenV f t ((es.map SpE.vl).take k) + len1 f t (e.p, e.q) := by
  rw [List.take_add_one, List.getElem?_map, h]
  simp only [Option.map_some, Option.toList_some]
  rw [lenV_app, lenV_cons, lenV_nil]
  show _ + (len1 f t (e.p, e.q) + 0) = _
  grind
theorem len1_case {f t p q a b : Rat} (ha : a = if p < f then f else p) (hb : b = if t < q then t else q) : len1 f t (p, q) = if a < b then b - a else 0 := by subst ha hb; unfold len1; grind

set_option maxRecDepth 20000 in
set_option maxHeartbeats 4000000 in
theorem lengthB_any (L : Nat) (u : Value) (ps : List QQ) (rf rt : RV) (f t : Rat) (w : World) (hu : SpansV L w u ps) (hf : rf.In L w f) (ht : rt.In L w t) (h1L : 1 ≤ L) (hL : L ≤ 20) (hn : ps.length ≤ 1200) :
  Calls Tryz.prog 13 #[u, .agg #[.bool rf.n, .slice rf.p rf.l rf.c, .bool rf.m, .slice rf.p2 rf.l2 rf.c2], .agg #[.bool rt.n, .slice rt.p rt.l rt.c, .bool rt.m, .slice rt.p2 rt.l2 rt.c2]] w fun e w' => ∃ r : RV, e = .returned (.agg #[.bool r.n, .slice r.p r.l r.c, .bool r.m, .slice r.p2 r.l2 r.c2]) ∧ r.Is w' (lenV f t (mergeV ps)) ∧ Nm.rl (lenV f t (mergeV ps)) ≤ 60000 ∧ Ext w w' := by
 have HU := zH hu
 have RF := zH hf
 have RT := zH ht
 clear hu hf ht
 go_enter Tryz.func13, Tryz.ntmps13
 have H0 := zH (Hp.start w)
 go_upto_region 0 with fail
 refine wp_region_lit ?_
 refine mv_alloc (T := 29) (zs := [.bool rf.n, .slice rf.p rf.l rf.c, .bool rf.m, .slice rf.p2 rf.l2 rf.c2]) (by rfl) (by go_simp) H0.out (by simp [NoUL]) ?_
 intro X232 w233 hh hx hge
 have H234 := zH (show Hp w w233 [.blk X232 29 (rc rf)] from hh)
 clear hh hx hge
 try simp only [Act.put, zA, zB, zC]
 refine mv_alloc (T := 29) (zs := [.bool rt.n, .slice rt.p rt.l rt.c, .bool rt.m, .slice rt.p2 rt.l2 rt.c2]) (by rfl) (by go_simp) H234.out (by simp [NoUL]) ?_
 intro X237 w238 hh hx hge
 have H239 := zH (show Hp w w238 [.blk X232 29 (rc rf), .blk X237 29 (rc rt)] from hh)
 clear hh hx hge
 try simp only [Act.put, zA, zB, zC]
 refine mv_alloc (T := 29) (zs := [.bool false, .slice none 0 0, .bool false, .slice none 0 0]) (by rfl) (by go_simp) H239.out (by simp [NoUL]) ?_
 intro X242 w243 hh hx hge
 have H244 := zH (show Hp w w243 [.blk X232 29 (rc rf), .blk X237 29 (rc rt), .blk X242 29 rz] from hh)
 clear hh hx hge
 try simp only [Act.put, zA, zB, zC]
 go_upto_region 1 with fail
 refine wp_region_lit ?_
 refine zc (pFrom 0 _ (by omega) (by omega)) ?_
 rintro e w247 ⟨c_, rfl, hc_, hx⟩
 have H249 := zH (H244.out.step hx)
 obtain ⟨r248, rfl, hr_⟩ := hc_
 have R248 := zH hr_
 have B248 := zH (rl_i64 0 (by omega) (by omega))
 clear hr_
 clear hx
 refine zn ?_
 refine mv_alloc (T := 29) (zs := [.bool false, .slice none 0 0, .bool false, .slice none 0 0]) (by rfl) (by go_simp) H249.out (by simp [NoUL]) ?_
 intro X251 w252 hh hx hge
 have H253 := zH (show Hp w w252 [.blk X232 29 (rc rf), .blk X237 29 (rc rt), .blk X242 29 rz, .blk X251 29 rz] from hh)
 have D253 := zH (Dig.of_ext hx)
 clear hh hx hge
 try simp only [Act.put, zA, zB, zC]
 refine mv_st (by rfl) _ _ _ (by rfl) H253.out (ix := 3) (by rfl) 0 [.bool r248.n, .slice r248.p r248.l r248.c, .bool r248.m, .slice r248.p2 r248.l2 r248.c2] (by rfl) (by rfl) (by simp) (by kernel_rfl) (by simp [Value.oneCell']) (by simp [NoUL]) ?_
 intro w256 hh hd ho
 have H257 := zH (show Hp w w256 [.blk X232 29 (rc rf), .blk X237 29 (rc rt), .blk X242 29 rz, .blk X251 29 (rc r248)] from hh)
 have D257 := zH (hd)
 clear hh hd ho
 (try simp only [Act.put])
 go_upto_region 2 with fail
 refine wp_region_lit ?_
 refine zq (.func (.func 34) #[] #[]) ?_
 go_upto_region 3 with fail
 refine wp_region_lit ?_
 refine qV (u) ?_
 refine zc (merge_any L u ps _ (HU.out.ext H257.out.ext) h1L (by omega) (by omega)) ?_
 rintro e w261 ⟨v_, es, rfl, hes_, hval_, hel_, hx⟩
 have HVAL := zH hval_
 have HEL := zH hel_
 have HOK := zH hes_.2
 obtain ⟨Am, cm, rfl, hA_⟩ := RowN.form hes_.1
 have HA := zH hA_
 clear hval_ hel_ hA_
 have H262 := zH (show Hp w w261 [.blk X232 29 (rc rf), .blk X237 29 (rc rt), .blk X242 29 rz, .blk X251 29 (rc r248), ro 31 8 Am es.length cm SpE.cells es] from H257.out.addRow hx hes_.1)
 have D262 := zH (Dig.of_ext hx)
 clear hes_
 clear hx
 refine zn ?_
 refine qV (.int .i64 ((es.length : Nat) : Int)) ?_
 refine zq (.int .i64 0) ?_
 have hel3 : es.length ≤ 1200 := by have := HEL.out; omega
 have DD266 := zH (((D253.out.trans D257.out).trans D262.out))
 go_wp2_with fail
 go_loopg [17] (es.length) (fun cq v267 wr => ∃ (k : Nat) (rs : RV), cq = es.length - k ∧ v267 = .int .i64 (k : Int) ∧ (k ≤ es.length) ∧ (rs.Is wr (lenV f t ((es.map SpE.vl).take k))) ∧ (Nm.rl (lenV f t ((es.map SpE.vl).take k)) ≤ 2 + k * (2 * L + 2)) ∧ Hp w wr [.blk X232 29 [.bool rf.n, .slice rf.p rf.l rf.c, .bool rf.m, .slice rf.p2 rf.l2 rf.c2], .blk X237 29 [.bool rt.n, .slice rt.p rt.l rt.c, .bool rt.m, .slice rt.p2 rt.l2 rt.c2], .blk X242 29 [.bool false, .slice none 0 0, .bool false, .slice none 0 0], .blk X251 29 [.bool rs.n, .slice rs.p rs.l rs.c, .bool rs.m, .slice rs.p2 rs.l2 rs.c2], .row 31 8 (.slice Am es.length cm) (es.length) (List.flatMap SpE.cells es)] ∧ Dig w261 wr)
 case atStart => exact ⟨0, r248, rfl, rfl, Nat.zero_le _, (by have h := (R248.out.dig DD266.out); simpa [lenV] using h), (by have h := B248.out; simpa [lenV] using h), H262.out, Dig.refl _⟩
 case round =>
  obtain ⟨k, rs, rfl, rfl, q_HK, q_RS, q_BS, hh_, hd_⟩ := hrel
  generalize wr = w268 at *
  have HK := zH q_HK
  clear q_HK
  have RS := zH q_RS
  clear q_RS
  have BS := zH q_BS
  clear q_BS
  have H270 := zH hh_
  have D270 := zH hd_
  clear hh_ hd_ H262
  by_cases c271 : k < es.length
  ·have HLT := zH c271
   clear c271
   have hlt := HLT.out
   have hlt2 : (k : Int) < (es.length : Int) := by omega
   obtain ⟨gm, rfl⟩ := HA.out (by omega)
   have hbk : k * (2 * L + 2) ≤ 1200 * 42 := Nat.mul_le_mul (by omega) (by omega)
   have hbk2 : (k + 1) * (2 * L + 2) = k * (2 * L + 2) + (2 * L + 2) := by rw [Nat.add_mul, Nat.one_mul]
   generalize hkq : (k + 1) * (2 * L + 2) = KQ at *
   generalize hkq2 : k * (2 * L + 2) = KP at *
   obtain ⟨e, he_⟩ : ∃ e, es[k]? = some e := ⟨_, List.getElem?_eq_getElem hlt⟩
   have HEe := zH he_
   have HOe := zH (HOK.out e (List.mem_of_getElem? he_))
   have RAe := zH HOe.out.1
   have RBe := zH HOe.out.2.1
   have BAe := zH HOe.out.2.2.1
   have BBe := zH HOe.out.2.2.2
   clear he_
   have HTK := zH (lenV_take (f := f) (t := t) HEe.out)
   have HKQ := zH hkq
   have HKP := zH hkq2
   clear hkq hkq2 hlt
   go_upto_region 5 with fail
   refine wp_region_lit ?_
   refine zp (w' := w268) (.pointer (some ⟨gm, k * 8, none⟩)) (by exact ezi (k := k) Tryz.underlying22 (l := HLT.out) (f := (Nat.zero_add _).symm)) ?_
   refine zd gm (k * 8) [.bool e.a.n, .slice e.a.p e.a.l e.a.c, .bool e.a.m, .slice e.a.p2 e.a.l2 e.a.c2, .bool e.b.n, .slice e.b.p e.b.l e.b.c, .bool e.b.m, .slice e.b.p2 e.b.l2 e.b.c2] (H270.out.elem (f := SpE.cells) (i := 4) (by rfl) SpE.len HEe.out) Tryz.underlying31 ?_
   refine mv_alloc (T := 31) (zs := [.bool false, .slice none 0 0, .bool false, .slice none 0 0, .bool false, .slice none 0 0, .bool false, .slice none 0 0]) (by rfl) (by go_simp) H270.out (by simp [NoUL]) ?_
   intro X273 w274 hh hx hge
   have H275 := zH (show Hp w w274 [.blk X232 29 (rc rf), .blk X237 29 (rc rt), .blk X242 29 rz, .blk X251 29 (rc rs), ro 31 8 (some ⟨gm, 0, none⟩) es.length cm SpE.cells es, .blk X273 31 [.bool false, .slice none 0 0, .bool false, .slice none 0 0, .bool false, .slice none 0 0, .bool false, .slice none 0 0]] from hh)
   have D275 := zH (Dig.of_ext hx)
   clear hh hx hge
   try simp only [Act.put, zA, zB, zC]
   refine mv_st (by rfl) _ _ _ (by rfl) H275.out (ix := 5) (by rfl) 0 [.bool e.a.n, .slice e.a.p e.a.l e.a.c, .bool e.a.m, .slice e.a.p2 e.a.l2 e.a.c2, .bool e.b.n, .slice e.b.p e.b.l e.b.c, .bool e.b.m, .slice e.b.p2 e.b.l2 e.b.c2] (by rfl) (by rfl) (by simp) (by kernel_rfl) (by simp [Value.oneCell']) (by simp [NoUL]) ?_
   intro w278 hh hd ho
   have H279 := zH (show Hp w w278 [.blk X232 29 (rc rf), .blk X237 29 (rc rt), .blk X242 29 rz, .blk X251 29 (rc rs), ro 31 8 (some ⟨gm, 0, none⟩) es.length cm SpE.cells es, .blk X273 31 [.bool e.a.n, .slice e.a.p e.a.l e.a.c, .bool e.a.m, .slice e.a.p2 e.a.l2 e.a.c2, .bool e.b.n, .slice e.b.p e.b.l e.b.c, .bool e.b.m, .slice e.b.p2 e.b.l2 e.b.c2]] from hh)
   have D279 := zH (hd)
   clear hh hd ho
   (try simp only [Act.put])
   go_upto_region 6 with fail
   refine zy ?_
   have H281 := zH (H279.out.step (Ext.refl w278).drew)
   have D281 := zH (Dig.of_ext (w := w278) zb)
   refine zx 0 (bs 14 1) (.func (.func 34) #[] #[]) zb ?_
   refine mX 1 (bs 14 3) (.pointer (some ⟨X273, 0, none⟩)) zb ?_
   refine mR 2 (bs 14 7) X273 (0) [.bool e.a.n, .slice e.a.p e.a.l e.a.c, .bool e.a.m, .slice e.a.p2 e.a.l2 e.a.c2] (fun x hx => range_ext (show World.rangeAt w278 X273 (0) [.bool e.a.n, .slice e.a.p e.a.l e.a.c, .bool e.a.m, .slice e.a.p2 e.a.l2 e.a.c2] from (H279.out.range (i := 5) (by rfl) 0 4)) hx) Tryz.underlying29 zb ?_
   refine zg 3 (bs 14 15) X232 (0) (rc rf) (H279.out.range (i := 0) (by rfl) 0 4) Tryz.underlying29 zb ?_
   refine zx 5 (bs 14 47) (.func (.func 34) #[] #[]) zb ?_
   refine mX 6 (bs 14 111) (.pointer (some ⟨X273, 4, none⟩)) zb ?_
   refine mR 7 (bs 14 239) X273 (4) [.bool e.b.n, .slice e.b.p e.b.l e.b.c, .bool e.b.m, .slice e.b.p2 e.b.l2 e.b.c2] (fun x hx => range_ext (show World.rangeAt w278 X273 (4) [.bool e.b.n, .slice e.b.p e.b.l e.b.c, .bool e.b.m, .slice e.b.p2 e.b.l2 e.b.c2] from (H279.out.range (i := 5) (by rfl) 4 4)) hx) Tryz.underlying29 zb ?_
   refine zg 8 (bs 14 495) X237 (0) (rc rt) (H279.out.range (i := 1) (by rfl) 0 4) Tryz.underlying29 zb ?_
   have DD289 := zH ((((D270.out.trans D275.out).trans D279.out).trans D281.out))
   refine tuple2 (f := 2) 4 9 10 11 25 30 11 12 29 z4 (fun v w => ∃ c, v = .agg c ∧ NIn 60000 w c (if e.p < f then f else e.p)) (fun v w => ∃ c, v = .agg c ∧ NIn 60000 w c (if t < e.q then t else e.q)) rfl rfl rfl rfl (by decide) (by decide) (by kernel_rfl) (fun _ hx => zb.trans hx) (fun _ _ _ h e => by obtain ⟨c, h1, h2⟩ := h; exact ⟨c, h1, h2.ext e⟩) (fun _ _ _ h e => by obtain ⟨c, h1, h2⟩ := h; exact ⟨c, h1, h2.ext e⟩) ?ht287c1 ?ht287c2 ?ht287c3 ?ht287c4 ?ht287e _ _ _ _ (by kernel_rfl) rfl
   case ht287c1 =>
    intro v1 v2 v3 v4 w1 K hxq hSw hK
    try simp only [Act.put, zA, zB, zC]
    rw [if_pos (by rfl)]
    refine wp_call_op (by go_simp) (inner_low 60000 _ _ e.p f _ (RV.Is.nin (RAe.out.dig (DD289.out.trans (Dig.of_ext hxq))) (Nat.le_trans BAe.out (by omega))) (RV.In.nin (RV.In.mono (RF.out.dig (H281.out.dig0.trans (Dig.of_ext hxq))) (by omega))) (by omega)) ?_
    rintro e w' ⟨c_, rfl, hc_, hx⟩
    refine ⟨_, rfl, ?_⟩
    have hk := hK.out _ _ ⟨c_, rfl, hc_⟩ hx
    try simp only [Act.put, zA, zB, zC]
    simp only [Act.put, zA, zB, zC] at hk
    exact hk
   case ht287c2 =>
    intro v1 v2 v3 v4 w1 K hxq hSw hK
    try simp only [Act.put, zA, zB, zC]
    rw [if_pos (by rfl)]
    refine wp_call_op (by go_simp) (inner_high 60000 _ _ e.q t _ (RV.Is.nin (RBe.out.dig (DD289.out.trans (Dig.of_ext hxq))) (Nat.le_trans BBe.out (by omega))) (RV.In.nin (RV.In.mono (RT.out.dig (H281.out.dig0.trans (Dig.of_ext hxq))) (by omega))) (by omega)) ?_
    rintro e w' ⟨c_, rfl, hc_, hx⟩
    refine ⟨_, rfl, ?_⟩
    have hk := hK.out _ _ ⟨c_, rfl, hc_⟩ hx
    try simp only [Act.put, zA, zB, zC]
    simp only [Act.put, zA, zB, zC] at hk
    exact hk
   case ht287c3 =>
    intro v1 v2 v3 v4 w1 K hxq hSw hK
    try simp only [Act.put, zA, zB, zC]
    go_simp
    have hk := hK.out
    simp only [Act.put, zA, zB, zC] at hk
    exact hk
   case ht287c4 =>
    intro v1 v2 v3 v4 w1 K hxq hSw hK
    try simp only [Act.put, zA, zB, zC]
    go_simp
    have hk := hK.out
    simp only [Act.put, zA, zB, zC] at hk
    exact hk
   case ht287e =>
   intro v1_ v2_ X291 Y292 w293 hx hSw xp1 xp2 xb1 xb2 xz1 xz2 n12
   have hh := H281.out.add2 hx xb1 xb2 xz1 xz2 n12 (by simp [NoUL]) (by simp [NoUL])
   have H294 := zH (show Hp w w293 [.blk X232 29 (rc rf), .blk X237 29 (rc rt), .blk X242 29 rz, .blk X251 29 (rc rs), ro 31 8 (some ⟨gm, 0, none⟩) es.length cm SpE.cells es, .blk X273 31 [.bool e.a.n, .slice e.a.p e.a.l e.a.c, .bool e.a.m, .slice e.a.p2 e.a.l2 e.a.c2, .bool e.b.n, .slice e.b.p e.b.l e.b.c, .bool e.b.m, .slice e.b.p2 e.b.l2 e.b.c2], .blk X291 29 rz, .blk Y292 29 rz] from hh)
   have D294 := zH (show Dig w278.drew w293 from Dig.of_ext hx)
   have S296 := zH (show Ext w278 w293 from zb.trans hx)
   have G297 := zH (show w278.heap.size ≤ X291 from Nat.le_trans zb.size xz1)
   have G298 := zH (show w278.heap.size ≤ Y292 from Nat.le_trans zb.size xz2)
   obtain ⟨c_, rfl, hc_⟩ := xp1
   obtain ⟨r288, rfl, hr_⟩ := hc_
   have R288 := zH hr_
   have B288 := zH (show Nm.rl (if e.p < f then f else e.p) ≤ L from by have h1 := BAe.out; have h2 := (show Nm.rl f ≤ L from by have h := (RF.out.dig H294.out.dig0).rl; omega); split <;> omega)
   clear hr_
   generalize hq_ : (if e.p < f then f else e.p) = q288 at R288 B288 ⊢
   have Q288 := zH hq_
   clear hq_
   obtain ⟨c_, rfl, hc_⟩ := xp2
   obtain ⟨r290, rfl, hr_⟩ := hc_
   have R290 := zH hr_
   have B290 := zH (show Nm.rl (if t < e.q then t else e.q) ≤ L from by have h1 := BBe.out; have h2 := (show Nm.rl t ≤ L from by have h := (RT.out.dig H294.out.dig0).rl; omega); split <;> omega)
   clear hr_
   generalize hq_ : (if t < e.q then t else e.q) = q290 at R290 B290 ⊢
   have Q290 := zH hq_
   clear hq_
   clear hh hx hSw xb1 xb2 xz1 xz2 n12
   try simp only [Act.put, zA, zB, zC]
   refine md_st (i := 12) (listed' := (bs 14 8191)) (by rfl) (by kernel_rfl) (by rfl) (by kernel_rfl) _ _ _ (by rfl) H294.out (ix := 6) (by rfl) 0 [.bool r288.n, .slice r288.p r288.l r288.c, .bool r288.m, .slice r288.p2 r288.l2 r288.c2] (by rfl) (by rfl) (by simp) (by kernel_rfl) (by simp [Value.oneCell']) (by simp [NoUL]) ?_
   intro w299 hh hd ho
   have H300 := zH (show Hp w w299 [.blk X232 29 (rc rf), .blk X237 29 (rc rt), .blk X242 29 rz, .blk X251 29 (rc rs), ro 31 8 (some ⟨gm, 0, none⟩) es.length cm SpE.cells es, .blk X273 31 [.bool e.a.n, .slice e.a.p e.a.l e.a.c, .bool e.a.m, .slice e.a.p2 e.a.l2 e.a.c2, .bool e.b.n, .slice e.b.p e.b.l e.b.c, .bool e.b.m, .slice e.b.p2 e.b.l2 e.b.c2], .blk X291 29 (rc r288), .blk Y292 29 rz] from hh)
   have D300 := zH (hd)
   have S302 := zH (show Ext w278 w299 from Own.ext ho S296.out G297.out)
   clear hh hd ho
   refine ⟨S302.out, ?_⟩
   (try simp only [Act.put])
   refine md_st (i := 13) (listed' := (bs 14 16383)) (by rfl) (by kernel_rfl) (by rfl) (by kernel_rfl) _ _ _ (by rfl) H300.out (ix := 7) (by rfl) 0 [.bool r290.n, .slice r290.p r290.l r290.c, .bool r290.m, .slice r290.p2 r290.l2 r290.c2] (by rfl) (by rfl) (by simp) (by kernel_rfl) (by simp [Value.oneCell']) (by simp [NoUL]) ?_
   intro w303 hh hd ho
   have H304 := zH (show Hp w w303 [.blk X232 29 (rc rf), .blk X237 29 (rc rt), .blk X242 29 rz, .blk X251 29 (rc rs), ro 31 8 (some ⟨gm, 0, none⟩) es.length cm SpE.cells es, .blk X273 31 [.bool e.a.n, .slice e.a.p e.a.l e.a.c, .bool e.a.m, .slice e.a.p2 e.a.l2 e.a.c2, .bool e.b.n, .slice e.b.p e.b.l e.b.c, .bool e.b.m, .slice e.b.p2 e.b.l2 e.b.c2], .blk X291 29 (rc r288), .blk Y292 29 (rc r290)] from hh)
   have D304 := zH (hd)
   have S306 := zH (show Ext w278 w303 from Own.ext ho S302.out G298.out)
   clear hh hd ho
   refine ⟨S306.out, ?_⟩
   (try simp only [Act.put])
   refine wpAnyH_done (by kernel_rfl) ?_ _
   by_cases c307 : q288 < q290
   ·have CL := zH c307
    clear c307
    go_upto_region 7 with fail
    refine wp_region_lit ?_
    refine zd X291 (0) (rc r288) (H304.out.range (i := 6) (by rfl) 0 4) Tryz.underlying29 ?_
    refine zd Y292 (0) (rc r290) (H304.out.range (i := 7) (by rfl) 0 4) Tryz.underlying29 ?_
    have DD309 := zH ((D300.out.trans D304.out))
    refine zc (pCmp (L := 60000) (RV.In.nin (RV.In.mono (R288.out.dig DD309.out) (by omega))) (RV.In.nin (RV.In.mono (R290.out.dig DD309.out) (by omega))) (by omega)) ?_
    rintro e w308 ⟨rfl, hx⟩
    have H310 := zH (H304.out.step hx)
    have D310 := zH (Dig.of_ext hx)
    clear hx
    refine zn ?_
    refine zp (w' := w308) (.bool true) (by exact ezl (e := (dec_t (rcmp_lt.2 CL.out)))) ?_
    go_upto_region 8 with fail
    refine wp_region_held_drew (S := fun x => Fr (fun kz => kz = X251) w308 x) (by kernel_rfl) (Fr.of_ext zb) (fun _ => ?_)
    have H313 := zH (H310.out.step (Ext.refl w308).drew)
    have D313 := zH (Dig.of_ext (w := w308) zb)
    refine mR 1 (bs 6 2) Y292 (0) [.bool r290.n, .slice r290.p r290.l r290.c, .bool r290.m, .slice r290.p2 r290.l2 r290.c2] (fun x hx => Fr.range hx (show World.rangeAt w308 Y292 (0) [.bool r290.n, .slice r290.p r290.l r290.c, .bool r290.m, .slice r290.p2 r290.l2 r290.c2] from (H310.out.range (i := 7) (by rfl) 0 4)) (H310.out.offBlk (i := 7) (j := 3) (by rfl) (by rfl) (by decide) (by rfl))) Tryz.underlying29 (Fr.of_ext zb) ?_
    refine zr 2 (bs 6 6) X291 (0) [.bool r288.n, .slice r288.p r288.l r288.c, .bool r288.m, .slice r288.p2 r288.l2 r288.c2] (fun x hx => Fr.range hx (show World.rangeAt w308 X291 (0) [.bool r288.n, .slice r288.p r288.l r288.c, .bool r288.m, .slice r288.p2 r288.l2 r288.c2] from (H310.out.range (i := 6) (by rfl) 0 4)) (H310.out.offBlk (i := 6) (j := 3) (by rfl) (by rfl) (by decide) (by rfl))) Tryz.underlying29 (Fr.of_ext zb) ?_
    refine Fd.go (j := 0) (dj := some 35) (u := .agg #[.bool rs.n, .slice rs.p rs.l rs.c, .bool rs.m, .slice rs.p2 rs.l2 rs.c2]) ?_
    have DD317 := zH ((((D300.out.trans D304.out).trans D310.out).trans D313.out))
    refine fd_call (b := w308) (i := 3) (lj := (bs 6 7)) (li := (bs 6 14)) (by rfl) (by rfl) (by kernel_rfl) (by kernel_rfl) (by kernel_rfl) (by kernel_rfl) (by kernel_rfl) (by decide) (by kernel_rfl) (by rfl) (by rfl) (fun x_ h_ => Fr.of_ext h_) (Ext.refl w308).drew (fun x_ h_ => ev_ld _ _ (by rfl) X251 (0) [.bool rs.n, .slice rs.p rs.l rs.c, .bool rs.m, .slice rs.p2 rs.l2 rs.c2] (by rfl) (range_ext (show World.rangeAt w308 X251 (0) [.bool rs.n, .slice rs.p rs.l rs.c, .bool rs.m, .slice rs.p2 rs.l2 rs.c2] from H310.out.range (i := 3) (by rfl) 0 4) h_) Tryz.underlying29 (by rfl) (by kernel_rfl)) (by rfl) (by go_simp) (by kernel_rfl) (pSub (L := 60000) (RV.In.nin (RV.In.mono (R290.out.dig DD317.out) (by omega))) (RV.In.nin (RV.In.mono (R288.out.dig DD317.out) (by omega))) (by omega)) ?_
    rintro e w315 ⟨c_, rfl, hc_, hx⟩
    have H318 := zH (H313.out.step hx)
    have D318 := zH (show Dig w308.drew w315 from Dig.of_ext hx)
    have X320 := zH (show Ext w308 w315 from (Ext.refl w308).drew.trans hx)
    have S321 := zH (show Fr (fun kz => kz = X251) w308 w315 from (Fr.of_ext zb).trans (Fr.of_ext hx))
    obtain ⟨r316, rfl, hr_⟩ := hc_
    have R316 := zH hr_
    clear hr_
    have B316 := zH (show Nm.rl (q290 - q288) ≤ L + L + 1 from by have h1 := B290.out; have h2 := B288.out; have h3 := Nm.rl_sub q290 q288; omega)
    have hx_ := hx
    clear hx
    refine ⟨_, rfl, hx_, ?_⟩
    try simp only [Act.put, zA, zB, zC]
    clear hx_
    refine fd_end (by rfl) (by kernel_rfl) (by rfl) (by rfl) S321.out (ev_ld _ _ (by rfl) X251 (0) [.bool rs.n, .slice rs.p rs.l rs.c, .bool rs.m, .slice rs.p2 rs.l2 rs.c2] (by rfl) (range_ext (show World.rangeAt w308 X251 (0) [.bool rs.n, .slice rs.p rs.l rs.c, .bool rs.m, .slice rs.p2 rs.l2 rs.c2] from H310.out.range (i := 3) (by rfl) 0 4) X320.out) Tryz.underlying29 (by rfl) (by kernel_rfl)) (show _ = (bs 6 15) by kernel_rfl) ?_
    try simp only [Act.put, zA, zB, zC]
    have DD324 := zH (((((((((D275.out.trans D279.out).trans D281.out).trans D294.out).trans D300.out).trans D304.out).trans D310.out).trans D313.out).trans D318.out))
    refine mC 4 (bs 6 31) (pAdd (L := 60000) (RV.Is.nin (RS.out.dig DD324.out) (Nat.le_trans BS.out (by omega))) (RV.Is.nin R316.out (Nat.le_trans B316.out (by omega))) (by omega)) ?_
    rintro e w322 ⟨c_, rfl, hc_, hx⟩
    have H325 := zH (H318.out.step hx)
    have D325 := zH (Dig.of_ext hx)
    have S328 := zH (show Fr (fun kz => kz = X251) w308 w322 from S321.out.trans (Fr.of_ext hx))
    obtain ⟨r323, rfl, hr_⟩ := hc_
    have R323 := zH hr_
    clear hr_
    have B323 := zH (show Nm.rl ((lenV f t ((es.map SpE.vl).take k)) + (q290 - q288)) ≤ (2 + KP) + (L + L + 1) + 1 from by have h1 := BS.out; have h2 := B316.out; have h3 := Nm.rl_add (lenV f t ((es.map SpE.vl).take k)) (q290 - q288); omega)
    clear hx
    refine zm S328.out ?_
    refine md_st (i := 5) (listed' := (bs 6 63)) (by rfl) (by kernel_rfl) (by rfl) (by kernel_rfl) _ _ _ (by rfl) H325.out (ix := 3) (by rfl) 0 [.bool r323.n, .slice r323.p r323.l r323.c, .bool r323.m, .slice r323.p2 r323.l2 r323.c2] (by rfl) (by rfl) (by simp) (by kernel_rfl) (by simp [Value.oneCell']) (by simp [NoUL]) ?_
    intro w329 hh hd ho
    have H330 := zH (show Hp w w329 [.blk X232 29 (rc rf), .blk X237 29 (rc rt), .blk X242 29 rz, .blk X251 29 (rc r323), ro 31 8 (some ⟨gm, 0, none⟩) es.length cm SpE.cells es, .blk X273 31 [.bool e.a.n, .slice e.a.p e.a.l e.a.c, .bool e.a.m, .slice e.a.p2 e.a.l2 e.a.c2, .bool e.b.n, .slice e.b.p e.b.l e.b.c, .bool e.b.m, .slice e.b.p2 e.b.l2 e.b.c2], .blk X291 29 (rc r288), .blk Y292 29 (rc r290)] from hh)
    have D330 := zH (hd)
    have S332 := zH (show Fr (fun kz => kz = X251) w308 w329 from Fr.trans_new S328.out ho (fun j hj => .inl (by simpa using hj.symm)))
    clear hh hd ho
    refine ⟨S332.out, ?_⟩
    (try simp only [Act.put])
    refine wpAnyH_done (by kernel_rfl) ?_ _
    have HL1 := zH ((len1_case (p := e.p) (q := e.q) (f := f) (t := t) Q288.out.symm Q290.out.symm).trans (if_pos CL.out))
    have DD333 := zH ((((((((((((D270.out.trans D275.out).trans D279.out).trans D281.out).trans D294.out).trans D300.out).trans D304.out).trans D310.out).trans D313.out).trans D318.out).trans D325.out).trans D330.out))
    go_wp2_with fail
    go_roundg (es.length - (k + 1))
    case measure => exact (by have ob0 := HLT.out; omega)
    case rel => exact ⟨k + 1, r323, rfl, (by go_num), HLT.out, (by rw [HTK.out, HL1.out]; exact (R323.out.dig D330.out)), (by rw [HTK.out, HL1.out, HKQ.out]; exact Nat.le_trans B323.out (by omega)), H330.out.take 5, DD333.out⟩
   have CL := zH c307
   clear c307
   go_upto_region 7 with fail
   refine wp_region_lit ?_
   refine zd X291 (0) (rc r288) (H304.out.range (i := 6) (by rfl) 0 4) Tryz.underlying29 ?_
   refine zd Y292 (0) (rc r290) (H304.out.range (i := 7) (by rfl) 0 4) Tryz.underlying29 ?_
   have DD335 := zH ((D300.out.trans D304.out))
   refine zc (pCmp (L := 60000) (RV.In.nin (RV.In.mono (R288.out.dig DD335.out) (by omega))) (RV.In.nin (RV.In.mono (R290.out.dig DD335.out) (by omega))) (by omega)) ?_
   rintro e w334 ⟨rfl, hx⟩
   have H336 := zH (H304.out.step hx)
   have D336 := zH (Dig.of_ext hx)
   clear hx
   refine zn ?_
   refine zp (w' := w334) (.bool false) (by exact ezl (e := (dec_f (fun hh => CL.out (rcmp_lt.1 hh))))) ?_
   have HL1 := zH ((len1_case (p := e.p) (q := e.q) (f := f) (t := t) Q288.out.symm Q290.out.symm).trans (if_neg CL.out))
   have DD339 := zH (((((((D275.out.trans D279.out).trans D281.out).trans D294.out).trans D300.out).trans D304.out).trans D336.out))
   have DD340 := zH ((((((((D270.out.trans D275.out).trans D279.out).trans D281.out).trans D294.out).trans D300.out).trans D304.out).trans D336.out))
   go_wp2_with fail
   go_roundg (es.length - (k + 1))
   case measure => exact (by have ob0 := HLT.out; omega)
   case rel => exact ⟨k + 1, rs, rfl, (by go_num), HLT.out, (by rw [HTK.out, HL1.out, Rat.add_zero]; exact (RS.out.dig DD339.out)), (by rw [HTK.out, HL1.out, HKQ.out, Rat.add_zero]; exact Nat.le_trans BS.out (by have := HKP.out; omega)), H336.out.take 5, DD340.out⟩
  have HLT := zH c271
  clear c271
  obtain rfl : k = es.length := by have := HK.out; have := HLT.out; omega
  have hge : ¬ (es.length : Int) < (es.length : Int) := by omega
  have HR := zH (show lenV f t ((es.map SpE.vl).take es.length) = lenV f t (mergeV ps) by rw [List.take_of_length_le (by simp), HVAL.out])
  go_upto_region 10 with fail
  refine wp_region_lit ?_
  refine zd X251 (0) (rc rs) (H270.out.range (i := 3) (by rfl) 0 4) Tryz.underlying29 ?_
  refine mv_st (by rfl) _ _ _ (by rfl) H270.out (ix := 2) (by rfl) 0 [.bool rs.n, .slice rs.p rs.l rs.c, .bool rs.m, .slice rs.p2 rs.l2 rs.c2] (by rfl) (by rfl) (by simp) (by kernel_rfl) (by simp [Value.oneCell']) (by simp [NoUL]) ?_
  intro w341 hh hd ho
  have H342 := zH (show Hp w w341 [.blk X232 29 (rc rf), .blk X237 29 (rc rt), .blk X242 29 (rc rs), .blk X251 29 (rc rs), ro 31 8 Am es.length cm SpE.cells es] from hh)
  have D342 := zH (hd)
  clear hh hd ho
  (try simp only [Act.put])
  go_wp2_with fail
  refine bodyPost_ret (v := .agg #[.bool rs.n, .slice rs.p rs.l rs.c, .bool rs.m, .slice rs.p2 rs.l2 rs.c2]) ?_ rfl ⟨rs, rfl, by rw [← HR.out]; exact (RS.out.dig D342.out), by rw [← HR.out]; exact Nat.le_trans BS.out (by have := Nat.mul_le_mul (show es.length ≤ 1200 by omega) (show 2 * L + 2 ≤ 42 by omega); omega), H342.out.ext⟩
  exact results_cell1 rfl rfl ((H342.out.blk (i := 2) (by rfl)).loadVar rfl rfl (by rfl))
theorem length_any (L : Nat) (u : Value) (ps : List QQ) (rf rt : RV) (f t : Rat) (w : World) (hu : SpansV L w u ps) (hf : rf.In L w f) (ht : rt.In L w t) (h1L : 1 ≤ L) (hL : L ≤ 20) (hn : ps.length ≤ 60) :
    Calls Tryz.prog 13 #[u, .agg #[.bool rf.n, .slice rf.p rf.l rf.c, .bool rf.m, .slice rf.p2 rf.l2 rf.c2], .agg #[.bool rt.n, .slice rt.p rt.l rt.c, .bool rt.m, .slice rt.p2 rt.l2 rt.c2]] w fun e w' => ∃ r : RV, e = .returned (.agg #[.bool r.n, .slice r.p r.l r.c, .bool r.m, .slice r.p2 r.l2 r.c2]) ∧ r.Is w' (lenV f t (mergeV ps)) ∧ Nm.rl (lenV f t (mergeV ps)) ≤ 60000 ∧ Ext w w' := lengthB_any L u ps rf rt f t w hu hf ht h1L hL (by omega)
end Go.Proofs.YtaeeeailoiioaaaGreat
