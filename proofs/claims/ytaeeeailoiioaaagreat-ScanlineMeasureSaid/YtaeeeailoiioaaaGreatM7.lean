/- Contracts that the claim stands on: XExm to XPCont. -/
import Derived.Test.YtaeeeailoiioaaaGreatM6
namespace Go.Proofs.YtaeeeailoiioaaaGreat
open Go.RowKit
attribute [local go_sem ↓] Go.wp_at_zero Go.wp_at_succ run_max_ii run_min_ii
set_option maxRecDepth 20000 in
set_option maxHeartbeats 4000000 in
theorem example_any (w : World) : Calls Tryz.prog 7 #[] w fun e w' => e = .returned (.bool true) ∧ Ext w w' := by
 go_enter Tryz.func7, Tryz.ntmps7
 have H0 := zH (Hp.start w)
 go_upto_region 0 with fail
 refine wp_region_lit ?_
 refine qV (.bool false) ?_
 (try simp only [Act.put, List.setIfInBounds_toArray, List.set_cons_zero])
 go_upto_region 1 with fail
 refine wp_region_lit ?_
 refine qV (.agg #[.int .i64 0, .int .i64 0]) ?_
 refine zq (.agg #[.int .i64 4, .int .i64 0]) ?_
 refine qV (.agg #[.int .i64 4, .int .i64 4]) ?_
 refine zq (.agg #[.int .i64 0, .int .i64 4]) ?_
 refine mv_lit (T := 46) (zs := [.int .i64 0, .int .i64 0, .int .i64 4, .int .i64 0, .int .i64 4, .int .i64 4, .int .i64 0, .int .i64 4]) (n := 4) (by rfl) (by go_simp) H0.out (by simp [NoUL]) ?_
 intro X6 w7 hh hx hge
 have H8 := zH (show Hp w w7 [.blk X6 46 [.int .i64 0, .int .i64 0, .int .i64 4, .int .i64 0, .int .i64 4, .int .i64 4, .int .i64 0, .int .i64 4]] from hh)
 clear hh hx hge
 try simp only [Act.put, zA, zB, zC]
 refine mv_lit (T := 47) (zs := [.slice (some ⟨X6, 0, none⟩) 4 4]) (n := 1) (by rfl) (by go_simp) H8.out (by simp [NoUL]) ?_
 intro X10 w11 hh hx hge
 have H12 := zH (show Hp w w11 [.blk X6 46 [.int .i64 0, .int .i64 0, .int .i64 4, .int .i64 0, .int .i64 4, .int .i64 4, .int .i64 0, .int .i64 4], .blk X10 47 [.slice (some ⟨X6, 0, none⟩) 4 4]] from hh)
 clear hh hx hge
 try simp only [Act.put, zA, zB, zC]
 refine zq (.slice (some ⟨X10, 0, none⟩) 1 1) ?_
 go_upto_region 2 with fail
 refine wp_region_lit ?_
 refine qV (.slice (some ⟨X10, 0, none⟩) 1 1) ?_
 refine zc (q03From 1 _ (by omega) (by omega)) ?_
 rintro e w16 ⟨c_, rfl, hc_, hx⟩
 have H18 := zH (H12.out.step hx)
 obtain ⟨r17, rfl, hr_⟩ := hc_
 have R17 := zH hr_
 have B17 := zH (rl_i64 1 (by omega) (by omega))
 clear hr_
 clear hx
 refine zn ?_
 refine zc (spans_any 3 (.slice (some ⟨X10, 0, none⟩) 1 1) exR 1 r17 (((1) : Int) : Rat) _ (exRings (X1 := X6) (X2 := X10) H18.out (by rfl) (by rfl)) (RV.Is.isIn R17.out (Nat.le_trans B17.out (by decide))) (by decide) (by decide) (by decide) (by decide) (by decide)) ?_
 rintro e w20 ⟨v_, es21, rfl, hv1_, hv2_, hv3_, hx⟩
 have VL21 := zH hv2_
 have LN21 := zH hv3_
 have OK21 := zH hv1_.2
 obtain ⟨A21, c21, rfl, hA_⟩ := RowN.form hv1_.1
 have HA21 := zH hA_
 clear hv2_ hv3_ hA_
 have H22 := zH (show Hp w w20 [.blk X6 46 [.int .i64 0, .int .i64 0, .int .i64 4, .int .i64 0, .int .i64 4, .int .i64 4, .int .i64 0, .int .i64 4], .blk X10 47 [.slice (some ⟨X6, 0, none⟩) 4 4], ro 31 8 A21 es21.length c21 SpE.cells es21] from H18.out.addRow hx hv1_.1)
 clear hv1_
 clear hx
 refine zn ?_
 refine zq (.slice A21 es21.length c21) ?_
 go_upto_region 3 with fail
 refine wp_region_lit ?_
 refine qV (.slice (some ⟨X10, 0, none⟩) 1 1) ?_
 refine zc (q03From 1 _ (by omega) (by omega)) ?_
 rintro e w26 ⟨c_, rfl, hc_, hx⟩
 have H28 := zH (H22.out.step hx)
 have D28 := zH (Dig.of_ext hx)
 obtain ⟨r27, rfl, hr_⟩ := hc_
 have R27 := zH hr_
 have B27 := zH (rl_i64 1 (by omega) (by omega))
 clear hr_
 clear hx
 refine zn ?_
 refine zc (crossings_any 3 _ exR r27 (((1) : Int) : Rat) _ (exRings (X1 := X6) (X2 := X10) H28.out (by rfl) (by rfl)) (RV.Is.isIn R27.out (Nat.le_trans B27.out (by decide))) (by decide) (by decide) (by decide) (by decide)) ?_
 rintro e w30 ⟨A1, c1, A2, c2, n_, em, rfl, rfl, hr1_, hr2_, hok_, hcv_, hx⟩
 obtain ⟨ea, eb, rfl, hva_, hvb_⟩ := two_of_map (hcv_.trans ex_marks)
 have HVA := zH hva_
 have HVB := zH hvb_
 have HOKX := zH hok_
 clear hcv_ hva_ hvb_ hok_
 obtain ⟨g1, rfl⟩ : ∃ g, A1 = some ⟨g, 0, none⟩ := by obtain ⟨A_, c_, h1_, h2_⟩ := RowN.form hr1_; injection h1_ with h1_ _ _; rw [h1_]; exact h2_ (by simp)
 obtain ⟨g2, rfl⟩ : ∃ g, A2 = some ⟨g, 0, none⟩ := by obtain ⟨A_, c_, h1_, h2_⟩ := RowN.form hr2_; injection h1_ with h1_ _ _; rw [h1_]; exact h2_ (by simp)
 have H31 := zH (show Hp w w30 [.blk X6 46 [.int .i64 0, .int .i64 0, .int .i64 4, .int .i64 0, .int .i64 4, .int .i64 4, .int .i64 0, .int .i64 4], .blk X10 47 [.slice (some ⟨X6, 0, none⟩) 4 4], ro 31 8 A21 es21.length c21 SpE.cells es21, ro 29 4 (some ⟨g1, 0, none⟩) 2 c1 MkE.cx ([ea, eb]), ro 3 1 (some ⟨g2, 0, none⟩) 2 c2 MkE.cu ([ea, eb])] from H28.out.addRow2 hx hr1_ hr2_ (by decide))
 have D31 := zH (Dig.of_ext hx)
 clear hx hr1_ hr2_
 refine zn ?_
 refine qV (.tuple #[.slice (some ⟨g1, 0, none⟩) 2 c1, .slice (some ⟨g2, 0, none⟩) 2 c2]) ?_
 refine zq (.slice (some ⟨g1, 0, none⟩) 2 c1) ?_
 refine qV (.slice (some ⟨g2, 0, none⟩) 2 c2) ?_
 refine zq (.slice (some ⟨g1, 0, none⟩) 2 c1) ?_
 refine zq (.slice (some ⟨g2, 0, none⟩) 2 c2) ?_
 have HEA := zH (show [ea, eb][0]? = some ea from rfl)
 have HEB := zH (show [ea, eb][1]? = some eb from rfl)
 have hua := (HOKX.out ea (by simp)).2.2
 have hub := (HOKX.out eb (by simp)).2.2
 have hsum : ea.up = -1 ∧ eb.up = 1 := ⟨congrArg Prod.snd HVA.out, congrArg Prod.snd HVB.out⟩
 go_upto_region 4 with fail
 refine zy ?_
 have H38 := zH (H31.out.step (Ext.refl w30).drew)
 have D38 := zH (Dig.of_ext (w := w30) zb)
 refine zx 0 (bs 29 1) (.slice A21 es21.length c21) zb ?_
 refine mC 1 (bs 29 3) (q03From 0 _ (by have ob0 := hua.1; have ob1 := hua.2; have ob2 := hub.1; have ob3 := hub.2; have ob4 := hsum.1; have ob5 := hsum.2; omega) (by have ob0 := hua.1; have ob1 := hua.2; have ob2 := hub.1; have ob3 := hub.2; have ob4 := hsum.1; have ob5 := hsum.2; omega)) ?_
 rintro e w41 ⟨c_, rfl, hc_, hx⟩
 have H43 := zH (H38.out.step hx)
 have D43 := zH (show Dig w30.drew w41 from Dig.of_ext hx)
 have S45 := zH (show Ext w30 w41 from zb.trans hx)
 obtain ⟨r42, rfl, hr_⟩ := hc_
 have R42 := zH hr_
 have B42 := zH (rl_i64 0 (by have ob0 := hua.1; have ob1 := hua.2; have ob2 := hub.1; have ob3 := hub.2; have ob4 := hsum.1; have ob5 := hsum.2; omega) (by have ob0 := hua.1; have ob1 := hua.2; have ob2 := hub.1; have ob3 := hub.2; have ob4 := hsum.1; have ob5 := hsum.2; omega))
 clear hr_
 clear hx
 refine zm S45.out ?_
 refine mC 2 (bs 29 7) (q03From 4 _ (by have ob0 := hua.1; have ob1 := hua.2; have ob2 := hub.1; have ob3 := hub.2; have ob4 := hsum.1; have ob5 := hsum.2; omega) (by have ob0 := hua.1; have ob1 := hua.2; have ob2 := hub.1; have ob3 := hub.2; have ob4 := hsum.1; have ob5 := hsum.2; omega)) ?_
 rintro e w46 ⟨c_, rfl, hc_, hx⟩
 have H48 := zH (H43.out.step hx)
 have D48 := zH (Dig.of_ext hx)
 have S50 := zH (S45.out.trans hx)
 obtain ⟨r47, rfl, hr_⟩ := hc_
 have R47 := zH hr_
 have B47 := zH (rl_i64 4 (by have ob0 := hua.1; have ob1 := hua.2; have ob2 := hub.1; have ob3 := hub.2; have ob4 := hsum.1; have ob5 := hsum.2; omega) (by have ob0 := hua.1; have ob1 := hua.2; have ob2 := hub.1; have ob3 := hub.2; have ob4 := hsum.1; have ob5 := hsum.2; omega))
 clear hr_
 clear hx
 refine zm S50.out ?_
 refine zx 3 (bs 29 15) (.agg #[.bool r42.n, .slice r42.p r42.l r42.c, .bool r42.m, .slice r42.p2 r42.l2 r42.c2, .bool r47.n, .slice r47.p r47.l r47.c, .bool r47.m, .slice r47.p2 r47.l2 r47.c2]) S50.out ?_
 refine md_lit (T := 31) (zs := [.bool r42.n, .slice r42.p r42.l r42.c, .bool r42.m, .slice r42.p2 r42.l2 r42.c2, .bool r47.n, .slice r47.p r47.l r47.c, .bool r47.m, .slice r47.p2 r47.l2 r47.c2]) (n := 1) (i := 4) (listed' := (bs 29 31)) (by rfl) (by kernel_rfl) (by rfl) (by go_simp) (by kernel_rfl) H48.out (by simp [NoUL]) ?_
 intro X52 w53 hh hx hge
 have H54 := zH (show Hp w w53 [.blk X6 46 [.int .i64 0, .int .i64 0, .int .i64 4, .int .i64 0, .int .i64 4, .int .i64 4, .int .i64 0, .int .i64 4], .blk X10 47 [.slice (some ⟨X6, 0, none⟩) 4 4], ro 31 8 A21 es21.length c21 SpE.cells es21, ro 29 4 (some ⟨g1, 0, none⟩) 2 c1 MkE.cx ([ea, eb]), ro 3 1 (some ⟨g2, 0, none⟩) 2 c2 MkE.cu ([ea, eb]), .blk X52 31 [.bool r42.n, .slice r42.p r42.l r42.c, .bool r42.m, .slice r42.p2 r42.l2 r42.c2, .bool r47.n, .slice r47.p r47.l r47.c, .bool r47.m, .slice r47.p2 r47.l2 r47.c2]] from hh)
 have D54 := zH (Dig.of_ext hx)
 have S56 := zH (S50.out.trans hx)
 clear hh hx hge
 refine ⟨S56.out, ?_⟩
 try simp only [Act.put, zA, zB, zC]
 have DD59 := zH ((((((D28.out.trans D31.out).trans D38.out).trans D43.out).trans D48.out).trans D54.out))
 have DD60 := zH ((D48.out.trans D54.out))
 refine mC 5 (bs 29 63) (r18same_any 60000 (.slice A21 es21.length c21) (.slice (some ⟨X52, 0, none⟩) 1 1) _ _ es21 ([(⟨r42, r47, (((0) : Int) : Rat), (((4) : Int) : Rat)⟩ : SpE)]) _ (SpR.up (L := (3 + 8)) ⟨H54.out.row (i := 2) (by rfl), (fun e_ he_ => (OK21.out e_ he_).dig DD59.out)⟩ (by omega)) ⟨H54.out.litRow (i := 5) (n := 1) (by rfl) (by rfl) (by decide), (by simp only [List.forall_mem_cons, List.not_mem_nil, false_imp_iff, implies_true, and_true]; exact ⟨(R42.out.dig DD60.out), (R47.out.dig D54.out), (Nat.le_trans B42.out (by omega)), (Nat.le_trans B47.out (by omega))⟩)⟩ (by rw [VL21.out, ex_marks, ex_spans]; rfl) (by omega) (Nat.le_trans LN21.out (by decide))) ?_
 rintro e w58 ⟨rfl, hx⟩
 have H61 := zH (H54.out.step hx)
 have D61 := zH (Dig.of_ext hx)
 have S63 := zH (S56.out.trans hx)
 clear hx
 refine zm S63.out ?_
 refine zx 6 (bs 29 127) (.bool true) S63.out ?_
 refine zx 7 (bs 29 255) (.slice (some ⟨g1, 0, none⟩) 2 c1) S63.out ?_
 refine mC 8 (bs 29 511) (q03From 0 _ (by have ob0 := hua.1; have ob1 := hua.2; have ob2 := hub.1; have ob3 := hub.2; have ob4 := hsum.1; have ob5 := hsum.2; omega) (by have ob0 := hua.1; have ob1 := hua.2; have ob2 := hub.1; have ob3 := hub.2; have ob4 := hsum.1; have ob5 := hsum.2; omega)) ?_
 rintro e w66 ⟨c_, rfl, hc_, hx⟩
 have H68 := zH (H61.out.step hx)
 have D68 := zH (Dig.of_ext hx)
 have S70 := zH (S63.out.trans hx)
 obtain ⟨r67, rfl, hr_⟩ := hc_
 have R67 := zH hr_
 have B67 := zH (rl_i64 0 (by have ob0 := hua.1; have ob1 := hua.2; have ob2 := hub.1; have ob3 := hub.2; have ob4 := hsum.1; have ob5 := hsum.2; omega) (by have ob0 := hua.1; have ob1 := hua.2; have ob2 := hub.1; have ob3 := hub.2; have ob4 := hsum.1; have ob5 := hsum.2; omega))
 clear hr_
 clear hx
 refine zm S70.out ?_
 refine mC 9 (bs 29 1023) (q03From 4 _ (by have ob0 := hua.1; have ob1 := hua.2; have ob2 := hub.1; have ob3 := hub.2; have ob4 := hsum.1; have ob5 := hsum.2; omega) (by have ob0 := hua.1; have ob1 := hua.2; have ob2 := hub.1; have ob3 := hub.2; have ob4 := hsum.1; have ob5 := hsum.2; omega)) ?_
 rintro e w71 ⟨c_, rfl, hc_, hx⟩
 have H73 := zH (H68.out.step hx)
 have D73 := zH (Dig.of_ext hx)
 have S75 := zH (S70.out.trans hx)
 obtain ⟨r72, rfl, hr_⟩ := hc_
 have R72 := zH hr_
 have B72 := zH (rl_i64 4 (by have ob0 := hua.1; have ob1 := hua.2; have ob2 := hub.1; have ob3 := hub.2; have ob4 := hsum.1; have ob5 := hsum.2; omega) (by have ob0 := hua.1; have ob1 := hua.2; have ob2 := hub.1; have ob3 := hub.2; have ob4 := hsum.1; have ob5 := hsum.2; omega))
 clear hr_
 clear hx
 refine zm S75.out ?_
 refine md_lit (T := 29) (zs := [.bool r67.n, .slice r67.p r67.l r67.c, .bool r67.m, .slice r67.p2 r67.l2 r67.c2, .bool r72.n, .slice r72.p r72.l r72.c, .bool r72.m, .slice r72.p2 r72.l2 r72.c2]) (n := 2) (i := 10) (listed' := (bs 29 2047)) (by rfl) (by kernel_rfl) (by rfl) (by go_simp) (by kernel_rfl) H73.out (by simp [NoUL]) ?_
 intro X76 w77 hh hx hge
 have H78 := zH (show Hp w w77 [.blk X6 46 [.int .i64 0, .int .i64 0, .int .i64 4, .int .i64 0, .int .i64 4, .int .i64 4, .int .i64 0, .int .i64 4], .blk X10 47 [.slice (some ⟨X6, 0, none⟩) 4 4], ro 31 8 A21 es21.length c21 SpE.cells es21, ro 29 4 (some ⟨g1, 0, none⟩) 2 c1 MkE.cx ([ea, eb]), ro 3 1 (some ⟨g2, 0, none⟩) 2 c2 MkE.cu ([ea, eb]), .blk X52 31 [.bool r42.n, .slice r42.p r42.l r42.c, .bool r42.m, .slice r42.p2 r42.l2 r42.c2, .bool r47.n, .slice r47.p r47.l r47.c, .bool r47.m, .slice r47.p2 r47.l2 r47.c2], .blk X76 29 [.bool r67.n, .slice r67.p r67.l r67.c, .bool r67.m, .slice r67.p2 r67.l2 r67.c2, .bool r72.n, .slice r72.p r72.l r72.c, .bool r72.m, .slice r72.p2 r72.l2 r72.c2]] from hh)
 have D78 := zH (Dig.of_ext hx)
 have S80 := zH (S75.out.trans hx)
 clear hh hx hge
 refine ⟨S80.out, ?_⟩
 try simp only [Act.put, zA, zB, zC]
 have DD83 := zH ((((((((D38.out.trans D43.out).trans D48.out).trans D54.out).trans D61.out).trans D68.out).trans D73.out).trans D78.out))
 have DD84 := zH ((D73.out.trans D78.out))
 refine mC 11 (bs 29 4095) (sameAll_any 60000 (.slice (some ⟨g1, 0, none⟩) 2 c1) (.slice (some ⟨X76, 0, none⟩) 2 2) [(0 : Rat), (4 : Rat)] _ (by have hr_ : RowN w77 _ 29 4 (.slice (some ⟨g1, 0, none⟩) 2 c1) 2 (List.flatMap MkE.cx [ea, eb]) := H78.out.row (i := 3) (by rfl); have h := RsV.of_row (L := 60000) MkE.a MkE.q hr_ rfl (fun e_ he_ => by have h1 := ((HOKX.out e_ he_).dig DD83.out); exact ⟨h1.1, Nat.le_trans h1.2.1 (by decide)⟩); rwa [show List.map MkE.q [ea, eb] = [(0 : Rat), (4 : Rat)] from by have q1 : ea.q = 0 := congrArg Prod.fst HVA.out; have q2 : eb.q = 4 := congrArg Prod.fst HVB.out; simp [q1, q2]] at h) (by have hr_ : RowN w77 _ 29 4 (.slice (some ⟨X76, 0, none⟩) 2 2) 2 [.bool r67.n, .slice r67.p r67.l r67.c, .bool r67.m, .slice r67.p2 r67.l2 r67.c2, .bool r72.n, .slice r72.p r72.l r72.c, .bool r72.m, .slice r72.p2 r72.l2 r72.c2] := H78.out.litRow (i := 6) (by rfl) (by rfl) (by decide); have h := RsV.of_row (L := 60000) (es := [(⟨r67, 0, 0⟩ : MkE), ⟨r72, 4, 0⟩]) MkE.a MkE.q hr_ rfl (by simp only [List.forall_mem_cons, List.not_mem_nil, false_imp_iff, implies_true, and_true]; exact ⟨⟨(R67.out.dig DD84.out), (Nat.le_trans B67.out (by omega))⟩, (R72.out.dig D78.out), (Nat.le_trans B72.out (by omega))⟩); exact h) (by decide) (by decide)) ?_
 rintro e w82 ⟨rfl, hx⟩
 have H85 := zH (H78.out.step hx)
 have S87 := zH (S80.out.trans hx)
 clear hx
 refine zm S87.out ?_
 refine zx 12 (bs 29 8191) (.bool true) S87.out ?_
 refine zx 13 (bs 29 16383) (.bool true) S87.out ?_
 refine zx 14 (bs 29 32767) (.slice (some ⟨g2, 0, none⟩) 2 c2) S87.out ?_
 refine zx 15 (bs 29 65535) (.int .i64 2) S87.out ?_
 refine zu 16 (bs 29 131071) (v := .bool true) S87.out ?_ (hv := by intro w hSw; exact ezq (e := (dec_t (by have ob0 := hua.1; have ob1 := hua.2; have ob2 := hub.1; have ob3 := hub.2; have ob4 := hsum.1; have ob5 := hsum.2; omega))))
 refine zx 17 (bs 29 262143) (.bool true) S87.out ?_
 refine zx 18 (bs 29 524287) (.bool true) S87.out ?_
 refine zx 19 (bs 29 1048575) (.slice (some ⟨g2, 0, none⟩) 2 c2) S87.out ?_
 refine zu 20 (bs 29 2097151) (v := .pointer (some ⟨g2, 0 * 1, none⟩)) S87.out ?_ (hv := by intro w hSw; exact ezi (k := 0) Tryz.underlying51 (l := (by decide)) (f := (Nat.zero_add _).symm))
 refine zf 21 (bs 29 4194303) g2 (0 * 1) (.int .i64 ea.up) (H31.out.elem (f := MkE.cu) (i := 4) (by rfl) MkE.cu_len HEA.out) S87.out ?_
 refine zx 22 (bs 29 8388607) (.slice (some ⟨g2, 0, none⟩) 2 c2) S87.out ?_
 refine zu 23 (bs 29 16777215) (v := .pointer (some ⟨g2, 1 * 1, none⟩)) S87.out ?_ (hv := by intro w hSw; exact ezi (k := 1) Tryz.underlying51 (l := (by decide)) (f := (Nat.zero_add _).symm))
 refine zf 24 (bs 29 33554431) g2 (1 * 1) (.int .i64 eb.up) (H31.out.elem (f := MkE.cu) (i := 4) (by rfl) MkE.cu_len HEB.out) S87.out ?_
 refine zu 25 (bs 29 67108863) (v := .int .i64 (ea.up + eb.up)) S87.out ?_ (hv := by intro w hSw; exact ez1 (by have ob0 := hua.1; have ob1 := hua.2; have ob2 := hub.1; have ob3 := hub.2; have ob4 := hsum.1; have ob5 := hsum.2; omega))
 refine zu 26 (bs 29 134217727) (v := .bool true) S87.out ?_ (hv := by intro w hSw; exact ezq (e := (dec_t (by have ob0 := hua.1; have ob1 := hua.2; have ob2 := hub.1; have ob3 := hub.2; have ob4 := hsum.1; have ob5 := hsum.2; omega))))
 refine zx 27 (bs 29 268435455) (.bool true) S87.out ?_
 refine mX 28 (bs 29 536870911) (.bool true) S87.out ?_
 (try simp only [Act.put, List.setIfInBounds_toArray, List.set_cons_zero])
 refine wpAnyH_done (by kernel_rfl) ?_ _
 go_wp2_with fail
 go_ret
 exact ⟨rfl, H85.out.ext⟩

set_option maxRecDepth 20000 in
set_option maxHeartbeats 4000000 in
theorem rsorted_any (L : Nat) (u : Value) (ps : List QQ) (w : World) (hu : SpansV L w u ps) (h1L : 1 ≤ L) (hL : L ≤ 60000) (hn : ps.length ≤ 20000) :
  Calls Tryz.prog 28 #[u] w fun e w' => ∃ v es, e = .returned v ∧ SpR L w' w.heap.size v es ∧ es.map SpE.vl = sortedV ps ∧ es.length ≤ ps.length ∧ Ext w w' := by
 have HU := zH hu
 have HL1 := zH h1L
 obtain ⟨Au, cu, rfl, _⟩ := hu
 obtain ⟨i0, hi, hz0, hz1, hz2⟩ := info_parts infoSp
 have HI := zH (And.intro hi (And.intro hz0 (And.intro hz1 hz2)))
 clear hi hz0 hz1 hz2
 go_enter Tryz.func28, Tryz.ntmps28
 go_wp2_with fail
 go_loopg [3, 4] ps.length (fun c v i wr => ∃ (k : Nat) (es : List SpE) (v2 : Value), k ≤ ps.length ∧ c = ps.length - k ∧ i = .int .i64 k ∧ v2 = v ∧ SpR L wr w.heap.size v2 es ∧ es.map SpE.vl = sortedV (ps.take k) ∧ es.length ≤ k ∧ Ext w wr)
 case atStart => exact ⟨0, [], _, Nat.zero_le _, rfl, rfl, rfl, ⟨RowN.empty w w.heap.size 31 8 (Nat.le_refl _), by simp⟩, rfl, Nat.le_refl _, (Ext.refl _).alloc _⟩
 case round =>
  obtain ⟨k, es, v, hk, rfl, rfl, rfl, hsp, hes, hek, hx⟩ := hrel
  have HSP := zH hsp
  have HES := zH (And.intro hes hek)
  have HX := zH hx
  clear hsp hes hx
  by_cases hlt : k < ps.length
  ·have hlt2 : (k : Int) < (ps.length : Int) := by omega
   obtain ⟨p, hp⟩ : ∃ p, ps[k]? = some p := ⟨_, List.getElem?_eq_getElem hlt⟩
   obtain ⟨g, off, c9, f, hv9, hr, hfa, hfb⟩ := (HU.out.ext HX.out).at hp
   injection hv9 with hv1 hv2 hv3
   subst hv1
   have HSM := zH (sorted_succ hp)
   have HR1 := zH (range_left (a := [.bool f.a.n, .slice f.a.p f.a.l f.a.c, .bool f.a.m, .slice f.a.p2 f.a.l2 f.a.c2]) (b := [.bool f.b.n, .slice f.b.p f.b.l f.b.c, .bool f.b.m, .slice f.b.p2 f.b.l2 f.b.c2]) hr)
   have HR2 := zH (range_right (a := [.bool f.a.n, .slice f.a.p f.a.l f.a.c, .bool f.a.m, .slice f.a.p2 f.a.l2 f.a.c2]) (b := [.bool f.b.n, .slice f.b.p f.b.l f.b.c, .bool f.b.m, .slice f.b.p2 f.b.l2 f.b.c2]) (n := 4) hr rfl)
   have HFA := zH hfa
   have HFB := zH hfb
   have HLT := zH hlt
   have HFAR := zH (show v.ownBlock ≠ some g from fun h => by have h1 := HSP.out.1.block g h; obtain ⟨g2, off2, c2, f2, hv2, hr2, _⟩ := HU.out.at hp; injection hv2 with k1 _ _; injection k1 with k1; injection k1 with k1; have h2 := range_lt (v := .bool f2.a.n) (j := 0) hr2 rfl; omega)
   clear hr hfa hfb hp hlt hv2 hv3
   go_upto_region 5 with fail
   refine wp_region_held_drew (S := fun x => Ext wr x) (by kernel_rfl) (Ext.refl _).drew (fun _ => ?_)
   refine zv 0 (bs 12 1) (Ext.refl wr).drew ?_
   refine zv 1 (bs 12 3) (Ext.refl wr).drew ?_
   refine zv 2 (bs 12 7) (Ext.refl wr).drew ?_
   refine mV 3 (bs 12 15) (Ext.refl wr).drew ?_
   refine zr 4 (bs 12 31) g (off + k * 8) [.bool f.a.n, .slice f.a.p f.a.l f.a.c, .bool f.a.m, .slice f.a.p2 f.a.l2 f.a.c2] (fun wX hwX => range_ext HR1.out hwX) Tryz.underlying29 (Ext.refl wr).drew ?_
   refine zv 5 (bs 12 63) (Ext.refl wr).drew ?_
   refine zv 6 (bs 12 127) (Ext.refl wr).drew ?_
   refine zv 7 (bs 12 255) (Ext.refl wr).drew ?_
   refine mV 8 (bs 12 511) (Ext.refl wr).drew ?_
   refine zr 9 (bs 12 1023) g (off + k * 8 + 4) [.bool f.b.n, .slice f.b.p f.b.l f.b.c, .bool f.b.m, .slice f.b.p2 f.b.l2 f.b.c2] (fun wX hwX => range_ext HR2.out hwX) Tryz.underlying29 (Ext.refl wr).drew ?_
   refine mC 10 (bs 12 2047) (less_any L _ _ p.1 p.2 _ (NIn.ofa (HFA.out.ext (Ext.refl _).drew)) (NIn.ofb' (HFB.out.ext (Ext.refl _).drew)) hL) ?_
   rintro e w5 ⟨rfl, hx⟩
   have HEw5 := zH (show Ext wr w5 from ((Ext.refl wr).drew).trans hx)
   clear hx
   refine ⟨_, rfl, HEw5.out, ?_⟩
   try simp only [Act.put, zA, zB, zC]
   have HEo := HEw5
   have HR15 := zH (range_ext HR1.out HEw5.out)
   have HR25 := zH (range_ext HR2.out HEw5.out)
   have HFA5 := zH (HFA.out.ext HEw5.out)
   have HFB5 := zH (HFB.out.ext HEw5.out)
   have HXw5 := zH (HX.out.trans HEw5.out)
   have HSP5 := zH (HSP.out.ext HEw5.out)
   clear HR1 HR2 HFA HFB HX HSP
   by_cases hpq : p.1 < p.2
   ·have hdd : decide (p.1 < p.2) = true := by simpa using hpq
    have hcont := HSM.out
    rw [if_pos hpq] at hcont
    have HCO := zH hcont
    clear hcont
    refine zv 11 (bs 12 4095) (show Ext wr w5 from HEo.out) ?_
    refine wpAnyH_done (by kernel_rfl) ?_ _
    clear hdd hpq HEo HEw5
    go_upto_region 6 with fail
    refine wp_region_held_drew (S := fun x => w5.grownBy x v.ownBlock) (by kernel_rfl) (grown_of_ext _ (Ext.refl _).drew) (fun _ => ?_)
    refine zv 0 (bs 17 1) (grown_of_ext _ (Ext.refl w5).drew) ?_
    refine zv 1 (bs 17 3) (grown_of_ext _ (Ext.refl w5).drew) ?_
    refine zv 2 (bs 17 7) (grown_of_ext _ (Ext.refl w5).drew) ?_
    refine zv 3 (bs 17 15) (grown_of_ext _ (Ext.refl w5).drew) ?_
    refine mV 4 (bs 17 31) (grown_of_ext _ (Ext.refl w5).drew) ?_
    refine zr 5 (bs 17 63) g (off + k * 8) [.bool f.a.n, .slice f.a.p f.a.l f.a.c, .bool f.a.m, .slice f.a.p2 f.a.l2 f.a.c2] (fun x hx => range_grown HR15.out hx HFAR.out) Tryz.underlying29 (grown_of_ext _ (Ext.refl w5).drew) ?_
    refine zv 7 (bs 17 191) (grown_of_ext _ (Ext.refl w5).drew) ?_
    refine zv 8 (bs 17 447) (grown_of_ext _ (Ext.refl w5).drew) ?_
    refine zv 9 (bs 17 959) (grown_of_ext _ (Ext.refl w5).drew) ?_
    refine mV 10 (bs 17 1983) (grown_of_ext _ (Ext.refl w5).drew) ?_
    refine zr 11 (bs 17 4031) g (off + k * 8 + 4) [.bool f.b.n, .slice f.b.p f.b.l f.b.c, .bool f.b.m, .slice f.b.p2 f.b.l2 f.b.c2] (fun x hx => range_grown HR25.out hx HFAR.out) Tryz.underlying29 (grown_of_ext _ (Ext.refl w5).drew) ?_
    refine mC 6 (bs 17 4095) (q03Norm (NIn.ofa (HFA5.out.ext (Ext.refl _).drew)) (by omega)) ?_
    rintro e w6 ⟨c1, rfl, hc1, hx⟩
    have HEw6 := zH (show Ext w5 w6 from ((Ext.refl w5).drew).trans hx)
    obtain ⟨ra, rfl, hra⟩ := hc1
    have HRA := zH hra
    clear hra
    clear hx
    refine ⟨_, rfl, (grown_of_ext _ HEw6.out), ?_⟩
    try simp only [Act.put, zA, zB, zC]
    refine mC 12 (bs 17 8191) (q03Norm (NIn.ofb' (HFB5.out.ext HEw6.out)) (by omega)) ?_
    rintro e w7 ⟨c2, rfl, hc2, hx⟩
    have HEw7 := zH (show Ext w5 w7 from (HEw6.out).trans hx)
    obtain ⟨rb, rfl, hrb⟩ := hc2
    have HRB := zH hrb
    have HRA7 := zH (HRA.out.ext hx)
    clear hrb HRA
    clear hx
    refine ⟨_, rfl, (grown_of_ext _ HEw7.out), ?_⟩
    try simp only [Act.put, zA, zB, zC]
    refine zv 13 (bs 17 16383) (grown_of_ext _ HEw7.out) ?_
    have hw7 := HSP5.out.ext HEw7.out
    have hbz := (HXw5.out.trans HEw7.out).size
    have hek3 : es.length ≤ 20000 := by have := HES.out.2; omega
    have hOK : SpE.Ok L w7 ⟨ra, rb, p.1, p.2⟩ := ⟨HRA7.out, HRB.out, (NIn.ofa HFA5.out).rl HL1.out, (NIn.ofb' HFB5.out).rl HL1.out⟩
    have HOK := zH hOK
    clear hOK
    have hAE : Ext w7 (w7.alloc (.cells #[.bool ra.n, .slice ra.p ra.l ra.c, .bool ra.m, .slice ra.p2 ra.l2 ra.c2, .bool rb.n, .slice rb.p rb.l rb.c, .bool rb.m, .slice rb.p2 rb.l2 rb.c2] 31)) := (Ext.refl _).alloc _
    refine mU 14 (bs 17 32767) (v := .slice (some ⟨w7.heap.size, 0, none⟩) 1 1) (w' := (w7.alloc (.cells #[.bool ra.n, .slice ra.p ra.l ra.c, .bool ra.m, .slice ra.p2 ra.l2 ra.c2, .bool rb.n, .slice rb.p rb.l rb.c, .bool rb.m, .slice rb.p2 rb.l2 rb.c2] 31))) (grown_of_ext _ ((HEw7.out).alloc _)) ?_
    try simp only [Act.put, zA, zB, zC]
    refine md_appendF (j := 15) (listed' := (bs 17 65535)) (by rfl) (by kernel_rfl) (by rfl) _ _ 22 (by rfl) w.heap.size 31 i0 _ 8 128 Tryz.underlying22 HI.out.1 HI.out.2.1 HI.out.2.2.1 HI.out.2.2.2 rfl (by decide) noUL_zsp _ es.length (spCells es) (by rfl) (hw7.ext hAE).1 ⟨w7.heap.size, 0, none⟩ 1 1 [.bool ra.n, .slice ra.p ra.l ra.c, .bool ra.m, .slice ra.p2 ra.l2 ra.c2, .bool rb.n, .slice rb.p rb.l rb.c, .bool rb.m, .slice rb.p2 rb.l2 rb.c2] (by rfl) rfl (new_cells _ [.bool ra.n, .slice ra.p ra.l ra.c, .bool ra.m, .slice ra.p2 ra.l2 ra.c2, .bool rb.n, .slice rb.p rb.l rb.c, .bool rb.m, .slice rb.p2 rb.l2 rb.c2] _) (by simp [Value.oneCell']) (SpE.noU ⟨ra, rb, p.1, p.2⟩) (by decide) (by unfold maxLen; omega) (by omega) (by have := hAE.size; omega) (by kernel_rfl) ?_
    intro gx cx w8 hf h2 h3 h4
    have HSN := zH ((hw7.ext hAE).snoc (e := ⟨ra, rb, p.1, p.2⟩) rfl (HOK.out.ext hAE) h2 h4)
    have HX8 := zH (((HXw5.out.trans HEw7.out).trans hAE).grown h3 (fun j hj => hw7.1.block j hj))
    have hS8 : w5.grownBy w8 v.ownBlock := ext_grown (HEw7.out.trans hAE) h3
    clear hw7 hbz hf h2 h3 h4 hAE
    refine ⟨hS8, ?_⟩
    try simp only [Act.put, zA, zB, zC]
    refine zv 16 (bs 17 131071) hS8 ?_
    refine wpAnyH_done (by kernel_rfl) ?_ _
    clear hS8 HR15 HR25 HFA5 HFB5 HFAR HRA7 HRB HOK HSP5 HXw5
    have HINS := zH (show (Stb.ins ltE es ⟨ra, rb, p.1, p.2⟩).map SpE.vl = sortedV (ps.take (k + 1)) by rw [HCO.out, ins_map SpE.vl (lt := ltE) (lt' := ltQ) (fun _ _ => rfl), HES.out.1]; rfl)
    have HSRT := zH (show Stb.Srt ltE es from srt_vl (by rw [HES.out.1]; exact sorted_srt _))
    have HEK := zH HES.out.2
    generalize (⟨ra, rb, p.1, p.2⟩ : SpE) = y at *
    obtain ⟨n, hn0⟩ : ∃ n, es.length = n := ⟨_, rfl⟩
    rw [hn0] at HSN HEK ⊢
    have HN := zH hn0
    have hn20 : n ≤ 20000 := by have := HEK.out; omega
    clear hn0 HCO HES HSM
    have wn : IntKind.i64.wrap (n : Int) = (n : Int) := by rw [IntKind.wrap_i64]; omega
    have e1 : ((n + 1 : Nat) : Int) - 1 = (n : Int) := by omega
    have e2 : (n : Int) + 1 - 1 = (n : Int) := by omega
    go_wp2_with fail
    go_loopg [5] n (fun c i wr => ∃ u : Nat, u ≤ n ∧ c = 0 + u ∧ i = .int .i64 u ∧ (∀ z, z ∈ es.drop u → ltE y z = true) ∧ SpR L wr w.heap.size (.slice (some ⟨gx, 0, none⟩) (n + 1) cx) (es.take u ++ y :: es.drop u) ∧ Ext w wr)
    case atStart => exact ⟨n, Nat.le_refl _, by omega, rfl, by intro z hz; rw [List.drop_of_length_le (by have := HN.out; omega)] at hz; simp at hz, by rw [List.take_of_length_le (by have := HN.out; omega), List.drop_of_length_le (by have := HN.out; omega)]; exact HSN.out, HX8.out⟩
    case round =>
     clear HSN HX8
     obtain ⟨u, hu, rfl, rfl, hall, hsp, hx⟩ := hrel
     have HALL := zH hall
     have HSP := zH hsp
     have HX := zH hx
     have HU := zH hu
     have hu20 : u ≤ 20000 := by omega
     have wu : IntKind.i64.wrap (u : Int) = (u : Int) := by rw [IntKind.wrap_i64]; omega
     have hrl : (es.take u ++ y :: es.drop u).length = n + 1 := by have := HN.out; simp; omega
     clear hall hsp hx
     by_cases hu0 : 0 < u
     ·obtain ⟨q, hq⟩ : ∃ q, q + 1 = u := ⟨u - 1, by omega⟩
      have hu0z : (0 : Int) < (u : Int) := by omega
      have e3 : (u : Int) - 1 = (q : Int) := by omega
      have wq : IntKind.i64.wrap (q : Int) = (q : Int) := by rw [IntKind.wrap_i64]; omega
      have hql : q < es.length := by have := HN.out; omega
      have gx1 : (es.take u ++ y :: es.drop u)[q]? = some es[q] := by
       rw [List.getElem?_append_left (by rw [List.length_take]; omega), List.getElem?_take, if_pos (by omega)]
       exact List.getElem?_eq_getElem hql
      have gy1 : (es.take u ++ y :: es.drop u)[u]? = some y := by
       rw [List.getElem?_append_right (by rw [List.length_take]; omega), List.length_take, show u - min u es.length = 0 by omega]
       rfl
      have HSTEP := zH (show swp (es.take u ++ y :: es.drop u) u q = es.take q ++ y :: es.drop q by
       have h := swps_left [] es [] y q hql
       simp only [List.nil_append, List.append_nil, List.length_nil, Nat.zero_add] at h
       rw [hq] at h
       exact h)
      have HQX := zH (show ∀ z, z ∈ es.drop q → z = es[q] ∨ z ∈ es.drop u by
       intro z hz
       rw [List.drop_eq_getElem_cons hql, hq] at hz
       simpa using hz)
      have HIN2 := zH (fun h => Stb.ins_stop wkE (y := y) HSRT.out HALL.out (by omega) (Or.inr ⟨q, hq, hql, h⟩))
      have HE := zH (swp_eq gy1 gx1)
      have HOKX := zH (HSP.out.2 es[q] (List.mem_of_getElem? gx1))
      have HOKY := zH (HSP.out.2 y (List.mem_of_getElem? gy1))
      have HRX := zH (HSP.out.read gx1)
      have HRY := zH (HSP.out.read gy1)
      have HLu := zH (List.getElem?_eq_some_iff.1 gy1).1
      have HLq := zH (List.getElem?_eq_some_iff.1 gx1).1
      have bu : (u : Int) < (n : Int) + 1 := by omega
      have bq : (q : Int) < (n : Int) + 1 := by omega
      generalize es[q] = x at *
      generalize hrow : es.take u ++ y :: es.drop u = row at *
      have HROW := zH hrow
      have HQ := zH hq
      clear gx1 gy1 hql hq hrow hu
      go_upto_region 8 with fail
      refine wp_region_held_drew (S := fun x => Ext wr x) (by kernel_rfl) (Ext.refl _).drew (fun _ => ?_)
      refine zv 0 (bs 16 1) (Ext.refl wr).drew ?_
      refine zv 1 (bs 16 3) (Ext.refl wr).drew ?_
      refine zv 2 (bs 16 7) (Ext.refl wr).drew ?_
      refine zv 3 (bs 16 15) (Ext.refl wr).drew ?_
      refine zv 4 (bs 16 31) (Ext.refl wr).drew ?_
      refine zv 5 (bs 16 63) (Ext.refl wr).drew ?_
      refine mV 6 (bs 16 127) (Ext.refl wr).drew ?_
      refine zr 7 (bs 16 255) gx (u * 8) [.bool y.a.n, .slice y.a.p y.a.l y.a.c, .bool y.a.m, .slice y.a.p2 y.a.l2 y.a.c2] (fun wX hwX => range_ext (range_left (a := [.bool y.a.n, .slice y.a.p y.a.l y.a.c, .bool y.a.m, .slice y.a.p2 y.a.l2 y.a.c2]) (b := [.bool y.b.n, .slice y.b.p y.b.l y.b.c, .bool y.b.m, .slice y.b.p2 y.b.l2 y.b.c2]) HRY.out) hwX) Tryz.underlying29 (Ext.refl wr).drew ?_
      refine zv 8 (bs 16 511) (Ext.refl wr).drew ?_
      refine zv 9 (bs 16 1023) (Ext.refl wr).drew ?_
      refine zv 10 (bs 16 2047) (Ext.refl wr).drew ?_
      refine zv 11 (bs 16 4095) (Ext.refl wr).drew ?_
      refine mV 12 (bs 16 8191) (Ext.refl wr).drew ?_
      refine zr 13 (bs 16 16383) gx (q * 8) [.bool x.a.n, .slice x.a.p x.a.l x.a.c, .bool x.a.m, .slice x.a.p2 x.a.l2 x.a.c2] (fun wX hwX => range_ext (range_left (a := [.bool x.a.n, .slice x.a.p x.a.l x.a.c, .bool x.a.m, .slice x.a.p2 x.a.l2 x.a.c2]) (b := [.bool x.b.n, .slice x.b.p x.b.l x.b.c, .bool x.b.m, .slice x.b.p2 x.b.l2 x.b.c2]) HRX.out) hwX) Tryz.underlying29 (Ext.refl wr).drew ?_
      refine mC 14 (bs 16 32767) (less_any L _ _ y.p x.p _ (NIn.ofa2 (HOKY.out.ext (Ext.refl _).drew)) (NIn.ofa2 (HOKX.out.ext (Ext.refl _).drew)) hL) ?_
      rintro e w5 ⟨rfl, hx⟩
      have HEw5 := zH (show Ext wr w5 from ((Ext.refl wr).drew).trans hx)
      clear hx
      refine ⟨_, rfl, HEw5.out, ?_⟩
      try simp only [Act.put, zA, zB, zC]
      have HX5 := zH (HX.out.trans HEw5.out)
      have HSP5 := zH (HSP.out.ext HEw5.out)
      have HRX5 := zH (range_ext HRX.out HEw5.out)
      have HRY5 := zH (range_ext HRY.out HEw5.out)
      have HOKX5 := zH (HOKX.out.ext HEw5.out)
      have HOKY5 := zH (HOKY.out.ext HEw5.out)
      clear HX HSP HRX HRY HOKX HOKY
      by_cases hlt : y.p < x.p
      ·have HLT2 := zH (show ltE y x = true from decide_eq_true hlt)
       have hdd : decide (y.p < x.p) = true := by simpa using hlt
       refine zv 15 (bs 16 65535) HEw5.out ?_
       refine wpAnyH_done (by kernel_rfl) ?_ _
       clear hdd hlt HEw5
       go_upto_region 10 with fail
       refine wp_region_lit ?_
       refine qV (.slice (some ⟨gx, 0, none⟩) (n + 1) cx) ?_
       refine zq (.int .i64 u) ?_
       refine zq (.pointer (some ⟨gx, u * 8, none⟩)) ?_
       refine wpList_if (by rfl) (wp_load_mid _ _ (by rfl) gx (u * 8) (by rfl) y.cells _ HRY5.out Tryz.underlying31 (by rfl) (by kernel_rfl) ?_)
       try simp only [Act.put, zA, zB, zC]
       have HFAR0 := zH (fun X hX => sp_far (X := X) HSP5.out hX)
       refine zp (w' := w5.alloc (.cells z8 31)) (.pointer (some ⟨w5.heap.size, 0, none⟩)) (by go_simp) ?_
       refine pO (y.cells).toArray (Blk.new w5 _ _) (by simp [SpE.len]) (by rw [show ((y.cells).toArray : Array Value).size = 8 by simp [SpE.len]]; kernel_rfl) (all_oneCell_toArray y.one) ?_
       (try simp only [Act.put])
       obtain ⟨xq1, xq2⟩ := new_var w5 31 z8 (y.cells).toArray (by simp [SpE.len])
       generalize (w5.alloc (.cells z8 31)).setCells w5.heap.size 0 ((y.cells).toArray : Array Value).toList = w6 at *
       have HFAR := zH (HFAR0.out w5.heap.size (Nat.le_refl _))
       generalize w5.heap.size = X6 at *
       have HEw6 := zH xq1
       have HBX6 := zH xq2
       clear xq1 xq2
       have HX6 := zH (HX5.out.trans HEw6.out)
       have HSP6 := zH (HSP5.out.ext HEw6.out)
       have HRX6 := zH (range_ext HRX5.out HEw6.out)
       have HOKX6 := zH (HOKX5.out.ext HEw6.out)
       have HOKY6 := zH (HOKY5.out.ext HEw6.out)
       clear HX5 HRX5 HRY5 HOKX5 HOKY5 HEw6
       go_upto_region 11 with fail
       refine wp_region_lit ?_
       refine qV (.slice (some ⟨gx, 0, none⟩) (n + 1) cx) ?_
       refine zq (.int .i64 u) ?_
       refine qV (.slice (some ⟨gx, 0, none⟩) (n + 1) cx) ?_
       refine zq (.int .i64 u) ?_
       refine qV (.int .i64 q) ?_
       refine zq (.pointer (some ⟨gx, q * 8, none⟩)) ?_
       refine wpList_if (by rfl) (wp_load_mid _ _ (by rfl) gx (q * 8) (by rfl) x.cells _ HRX6.out Tryz.underlying31 (by rfl) (by kernel_rfl) ?_)
       try simp only [Act.put, zA, zB, zC]
       refine zq (.pointer (some ⟨gx, u * 8, none⟩)) ?_
       obtain ⟨t1, t2, t3⟩ := HSP6.out.set HLu.out HOKX6.out
       obtain ⟨csr, hbr, hnr⟩ := HSP6.out.rowNoU
       have hgb : w.heap.size ≤ gx := HSP6.out.1.block gx (by simp [Value.ownBlock])
       have hne6 : X6 ≠ gx := fun h => HFAR.out (by rw [h]; simp [Value.ownBlock])
       refine wpList_if (by rfl) (wp_store_mid 31 _ _ (by rfl) gx (u * 8) x.cells.toArray (by rfl) (by rfl) t1 (by kernel_rfl) (all_oneCell_toArray x.one) ?_)
       (try simp only [Act.put])
       have HSP7 := zH t2
       have HX7 := zH (t3.ext HX6.out hgb)
       have HB7 := zH (HBX6.out.own t3 hne6)
       have HOKY7 := zH (HOKY6.out.map fun r q h => h.own hbr hnr t3)
       clear t1 t2 t3 hbr hnr HX6 HSP6 HRX6 HOKX6 HOKY6
       generalize World.setCells w6 gx (u * 8) _ = w7 at *
       go_upto_region 12 with fail
       refine wp_region_lit ?_
       refine qV (.slice (some ⟨gx, 0, none⟩) (n + 1) cx) ?_
       refine zq (.int .i64 u) ?_
       refine zq (.int .i64 q) ?_
       refine pL HB7.out Tryz.underlying31 (by kernel_rfl) ?_
       try simp only [Act.put, zA, zB, zC]
       refine zq (.pointer (some ⟨gx, q * 8, none⟩)) ?_
       obtain ⟨t1, t2, t3⟩ := HSP7.out.set (by rw [List.length_set]; exact HLq.out) HOKY7.out
       refine wpList_if (by rfl) (wp_store_mid 31 _ _ (by rfl) gx (q * 8) y.cells.toArray (by rfl) (by rfl) t1 (by kernel_rfl) (all_oneCell_toArray y.one) ?_)
       (try simp only [Act.put])
       have HSP9 := zH t2
       have HX9 := zH (t3.ext HX7.out hgb)
       clear t1 t2 t3 HX7 HSP7 HB7 HOKY7 hgb hne6
       generalize World.setCells w7 gx (q * 8) _ = w9 at *
       go_wp2_with fail
       go_roundg q
       case measure => have := HQ.out; omega
       case rel => exact ⟨q, by have := HQ.out; have := HU.out; omega, by omega, rfl, fun z hz => (HQX.out z hz).elim (fun h => by rw [h]; exact HLT2.out) (HALL.out z), by rw [← HSTEP.out, HE.out]; exact HSP9.out, HX9.out⟩
      have HLT2 := zH (show ltE y x = false from decide_eq_false hlt)
      have hdd : decide (y.p < x.p) = false := by simpa using hlt
      refine zv 15 (bs 16 65535) HEw5.out ?_
      refine wpAnyH_done (by kernel_rfl) ?_ _
      clear hdd hlt HEw5
      have HR := zH (show SpR L w5 w.heap.size (.slice (some ⟨gx, 0, none⟩) (n + 1) cx) (Stb.ins ltE es y) by rw [HIN2.out HLT2.out]; exact HSP5.out)
      have HXR := HX5
      go_wp2_with fail
      go_roundg (ps.length - (k + 1))
      case measure => have := HLT.out; omega
      case rel => exact ⟨k + 1, _, _, HLT.out, rfl, by go_num, rfl, HR.out, HINS.out, by rw [Stb.ins_len, HN.out]; have := HEK.out; omega, HXR.out⟩
     obtain rfl : u = 0 := by omega
     have HIN2 := zH (Stb.ins_stop wkE (y := y) HSRT.out HALL.out (Nat.zero_le _) (Or.inl rfl))
     go_upto_region 8 with fail
     refine wp_region_held_drew (S := fun x => Ext wr x) (by kernel_rfl) (Ext.refl _).drew (fun _ => ?_)
     refine zv 0 (bs 16 1) (Ext.refl wr).drew ?_
     refine zv 1 (bs 16 3) (Ext.refl wr).drew ?_
     refine zv 2 (bs 16 7) (Ext.refl wr).drew ?_
     refine zs 3 (bs 16 15) (Ext.refl wr).drew ?_
     refine zs 4 (bs 16 31) (Ext.refl wr).drew ?_
     refine zs 5 (bs 16 63) (Ext.refl wr).drew ?_
     refine zs 6 (bs 16 127) (Ext.refl wr).drew ?_
     refine zs 7 (bs 16 255) (Ext.refl wr).drew ?_
     refine zs 8 (bs 16 511) (Ext.refl wr).drew ?_
     refine zs 9 (bs 16 1023) (Ext.refl wr).drew ?_
     refine zs 10 (bs 16 2047) (Ext.refl wr).drew ?_
     refine zs 11 (bs 16 4095) (Ext.refl wr).drew ?_
     refine zs 12 (bs 16 8191) (Ext.refl wr).drew ?_
     refine zs 13 (bs 16 16383) (Ext.refl wr).drew ?_
     refine zs 14 (bs 16 32767) (Ext.refl wr).drew ?_
     refine zv 15 (bs 16 65535) (Ext.refl wr).drew ?_
     refine wpAnyH_done (by kernel_rfl) ?_ _
     have HR := zH (show SpR L wr.drew w.heap.size (.slice (some ⟨gx, 0, none⟩) (n + 1) cx) (Stb.ins ltE es y) by rw [HIN2.out]; exact HSP.out.ext (Ext.refl _).drew)
     have HXR := zH (HX.out.drew)
     go_wp2_with fail
     go_roundg (ps.length - (k + 1))
     case measure => have := HLT.out; omega
     case rel => exact ⟨k + 1, _, _, HLT.out, rfl, by go_num, rfl, HR.out, HINS.out, by rw [Stb.ins_len, HN.out]; have := HEK.out; omega, HXR.out⟩
   have hdd : decide (p.1 < p.2) = false := by simpa using hpq
   have hcont := HSM.out
   rw [if_neg hpq] at hcont
   have HCO := zH hcont
   clear hcont
   refine zv 11 (bs 12 4095) (show Ext wr w5 from HEo.out) ?_
   refine wpAnyH_done (by kernel_rfl) ?_ _
   clear hdd hpq HEo HEw5
   go_wp2_with fail
   go_roundg (ps.length - (k + 1))
   case measure => have := HLT.out; omega
   case rel => exact ⟨k + 1, es, _, HLT.out, rfl, by go_num, rfl, HSP5.out, by rw [HCO.out]; exact HES.out.1, by have := HES.out.2; omega, HXw5.out⟩
  obtain rfl : k = ps.length := by omega
  have hge : ¬ (ps.length : Int) < (ps.length : Int) := by omega
  have HR := zH (show es.map SpE.vl = sortedV ps by have h := HES.out.1; rwa [List.take_of_length_le (Nat.le_refl _)] at h)
  go_wp2_with fail
  go_ret
  exact ⟨_, rfl, es, HSP.out, HR.out, HES.out.2, HX.out⟩

set_option maxRecDepth 20000 in
set_option maxHeartbeats 4000000 in
theorem rmerge_any (L : Nat) (u : Value) (ps : List QQ) (w : World) (hu : SpansV L w u ps) (h1L : 1 ≤ L) (hL : L ≤ 60000) (hn : ps.length ≤ 20000) :
  Calls Tryz.prog 10 #[u] w fun e w' => ∃ v es, e = .returned v ∧ SpR L w' w.heap.size v es ∧ es.map SpE.vl = mergeV ps ∧ es.length ≤ ps.length ∧ Ext w w' := by
 have HC := zH (rsorted_any L u ps w hu h1L hL hn)
 obtain ⟨i0, hi, hz0, hz1, hz2⟩ := info_parts infoSp
 have HI := zH (And.intro hi (And.intro hz0 (And.intro hz1 hz2)))
 clear hi hz0 hz1 hz2 hu
 go_enter Tryz.func10, Tryz.ntmps10
 go_upto_region 2 with (go_at_call 28; refine HC.out.mono ?_; rintro e ws ⟨vs, ss, rfl, hss, hval, hsl, hXs⟩)
 obtain ⟨As, cs, rfl⟩ := row_slice hss.1
 have HSSB := zH (fun j hj => Nat.lt_of_lt_of_le (hss.lt j hj) (Nat.le_refl _))
 have HSS := zH (hss.ext ((Ext.refl ws).alloc (.cells #[] 31)))
 have HXS := zH (hXs.alloc (.cells #[] 31))
 have HOS := zH (show SpR L (ws.alloc (.cells #[] 31)) ws.heap.size (.slice (some ⟨ws.heap.size, 0, none⟩) 0 0) [] from ⟨RowN.empty ws ws.heap.size 31 8 (Nat.le_refl _), by simp⟩)
 have HB := zH hXs.size
 have HVAL := zH hval
 have hsn : ss.length ≤ 20000 := by omega
 have HSL := zH hsl
 clear hss hXs hval hsl HC
 go_wp2_with fail
 go_loopg [4, 5] ss.length (fun c v i wr => ∃ (k : Nat) (os : List SpE) (v2 : Value), k ≤ ss.length ∧ c = ss.length - k ∧ i = .int .i64 k ∧ v2 = v ∧ SpR L wr ws.heap.size v2 os ∧ os.map SpE.vl = ((sortedV ps).take k).foldl mstep [] ∧ os.length ≤ k ∧ SpR L wr w.heap.size (.slice As ss.length cs) ss ∧ Ext w wr ∧ ws.heap.size ≤ wr.heap.size)
 case atStart => exact ⟨0, [], _, Nat.zero_le _, rfl, rfl, rfl, HOS.out, by simp, Nat.le_refl _, HSS.out, HXS.out, by simp⟩
 case round =>
  clear HSS HOS HXS
  obtain ⟨k, os, v, hk, rfl, rfl, rfl, hos, hov, hok, hss, hx, hwz⟩ := hrel
  by_cases hlt : k < ss.length
  ·have hlt2 : (k : Int) < (ss.length : Int) := by omega
   obtain ⟨e, he⟩ : ∃ e, ss[k]? = some e := ⟨_, List.getElem?_eq_getElem hlt⟩
   have HSTEP := zH (show ((sortedV ps).take (k + 1)).foldl mstep [] = mstep (os.map SpE.vl) (e.p, e.q) by rw [hov, mstep_fold (p := (e.p, e.q)) (by rw [← HVAL.out, List.getElem?_map, he]; rfl)])
   have HOKE := zH (hss.2 e (List.mem_of_getElem? he))
   obtain ⟨gs, rfl⟩ : ∃ gs, As = some ⟨gs, 0, none⟩ := by
    rcases hss.form with ⟨hv, hn⟩ | ⟨g, cap, rest, hv, _⟩
    ·rw [hn] at hlt; simp at hlt
    injection hv with e1 _ _
    exact ⟨g, e1⟩
   have HRD := zH (hss.read he)
   have HOS := zH hos
   have HSS := zH hss
   have HOKN := zH hok
   have HX := zH hx
   have HLT := zH hlt
   have HWZ := zH hwz
   clear hos hov hss hx hok he hlt hwz
   rcases snoc_or os with rfl | ⟨os, l, rfl⟩
   ·obtain ⟨Ao, co, rfl⟩ := row_slice HOS.out.1
    have q1 : (0 : Int) - 1 = -1 := by omega
    go_upto_region 7 with fail
    refine wp_region_held_drew (S := fun x => Ext wr x) (by kernel_rfl) (Ext.refl _).drew (fun _ => ?_)
    refine zv 0 (bs 15 1) (Ext.refl wr).drew ?_
    refine zv 1 (bs 15 3) (Ext.refl wr).drew ?_
    refine zv 2 (bs 15 7) (Ext.refl wr).drew ?_
    refine zs 3 (bs 15 15) (Ext.refl wr).drew ?_
    refine zs 4 (bs 15 31) (Ext.refl wr).drew ?_
    refine zs 5 (bs 15 63) (Ext.refl wr).drew ?_
    refine zs 6 (bs 15 127) (Ext.refl wr).drew ?_
    refine zs 7 (bs 15 255) (Ext.refl wr).drew ?_
    refine zs 8 (bs 15 511) (Ext.refl wr).drew ?_
    refine zs 9 (bs 15 1023) (Ext.refl wr).drew ?_
    refine zs 10 (bs 15 2047) (Ext.refl wr).drew ?_
    refine zs 11 (bs 15 4095) (Ext.refl wr).drew ?_
    refine zs 12 (bs 15 8191) (Ext.refl wr).drew ?_
    refine zs 13 (bs 15 16383) (Ext.refl wr).drew ?_
    refine zv 14 (bs 15 32767) (Ext.refl wr).drew ?_
    refine wpAnyH_done (by kernel_rfl) ?_ _
    have HSTEP2 := zH (HSTEP.out.trans (mstep_nil _))
    have hok3 : ([] : List SpE).length ≤ 20000 := by simp
    skip
    have HE_ := zH (show Ext wr wr.drew from (Ext.refl _).drew)
    have HOSc := zH (HOS.out.ext HE_.out)
    have HSSc := zH (HSS.out.ext HE_.out)
    have HOKEc := zH (HOKE.out.ext HE_.out)
    have HRDc := zH (range_ext HRD.out HE_.out)
    have HXc := zH (HX.out.trans HE_.out)
    go_upto_region 8 with fail
    refine wp_region_lit ?_
    refine zp (w' := wr.drew) (.slice Ao 0 co) (by go_simp <;> with_reducible rfl) ?_
    refine zp (w' := wr.drew) (.slice (some ⟨gs, 0, none⟩) ss.length cs) (by go_simp <;> with_reducible rfl) ?_
    refine zp (w' := wr.drew) (.int .i64 k) (by go_simp <;> with_reducible rfl) ?_
    refine zp (w' := wr.drew) (.pointer (some ⟨gs, k * 8, none⟩)) (by go_simp <;> with_reducible rfl) ?_
    refine wpList_if (by rfl) (wp_load_mid _ _ (by rfl) gs (k * 8) (by rfl) [.bool e.a.n, .slice e.a.p e.a.l e.a.c, .bool e.a.m, .slice e.a.p2 e.a.l2 e.a.c2, .bool e.b.n, .slice e.b.p e.b.l e.b.c, .bool e.b.m, .slice e.b.p2 e.b.l2 e.b.c2] _ HRDc.out Tryz.underlying31 (by rfl) (by kernel_rfl) ?_)
    try simp only [Act.put, zA, zB, zC]
    have hbz := HOSc.out
    have hAE : Ext wr.drew (wr.drew.alloc (.cells #[.bool e.a.n, .slice e.a.p e.a.l e.a.c, .bool e.a.m, .slice e.a.p2 e.a.l2 e.a.c2, .bool e.b.n, .slice e.b.p e.b.l e.b.c, .bool e.b.m, .slice e.b.p2 e.b.l2 e.b.c2] 31)) := (Ext.refl _).alloc _
    refine zp (w' := (wr.drew.alloc (.cells #[.bool e.a.n, .slice e.a.p e.a.l e.a.c, .bool e.a.m, .slice e.a.p2 e.a.l2 e.a.c2, .bool e.b.n, .slice e.b.p e.b.l e.b.c, .bool e.b.m, .slice e.b.p2 e.b.l2 e.b.c2] 31))) (.slice (some ⟨wr.drew.heap.size, 0, none⟩) 1 1) (by go_simp) ?_
    refine wpList_if (by rfl) (wp_append_rowF _ _ 22 (by rfl) ws.heap.size 31 i0 _ 8 128 Tryz.underlying22 HI.out.1 HI.out.2.1 HI.out.2.2.1 HI.out.2.2.2 rfl (by decide) noUL_zsp _ 0 (spCells ([] : List SpE)) (by rfl) (HOSc.out.ext hAE).1 ⟨wr.drew.heap.size, 0, none⟩ 1 1 e.cells (by rfl) rfl (new_cells _ e.cells _) e.one e.noU (by decide) (by unfold maxLen; omega) (by omega) (Nat.le_trans HWZ.out (Nat.le_trans HE_.out.size hAE.size)) ?_)
    intro gx cx w8_ hf h2 h3 h4
    try simp only [Act.put, zA, zB, zC]
    have HSN := zH ((HOSc.out.ext hAE).snoc (es := ([] : List SpE)) (e := e) rfl (HOKEc.out.ext hAE) h2 h4)
    have HXn := zH ((HXc.out.trans hAE).grown h3 (fun j hj => Nat.le_trans HB.out (HOSc.out.1.block j hj)))
    have HSSn := zH ((HSSc.out.ext hAE).grown h3 (fun j hj hj2 => by have h7 := HOSc.out.1.block j hj2; have h8 := HSSB.out j hj; omega) h4)
    have HZn := zH (Nat.le_trans HWZ.out (Nat.le_trans HE_.out.size (Nat.le_trans hAE.size h3.size)))
    clear hf h2 h3 h4 hAE hbz
    refine zp (w' := w8_) (.slice (some ⟨gx, 0, none⟩) (0 + 1) cx) (by go_simp) ?_
    go_wp2_with fail
    go_roundg (ss.length - (k + 1))
    case measure => have := HLT.out; omega
    case rel => exact ⟨k + 1, ([] : List SpE) ++ [e], _, HLT.out, rfl, by go_num, rfl, HSN.out, by rw [HSTEP2.out]; simp [SpE.vl], by have := HOKN.out; simp at this ⊢ <;> omega, HSSn.out, HXn.out, HZn.out⟩
   have hvf : ∃ g6 c6, v = .slice (some ⟨g6, 0, none⟩) (os.length + 1) c6 := by
    rcases HOS.out.form with ⟨_, h⟩ | ⟨g6, c6, _, h, _⟩
    ·simp at h
    exact ⟨g6, c6, by simpa using h⟩
   obtain ⟨g6, c6, rfl⟩ := hvf
   obtain ⟨m, hm⟩ : ∃ m, os.length = m := ⟨_, rfl⟩
   rw [hm] at HOS ⊢
   have HM := zH hm
   have hm3 : m ≤ 20000 := by have h := HOKN.out; rw [List.length_append, HM.out] at h; omega
   have wm_ : IntKind.i64.wrap (m : Int) = (m : Int) := by rw [IntKind.wrap_i64]; omega
   have HOKL := zH (HOS.out.2 l (by simp))
   have HST := zH (HSTEP.out.trans (show mstep ((os ++ [l]).map SpE.vl) (e.p, e.q) = if l.q < e.p then os.map SpE.vl ++ [(l.p, l.q)] ++ [(e.p, e.q)] else if l.q < e.q then os.map SpE.vl ++ [(l.p, e.q)] else os.map SpE.vl ++ [(l.p, l.q)] by rw [List.map_append]; exact mstep_app _ _ _))
   have e1 : ((m + 1 : Nat) : Int) - 1 = (m : Int) := by omega
   have e2 : (m : Int) + 1 - 1 = (m : Int) := by omega
   have e3 : ¬ (m : Int) < 0 := by omega
   have e5 : (m : Int) < (m : Int) + 1 := by omega
   have RDE := zH (HOS.out.readEnd HM.out)
   clear hm
   go_upto_region 7 with fail
   refine wp_region_held_drew (S := fun x => Ext wr x) (by kernel_rfl) (Ext.refl _).drew (fun _ => ?_)
   refine zv 0 (bs 15 1) (Ext.refl wr).drew ?_
   refine zv 1 (bs 15 3) (Ext.refl wr).drew ?_
   refine zv 2 (bs 15 7) (Ext.refl wr).drew ?_
   refine zv 3 (bs 15 15) (Ext.refl wr).drew ?_
   refine zv 4 (bs 15 31) (Ext.refl wr).drew ?_
   refine zv 5 (bs 15 63) (Ext.refl wr).drew ?_
   refine mV 6 (bs 15 127) (Ext.refl wr).drew ?_
   refine zr 7 (bs 15 255) g6 (m * 8 + 4) [.bool l.b.n, .slice l.b.p l.b.l l.b.c, .bool l.b.m, .slice l.b.p2 l.b.l2 l.b.c2] (fun wX hwX => range_ext RDE.out hwX) Tryz.underlying29 (Ext.refl wr).drew ?_
   refine zv 8 (bs 15 511) (Ext.refl wr).drew ?_
   refine zv 9 (bs 15 1023) (Ext.refl wr).drew ?_
   refine zv 10 (bs 15 2047) (Ext.refl wr).drew ?_
   refine mV 11 (bs 15 4095) (Ext.refl wr).drew ?_
   refine zr 12 (bs 15 8191) gs (k * 8) [.bool e.a.n, .slice e.a.p e.a.l e.a.c, .bool e.a.m, .slice e.a.p2 e.a.l2 e.a.c2] (fun wX hwX => range_ext (range_left (a := [.bool e.a.n, .slice e.a.p e.a.l e.a.c, .bool e.a.m, .slice e.a.p2 e.a.l2 e.a.c2]) (b := [.bool e.b.n, .slice e.b.p e.b.l e.b.c, .bool e.b.m, .slice e.b.p2 e.b.l2 e.b.c2]) HRD.out) hwX) Tryz.underlying29 (Ext.refl wr).drew ?_
   refine mC 13 (bs 15 16383) (less_any L _ _ l.q e.p _ (NIn.ofb (HOKL.out.ext (Ext.refl _).drew)) (NIn.ofa2 (HOKE.out.ext (Ext.refl _).drew)) hL) ?_
   rintro e w9 ⟨rfl, hx⟩
   have HEw9 := zH (show Ext wr w9 from ((Ext.refl wr).drew).trans hx)
   clear hx
   refine ⟨_, rfl, HEw9.out, ?_⟩
   try simp only [Act.put, zA, zB, zC]
   by_cases c1 : l.q < e.p
   ·have hdd : decide (l.q < e.p) = true := by simpa using c1
    refine zv 14 (bs 15 32767) HEw9.out ?_
    refine wpAnyH_done (by kernel_rfl) ?_ _
    have HSTEP2 := zH (HST.out.trans (if_pos c1))
    clear c1 hdd
    have HE_ := zH (show Ext wr w9 from HEw9.out)
    have HOSc := zH (HOS.out.ext HE_.out)
    have HSSc := zH (HSS.out.ext HE_.out)
    have HOKEc := zH (HOKE.out.ext HE_.out)
    have HRDc := zH (range_ext HRD.out HE_.out)
    have HXc := zH (HX.out.trans HE_.out)
    go_upto_region 8 with fail
    refine wp_region_lit ?_
    refine qV (.slice (some ⟨g6, 0, none⟩) (m + 1) c6) ?_
    refine zq (.slice (some ⟨gs, 0, none⟩) ss.length cs) ?_
    refine qV (.int .i64 k) ?_
    refine zq (.pointer (some ⟨gs, k * 8, none⟩)) ?_
    refine wpList_if (by rfl) (wp_load_mid _ _ (by rfl) gs (k * 8) (by rfl) [.bool e.a.n, .slice e.a.p e.a.l e.a.c, .bool e.a.m, .slice e.a.p2 e.a.l2 e.a.c2, .bool e.b.n, .slice e.b.p e.b.l e.b.c, .bool e.b.m, .slice e.b.p2 e.b.l2 e.b.c2] _ HRDc.out Tryz.underlying31 (by rfl) (by kernel_rfl) ?_)
    try simp only [Act.put, zA, zB, zC]
    have hbz := HOSc.out
    have hAE : Ext w9 (w9.alloc (.cells #[.bool e.a.n, .slice e.a.p e.a.l e.a.c, .bool e.a.m, .slice e.a.p2 e.a.l2 e.a.c2, .bool e.b.n, .slice e.b.p e.b.l e.b.c, .bool e.b.m, .slice e.b.p2 e.b.l2 e.b.c2] 31)) := (Ext.refl _).alloc _
    refine zp (w' := (w9.alloc (.cells #[.bool e.a.n, .slice e.a.p e.a.l e.a.c, .bool e.a.m, .slice e.a.p2 e.a.l2 e.a.c2, .bool e.b.n, .slice e.b.p e.b.l e.b.c, .bool e.b.m, .slice e.b.p2 e.b.l2 e.b.c2] 31))) (.slice (some ⟨w9.heap.size, 0, none⟩) 1 1) (by go_simp) ?_
    refine wpList_if (by rfl) (wp_append_rowF _ _ 22 (by rfl) ws.heap.size 31 i0 _ 8 128 Tryz.underlying22 HI.out.1 HI.out.2.1 HI.out.2.2.1 HI.out.2.2.2 rfl (by decide) noUL_zsp _ (m + 1) (spCells (os ++ [l])) (by rfl) (by have h := (HOSc.out.ext hAE).1; rw [List.length_append, HM.out] at h; exact h) ⟨w9.heap.size, 0, none⟩ 1 1 e.cells (by rfl) rfl (new_cells _ e.cells _) e.one e.noU (by decide) (by unfold maxLen; omega) (by omega) (Nat.le_trans HWZ.out (Nat.le_trans HE_.out.size hAE.size)) ?_)
    intro gx cx w8_ hf h2 h3 h4
    try simp only [Act.put, zA, zB, zC]
    have HSN := zH ((HOSc.out.ext hAE).snoc (es := (os ++ [l])) (e := e) (by rw [List.length_append, HM.out]; rfl) (HOKEc.out.ext hAE) h2 h4)
    have HXn := zH ((HXc.out.trans hAE).grown h3 (fun j hj => Nat.le_trans HB.out (HOSc.out.1.block j hj)))
    have HSSn := zH ((HSSc.out.ext hAE).grown h3 (fun j hj hj2 => by have h7 := HOSc.out.1.block j hj2; have h8 := HSSB.out j hj; omega) h4)
    have HZn := zH (Nat.le_trans HWZ.out (Nat.le_trans HE_.out.size (Nat.le_trans hAE.size h3.size)))
    clear hf h2 h3 h4 hAE hbz
    refine zp (w' := w8_) (.slice (some ⟨gx, 0, none⟩) ((m + 1) + 1) cx) (by go_simp) ?_
    go_wp2_with fail
    go_roundg (ss.length - (k + 1))
    case measure => have := HLT.out; omega
    case rel => exact ⟨k + 1, (os ++ [l]) ++ [e], _, HLT.out, rfl, by go_num, rfl, HSN.out, by rw [HSTEP2.out]; simp [SpE.vl], by have := HOKN.out; simp at this ⊢ <;> omega, HSSn.out, HXn.out, HZn.out⟩
   have hdd : decide (l.q < e.p) = false := by simpa using c1
   refine zv 14 (bs 15 32767) HEw9.out ?_
   refine wpAnyH_done (by kernel_rfl) ?_ _
   have HST2 := zH (HST.out.trans (if_neg c1))
   clear c1 hdd
   go_upto_region 9 with fail
   have RDE9 := zH (range_ext RDE.out HEw9.out)
   have HRD9 := zH (range_ext HRD.out HEw9.out)
   have HOKL9 := zH (HOKL.out.ext HEw9.out)
   have HOKE9 := zH (HOKE.out.ext HEw9.out)
   refine wp_region_held_drew (S := fun x => Ext w9 x) (by kernel_rfl) (Ext.refl _).drew (fun _ => ?_)
   refine zv 0 (bs 11 1) (Ext.refl w9).drew ?_
   refine zv 1 (bs 11 3) (Ext.refl w9).drew ?_
   refine zv 2 (bs 11 7) (Ext.refl w9).drew ?_
   refine mV 3 (bs 11 15) (Ext.refl w9).drew ?_
   refine zr 4 (bs 11 31) g6 (m * 8 + 4) [.bool l.b.n, .slice l.b.p l.b.l l.b.c, .bool l.b.m, .slice l.b.p2 l.b.l2 l.b.c2] (fun wX hwX => range_ext RDE9.out hwX) Tryz.underlying29 (Ext.refl w9).drew ?_
   refine zv 5 (bs 11 63) (Ext.refl w9).drew ?_
   refine zv 6 (bs 11 127) (Ext.refl w9).drew ?_
   refine zv 7 (bs 11 255) (Ext.refl w9).drew ?_
   refine mV 8 (bs 11 511) (Ext.refl w9).drew ?_
   refine zr 9 (bs 11 1023) gs (k * 8 + 4) [.bool e.b.n, .slice e.b.p e.b.l e.b.c, .bool e.b.m, .slice e.b.p2 e.b.l2 e.b.c2] (fun wX hwX => range_ext (range_right (a := [.bool e.a.n, .slice e.a.p e.a.l e.a.c, .bool e.a.m, .slice e.a.p2 e.a.l2 e.a.c2]) (b := [.bool e.b.n, .slice e.b.p e.b.l e.b.c, .bool e.b.m, .slice e.b.p2 e.b.l2 e.b.c2]) (n := 4) HRD9.out rfl) hwX) Tryz.underlying29 (Ext.refl w9).drew ?_
   refine mC 10 (bs 11 2047) (less_any L _ _ l.q e.q _ (NIn.ofb (HOKL9.out.ext (Ext.refl _).drew)) (NIn.ofb (HOKE9.out.ext (Ext.refl _).drew)) hL) ?_
   rintro e wb ⟨rfl, hx⟩
   have HEwb := zH (show Ext w9 wb from ((Ext.refl w9).drew).trans hx)
   clear hx
   refine ⟨_, rfl, HEwb.out, ?_⟩
   try simp only [Act.put, zA, zB, zC]
   refine wpAnyH_done (by kernel_rfl) ?_ _
   have HE_ := zH (show Ext wr wb from HEw9.out.trans HEwb.out)
   have HOSc := zH (HOS.out.ext HE_.out)
   have HSSc := zH (HSS.out.ext HE_.out)
   have HOKEc := zH (HOKE.out.ext HE_.out)
   have HRDc := zH (range_ext HRD.out HE_.out)
   have HXc := zH (HX.out.trans HE_.out)
   by_cases c2 : l.q < e.q
   ·have hdd : decide (l.q < e.q) = true := by simpa using c2
    rw [hdd]
    have HSTEP2 := zH (HST2.out.trans (if_pos c2))
    clear c2
    go_upto_region 10 with fail
    refine wp_region_lit ?_
    refine qV (.slice (some ⟨g6, 0, none⟩) (m + 1) c6) ?_
    refine zq (.int .i64 m) ?_
    refine qV (.slice (some ⟨gs, 0, none⟩) ss.length cs) ?_
    refine zq (.int .i64 k) ?_
    refine qV (.pointer (some ⟨gs, k * 8, none⟩)) ?_
    refine zq (.pointer (some ⟨gs, k * 8 + 4, none⟩)) ?_
    refine wpList_if (by rfl) (wp_load_mid _ _ (by rfl) gs (k * 8 + 4) (by rfl) [.bool e.b.n, .slice e.b.p e.b.l e.b.c, .bool e.b.m, .slice e.b.p2 e.b.l2 e.b.c2] _ (range_right (a := [.bool e.a.n, .slice e.a.p e.a.l e.a.c, .bool e.a.m, .slice e.a.p2 e.a.l2 e.a.c2]) (b := [.bool e.b.n, .slice e.b.p e.b.l e.b.c, .bool e.b.m, .slice e.b.p2 e.b.l2 e.b.c2]) (n := 4) HRDc.out rfl) Tryz.underlying29 (by rfl) (by kernel_rfl) ?_)
    try simp only [Act.put, zA, zB, zC]
    refine qV (.pointer (some ⟨g6, m * 8, none⟩)) ?_
    refine zq (.pointer (some ⟨g6, m * 8 + 4, none⟩)) ?_
    obtain ⟨t1, t2, t3⟩ := HOSc.out.turn HM.out HOKEc.out
    obtain ⟨csr, hbr, hnr⟩ := HOSc.out.rowNoU
    refine wpList_if (by rfl) (wp_store_mid 29 _ _ (by rfl) g6 (m * 8 + 4) [.bool e.b.n, .slice e.b.p e.b.l e.b.c, .bool e.b.m, .slice e.b.p2 e.b.l2 e.b.c2].toArray (by rfl) (by rfl) t1 (by kernel_rfl) (all_oneCell_toArray (by simp [Value.oneCell'])) ?_)
    (try simp only [Act.put])
    have HSN := zH t2
    have hgb : w.heap.size ≤ g6 := Nat.le_trans HB.out (HOSc.out.1.block g6 (by simp [Value.ownBlock]))
    have HXn := zH (t3.ext HXc.out hgb)
    have HSSn := zH (HSSc.out.grown (row := some g6) t3 (fun j hj hj2 => by injection hj2 with hj2; have h7 := HOSc.out.1.block j (by simp [Value.ownBlock, hj2]); have h8 := HSSB.out j hj; omega) (fun r q h => h.own hbr hnr t3))
    have HZn := zH (Nat.le_trans HWZ.out (Nat.le_trans HE_.out.size t3.size))
    clear t1 t2 t3 hbr hnr hgb hdd
    generalize World.setCells wb g6 (m * 8 + 4) _ = wn at *
    go_wp2_with fail
    go_roundg (ss.length - (k + 1))
    case measure => have := HLT.out; omega
    case rel => exact ⟨k + 1, os ++ [⟨l.a, e.b, l.p, e.q⟩], _, HLT.out, rfl, by go_num, rfl, HSN.out, by rw [HSTEP2.out]; simp [SpE.vl], by have := HOKN.out; simp at this ⊢ <;> omega, HSSn.out, HXn.out, HZn.out⟩
   have hdd : decide (l.q < e.q) = false := by simpa using c2
   rw [hdd]
   have HSTEP2 := zH (HST2.out.trans (if_neg c2))
   clear c2
   go_wp2_with fail
   go_roundg (ss.length - (k + 1))
   case measure => have := HLT.out; omega
   case rel => exact ⟨k + 1, os ++ [l], _, HLT.out, rfl, by go_num, rfl, HOSc.out, by rw [HSTEP2.out, List.map_append]; rfl, by have := HOKN.out; omega, HSSc.out, HXc.out, Nat.le_trans HWZ.out HE_.out.size⟩
  obtain rfl : k = ss.length := by omega
  have hge2 : ¬ (ss.length : Int) < (ss.length : Int) := by omega
  have HR := zH (show os.map SpE.vl = mergeV ps by rw [hov, List.take_of_length_le (by rw [← HVAL.out, List.length_map]; exact Nat.le_refl _)]; rfl)
  have HOS := zH (SpR.mono hos HB.out)
  have HX2 := zH hx
  have HLE := zH (show os.length ≤ ps.length by have := HSL.out; omega)
  clear hos hov hok hss hx
  go_wp2_with fail
  go_ret
  exact ⟨_, rfl, os, HOS.out, HR.out, HLE.out, HX2.out⟩

theorem lenV_take {f t : Rat} {es : List SpE} {k : Nat} {e : SpE} (h : es[k]? = some e) : lenV f t ((es.map SpE.vl).take (k + 1)) = lenV f t ((es.map SpE.vl).take k) + len1 f t (e.p, e.q) := by
  rw [List.take_add_one, List.getElem?_map, h]
  simp only [Option.map_some, Option.toList_some]
  rw [lenV_app, lenV_cons, lenV_nil]
  show _ + (len1 f t (e.p, e.q) + 0) = _
  grind
theorem len1_case {f t p q a b : Rat} (ha : a = if p < f then f else p) (hb : b = if t < q then t else q) : len1 f t (p, q) = if a < b then b - a else 0 := by subst ha hb; unfold len1; grind
set_option maxRecDepth 20000 in
set_option maxHeartbeats 4000000 in
theorem rlength_any (L : Nat) (u : Value) (ps : List QQ) (rf rt : RV) (f t : Rat) (w : World) (hu : SpansV L w u ps) (hf : rf.In L w f) (ht : rt.In L w t) (h1L : 1 ≤ L) (hL : L ≤ 400) (hn : ps.length ≤ 60) :
  Calls Tryz.prog 18 #[u, .agg #[.bool rf.n, .slice rf.p rf.l rf.c, .bool rf.m, .slice rf.p2 rf.l2 rf.c2], .agg #[.bool rt.n, .slice rt.p rt.l rt.c, .bool rt.m, .slice rt.p2 rt.l2 rt.c2]] w fun e w' => ∃ r : RV, e = .returned (.agg #[.bool r.n, .slice r.p r.l r.c, .bool r.m, .slice r.p2 r.l2 r.c2]) ∧ r.Is w' (lenV f t (mergeV ps)) ∧ Nm.rl (lenV f t (mergeV ps)) ≤ 60000 ∧ Ext w w' := by
 have HU := zH hu
 have RF := zH hf
 have RT := zH ht
 clear hu hf ht
 go_enter Tryz.func18, Tryz.ntmps18
 have H0 := zH (Hp.start w)
 go_upto_region 0 with fail
 refine wp_region_lit ?_
 refine mv_alloc (T := 29) (zs := [.bool rf.n, .slice rf.p rf.l rf.c, .bool rf.m, .slice rf.p2 rf.l2 rf.c2]) (by rfl) (by go_simp) H0.out (by simp [NoUL]) ?_
 intro X1 w2 hh hx hge
 have H3 := zH (show Hp w w2 [.blk X1 29 (rc rf)] from hh)
 clear hh hx hge
 try simp only [Act.put, zA, zB, zC]
 refine mv_alloc (T := 29) (zs := [.bool rt.n, .slice rt.p rt.l rt.c, .bool rt.m, .slice rt.p2 rt.l2 rt.c2]) (by rfl) (by go_simp) H3.out (by simp [NoUL]) ?_
 intro X6 w7 hh hx hge
 have H8 := zH (show Hp w w7 [.blk X1 29 (rc rf), .blk X6 29 (rc rt)] from hh)
 clear hh hx hge
 try simp only [Act.put, zA, zB, zC]
 refine mv_alloc (T := 29) (zs := [.bool false, .slice none 0 0, .bool false, .slice none 0 0]) (by rfl) (by go_simp) H8.out (by simp [NoUL]) ?_
 intro X11 w12 hh hx hge
 have H13 := zH (show Hp w w12 [.blk X1 29 (rc rf), .blk X6 29 (rc rt), .blk X11 29 rz] from hh)
 clear hh hx hge
 try simp only [Act.put, zA, zB, zC]
 go_upto_region 1 with fail
 refine wp_region_lit ?_
 refine zc (q03From 0 _ (by omega) (by omega)) ?_
 rintro e w16 ⟨c_, rfl, hc_, hx⟩
 have H18 := zH (H13.out.step hx)
 obtain ⟨r17, rfl, hr_⟩ := hc_
 have R17 := zH hr_
 have B17 := zH (rl_i64 0 (by omega) (by omega))
 clear hr_
 clear hx
 refine zn ?_
 refine mv_alloc (T := 29) (zs := [.bool false, .slice none 0 0, .bool false, .slice none 0 0]) (by rfl) (by go_simp) H18.out (by simp [NoUL]) ?_
 intro X20 w21 hh hx hge
 have H22 := zH (show Hp w w21 [.blk X1 29 (rc rf), .blk X6 29 (rc rt), .blk X11 29 rz, .blk X20 29 rz] from hh)
 have D22 := zH (Dig.of_ext hx)
 clear hh hx hge
 try simp only [Act.put, zA, zB, zC]
 refine mv_st (by rfl) _ _ _ (by rfl) H22.out (ix := 3) (by rfl) 0 [.bool r17.n, .slice r17.p r17.l r17.c, .bool r17.m, .slice r17.p2 r17.l2 r17.c2] (by rfl) (by rfl) (by simp) (by kernel_rfl) (by simp [Value.oneCell']) (by simp [NoUL]) ?_
 intro w25 hh hd ho
 have H26 := zH (show Hp w w25 [.blk X1 29 (rc rf), .blk X6 29 (rc rt), .blk X11 29 rz, .blk X20 29 (rc r17)] from hh)
 have D26 := zH (hd)
 clear hh hd ho
 (try simp only [Act.put])
 go_upto_region 2 with fail
 refine wp_region_lit ?_
 refine qV (u) ?_
 refine zc (rmerge_any L u ps _ (HU.out.ext H26.out.ext) h1L (by omega) (by omega)) ?_
 rintro e w29 ⟨v_, es, rfl, hes_, hval_, hel_, hx⟩
 have HVAL := zH hval_
 have HEL := zH hel_
 have HOK := zH hes_.2
 obtain ⟨Am, cm, rfl, hA_⟩ := RowN.form hes_.1
 have HA := zH hA_
 clear hval_ hel_ hA_
 have H30 := zH (show Hp w w29 [.blk X1 29 (rc rf), .blk X6 29 (rc rt), .blk X11 29 rz, .blk X20 29 (rc r17), ro 31 8 Am es.length cm SpE.cells es] from H26.out.addRow hx hes_.1)
 have D30 := zH (Dig.of_ext hx)
 clear hes_
 clear hx
 refine zn ?_
 refine zq (.slice Am es.length cm) ?_
 have hel3 : es.length ≤ 60 := by have := HEL.out; omega
 have DD33 := zH (((D22.out.trans D26.out).trans D30.out))
 go_wp2_with fail
 go_loopg [9] (es.length) (fun cq v34 wr => ∃ (k : Nat) (rs : RV), cq = es.length - k ∧ v34 = .int .i64 (k : Int) ∧ (k ≤ es.length) ∧ (rs.Is wr (lenV f t ((es.map SpE.vl).take k))) ∧ (Nm.rl (lenV f t ((es.map SpE.vl).take k)) ≤ 2 + k * (2 * L + 2)) ∧ Hp w wr [.blk X1 29 [.bool rf.n, .slice rf.p rf.l rf.c, .bool rf.m, .slice rf.p2 rf.l2 rf.c2], .blk X6 29 [.bool rt.n, .slice rt.p rt.l rt.c, .bool rt.m, .slice rt.p2 rt.l2 rt.c2], .blk X11 29 [.bool false, .slice none 0 0, .bool false, .slice none 0 0], .blk X20 29 [.bool rs.n, .slice rs.p rs.l rs.c, .bool rs.m, .slice rs.p2 rs.l2 rs.c2], .row 31 8 (.slice Am es.length cm) (es.length) (List.flatMap SpE.cells es)] ∧ Dig w29 wr)
 case atStart => exact ⟨0, r17, rfl, rfl, Nat.zero_le _, (by have h := (R17.out.dig DD33.out); simpa [lenV] using h), (by have h := B17.out; simpa [lenV] using h), H30.out, Dig.refl _⟩
 case round =>
  obtain ⟨k, rs, rfl, rfl, q_HK, q_RS, q_BS, hh_, hd_⟩ := hrel
  generalize wr = w35 at *
  have HK := zH q_HK
  clear q_HK
  have RS := zH q_RS
  clear q_RS
  have BS := zH q_BS
  clear q_BS
  have H37 := zH hh_
  have D37 := zH hd_
  clear hh_ hd_ H30
  by_cases c38 : k < es.length
  ·have HLT := zH c38
   clear c38
   have hlt := HLT.out
   have hlt2 : (k : Int) < (es.length : Int) := by omega
   obtain ⟨gm, rfl⟩ := HA.out (by omega)
   have hbk : k * (2 * L + 2) ≤ 60 * 802 := Nat.mul_le_mul (by omega) (by omega)
   have hbk2 : (k + 1) * (2 * L + 2) = k * (2 * L + 2) + (2 * L + 2) := by rw [Nat.add_mul, Nat.one_mul]
   generalize hkq : (k + 1) * (2 * L + 2) = KQ at *
   generalize hkq2 : k * (2 * L + 2) = KP at *
   obtain ⟨e, he_⟩ : ∃ e, es[k]? = some e := ⟨_, List.getElem?_eq_getElem hlt⟩
   have HEe := zH he_
   have HOe := zH (HOK.out e (List.mem_of_getElem? he_))
   have RAe := zH HOe.out.1
   have RBe := zH HOe.out.2.1
   have BAe := zH HOe.out.2.2.1
   have BBe := zH HOe.out.2.2.2
   clear he_
   have HTK := zH (lenV_take (f := f) (t := t) HEe.out)
   have HKQ := zH hkq
   have HKP := zH hkq2
   clear hkq hkq2 hlt
   go_upto_region 6 with fail
   refine zy ?_
   have H39 := zH (H37.out.step (Ext.refl w35).drew)
   have D39 := zH (Dig.of_ext (w := w35) zb)
   refine zx 0 (bs 14 1) (.slice (some ⟨gm, 0, none⟩) es.length cm) zb ?_
   refine zx 1 (bs 14 3) (.int .i64 (k : Int)) zb ?_
   refine zu 2 (bs 14 7) (v := .pointer (some ⟨gm, k * 8, none⟩)) zb ?_ (hv := by intro w hSw; exact ezi (k := k) Tryz.underlying22 (l := HLT.out) (f := (Nat.zero_add _).symm))
   refine mX 3 (bs 14 15) (.pointer (some ⟨gm, k * 8, none⟩)) zb ?_
   refine zg 4 (bs 14 31) gm (k * 8) (rc e.a) (range_part (H37.out.elem (f := SpE.cells) (i := 4) (by rfl) SpE.len HEe.out) 0 4) Tryz.underlying29 zb ?_
   refine zx 5 (bs 14 63) (.slice (some ⟨gm, 0, none⟩) es.length cm) zb ?_
   refine zx 6 (bs 14 127) (.int .i64 (k : Int)) zb ?_
   refine zu 7 (bs 14 255) (v := .pointer (some ⟨gm, k * 8, none⟩)) zb ?_ (hv := by intro w hSw; exact ezi (k := k) Tryz.underlying22 (l := HLT.out) (f := (Nat.zero_add _).symm))
   refine mX 8 (bs 14 511) (.pointer (some ⟨gm, k * 8 + 4, none⟩)) zb ?_
   refine zg 9 (bs 14 1023) gm (k * 8 + 4) (rc e.b) (range_part (H37.out.elem (f := SpE.cells) (i := 4) (by rfl) SpE.len HEe.out) 4 4) Tryz.underlying29 zb ?_
   refine md_alloc2 (i := 10) (j := 11) (T := 29) (U := 29) (zs := [.bool false, .slice none 0 0, .bool false, .slice none 0 0]) (us := [.bool false, .slice none 0 0, .bool false, .slice none 0 0]) (li := (bs 14 2047)) (lj := (bs 14 3071)) (lij := (bs 14 4095)) (by rfl) (by rfl) (by kernel_rfl) (by kernel_rfl) (by kernel_rfl) (by kernel_rfl) (by kernel_rfl) (by kernel_rfl) (by kernel_rfl) (by rfl) (by rfl) (by decide) (by intro r_ x_; go_simp) (by intro r_ x_; go_simp) (fun x y h1 h2 => h1.trans h2) zb H39.out (by simp [NoUL]) (by simp [NoUL]) ?_
   intro X49 Y50 w51 hh hx hg1 hg2 hs
   have H52 := zH (show Hp w w51 [.blk X1 29 (rc rf), .blk X6 29 (rc rt), .blk X11 29 rz, .blk X20 29 (rc rs), ro 31 8 (some ⟨gm, 0, none⟩) es.length cm SpE.cells es, .blk X49 29 rz, .blk Y50 29 rz] from hh)
   have D52 := zH (show Dig w35.drew w51 from Dig.of_ext hx)
   have S54 := zH (show Ext w35 w51 from hs)
   have G55 := zH (show w35.heap.size ≤ X49 from Nat.le_trans zb.size hg1)
   have G56 := zH (show w35.heap.size ≤ Y50 from Nat.le_trans zb.size hg2)
   clear hh hx hg1 hg2 hs
   try simp only [Act.put, zA, zB, zC]
   refine md_st (i := 12) (listed' := (bs 14 8191)) (by rfl) (by kernel_rfl) (by rfl) (by kernel_rfl) _ _ _ (by rfl) H52.out (ix := 5) (by rfl) 0 [.bool e.a.n, .slice e.a.p e.a.l e.a.c, .bool e.a.m, .slice e.a.p2 e.a.l2 e.a.c2] (by rfl) (by rfl) (by simp) (by kernel_rfl) (by simp [Value.oneCell']) (by simp [NoUL]) ?_
   intro w57 hh hd ho
   have H58 := zH (show Hp w w57 [.blk X1 29 (rc rf), .blk X6 29 (rc rt), .blk X11 29 rz, .blk X20 29 (rc rs), ro 31 8 (some ⟨gm, 0, none⟩) es.length cm SpE.cells es, .blk X49 29 (rc e.a), .blk Y50 29 rz] from hh)
   have D58 := zH (hd)
   have S60 := zH (show Ext w35 w57 from Own.ext ho S54.out G55.out)
   clear hh hd ho
   refine ⟨S60.out, ?_⟩
   (try simp only [Act.put])
   refine md_st (i := 13) (listed' := (bs 14 16383)) (by rfl) (by kernel_rfl) (by rfl) (by kernel_rfl) _ _ _ (by rfl) H58.out (ix := 6) (by rfl) 0 [.bool e.b.n, .slice e.b.p e.b.l e.b.c, .bool e.b.m, .slice e.b.p2 e.b.l2 e.b.c2] (by rfl) (by rfl) (by simp) (by kernel_rfl) (by simp [Value.oneCell']) (by simp [NoUL]) ?_
   intro w61 hh hd ho
   have H62 := zH (show Hp w w61 [.blk X1 29 (rc rf), .blk X6 29 (rc rt), .blk X11 29 rz, .blk X20 29 (rc rs), ro 31 8 (some ⟨gm, 0, none⟩) es.length cm SpE.cells es, .blk X49 29 (rc e.a), .blk Y50 29 (rc e.b)] from hh)
   have D62 := zH (hd)
   have S64 := zH (show Ext w35 w61 from Own.ext ho S60.out G56.out)
   clear hh hd ho
   refine ⟨S64.out, ?_⟩
   (try simp only [Act.put])
   refine wpAnyH_done (by kernel_rfl) ?_ _
   by_cases c66 : e.p < f
   ·have C65 := zH c66
    clear c66
    go_upto_region 7 with fail
    refine wp_region_lit ?_
    refine zd X49 (0) (rc e.a) (H62.out.range (i := 5) (by rfl) 0 4) Tryz.underlying29 ?_
    refine zd X1 (0) (rc rf) (H62.out.range (i := 0) (by rfl) 0 4) Tryz.underlying29 ?_
    have DD68 := zH (((((D37.out.trans D39.out).trans D52.out).trans D58.out).trans D62.out))
    refine zc (less_any 60000 _ _ e.p f _ (RV.Is.nin (RAe.out.dig DD68.out) (Nat.le_trans BAe.out (by omega))) (RV.In.nin (RV.In.mono (RF.out.dig H62.out.dig0) (by omega))) (by omega)) ?_
    rintro e w67 ⟨rfl, hx⟩
    have H69 := zH (H62.out.step hx)
    have D69 := zH (Dig.of_ext hx)
    clear hx
    refine ⟨.bool true, by rw [dec_t C65.out], ?_⟩
    try simp only [Act.put, zA, zB, zC]
    go_upto_region 8 with fail
    refine wp_region_lit ?_
    refine zd X1 (0) (rc rf) (H69.out.range (i := 0) (by rfl) 0 4) Tryz.underlying29 ?_
    refine mv_st (by rfl) _ _ _ (by rfl) H69.out (ix := 5) (by rfl) 0 [.bool rf.n, .slice rf.p rf.l rf.c, .bool rf.m, .slice rf.p2 rf.l2 rf.c2] (by rfl) (by rfl) (by simp) (by kernel_rfl) (by simp [Value.oneCell']) (by simp [NoUL]) ?_
    intro w71 hh hd ho
    have H72 := zH (show Hp w w71 [.blk X1 29 (rc rf), .blk X6 29 (rc rt), .blk X11 29 rz, .blk X20 29 (rc rs), ro 31 8 (some ⟨gm, 0, none⟩) es.length cm SpE.cells es, .blk X49 29 (rc rf), .blk Y50 29 (rc e.b)] from hh)
    have D72 := zH (hd)
    clear hh hd ho
    (try simp only [Act.put])
    by_cases c75 : t < e.q
    ·have C74 := zH c75
     clear c75
     go_upto_region 9 with fail
     refine wp_region_lit ?_
     refine zd X6 (0) (rc rt) (H72.out.range (i := 1) (by rfl) 0 4) Tryz.underlying29 ?_
     refine zd Y50 (0) (rc e.b) (H72.out.range (i := 6) (by rfl) 0 4) Tryz.underlying29 ?_
     have DD77 := zH (((((((D37.out.trans D39.out).trans D52.out).trans D58.out).trans D62.out).trans D69.out).trans D72.out))
     refine zc (less_any 60000 _ _ t e.q _ (RV.In.nin (RV.In.mono (RT.out.dig H72.out.dig0) (by omega))) (RV.Is.nin (RBe.out.dig DD77.out) (Nat.le_trans BBe.out (by omega))) (by omega)) ?_
     rintro e w76 ⟨rfl, hx⟩
     have H78 := zH (H72.out.step hx)
     have D78 := zH (Dig.of_ext hx)
     clear hx
     refine ⟨.bool true, by rw [dec_t C74.out], ?_⟩
     try simp only [Act.put, zA, zB, zC]
     go_upto_region 10 with fail
     refine wp_region_lit ?_
     refine zd X6 (0) (rc rt) (H78.out.range (i := 1) (by rfl) 0 4) Tryz.underlying29 ?_
     refine mv_st (by rfl) _ _ _ (by rfl) H78.out (ix := 6) (by rfl) 0 [.bool rt.n, .slice rt.p rt.l rt.c, .bool rt.m, .slice rt.p2 rt.l2 rt.c2] (by rfl) (by rfl) (by simp) (by kernel_rfl) (by simp [Value.oneCell']) (by simp [NoUL]) ?_
     intro w80 hh hd ho
     have H81 := zH (show Hp w w80 [.blk X1 29 (rc rf), .blk X6 29 (rc rt), .blk X11 29 rz, .blk X20 29 (rc rs), ro 31 8 (some ⟨gm, 0, none⟩) es.length cm SpE.cells es, .blk X49 29 (rc rf), .blk Y50 29 (rc rt)] from hh)
     have D81 := zH (hd)
     clear hh hd ho
     (try simp only [Act.put])
     by_cases c83 : f < t
     ·have CL := zH c83
      clear c83
      go_upto_region 11 with fail
      refine wp_region_lit ?_
      refine zd X49 (0) (rc rf) (H81.out.range (i := 5) (by rfl) 0 4) Tryz.underlying29 ?_
      refine zd Y50 (0) (rc rt) (H81.out.range (i := 6) (by rfl) 0 4) Tryz.underlying29 ?_
      refine zc (less_any 60000 _ _ f t _ (RV.In.nin (RV.In.mono (RF.out.dig H81.out.dig0) (by omega))) (RV.In.nin (RV.In.mono (RT.out.dig H81.out.dig0) (by omega))) (by omega)) ?_
      rintro e w84 ⟨rfl, hx⟩
      have H85 := zH (H81.out.step hx)
      have D85 := zH (Dig.of_ext hx)
      clear hx
      refine ⟨.bool true, by rw [dec_t CL.out], ?_⟩
      try simp only [Act.put, zA, zB, zC]
      go_upto_region 12 with fail
      refine wp_region_held_drew (S := fun x => Fr (fun kz => kz = X20) w84 x) (by kernel_rfl) (Fr.of_ext zb) (fun _ => ?_)
      have H87 := zH (H85.out.step (Ext.refl w84).drew)
      have D87 := zH (Dig.of_ext (w := w84) zb)
      refine mR 1 (bs 6 2) Y50 (0) [.bool rt.n, .slice rt.p rt.l rt.c, .bool rt.m, .slice rt.p2 rt.l2 rt.c2] (fun x hx => Fr.range hx (show World.rangeAt w84 Y50 (0) [.bool rt.n, .slice rt.p rt.l rt.c, .bool rt.m, .slice rt.p2 rt.l2 rt.c2] from (H85.out.range (i := 6) (by rfl) 0 4)) (H85.out.offBlk (i := 6) (j := 3) (by rfl) (by rfl) (by decide) (by rfl))) Tryz.underlying29 (Fr.of_ext zb) ?_
      refine zr 2 (bs 6 6) X49 (0) [.bool rf.n, .slice rf.p rf.l rf.c, .bool rf.m, .slice rf.p2 rf.l2 rf.c2] (fun x hx => Fr.range hx (show World.rangeAt w84 X49 (0) [.bool rf.n, .slice rf.p rf.l rf.c, .bool rf.m, .slice rf.p2 rf.l2 rf.c2] from (H85.out.range (i := 5) (by rfl) 0 4)) (H85.out.offBlk (i := 5) (j := 3) (by rfl) (by rfl) (by decide) (by rfl))) Tryz.underlying29 (Fr.of_ext zb) ?_
      refine Fd.go (j := 0) (dj := some 42) (u := .agg #[.bool rs.n, .slice rs.p rs.l rs.c, .bool rs.m, .slice rs.p2 rs.l2 rs.c2]) ?_
      refine fd_call (b := w84) (i := 3) (lj := (bs 6 7)) (li := (bs 6 14)) (by rfl) (by rfl) (by kernel_rfl) (by kernel_rfl) (by kernel_rfl) (by kernel_rfl) (by kernel_rfl) (by decide) (by kernel_rfl) (by rfl) (by rfl) (fun x_ h_ => Fr.of_ext h_) (Ext.refl w84).drew (fun x_ h_ => ev_ld _ _ (by rfl) X20 (0) [.bool rs.n, .slice rs.p rs.l rs.c, .bool rs.m, .slice rs.p2 rs.l2 rs.c2] (by rfl) (range_ext (show World.rangeAt w84 X20 (0) [.bool rs.n, .slice rs.p rs.l rs.c, .bool rs.m, .slice rs.p2 rs.l2 rs.c2] from H85.out.range (i := 3) (by rfl) 0 4) h_) Tryz.underlying29 (by rfl) (by kernel_rfl)) (by rfl) (by go_simp) (by kernel_rfl) (q03Sub (L := 60000) (RV.In.nin (RV.In.mono (RT.out.dig H87.out.dig0) (by omega))) (RV.In.nin (RV.In.mono (RF.out.dig H87.out.dig0) (by omega))) (by omega)) ?_
      rintro e w89 ⟨c_, rfl, hc_, hx⟩
      have H91 := zH (H87.out.step hx)
      have D91 := zH (show Dig w84.drew w89 from Dig.of_ext hx)
      have X93 := zH (show Ext w84 w89 from (Ext.refl w84).drew.trans hx)
      have S94 := zH (show Fr (fun kz => kz = X20) w84 w89 from (Fr.of_ext zb).trans (Fr.of_ext hx))
      obtain ⟨r90, rfl, hr_⟩ := hc_
      have R90 := zH hr_
      clear hr_
      have B90 := zH (show Nm.rl (t - f) ≤ L + L + 1 from by have h1 := (show Nm.rl t ≤ L from by have h := (RT.out.dig H91.out.dig0).rl; omega); have h2 := (show Nm.rl f ≤ L from by have h := (RF.out.dig H91.out.dig0).rl; omega); have h3 := Nm.rl_sub t f; omega)
      have hx_ := hx
      clear hx
      refine ⟨_, rfl, hx_, ?_⟩
      try simp only [Act.put, zA, zB, zC]
      clear hx_
      refine fd_end (by rfl) (by kernel_rfl) (by rfl) (by rfl) S94.out (ev_ld _ _ (by rfl) X20 (0) [.bool rs.n, .slice rs.p rs.l rs.c, .bool rs.m, .slice rs.p2 rs.l2 rs.c2] (by rfl) (range_ext (show World.rangeAt w84 X20 (0) [.bool rs.n, .slice rs.p rs.l rs.c, .bool rs.m, .slice rs.p2 rs.l2 rs.c2] from H85.out.range (i := 3) (by rfl) 0 4) X93.out) Tryz.underlying29 (by rfl) (by kernel_rfl)) (show _ = (bs 6 15) by kernel_rfl) ?_
      try simp only [Act.put, zA, zB, zC]
      have DD97 := zH (((((((((((D39.out.trans D52.out).trans D58.out).trans D62.out).trans D69.out).trans D72.out).trans D78.out).trans D81.out).trans D85.out).trans D87.out).trans D91.out))
      refine mC 4 (bs 6 31) (q03Add (L := 60000) (RV.Is.nin (RS.out.dig DD97.out) (Nat.le_trans BS.out (by omega))) (RV.Is.nin R90.out (Nat.le_trans B90.out (by omega))) (by omega)) ?_
      rintro e w95 ⟨c_, rfl, hc_, hx⟩
      have H98 := zH (H91.out.step hx)
      have D98 := zH (Dig.of_ext hx)
      have S101 := zH (show Fr (fun kz => kz = X20) w84 w95 from S94.out.trans (Fr.of_ext hx))
      obtain ⟨r96, rfl, hr_⟩ := hc_
      have R96 := zH hr_
      clear hr_
      have B96 := zH (show Nm.rl ((lenV f t ((es.map SpE.vl).take k)) + (t - f)) ≤ (2 + KP) + (L + L + 1) + 1 from by have h1 := BS.out; have h2 := B90.out; have h3 := Nm.rl_add (lenV f t ((es.map SpE.vl).take k)) (t - f); omega)
      clear hx
      refine zm S101.out ?_
      refine md_st (i := 5) (listed' := (bs 6 63)) (by rfl) (by kernel_rfl) (by rfl) (by kernel_rfl) _ _ _ (by rfl) H98.out (ix := 3) (by rfl) 0 [.bool r96.n, .slice r96.p r96.l r96.c, .bool r96.m, .slice r96.p2 r96.l2 r96.c2] (by rfl) (by rfl) (by simp) (by kernel_rfl) (by simp [Value.oneCell']) (by simp [NoUL]) ?_
      intro w102 hh hd ho
      have H103 := zH (show Hp w w102 [.blk X1 29 (rc rf), .blk X6 29 (rc rt), .blk X11 29 rz, .blk X20 29 (rc r96), ro 31 8 (some ⟨gm, 0, none⟩) es.length cm SpE.cells es, .blk X49 29 (rc rf), .blk Y50 29 (rc rt)] from hh)
      have D103 := zH (hd)
      have S105 := zH (show Fr (fun kz => kz = X20) w84 w102 from Fr.trans_new S101.out ho (fun j hj => .inl (by simpa using hj.symm)))
      clear hh hd ho
      refine ⟨S105.out, ?_⟩
      (try simp only [Act.put])
      refine wpAnyH_done (by kernel_rfl) ?_ _
      have HL1 := zH ((len1_case (p := e.p) (q := e.q) (a := f) (b := t) (by first | exact (if_pos C65.out).symm | exact (if_neg C65.out).symm) (by first | exact (if_pos C74.out).symm | exact (if_neg C74.out).symm)).trans (if_pos CL.out))
      have DD106 := zH ((((((((((((((D37.out.trans D39.out).trans D52.out).trans D58.out).trans D62.out).trans D69.out).trans D72.out).trans D78.out).trans D81.out).trans D85.out).trans D87.out).trans D91.out).trans D98.out).trans D103.out))
      go_wp2_with fail
      go_roundg (es.length - (k + 1))
      case measure => exact (by have ob0 := HLT.out; omega)
      case rel => exact ⟨k + 1, r96, rfl, (by go_num), HLT.out, (by rw [HTK.out, HL1.out]; exact (R96.out.dig D103.out)), (by rw [HTK.out, HL1.out, HKQ.out]; exact Nat.le_trans B96.out (by omega)), H103.out.take 5, DD106.out⟩
     have CL := zH c83
     clear c83
     go_upto_region 11 with fail
     refine wp_region_lit ?_
     refine zd X49 (0) (rc rf) (H81.out.range (i := 5) (by rfl) 0 4) Tryz.underlying29 ?_
     refine zd Y50 (0) (rc rt) (H81.out.range (i := 6) (by rfl) 0 4) Tryz.underlying29 ?_
     refine zc (less_any 60000 _ _ f t _ (RV.In.nin (RV.In.mono (RF.out.dig H81.out.dig0) (by omega))) (RV.In.nin (RV.In.mono (RT.out.dig H81.out.dig0) (by omega))) (by omega)) ?_
     rintro e w107 ⟨rfl, hx⟩
     have H108 := zH (H81.out.step hx)
     have D108 := zH (Dig.of_ext hx)
     clear hx
     refine ⟨.bool false, by rw [dec_f CL.out], ?_⟩
     try simp only [Act.put, zA, zB, zC]
     have HL1 := zH ((len1_case (p := e.p) (q := e.q) (a := f) (b := t) (by first | exact (if_pos C65.out).symm | exact (if_neg C65.out).symm) (by first | exact (if_pos C74.out).symm | exact (if_neg C74.out).symm)).trans (if_neg CL.out))
     have DD110 := zH (((((((((D39.out.trans D52.out).trans D58.out).trans D62.out).trans D69.out).trans D72.out).trans D78.out).trans D81.out).trans D108.out))
     have DD111 := zH ((((((((((D37.out.trans D39.out).trans D52.out).trans D58.out).trans D62.out).trans D69.out).trans D72.out).trans D78.out).trans D81.out).trans D108.out))
     go_wp2_with fail
     go_roundg (es.length - (k + 1))
     case measure => exact (by have ob0 := HLT.out; omega)
     case rel => exact ⟨k + 1, rs, rfl, (by go_num), HLT.out, (by rw [HTK.out, HL1.out, Rat.add_zero]; exact (RS.out.dig DD110.out)), (by rw [HTK.out, HL1.out, HKQ.out, Rat.add_zero]; exact Nat.le_trans BS.out (by have := HKP.out; omega)), H108.out.take 5, DD111.out⟩
    have C74 := zH c75
    clear c75
    go_upto_region 9 with fail
    refine wp_region_lit ?_
    refine zd X6 (0) (rc rt) (H72.out.range (i := 1) (by rfl) 0 4) Tryz.underlying29 ?_
    refine zd Y50 (0) (rc e.b) (H72.out.range (i := 6) (by rfl) 0 4) Tryz.underlying29 ?_
    have DD113 := zH (((((((D37.out.trans D39.out).trans D52.out).trans D58.out).trans D62.out).trans D69.out).trans D72.out))
    refine zc (less_any 60000 _ _ t e.q _ (RV.In.nin (RV.In.mono (RT.out.dig H72.out.dig0) (by omega))) (RV.Is.nin (RBe.out.dig DD113.out) (Nat.le_trans BBe.out (by omega))) (by omega)) ?_
    rintro e w112 ⟨rfl, hx⟩
    have H114 := zH (H72.out.step hx)
    have D114 := zH (Dig.of_ext hx)
    clear hx
    refine ⟨.bool false, by rw [dec_f C74.out], ?_⟩
    try simp only [Act.put, zA, zB, zC]
    by_cases c116 : f < e.q
    ·have CL := zH c116
     clear c116
     go_upto_region 11 with fail
     refine wp_region_lit ?_
     refine zd X49 (0) (rc rf) (H114.out.range (i := 5) (by rfl) 0 4) Tryz.underlying29 ?_
     refine zd Y50 (0) (rc e.b) (H114.out.range (i := 6) (by rfl) 0 4) Tryz.underlying29 ?_
     have DD118 := zH ((((((((D37.out.trans D39.out).trans D52.out).trans D58.out).trans D62.out).trans D69.out).trans D72.out).trans D114.out))
     refine zc (less_any 60000 _ _ f e.q _ (RV.In.nin (RV.In.mono (RF.out.dig H114.out.dig0) (by omega))) (RV.Is.nin (RBe.out.dig DD118.out) (Nat.le_trans BBe.out (by omega))) (by omega)) ?_
     rintro e w117 ⟨rfl, hx⟩
     have H119 := zH (H114.out.step hx)
     have D119 := zH (Dig.of_ext hx)
     clear hx
     refine ⟨.bool true, by rw [dec_t CL.out], ?_⟩
     try simp only [Act.put, zA, zB, zC]
     go_upto_region 12 with fail
     refine wp_region_held_drew (S := fun x => Fr (fun kz => kz = X20) w117 x) (by kernel_rfl) (Fr.of_ext zb) (fun _ => ?_)
     have H121 := zH (H119.out.step (Ext.refl w117).drew)
     have D121 := zH (Dig.of_ext (w := w117) zb)
     refine mR 1 (bs 6 2) Y50 (0) [.bool e.b.n, .slice e.b.p e.b.l e.b.c, .bool e.b.m, .slice e.b.p2 e.b.l2 e.b.c2] (fun x hx => Fr.range hx (show World.rangeAt w117 Y50 (0) [.bool e.b.n, .slice e.b.p e.b.l e.b.c, .bool e.b.m, .slice e.b.p2 e.b.l2 e.b.c2] from (H119.out.range (i := 6) (by rfl) 0 4)) (H119.out.offBlk (i := 6) (j := 3) (by rfl) (by rfl) (by decide) (by rfl))) Tryz.underlying29 (Fr.of_ext zb) ?_
     refine zr 2 (bs 6 6) X49 (0) [.bool rf.n, .slice rf.p rf.l rf.c, .bool rf.m, .slice rf.p2 rf.l2 rf.c2] (fun x hx => Fr.range hx (show World.rangeAt w117 X49 (0) [.bool rf.n, .slice rf.p rf.l rf.c, .bool rf.m, .slice rf.p2 rf.l2 rf.c2] from (H119.out.range (i := 5) (by rfl) 0 4)) (H119.out.offBlk (i := 5) (j := 3) (by rfl) (by rfl) (by decide) (by rfl))) Tryz.underlying29 (Fr.of_ext zb) ?_
     refine Fd.go (j := 0) (dj := some 42) (u := .agg #[.bool rs.n, .slice rs.p rs.l rs.c, .bool rs.m, .slice rs.p2 rs.l2 rs.c2]) ?_
     have DD125 := zH ((((((((((D37.out.trans D39.out).trans D52.out).trans D58.out).trans D62.out).trans D69.out).trans D72.out).trans D114.out).trans D119.out).trans D121.out))
     refine fd_call (b := w117) (i := 3) (lj := (bs 6 7)) (li := (bs 6 14)) (by rfl) (by rfl) (by kernel_rfl) (by kernel_rfl) (by kernel_rfl) (by kernel_rfl) (by kernel_rfl) (by decide) (by kernel_rfl) (by rfl) (by rfl) (fun x_ h_ => Fr.of_ext h_) (Ext.refl w117).drew (fun x_ h_ => ev_ld _ _ (by rfl) X20 (0) [.bool rs.n, .slice rs.p rs.l rs.c, .bool rs.m, .slice rs.p2 rs.l2 rs.c2] (by rfl) (range_ext (show World.rangeAt w117 X20 (0) [.bool rs.n, .slice rs.p rs.l rs.c, .bool rs.m, .slice rs.p2 rs.l2 rs.c2] from H119.out.range (i := 3) (by rfl) 0 4) h_) Tryz.underlying29 (by rfl) (by kernel_rfl)) (by rfl) (by go_simp) (by kernel_rfl) (q03Sub (L := 60000) (RV.Is.nin (RBe.out.dig DD125.out) (Nat.le_trans BBe.out (by omega))) (RV.In.nin (RV.In.mono (RF.out.dig H121.out.dig0) (by omega))) (by omega)) ?_
     rintro e w123 ⟨c_, rfl, hc_, hx⟩
     have H126 := zH (H121.out.step hx)
     have D126 := zH (show Dig w117.drew w123 from Dig.of_ext hx)
     have X128 := zH (show Ext w117 w123 from (Ext.refl w117).drew.trans hx)
     have S129 := zH (show Fr (fun kz => kz = X20) w117 w123 from (Fr.of_ext zb).trans (Fr.of_ext hx))
     obtain ⟨r124, rfl, hr_⟩ := hc_
     have R124 := zH hr_
     clear hr_
     have B124 := zH (show Nm.rl (e.q - f) ≤ L + L + 1 from by have h1 := BBe.out; have h2 := (show Nm.rl f ≤ L from by have h := (RF.out.dig H126.out.dig0).rl; omega); have h3 := Nm.rl_sub e.q f; omega)
     have hx_ := hx
     clear hx
     refine ⟨_, rfl, hx_, ?_⟩
     try simp only [Act.put, zA, zB, zC]
     clear hx_
     refine fd_end (by rfl) (by kernel_rfl) (by rfl) (by rfl) S129.out (ev_ld _ _ (by rfl) X20 (0) [.bool rs.n, .slice rs.p rs.l rs.c, .bool rs.m, .slice rs.p2 rs.l2 rs.c2] (by rfl) (range_ext (show World.rangeAt w117 X20 (0) [.bool rs.n, .slice rs.p rs.l rs.c, .bool rs.m, .slice rs.p2 rs.l2 rs.c2] from H119.out.range (i := 3) (by rfl) 0 4) X128.out) Tryz.underlying29 (by rfl) (by kernel_rfl)) (show _ = (bs 6 15) by kernel_rfl) ?_
     try simp only [Act.put, zA, zB, zC]
     have DD132 := zH ((((((((((D39.out.trans D52.out).trans D58.out).trans D62.out).trans D69.out).trans D72.out).trans D114.out).trans D119.out).trans D121.out).trans D126.out))
     refine mC 4 (bs 6 31) (q03Add (L := 60000) (RV.Is.nin (RS.out.dig DD132.out) (Nat.le_trans BS.out (by omega))) (RV.Is.nin R124.out (Nat.le_trans B124.out (by omega))) (by omega)) ?_
     rintro e w130 ⟨c_, rfl, hc_, hx⟩
     have H133 := zH (H126.out.step hx)
     have D133 := zH (Dig.of_ext hx)
     have S136 := zH (show Fr (fun kz => kz = X20) w117 w130 from S129.out.trans (Fr.of_ext hx))
     obtain ⟨r131, rfl, hr_⟩ := hc_
     have R131 := zH hr_
     clear hr_
     have B131 := zH (show Nm.rl ((lenV f t ((es.map SpE.vl).take k)) + (e.q - f)) ≤ (2 + KP) + (L + L + 1) + 1 from by have h1 := BS.out; have h2 := B124.out; have h3 := Nm.rl_add (lenV f t ((es.map SpE.vl).take k)) (e.q - f); omega)
     clear hx
     refine zm S136.out ?_
     refine md_st (i := 5) (listed' := (bs 6 63)) (by rfl) (by kernel_rfl) (by rfl) (by kernel_rfl) _ _ _ (by rfl) H133.out (ix := 3) (by rfl) 0 [.bool r131.n, .slice r131.p r131.l r131.c, .bool r131.m, .slice r131.p2 r131.l2 r131.c2] (by rfl) (by rfl) (by simp) (by kernel_rfl) (by simp [Value.oneCell']) (by simp [NoUL]) ?_
     intro w137 hh hd ho
     have H138 := zH (show Hp w w137 [.blk X1 29 (rc rf), .blk X6 29 (rc rt), .blk X11 29 rz, .blk X20 29 (rc r131), ro 31 8 (some ⟨gm, 0, none⟩) es.length cm SpE.cells es, .blk X49 29 (rc rf), .blk Y50 29 (rc e.b)] from hh)
     have D138 := zH (hd)
     have S140 := zH (show Fr (fun kz => kz = X20) w117 w137 from Fr.trans_new S136.out ho (fun j hj => .inl (by simpa using hj.symm)))
     clear hh hd ho
     refine ⟨S140.out, ?_⟩
     (try simp only [Act.put])
     refine wpAnyH_done (by kernel_rfl) ?_ _
     have HL1 := zH ((len1_case (p := e.p) (q := e.q) (a := f) (b := e.q) (by first | exact (if_pos C65.out).symm | exact (if_neg C65.out).symm) (by first | exact (if_pos C74.out).symm | exact (if_neg C74.out).symm)).trans (if_pos CL.out))
     have DD141 := zH (((((((((((((D37.out.trans D39.out).trans D52.out).trans D58.out).trans D62.out).trans D69.out).trans D72.out).trans D114.out).trans D119.out).trans D121.out).trans D126.out).trans D133.out).trans D138.out))
     go_wp2_with fail
     go_roundg (es.length - (k + 1))
     case measure => exact (by have ob0 := HLT.out; omega)
     case rel => exact ⟨k + 1, r131, rfl, (by go_num), HLT.out, (by rw [HTK.out, HL1.out]; exact (R131.out.dig D138.out)), (by rw [HTK.out, HL1.out, HKQ.out]; exact Nat.le_trans B131.out (by omega)), H138.out.take 5, DD141.out⟩
    have CL := zH c116
    clear c116
    go_upto_region 11 with fail
    refine wp_region_lit ?_
    refine zd X49 (0) (rc rf) (H114.out.range (i := 5) (by rfl) 0 4) Tryz.underlying29 ?_
    refine zd Y50 (0) (rc e.b) (H114.out.range (i := 6) (by rfl) 0 4) Tryz.underlying29 ?_
    have DD143 := zH ((((((((D37.out.trans D39.out).trans D52.out).trans D58.out).trans D62.out).trans D69.out).trans D72.out).trans D114.out))
    refine zc (less_any 60000 _ _ f e.q _ (RV.In.nin (RV.In.mono (RF.out.dig H114.out.dig0) (by omega))) (RV.Is.nin (RBe.out.dig DD143.out) (Nat.le_trans BBe.out (by omega))) (by omega)) ?_
    rintro e w142 ⟨rfl, hx⟩
    have H144 := zH (H114.out.step hx)
    have D144 := zH (Dig.of_ext hx)
    clear hx
    refine ⟨.bool false, by rw [dec_f CL.out], ?_⟩
    try simp only [Act.put, zA, zB, zC]
    have HL1 := zH ((len1_case (p := e.p) (q := e.q) (a := f) (b := e.q) (by first | exact (if_pos C65.out).symm | exact (if_neg C65.out).symm) (by first | exact (if_pos C74.out).symm | exact (if_neg C74.out).symm)).trans (if_neg CL.out))
    have DD146 := zH ((((((((D39.out.trans D52.out).trans D58.out).trans D62.out).trans D69.out).trans D72.out).trans D114.out).trans D144.out))
    have DD147 := zH (((((((((D37.out.trans D39.out).trans D52.out).trans D58.out).trans D62.out).trans D69.out).trans D72.out).trans D114.out).trans D144.out))
    go_wp2_with fail
    go_roundg (es.length - (k + 1))
    case measure => exact (by have ob0 := HLT.out; omega)
    case rel => exact ⟨k + 1, rs, rfl, (by go_num), HLT.out, (by rw [HTK.out, HL1.out, Rat.add_zero]; exact (RS.out.dig DD146.out)), (by rw [HTK.out, HL1.out, HKQ.out, Rat.add_zero]; exact Nat.le_trans BS.out (by have := HKP.out; omega)), H144.out.take 5, DD147.out⟩
   have C65 := zH c66
   clear c66
   go_upto_region 7 with fail
   refine wp_region_lit ?_
   refine zd X49 (0) (rc e.a) (H62.out.range (i := 5) (by rfl) 0 4) Tryz.underlying29 ?_
   refine zd X1 (0) (rc rf) (H62.out.range (i := 0) (by rfl) 0 4) Tryz.underlying29 ?_
   have DD149 := zH (((((D37.out.trans D39.out).trans D52.out).trans D58.out).trans D62.out))
   refine zc (less_any 60000 _ _ e.p f _ (RV.Is.nin (RAe.out.dig DD149.out) (Nat.le_trans BAe.out (by omega))) (RV.In.nin (RV.In.mono (RF.out.dig H62.out.dig0) (by omega))) (by omega)) ?_
   rintro e w148 ⟨rfl, hx⟩
   have H150 := zH (H62.out.step hx)
   have D150 := zH (Dig.of_ext hx)
   clear hx
   refine ⟨.bool false, by rw [dec_f C65.out], ?_⟩
   try simp only [Act.put, zA, zB, zC]
   by_cases c153 : t < e.q
   ·have C152 := zH c153
    clear c153
    go_upto_region 9 with fail
    refine wp_region_lit ?_
    refine zd X6 (0) (rc rt) (H150.out.range (i := 1) (by rfl) 0 4) Tryz.underlying29 ?_
    refine zd Y50 (0) (rc e.b) (H150.out.range (i := 6) (by rfl) 0 4) Tryz.underlying29 ?_
    have DD155 := zH ((((((D37.out.trans D39.out).trans D52.out).trans D58.out).trans D62.out).trans D150.out))
    refine zc (less_any 60000 _ _ t e.q _ (RV.In.nin (RV.In.mono (RT.out.dig H150.out.dig0) (by omega))) (RV.Is.nin (RBe.out.dig DD155.out) (Nat.le_trans BBe.out (by omega))) (by omega)) ?_
    rintro e w154 ⟨rfl, hx⟩
    have H156 := zH (H150.out.step hx)
    have D156 := zH (Dig.of_ext hx)
    clear hx
    refine ⟨.bool true, by rw [dec_t C152.out], ?_⟩
    try simp only [Act.put, zA, zB, zC]
    go_upto_region 10 with fail
    refine wp_region_lit ?_
    refine zd X6 (0) (rc rt) (H156.out.range (i := 1) (by rfl) 0 4) Tryz.underlying29 ?_
    refine mv_st (by rfl) _ _ _ (by rfl) H156.out (ix := 6) (by rfl) 0 [.bool rt.n, .slice rt.p rt.l rt.c, .bool rt.m, .slice rt.p2 rt.l2 rt.c2] (by rfl) (by rfl) (by simp) (by kernel_rfl) (by simp [Value.oneCell']) (by simp [NoUL]) ?_
    intro w158 hh hd ho
    have H159 := zH (show Hp w w158 [.blk X1 29 (rc rf), .blk X6 29 (rc rt), .blk X11 29 rz, .blk X20 29 (rc rs), ro 31 8 (some ⟨gm, 0, none⟩) es.length cm SpE.cells es, .blk X49 29 (rc e.a), .blk Y50 29 (rc rt)] from hh)
    have D159 := zH (hd)
    clear hh hd ho
    (try simp only [Act.put])
    by_cases c161 : e.p < t
    ·have CL := zH c161
     clear c161
     go_upto_region 11 with fail
     refine wp_region_lit ?_
     refine zd X49 (0) (rc e.a) (H159.out.range (i := 5) (by rfl) 0 4) Tryz.underlying29 ?_
     refine zd Y50 (0) (rc rt) (H159.out.range (i := 6) (by rfl) 0 4) Tryz.underlying29 ?_
     have DD163 := zH ((((((((D37.out.trans D39.out).trans D52.out).trans D58.out).trans D62.out).trans D150.out).trans D156.out).trans D159.out))
     refine zc (less_any 60000 _ _ e.p t _ (RV.Is.nin (RAe.out.dig DD163.out) (Nat.le_trans BAe.out (by omega))) (RV.In.nin (RV.In.mono (RT.out.dig H159.out.dig0) (by omega))) (by omega)) ?_
     rintro e w162 ⟨rfl, hx⟩
     have H164 := zH (H159.out.step hx)
     have D164 := zH (Dig.of_ext hx)
     clear hx
     refine ⟨.bool true, by rw [dec_t CL.out], ?_⟩
     try simp only [Act.put, zA, zB, zC]
     go_upto_region 12 with fail
     refine wp_region_held_drew (S := fun x => Fr (fun kz => kz = X20) w162 x) (by kernel_rfl) (Fr.of_ext zb) (fun _ => ?_)
     have H166 := zH (H164.out.step (Ext.refl w162).drew)
     have D166 := zH (Dig.of_ext (w := w162) zb)
     refine mR 1 (bs 6 2) Y50 (0) [.bool rt.n, .slice rt.p rt.l rt.c, .bool rt.m, .slice rt.p2 rt.l2 rt.c2] (fun x hx => Fr.range hx (show World.rangeAt w162 Y50 (0) [.bool rt.n, .slice rt.p rt.l rt.c, .bool rt.m, .slice rt.p2 rt.l2 rt.c2] from (H164.out.range (i := 6) (by rfl) 0 4)) (H164.out.offBlk (i := 6) (j := 3) (by rfl) (by rfl) (by decide) (by rfl))) Tryz.underlying29 (Fr.of_ext zb) ?_
     refine zr 2 (bs 6 6) X49 (0) [.bool e.a.n, .slice e.a.p e.a.l e.a.c, .bool e.a.m, .slice e.a.p2 e.a.l2 e.a.c2] (fun x hx => Fr.range hx (show World.rangeAt w162 X49 (0) [.bool e.a.n, .slice e.a.p e.a.l e.a.c, .bool e.a.m, .slice e.a.p2 e.a.l2 e.a.c2] from (H164.out.range (i := 5) (by rfl) 0 4)) (H164.out.offBlk (i := 5) (j := 3) (by rfl) (by rfl) (by decide) (by rfl))) Tryz.underlying29 (Fr.of_ext zb) ?_
     refine Fd.go (j := 0) (dj := some 42) (u := .agg #[.bool rs.n, .slice rs.p rs.l rs.c, .bool rs.m, .slice rs.p2 rs.l2 rs.c2]) ?_
     have DD170 := zH ((((((((((D37.out.trans D39.out).trans D52.out).trans D58.out).trans D62.out).trans D150.out).trans D156.out).trans D159.out).trans D164.out).trans D166.out))
     refine fd_call (b := w162) (i := 3) (lj := (bs 6 7)) (li := (bs 6 14)) (by rfl) (by rfl) (by kernel_rfl) (by kernel_rfl) (by kernel_rfl) (by kernel_rfl) (by kernel_rfl) (by decide) (by kernel_rfl) (by rfl) (by rfl) (fun x_ h_ => Fr.of_ext h_) (Ext.refl w162).drew (fun x_ h_ => ev_ld _ _ (by rfl) X20 (0) [.bool rs.n, .slice rs.p rs.l rs.c, .bool rs.m, .slice rs.p2 rs.l2 rs.c2] (by rfl) (range_ext (show World.rangeAt w162 X20 (0) [.bool rs.n, .slice rs.p rs.l rs.c, .bool rs.m, .slice rs.p2 rs.l2 rs.c2] from H164.out.range (i := 3) (by rfl) 0 4) h_) Tryz.underlying29 (by rfl) (by kernel_rfl)) (by rfl) (by go_simp) (by kernel_rfl) (q03Sub (L := 60000) (RV.In.nin (RV.In.mono (RT.out.dig H166.out.dig0) (by omega))) (RV.Is.nin (RAe.out.dig DD170.out) (Nat.le_trans BAe.out (by omega))) (by omega)) ?_
     rintro e w168 ⟨c_, rfl, hc_, hx⟩
     have H171 := zH (H166.out.step hx)
     have D171 := zH (show Dig w162.drew w168 from Dig.of_ext hx)
     have X173 := zH (show Ext w162 w168 from (Ext.refl w162).drew.trans hx)
     have S174 := zH (show Fr (fun kz => kz = X20) w162 w168 from (Fr.of_ext zb).trans (Fr.of_ext hx))
     obtain ⟨r169, rfl, hr_⟩ := hc_
     have R169 := zH hr_
     clear hr_
     have B169 := zH (show Nm.rl (t - e.p) ≤ L + L + 1 from by have h1 := (show Nm.rl t ≤ L from by have h := (RT.out.dig H171.out.dig0).rl; omega); have h2 := BAe.out; have h3 := Nm.rl_sub t e.p; omega)
     have hx_ := hx
     clear hx
     refine ⟨_, rfl, hx_, ?_⟩
     try simp only [Act.put, zA, zB, zC]
     clear hx_
     refine fd_end (by rfl) (by kernel_rfl) (by rfl) (by rfl) S174.out (ev_ld _ _ (by rfl) X20 (0) [.bool rs.n, .slice rs.p rs.l rs.c, .bool rs.m, .slice rs.p2 rs.l2 rs.c2] (by rfl) (range_ext (show World.rangeAt w162 X20 (0) [.bool rs.n, .slice rs.p rs.l rs.c, .bool rs.m, .slice rs.p2 rs.l2 rs.c2] from H164.out.range (i := 3) (by rfl) 0 4) X173.out) Tryz.underlying29 (by rfl) (by kernel_rfl)) (show _ = (bs 6 15) by kernel_rfl) ?_
     try simp only [Act.put, zA, zB, zC]
     have DD177 := zH ((((((((((D39.out.trans D52.out).trans D58.out).trans D62.out).trans D150.out).trans D156.out).trans D159.out).trans D164.out).trans D166.out).trans D171.out))
     refine mC 4 (bs 6 31) (q03Add (L := 60000) (RV.Is.nin (RS.out.dig DD177.out) (Nat.le_trans BS.out (by omega))) (RV.Is.nin R169.out (Nat.le_trans B169.out (by omega))) (by omega)) ?_
     rintro e w175 ⟨c_, rfl, hc_, hx⟩
     have H178 := zH (H171.out.step hx)
     have D178 := zH (Dig.of_ext hx)
     have S181 := zH (show Fr (fun kz => kz = X20) w162 w175 from S174.out.trans (Fr.of_ext hx))
     obtain ⟨r176, rfl, hr_⟩ := hc_
     have R176 := zH hr_
     clear hr_
     have B176 := zH (show Nm.rl ((lenV f t ((es.map SpE.vl).take k)) + (t - e.p)) ≤ (2 + KP) + (L + L + 1) + 1 from by have h1 := BS.out; have h2 := B169.out; have h3 := Nm.rl_add (lenV f t ((es.map SpE.vl).take k)) (t - e.p); omega)
     clear hx
     refine zm S181.out ?_
     refine md_st (i := 5) (listed' := (bs 6 63)) (by rfl) (by kernel_rfl) (by rfl) (by kernel_rfl) _ _ _ (by rfl) H178.out (ix := 3) (by rfl) 0 [.bool r176.n, .slice r176.p r176.l r176.c, .bool r176.m, .slice r176.p2 r176.l2 r176.c2] (by rfl) (by rfl) (by simp) (by kernel_rfl) (by simp [Value.oneCell']) (by simp [NoUL]) ?_
     intro w182 hh hd ho
     have H183 := zH (show Hp w w182 [.blk X1 29 (rc rf), .blk X6 29 (rc rt), .blk X11 29 rz, .blk X20 29 (rc r176), ro 31 8 (some ⟨gm, 0, none⟩) es.length cm SpE.cells es, .blk X49 29 (rc e.a), .blk Y50 29 (rc rt)] from hh)
     have D183 := zH (hd)
     have S185 := zH (show Fr (fun kz => kz = X20) w162 w182 from Fr.trans_new S181.out ho (fun j hj => .inl (by simpa using hj.symm)))
     clear hh hd ho
     refine ⟨S185.out, ?_⟩
     (try simp only [Act.put])
     refine wpAnyH_done (by kernel_rfl) ?_ _
     have HL1 := zH ((len1_case (p := e.p) (q := e.q) (a := e.p) (b := t) (by first | exact (if_pos C65.out).symm | exact (if_neg C65.out).symm) (by first | exact (if_pos C152.out).symm | exact (if_neg C152.out).symm)).trans (if_pos CL.out))
     have DD186 := zH (((((((((((((D37.out.trans D39.out).trans D52.out).trans D58.out).trans D62.out).trans D150.out).trans D156.out).trans D159.out).trans D164.out).trans D166.out).trans D171.out).trans D178.out).trans D183.out))
     go_wp2_with fail
     go_roundg (es.length - (k + 1))
     case measure => exact (by have ob0 := HLT.out; omega)
     case rel => exact ⟨k + 1, r176, rfl, (by go_num), HLT.out, (by rw [HTK.out, HL1.out]; exact (R176.out.dig D183.out)), (by rw [HTK.out, HL1.out, HKQ.out]; exact Nat.le_trans B176.out (by omega)), H183.out.take 5, DD186.out⟩
    have CL := zH c161
    clear c161
    go_upto_region 11 with fail
    refine wp_region_lit ?_
    refine zd X49 (0) (rc e.a) (H159.out.range (i := 5) (by rfl) 0 4) Tryz.underlying29 ?_
    refine zd Y50 (0) (rc rt) (H159.out.range (i := 6) (by rfl) 0 4) Tryz.underlying29 ?_
    have DD188 := zH ((((((((D37.out.trans D39.out).trans D52.out).trans D58.out).trans D62.out).trans D150.out).trans D156.out).trans D159.out))
    refine zc (less_any 60000 _ _ e.p t _ (RV.Is.nin (RAe.out.dig DD188.out) (Nat.le_trans BAe.out (by omega))) (RV.In.nin (RV.In.mono (RT.out.dig H159.out.dig0) (by omega))) (by omega)) ?_
    rintro e w187 ⟨rfl, hx⟩
    have H189 := zH (H159.out.step hx)
    have D189 := zH (Dig.of_ext hx)
    clear hx
    refine ⟨.bool false, by rw [dec_f CL.out], ?_⟩
    try simp only [Act.put, zA, zB, zC]
    have HL1 := zH ((len1_case (p := e.p) (q := e.q) (a := e.p) (b := t) (by first | exact (if_pos C65.out).symm | exact (if_neg C65.out).symm) (by first | exact (if_pos C152.out).symm | exact (if_neg C152.out).symm)).trans (if_neg CL.out))
    have DD191 := zH ((((((((D39.out.trans D52.out).trans D58.out).trans D62.out).trans D150.out).trans D156.out).trans D159.out).trans D189.out))
    have DD192 := zH (((((((((D37.out.trans D39.out).trans D52.out).trans D58.out).trans D62.out).trans D150.out).trans D156.out).trans D159.out).trans D189.out))
    go_wp2_with fail
    go_roundg (es.length - (k + 1))
    case measure => exact (by have ob0 := HLT.out; omega)
    case rel => exact ⟨k + 1, rs, rfl, (by go_num), HLT.out, (by rw [HTK.out, HL1.out, Rat.add_zero]; exact (RS.out.dig DD191.out)), (by rw [HTK.out, HL1.out, HKQ.out, Rat.add_zero]; exact Nat.le_trans BS.out (by have := HKP.out; omega)), H189.out.take 5, DD192.out⟩
   have C152 := zH c153
   clear c153
   go_upto_region 9 with fail
   refine wp_region_lit ?_
   refine zd X6 (0) (rc rt) (H150.out.range (i := 1) (by rfl) 0 4) Tryz.underlying29 ?_
   refine zd Y50 (0) (rc e.b) (H150.out.range (i := 6) (by rfl) 0 4) Tryz.underlying29 ?_
   have DD194 := zH ((((((D37.out.trans D39.out).trans D52.out).trans D58.out).trans D62.out).trans D150.out))
   refine zc (less_any 60000 _ _ t e.q _ (RV.In.nin (RV.In.mono (RT.out.dig H150.out.dig0) (by omega))) (RV.Is.nin (RBe.out.dig DD194.out) (Nat.le_trans BBe.out (by omega))) (by omega)) ?_
   rintro e w193 ⟨rfl, hx⟩
   have H195 := zH (H150.out.step hx)
   have D195 := zH (Dig.of_ext hx)
   clear hx
   refine ⟨.bool false, by rw [dec_f C152.out], ?_⟩
   try simp only [Act.put, zA, zB, zC]
   by_cases c197 : e.p < e.q
   ·have CL := zH c197
    clear c197
    go_upto_region 11 with fail
    refine wp_region_lit ?_
    refine zd X49 (0) (rc e.a) (H195.out.range (i := 5) (by rfl) 0 4) Tryz.underlying29 ?_
    refine zd Y50 (0) (rc e.b) (H195.out.range (i := 6) (by rfl) 0 4) Tryz.underlying29 ?_
    have DD199 := zH (((((((D37.out.trans D39.out).trans D52.out).trans D58.out).trans D62.out).trans D150.out).trans D195.out))
    refine zc (less_any 60000 _ _ e.p e.q _ (RV.Is.nin (RAe.out.dig DD199.out) (Nat.le_trans BAe.out (by omega))) (RV.Is.nin (RBe.out.dig DD199.out) (Nat.le_trans BBe.out (by omega))) (by omega)) ?_
    rintro e w198 ⟨rfl, hx⟩
    have H200 := zH (H195.out.step hx)
    have D200 := zH (Dig.of_ext hx)
    clear hx
    refine ⟨.bool true, by rw [dec_t CL.out], ?_⟩
    try simp only [Act.put, zA, zB, zC]
    go_upto_region 12 with fail
    refine wp_region_held_drew (S := fun x => Fr (fun kz => kz = X20) w198 x) (by kernel_rfl) (Fr.of_ext zb) (fun _ => ?_)
    have H202 := zH (H200.out.step (Ext.refl w198).drew)
    have D202 := zH (Dig.of_ext (w := w198) zb)
    refine mR 1 (bs 6 2) Y50 (0) [.bool e.b.n, .slice e.b.p e.b.l e.b.c, .bool e.b.m, .slice e.b.p2 e.b.l2 e.b.c2] (fun x hx => Fr.range hx (show World.rangeAt w198 Y50 (0) [.bool e.b.n, .slice e.b.p e.b.l e.b.c, .bool e.b.m, .slice e.b.p2 e.b.l2 e.b.c2] from (H200.out.range (i := 6) (by rfl) 0 4)) (H200.out.offBlk (i := 6) (j := 3) (by rfl) (by rfl) (by decide) (by rfl))) Tryz.underlying29 (Fr.of_ext zb) ?_
    refine zr 2 (bs 6 6) X49 (0) [.bool e.a.n, .slice e.a.p e.a.l e.a.c, .bool e.a.m, .slice e.a.p2 e.a.l2 e.a.c2] (fun x hx => Fr.range hx (show World.rangeAt w198 X49 (0) [.bool e.a.n, .slice e.a.p e.a.l e.a.c, .bool e.a.m, .slice e.a.p2 e.a.l2 e.a.c2] from (H200.out.range (i := 5) (by rfl) 0 4)) (H200.out.offBlk (i := 5) (j := 3) (by rfl) (by rfl) (by decide) (by rfl))) Tryz.underlying29 (Fr.of_ext zb) ?_
    refine Fd.go (j := 0) (dj := some 42) (u := .agg #[.bool rs.n, .slice rs.p rs.l rs.c, .bool rs.m, .slice rs.p2 rs.l2 rs.c2]) ?_
    have DD206 := zH (((((((((D37.out.trans D39.out).trans D52.out).trans D58.out).trans D62.out).trans D150.out).trans D195.out).trans D200.out).trans D202.out))
    refine fd_call (b := w198) (i := 3) (lj := (bs 6 7)) (li := (bs 6 14)) (by rfl) (by rfl) (by kernel_rfl) (by kernel_rfl) (by kernel_rfl) (by kernel_rfl) (by kernel_rfl) (by decide) (by kernel_rfl) (by rfl) (by rfl) (fun x_ h_ => Fr.of_ext h_) (Ext.refl w198).drew (fun x_ h_ => ev_ld _ _ (by rfl) X20 (0) [.bool rs.n, .slice rs.p rs.l rs.c, .bool rs.m, .slice rs.p2 rs.l2 rs.c2] (by rfl) (range_ext (show World.rangeAt w198 X20 (0) [.bool rs.n, .slice rs.p rs.l rs.c, .bool rs.m, .slice rs.p2 rs.l2 rs.c2] from H200.out.range (i := 3) (by rfl) 0 4) h_) Tryz.underlying29 (by rfl) (by kernel_rfl)) (by rfl) (by go_simp) (by kernel_rfl) (q03Sub (L := 60000) (RV.Is.nin (RBe.out.dig DD206.out) (Nat.le_trans BBe.out (by omega))) (RV.Is.nin (RAe.out.dig DD206.out) (Nat.le_trans BAe.out (by omega))) (by omega)) ?_
    rintro e w204 ⟨c_, rfl, hc_, hx⟩
    have H207 := zH (H202.out.step hx)
    have D207 := zH (show Dig w198.drew w204 from Dig.of_ext hx)
    have X209 := zH (show Ext w198 w204 from (Ext.refl w198).drew.trans hx)
    have S210 := zH (show Fr (fun kz => kz = X20) w198 w204 from (Fr.of_ext zb).trans (Fr.of_ext hx))
    obtain ⟨r205, rfl, hr_⟩ := hc_
    have R205 := zH hr_
    clear hr_
    have B205 := zH (show Nm.rl (e.q - e.p) ≤ L + L + 1 from by have h1 := BBe.out; have h2 := BAe.out; have h3 := Nm.rl_sub e.q e.p; omega)
    have hx_ := hx
    clear hx
    refine ⟨_, rfl, hx_, ?_⟩
    try simp only [Act.put, zA, zB, zC]
    clear hx_
    refine fd_end (by rfl) (by kernel_rfl) (by rfl) (by rfl) S210.out (ev_ld _ _ (by rfl) X20 (0) [.bool rs.n, .slice rs.p rs.l rs.c, .bool rs.m, .slice rs.p2 rs.l2 rs.c2] (by rfl) (range_ext (show World.rangeAt w198 X20 (0) [.bool rs.n, .slice rs.p rs.l rs.c, .bool rs.m, .slice rs.p2 rs.l2 rs.c2] from H200.out.range (i := 3) (by rfl) 0 4) X209.out) Tryz.underlying29 (by rfl) (by kernel_rfl)) (show _ = (bs 6 15) by kernel_rfl) ?_
    try simp only [Act.put, zA, zB, zC]
    have DD213 := zH (((((((((D39.out.trans D52.out).trans D58.out).trans D62.out).trans D150.out).trans D195.out).trans D200.out).trans D202.out).trans D207.out))
    refine mC 4 (bs 6 31) (q03Add (L := 60000) (RV.Is.nin (RS.out.dig DD213.out) (Nat.le_trans BS.out (by omega))) (RV.Is.nin R205.out (Nat.le_trans B205.out (by omega))) (by omega)) ?_
    rintro e w211 ⟨c_, rfl, hc_, hx⟩
    have H214 := zH (H207.out.step hx)
    have D214 := zH (Dig.of_ext hx)
    have S217 := zH (show Fr (fun kz => kz = X20) w198 w211 from S210.out.trans (Fr.of_ext hx))
    obtain ⟨r212, rfl, hr_⟩ := hc_
    have R212 := zH hr_
    clear hr_
    have B212 := zH (show Nm.rl ((lenV f t ((es.map SpE.vl).take k)) + (e.q - e.p)) ≤ (2 + KP) + (L + L + 1) + 1 from by have h1 := BS.out; have h2 := B205.out; have h3 := Nm.rl_add (lenV f t ((es.map SpE.vl).take k)) (e.q - e.p); omega)
    clear hx
    refine zm S217.out ?_
    refine md_st (i := 5) (listed' := (bs 6 63)) (by rfl) (by kernel_rfl) (by rfl) (by kernel_rfl) _ _ _ (by rfl) H214.out (ix := 3) (by rfl) 0 [.bool r212.n, .slice r212.p r212.l r212.c, .bool r212.m, .slice r212.p2 r212.l2 r212.c2] (by rfl) (by rfl) (by simp) (by kernel_rfl) (by simp [Value.oneCell']) (by simp [NoUL]) ?_
    intro w218 hh hd ho
    have H219 := zH (show Hp w w218 [.blk X1 29 (rc rf), .blk X6 29 (rc rt), .blk X11 29 rz, .blk X20 29 (rc r212), ro 31 8 (some ⟨gm, 0, none⟩) es.length cm SpE.cells es, .blk X49 29 (rc e.a), .blk Y50 29 (rc e.b)] from hh)
    have D219 := zH (hd)
    have S221 := zH (show Fr (fun kz => kz = X20) w198 w218 from Fr.trans_new S217.out ho (fun j hj => .inl (by simpa using hj.symm)))
    clear hh hd ho
    refine ⟨S221.out, ?_⟩
    (try simp only [Act.put])
    refine wpAnyH_done (by kernel_rfl) ?_ _
    have HL1 := zH ((len1_case (p := e.p) (q := e.q) (a := e.p) (b := e.q) (by first | exact (if_pos C65.out).symm | exact (if_neg C65.out).symm) (by first | exact (if_pos C152.out).symm | exact (if_neg C152.out).symm)).trans (if_pos CL.out))
    have DD222 := zH ((((((((((((D37.out.trans D39.out).trans D52.out).trans D58.out).trans D62.out).trans D150.out).trans D195.out).trans D200.out).trans D202.out).trans D207.out).trans D214.out).trans D219.out))
    go_wp2_with fail
    go_roundg (es.length - (k + 1))
    case measure => exact (by have ob0 := HLT.out; omega)
    case rel => exact ⟨k + 1, r212, rfl, (by go_num), HLT.out, (by rw [HTK.out, HL1.out]; exact (R212.out.dig D219.out)), (by rw [HTK.out, HL1.out, HKQ.out]; exact Nat.le_trans B212.out (by omega)), H219.out.take 5, DD222.out⟩
   have CL := zH c197
   clear c197
   go_upto_region 11 with fail
   refine wp_region_lit ?_
   refine zd X49 (0) (rc e.a) (H195.out.range (i := 5) (by rfl) 0 4) Tryz.underlying29 ?_
   refine zd Y50 (0) (rc e.b) (H195.out.range (i := 6) (by rfl) 0 4) Tryz.underlying29 ?_
   have DD224 := zH (((((((D37.out.trans D39.out).trans D52.out).trans D58.out).trans D62.out).trans D150.out).trans D195.out))
   refine zc (less_any 60000 _ _ e.p e.q _ (RV.Is.nin (RAe.out.dig DD224.out) (Nat.le_trans BAe.out (by omega))) (RV.Is.nin (RBe.out.dig DD224.out) (Nat.le_trans BBe.out (by omega))) (by omega)) ?_
   rintro e w223 ⟨rfl, hx⟩
   have H225 := zH (H195.out.step hx)
   have D225 := zH (Dig.of_ext hx)
   clear hx
   refine ⟨.bool false, by rw [dec_f CL.out], ?_⟩
   try simp only [Act.put, zA, zB, zC]
   have HL1 := zH ((len1_case (p := e.p) (q := e.q) (a := e.p) (b := e.q) (by first | exact (if_pos C65.out).symm | exact (if_neg C65.out).symm) (by first | exact (if_pos C152.out).symm | exact (if_neg C152.out).symm)).trans (if_neg CL.out))
   have DD227 := zH (((((((D39.out.trans D52.out).trans D58.out).trans D62.out).trans D150.out).trans D195.out).trans D225.out))
   have DD228 := zH ((((((((D37.out.trans D39.out).trans D52.out).trans D58.out).trans D62.out).trans D150.out).trans D195.out).trans D225.out))
   go_wp2_with fail
   go_roundg (es.length - (k + 1))
   case measure => exact (by have ob0 := HLT.out; omega)
   case rel => exact ⟨k + 1, rs, rfl, (by go_num), HLT.out, (by rw [HTK.out, HL1.out, Rat.add_zero]; exact (RS.out.dig DD227.out)), (by rw [HTK.out, HL1.out, HKQ.out, Rat.add_zero]; exact Nat.le_trans BS.out (by have := HKP.out; omega)), H225.out.take 5, DD228.out⟩
  have HLT := zH c38
  clear c38
  obtain rfl : k = es.length := by have := HK.out; have := HLT.out; omega
  have hge : ¬ (es.length : Int) < (es.length : Int) := by omega
  have HR := zH (show lenV f t ((es.map SpE.vl).take es.length) = lenV f t (mergeV ps) by rw [List.take_of_length_le (by simp), HVAL.out])
  go_upto_region 13 with fail
  refine wp_region_lit ?_
  refine zd X20 (0) (rc rs) (H37.out.range (i := 3) (by rfl) 0 4) Tryz.underlying29 ?_
  refine mv_st (by rfl) _ _ _ (by rfl) H37.out (ix := 2) (by rfl) 0 [.bool rs.n, .slice rs.p rs.l rs.c, .bool rs.m, .slice rs.p2 rs.l2 rs.c2] (by rfl) (by rfl) (by simp) (by kernel_rfl) (by simp [Value.oneCell']) (by simp [NoUL]) ?_
  intro w229 hh hd ho
  have H230 := zH (show Hp w w229 [.blk X1 29 (rc rf), .blk X6 29 (rc rt), .blk X11 29 (rc rs), .blk X20 29 (rc rs), ro 31 8 Am es.length cm SpE.cells es] from hh)
  have D230 := zH (hd)
  clear hh hd ho
  (try simp only [Act.put])
  go_wp2_with fail
  refine bodyPost_ret (v := .agg #[.bool rs.n, .slice rs.p rs.l rs.c, .bool rs.m, .slice rs.p2 rs.l2 rs.c2]) ?_ rfl ⟨rs, rfl, by rw [← HR.out]; exact (RS.out.dig D230.out), by rw [← HR.out]; exact Nat.le_trans BS.out (by have := Nat.mul_le_mul (show es.length ≤ 60 by omega) (show 2 * L + 2 ≤ 802 by omega); omega), H230.out.ext⟩
  exact results_cell1 rfl rfl ((H230.out.blk (i := 2) (by rfl)).loadVar rfl rfl (by rfl))

set_option maxRecDepth 20000 in
set_option maxHeartbeats 4000000 in
theorem lengthB_any (L : Nat) (u : Value) (ps : List QQ) (rf rt : RV) (f t : Rat) (w : World) (hu : SpansV L w u ps) (hf : rf.In L w f) (ht : rt.In L w t) (h1L : 1 ≤ L) (hL : L ≤ 20) (hn : ps.length ≤ 1200) :
  Calls Tryz.prog 13 #[u, .agg #[.bool rf.n, .slice rf.p rf.l rf.c, .bool rf.m, .slice rf.p2 rf.l2 rf.c2], .agg #[.bool rt.n, .slice rt.p rt.l rt.c, .bool rt.m, .slice rt.p2 rt.l2 rt.c2]] w fun e w' => ∃ r : RV, e = .returned (.agg #[.bool r.n, .slice r.p r.l r.c, .bool r.m, .slice r.p2 r.l2 r.c2]) ∧ r.Is w' (lenV f t (mergeV ps)) ∧ Nm.rl (lenV f t (mergeV ps)) ≤ 60000 ∧ Ext w w' := by
 have HU := zH hu
 have RF := zH hf
 have RT := zH ht
 clear hu hf ht
 go_enter Tryz.func13, Tryz.ntmps13
 have H0 := zH (Hp.start w)
 go_upto_region 0 with fail
 refine wp_region_lit ?_
 refine mv_alloc (T := 29) (zs := [.bool rf.n, .slice rf.p rf.l rf.c, .bool rf.m, .slice rf.p2 rf.l2 rf.c2]) (by rfl) (by go_simp) H0.out (by simp [NoUL]) ?_
 intro X232 w233 hh hx hge
 have H234 := zH (show Hp w w233 [.blk X232 29 (rc rf)] from hh)
 clear hh hx hge
 try simp only [Act.put, zA, zB, zC]
 refine mv_alloc (T := 29) (zs := [.bool rt.n, .slice rt.p rt.l rt.c, .bool rt.m, .slice rt.p2 rt.l2 rt.c2]) (by rfl) (by go_simp) H234.out (by simp [NoUL]) ?_
 intro X237 w238 hh hx hge
 have H239 := zH (show Hp w w238 [.blk X232 29 (rc rf), .blk X237 29 (rc rt)] from hh)
 clear hh hx hge
 try simp only [Act.put, zA, zB, zC]
 refine mv_alloc (T := 29) (zs := [.bool false, .slice none 0 0, .bool false, .slice none 0 0]) (by rfl) (by go_simp) H239.out (by simp [NoUL]) ?_
 intro X242 w243 hh hx hge
 have H244 := zH (show Hp w w243 [.blk X232 29 (rc rf), .blk X237 29 (rc rt), .blk X242 29 rz] from hh)
 clear hh hx hge
 try simp only [Act.put, zA, zB, zC]
 go_upto_region 1 with fail
 refine wp_region_lit ?_
 refine zc (pFrom 0 _ (by omega) (by omega)) ?_
 rintro e w247 ⟨c_, rfl, hc_, hx⟩
 have H249 := zH (H244.out.step hx)
 obtain ⟨r248, rfl, hr_⟩ := hc_
 have R248 := zH hr_
 have B248 := zH (rl_i64 0 (by omega) (by omega))
 clear hr_
 clear hx
 refine zn ?_
 refine mv_alloc (T := 29) (zs := [.bool false, .slice none 0 0, .bool false, .slice none 0 0]) (by rfl) (by go_simp) H249.out (by simp [NoUL]) ?_
 intro X251 w252 hh hx hge
 have H253 := zH (show Hp w w252 [.blk X232 29 (rc rf), .blk X237 29 (rc rt), .blk X242 29 rz, .blk X251 29 rz] from hh)
 have D253 := zH (Dig.of_ext hx)
 clear hh hx hge
 try simp only [Act.put, zA, zB, zC]
 refine mv_st (by rfl) _ _ _ (by rfl) H253.out (ix := 3) (by rfl) 0 [.bool r248.n, .slice r248.p r248.l r248.c, .bool r248.m, .slice r248.p2 r248.l2 r248.c2] (by rfl) (by rfl) (by simp) (by kernel_rfl) (by simp [Value.oneCell']) (by simp [NoUL]) ?_
 intro w256 hh hd ho
 have H257 := zH (show Hp w w256 [.blk X232 29 (rc rf), .blk X237 29 (rc rt), .blk X242 29 rz, .blk X251 29 (rc r248)] from hh)
 have D257 := zH (hd)
 clear hh hd ho
 (try simp only [Act.put])
 go_upto_region 2 with fail
 refine wp_region_lit ?_
 refine zq (.func (.func 34) #[] #[]) ?_
 go_upto_region 3 with fail
 refine wp_region_lit ?_
 refine qV (u) ?_
 refine zc (merge_any L u ps _ (HU.out.ext H257.out.ext) h1L (by omega) (by omega)) ?_
 rintro e w261 ⟨v_, es, rfl, hes_, hval_, hel_, hx⟩
 have HVAL := zH hval_
 have HEL := zH hel_
 have HOK := zH hes_.2
 obtain ⟨Am, cm, rfl, hA_⟩ := RowN.form hes_.1
 have HA := zH hA_
 clear hval_ hel_ hA_
 have H262 := zH (show Hp w w261 [.blk X232 29 (rc rf), .blk X237 29 (rc rt), .blk X242 29 rz, .blk X251 29 (rc r248), ro 31 8 Am es.length cm SpE.cells es] from H257.out.addRow hx hes_.1)
 have D262 := zH (Dig.of_ext hx)
 clear hes_
 clear hx
 refine zn ?_
 refine qV (.int .i64 ((es.length : Nat) : Int)) ?_
 refine zq (.int .i64 0) ?_
 have hel3 : es.length ≤ 1200 := by have := HEL.out; omega
 have DD266 := zH (((D253.out.trans D257.out).trans D262.out))
 go_wp2_with fail
 go_loopg [17] (es.length) (fun cq v267 wr => ∃ (k : Nat) (rs : RV), cq = es.length - k ∧ v267 = .int .i64 (k : Int) ∧ (k ≤ es.length) ∧ (rs.Is wr (lenV f t ((es.map SpE.vl).take k))) ∧ (Nm.rl (lenV f t ((es.map SpE.vl).take k)) ≤ 2 + k * (2 * L + 2)) ∧ Hp w wr [.blk X232 29 [.bool rf.n, .slice rf.p rf.l rf.c, .bool rf.m, .slice rf.p2 rf.l2 rf.c2], .blk X237 29 [.bool rt.n, .slice rt.p rt.l rt.c, .bool rt.m, .slice rt.p2 rt.l2 rt.c2], .blk X242 29 [.bool false, .slice none 0 0, .bool false, .slice none 0 0], .blk X251 29 [.bool rs.n, .slice rs.p rs.l rs.c, .bool rs.m, .slice rs.p2 rs.l2 rs.c2], .row 31 8 (.slice Am es.length cm) (es.length) (List.flatMap SpE.cells es)] ∧ Dig w261 wr)
 case atStart => exact ⟨0, r248, rfl, rfl, Nat.zero_le _, (by have h := (R248.out.dig DD266.out); simpa [lenV] using h), (by have h := B248.out; simpa [lenV] using h), H262.out, Dig.refl _⟩
 case round =>
  obtain ⟨k, rs, rfl, rfl, q_HK, q_RS, q_BS, hh_, hd_⟩ := hrel
  generalize wr = w268 at *
  have HK := zH q_HK
  clear q_HK
  have RS := zH q_RS
  clear q_RS
  have BS := zH q_BS
  clear q_BS
  have H270 := zH hh_
  have D270 := zH hd_
  clear hh_ hd_ H262
  by_cases c271 : k < es.length
  ·have HLT := zH c271
   clear c271
   have hlt := HLT.out
   have hlt2 : (k : Int) < (es.length : Int) := by omega
   obtain ⟨gm, rfl⟩ := HA.out (by omega)
   have hbk : k * (2 * L + 2) ≤ 1200 * 42 := Nat.mul_le_mul (by omega) (by omega)
   have hbk2 : (k + 1) * (2 * L + 2) = k * (2 * L + 2) + (2 * L + 2) := by rw [Nat.add_mul, Nat.one_mul]
   generalize hkq : (k + 1) * (2 * L + 2) = KQ at *
   generalize hkq2 : k * (2 * L + 2) = KP at *
   obtain ⟨e, he_⟩ : ∃ e, es[k]? = some e := ⟨_, List.getElem?_eq_getElem hlt⟩
   have HEe := zH he_
   have HOe := zH (HOK.out e (List.mem_of_getElem? he_))
   have RAe := zH HOe.out.1
   have RBe := zH HOe.out.2.1
   have BAe := zH HOe.out.2.2.1
   have BBe := zH HOe.out.2.2.2
   clear he_
   have HTK := zH (lenV_take (f := f) (t := t) HEe.out)
   have HKQ := zH hkq
   have HKP := zH hkq2
   clear hkq hkq2 hlt
   go_upto_region 5 with fail
   refine wp_region_lit ?_
   refine zp (w' := w268) (.pointer (some ⟨gm, k * 8, none⟩)) (by exact ezi (k := k) Tryz.underlying22 (l := HLT.out) (f := (Nat.zero_add _).symm)) ?_
   refine zd gm (k * 8) [.bool e.a.n, .slice e.a.p e.a.l e.a.c, .bool e.a.m, .slice e.a.p2 e.a.l2 e.a.c2, .bool e.b.n, .slice e.b.p e.b.l e.b.c, .bool e.b.m, .slice e.b.p2 e.b.l2 e.b.c2] (H270.out.elem (f := SpE.cells) (i := 4) (by rfl) SpE.len HEe.out) Tryz.underlying31 ?_
   refine mv_alloc (T := 31) (zs := [.bool false, .slice none 0 0, .bool false, .slice none 0 0, .bool false, .slice none 0 0, .bool false, .slice none 0 0]) (by rfl) (by go_simp) H270.out (by simp [NoUL]) ?_
   intro X273 w274 hh hx hge
   have H275 := zH (show Hp w w274 [.blk X232 29 (rc rf), .blk X237 29 (rc rt), .blk X242 29 rz, .blk X251 29 (rc rs), ro 31 8 (some ⟨gm, 0, none⟩) es.length cm SpE.cells es, .blk X273 31 [.bool false, .slice none 0 0, .bool false, .slice none 0 0, .bool false, .slice none 0 0, .bool false, .slice none 0 0]] from hh)
   have D275 := zH (Dig.of_ext hx)
   clear hh hx hge
   try simp only [Act.put, zA, zB, zC]
   refine mv_st (by rfl) _ _ _ (by rfl) H275.out (ix := 5) (by rfl) 0 [.bool e.a.n, .slice e.a.p e.a.l e.a.c, .bool e.a.m, .slice e.a.p2 e.a.l2 e.a.c2, .bool e.b.n, .slice e.b.p e.b.l e.b.c, .bool e.b.m, .slice e.b.p2 e.b.l2 e.b.c2] (by rfl) (by rfl) (by simp) (by kernel_rfl) (by simp [Value.oneCell']) (by simp [NoUL]) ?_
   intro w278 hh hd ho
   have H279 := zH (show Hp w w278 [.blk X232 29 (rc rf), .blk X237 29 (rc rt), .blk X242 29 rz, .blk X251 29 (rc rs), ro 31 8 (some ⟨gm, 0, none⟩) es.length cm SpE.cells es, .blk X273 31 [.bool e.a.n, .slice e.a.p e.a.l e.a.c, .bool e.a.m, .slice e.a.p2 e.a.l2 e.a.c2, .bool e.b.n, .slice e.b.p e.b.l e.b.c, .bool e.b.m, .slice e.b.p2 e.b.l2 e.b.c2]] from hh)
   have D279 := zH (hd)
   clear hh hd ho
   (try simp only [Act.put])
   go_upto_region 6 with fail
   refine zy ?_
   have H281 := zH (H279.out.step (Ext.refl w278).drew)
   have D281 := zH (Dig.of_ext (w := w278) zb)
   refine zx 0 (bs 14 1) (.func (.func 34) #[] #[]) zb ?_
   refine mX 1 (bs 14 3) (.pointer (some ⟨X273, 0, none⟩)) zb ?_
   refine mR 2 (bs 14 7) X273 (0) [.bool e.a.n, .slice e.a.p e.a.l e.a.c, .bool e.a.m, .slice e.a.p2 e.a.l2 e.a.c2] (fun x hx => range_ext (show World.rangeAt w278 X273 (0) [.bool e.a.n, .slice e.a.p e.a.l e.a.c, .bool e.a.m, .slice e.a.p2 e.a.l2 e.a.c2] from (H279.out.range (i := 5) (by rfl) 0 4)) hx) Tryz.underlying29 zb ?_
   refine zg 3 (bs 14 15) X232 (0) (rc rf) (H279.out.range (i := 0) (by rfl) 0 4) Tryz.underlying29 zb ?_
   refine zx 5 (bs 14 47) (.func (.func 34) #[] #[]) zb ?_
   refine mX 6 (bs 14 111) (.pointer (some ⟨X273, 4, none⟩)) zb ?_
   refine mR 7 (bs 14 239) X273 (4) [.bool e.b.n, .slice e.b.p e.b.l e.b.c, .bool e.b.m, .slice e.b.p2 e.b.l2 e.b.c2] (fun x hx => range_ext (show World.rangeAt w278 X273 (4) [.bool e.b.n, .slice e.b.p e.b.l e.b.c, .bool e.b.m, .slice e.b.p2 e.b.l2 e.b.c2] from (H279.out.range (i := 5) (by rfl) 4 4)) hx) Tryz.underlying29 zb ?_
   refine zg 8 (bs 14 495) X237 (0) (rc rt) (H279.out.range (i := 1) (by rfl) 0 4) Tryz.underlying29 zb ?_
   have DD289 := zH ((((D270.out.trans D275.out).trans D279.out).trans D281.out))
   refine tuple2 (f := 2) 4 9 10 11 25 30 11 12 29 z4 (fun v w => ∃ c, v = .agg c ∧ NIn 60000 w c (if e.p < f then f else e.p)) (fun v w => ∃ c, v = .agg c ∧ NIn 60000 w c (if t < e.q then t else e.q)) rfl rfl rfl rfl (by decide) (by decide) (by kernel_rfl) (fun _ hx => zb.trans hx) (fun _ _ _ h e => by obtain ⟨c, h1, h2⟩ := h; exact ⟨c, h1, h2.ext e⟩) (fun _ _ _ h e => by obtain ⟨c, h1, h2⟩ := h; exact ⟨c, h1, h2.ext e⟩) ?ht287c1 ?ht287c2 ?ht287c3 ?ht287c4 ?ht287e _ _ _ _ (by kernel_rfl) rfl
   case ht287c1 =>
    intro v1 v2 v3 v4 w1 K hxq hSw hK
    try simp only [Act.put, zA, zB, zC]
    rw [if_pos (by rfl)]
    refine wp_call_op (by go_simp) (inner_low 60000 _ _ e.p f _ (RV.Is.nin (RAe.out.dig (DD289.out.trans (Dig.of_ext hxq))) (Nat.le_trans BAe.out (by omega))) (RV.In.nin (RV.In.mono (RF.out.dig (H281.out.dig0.trans (Dig.of_ext hxq))) (by omega))) (by omega)) ?_
    rintro e w' ⟨c_, rfl, hc_, hx⟩
    refine ⟨_, rfl, ?_⟩
    have hk := hK.out _ _ ⟨c_, rfl, hc_⟩ hx
    try simp only [Act.put, zA, zB, zC]
    simp only [Act.put, zA, zB, zC] at hk
    exact hk
   case ht287c2 =>
    intro v1 v2 v3 v4 w1 K hxq hSw hK
    try simp only [Act.put, zA, zB, zC]
    rw [if_pos (by rfl)]
    refine wp_call_op (by go_simp) (inner_high 60000 _ _ e.q t _ (RV.Is.nin (RBe.out.dig (DD289.out.trans (Dig.of_ext hxq))) (Nat.le_trans BBe.out (by omega))) (RV.In.nin (RV.In.mono (RT.out.dig (H281.out.dig0.trans (Dig.of_ext hxq))) (by omega))) (by omega)) ?_
    rintro e w' ⟨c_, rfl, hc_, hx⟩
    refine ⟨_, rfl, ?_⟩
    have hk := hK.out _ _ ⟨c_, rfl, hc_⟩ hx
    try simp only [Act.put, zA, zB, zC]
    simp only [Act.put, zA, zB, zC] at hk
    exact hk
   case ht287c3 =>
    intro v1 v2 v3 v4 w1 K hxq hSw hK
    try simp only [Act.put, zA, zB, zC]
    go_simp
    have hk := hK.out
    simp only [Act.put, zA, zB, zC] at hk
    exact hk
   case ht287c4 =>
    intro v1 v2 v3 v4 w1 K hxq hSw hK
    try simp only [Act.put, zA, zB, zC]
    go_simp
    have hk := hK.out
    simp only [Act.put, zA, zB, zC] at hk
    exact hk
   case ht287e =>
   intro v1_ v2_ X291 Y292 w293 hx hSw xp1 xp2 xb1 xb2 xz1 xz2 n12
   have hh := H281.out.add2 hx xb1 xb2 xz1 xz2 n12 (by simp [NoUL]) (by simp [NoUL])
   have H294 := zH (show Hp w w293 [.blk X232 29 (rc rf), .blk X237 29 (rc rt), .blk X242 29 rz, .blk X251 29 (rc rs), ro 31 8 (some ⟨gm, 0, none⟩) es.length cm SpE.cells es, .blk X273 31 [.bool e.a.n, .slice e.a.p e.a.l e.a.c, .bool e.a.m, .slice e.a.p2 e.a.l2 e.a.c2, .bool e.b.n, .slice e.b.p e.b.l e.b.c, .bool e.b.m, .slice e.b.p2 e.b.l2 e.b.c2], .blk X291 29 rz, .blk Y292 29 rz] from hh)
   have D294 := zH (show Dig w278.drew w293 from Dig.of_ext hx)
   have S296 := zH (show Ext w278 w293 from zb.trans hx)
   have G297 := zH (show w278.heap.size ≤ X291 from Nat.le_trans zb.size xz1)
   have G298 := zH (show w278.heap.size ≤ Y292 from Nat.le_trans zb.size xz2)
   obtain ⟨c_, rfl, hc_⟩ := xp1
   obtain ⟨r288, rfl, hr_⟩ := hc_
   have R288 := zH hr_
   have B288 := zH (show Nm.rl (if e.p < f then f else e.p) ≤ L from by have h1 := BAe.out; have h2 := (show Nm.rl f ≤ L from by have h := (RF.out.dig H294.out.dig0).rl; omega); split <;> omega)
   clear hr_
   generalize hq_ : (if e.p < f then f else e.p) = q288 at R288 B288 ⊢
   have Q288 := zH hq_
   clear hq_
   obtain ⟨c_, rfl, hc_⟩ := xp2
   obtain ⟨r290, rfl, hr_⟩ := hc_
   have R290 := zH hr_
   have B290 := zH (show Nm.rl (if t < e.q then t else e.q) ≤ L from by have h1 := BBe.out; have h2 := (show Nm.rl t ≤ L from by have h := (RT.out.dig H294.out.dig0).rl; omega); split <;> omega)
   clear hr_
   generalize hq_ : (if t < e.q then t else e.q) = q290 at R290 B290 ⊢
   have Q290 := zH hq_
   clear hq_
   clear hh hx hSw xb1 xb2 xz1 xz2 n12
   try simp only [Act.put, zA, zB, zC]
   refine md_st (i := 12) (listed' := (bs 14 8191)) (by rfl) (by kernel_rfl) (by rfl) (by kernel_rfl) _ _ _ (by rfl) H294.out (ix := 6) (by rfl) 0 [.bool r288.n, .slice r288.p r288.l r288.c, .bool r288.m, .slice r288.p2 r288.l2 r288.c2] (by rfl) (by rfl) (by simp) (by kernel_rfl) (by simp [Value.oneCell']) (by simp [NoUL]) ?_
   intro w299 hh hd ho
   have H300 := zH (show Hp w w299 [.blk X232 29 (rc rf), .blk X237 29 (rc rt), .blk X242 29 rz, .blk X251 29 (rc rs), ro 31 8 (some ⟨gm, 0, none⟩) es.length cm SpE.cells es, .blk X273 31 [.bool e.a.n, .slice e.a.p e.a.l e.a.c, .bool e.a.m, .slice e.a.p2 e.a.l2 e.a.c2, .bool e.b.n, .slice e.b.p e.b.l e.b.c, .bool e.b.m, .slice e.b.p2 e.b.l2 e.b.c2], .blk X291 29 (rc r288), .blk Y292 29 rz] from hh)
   have D300 := zH (hd)
   have S302 := zH (show Ext w278 w299 from Own.ext ho S296.out G297.out)
   clear hh hd ho
   refine ⟨S302.out, ?_⟩
   (try simp only [Act.put])
   refine md_st (i := 13) (listed' := (bs 14 16383)) (by rfl) (by kernel_rfl) (by rfl) (by kernel_rfl) _ _ _ (by rfl) H300.out (ix := 7) (by rfl) 0 [.bool r290.n, .slice r290.p r290.l r290.c, .bool r290.m, .slice r290.p2 r290.l2 r290.c2] (by rfl) (by rfl) (by simp) (by kernel_rfl) (by simp [Value.oneCell']) (by simp [NoUL]) ?_
   intro w303 hh hd ho
   have H304 := zH (show Hp w w303 [.blk X232 29 (rc rf), .blk X237 29 (rc rt), .blk X242 29 rz, .blk X251 29 (rc rs), ro 31 8 (some ⟨gm, 0, none⟩) es.length cm SpE.cells es, .blk X273 31 [.bool e.a.n, .slice e.a.p e.a.l e.a.c, .bool e.a.m, .slice e.a.p2 e.a.l2 e.a.c2, .bool e.b.n, .slice e.b.p e.b.l e.b.c, .bool e.b.m, .slice e.b.p2 e.b.l2 e.b.c2], .blk X291 29 (rc r288), .blk Y292 29 (rc r290)] from hh)
   have D304 := zH (hd)
   have S306 := zH (show Ext w278 w303 from Own.ext ho S302.out G298.out)
   clear hh hd ho
   refine ⟨S306.out, ?_⟩
   (try simp only [Act.put])
   refine wpAnyH_done (by kernel_rfl) ?_ _
   by_cases c307 : q288 < q290
   ·have CL := zH c307
    clear c307
    go_upto_region 7 with fail
    refine wp_region_lit ?_
    refine zd X291 (0) (rc r288) (H304.out.range (i := 6) (by rfl) 0 4) Tryz.underlying29 ?_
    refine zd Y292 (0) (rc r290) (H304.out.range (i := 7) (by rfl) 0 4) Tryz.underlying29 ?_
    have DD309 := zH ((D300.out.trans D304.out))
    refine zc (pCmp (L := 60000) (RV.In.nin (RV.In.mono (R288.out.dig DD309.out) (by omega))) (RV.In.nin (RV.In.mono (R290.out.dig DD309.out) (by omega))) (by omega)) ?_
    rintro e w308 ⟨rfl, hx⟩
    have H310 := zH (H304.out.step hx)
    have D310 := zH (Dig.of_ext hx)
    clear hx
    refine zn ?_
    refine zp (w' := w308) (.bool true) (by exact ezl (e := (dec_t (rcmp_lt.2 CL.out)))) ?_
    go_upto_region 8 with fail
    refine wp_region_held_drew (S := fun x => Fr (fun kz => kz = X251) w308 x) (by kernel_rfl) (Fr.of_ext zb) (fun _ => ?_)
    have H313 := zH (H310.out.step (Ext.refl w308).drew)
    have D313 := zH (Dig.of_ext (w := w308) zb)
    refine mR 1 (bs 6 2) Y292 (0) [.bool r290.n, .slice r290.p r290.l r290.c, .bool r290.m, .slice r290.p2 r290.l2 r290.c2] (fun x hx => Fr.range hx (show World.rangeAt w308 Y292 (0) [.bool r290.n, .slice r290.p r290.l r290.c, .bool r290.m, .slice r290.p2 r290.l2 r290.c2] from (H310.out.range (i := 7) (by rfl) 0 4)) (H310.out.offBlk (i := 7) (j := 3) (by rfl) (by rfl) (by decide) (by rfl))) Tryz.underlying29 (Fr.of_ext zb) ?_
    refine zr 2 (bs 6 6) X291 (0) [.bool r288.n, .slice r288.p r288.l r288.c, .bool r288.m, .slice r288.p2 r288.l2 r288.c2] (fun x hx => Fr.range hx (show World.rangeAt w308 X291 (0) [.bool r288.n, .slice r288.p r288.l r288.c, .bool r288.m, .slice r288.p2 r288.l2 r288.c2] from (H310.out.range (i := 6) (by rfl) 0 4)) (H310.out.offBlk (i := 6) (j := 3) (by rfl) (by rfl) (by decide) (by rfl))) Tryz.underlying29 (Fr.of_ext zb) ?_
    refine Fd.go (j := 0) (dj := some 35) (u := .agg #[.bool rs.n, .slice rs.p rs.l rs.c, .bool rs.m, .slice rs.p2 rs.l2 rs.c2]) ?_
    have DD317 := zH ((((D300.out.trans D304.out).trans D310.out).trans D313.out))
    refine fd_call (b := w308) (i := 3) (lj := (bs 6 7)) (li := (bs 6 14)) (by rfl) (by rfl) (by kernel_rfl) (by kernel_rfl) (by kernel_rfl) (by kernel_rfl) (by kernel_rfl) (by decide) (by kernel_rfl) (by rfl) (by rfl) (fun x_ h_ => Fr.of_ext h_) (Ext.refl w308).drew (fun x_ h_ => ev_ld _ _ (by rfl) X251 (0) [.bool rs.n, .slice rs.p rs.l rs.c, .bool rs.m, .slice rs.p2 rs.l2 rs.c2] (by rfl) (range_ext (show World.rangeAt w308 X251 (0) [.bool rs.n, .slice rs.p rs.l rs.c, .bool rs.m, .slice rs.p2 rs.l2 rs.c2] from H310.out.range (i := 3) (by rfl) 0 4) h_) Tryz.underlying29 (by rfl) (by kernel_rfl)) (by rfl) (by go_simp) (by kernel_rfl) (pSub (L := 60000) (RV.In.nin (RV.In.mono (R290.out.dig DD317.out) (by omega))) (RV.In.nin (RV.In.mono (R288.out.dig DD317.out) (by omega))) (by omega)) ?_
    rintro e w315 ⟨c_, rfl, hc_, hx⟩
    have H318 := zH (H313.out.step hx)
    have D318 := zH (show Dig w308.drew w315 from Dig.of_ext hx)
    have X320 := zH (show Ext w308 w315 from (Ext.refl w308).drew.trans hx)
    have S321 := zH (show Fr (fun kz => kz = X251) w308 w315 from (Fr.of_ext zb).trans (Fr.of_ext hx))
    obtain ⟨r316, rfl, hr_⟩ := hc_
    have R316 := zH hr_
    clear hr_
    have B316 := zH (show Nm.rl (q290 - q288) ≤ L + L + 1 from by have h1 := B290.out; have h2 := B288.out; have h3 := Nm.rl_sub q290 q288; omega)
    have hx_ := hx
    clear hx
    refine ⟨_, rfl, hx_, ?_⟩
    try simp only [Act.put, zA, zB, zC]
    clear hx_
    refine fd_end (by rfl) (by kernel_rfl) (by rfl) (by rfl) S321.out (ev_ld _ _ (by rfl) X251 (0) [.bool rs.n, .slice rs.p rs.l rs.c, .bool rs.m, .slice rs.p2 rs.l2 rs.c2] (by rfl) (range_ext (show World.rangeAt w308 X251 (0) [.bool rs.n, .slice rs.p rs.l rs.c, .bool rs.m, .slice rs.p2 rs.l2 rs.c2] from H310.out.range (i := 3) (by rfl) 0 4) X320.out) Tryz.underlying29 (by rfl) (by kernel_rfl)) (show _ = (bs 6 15) by kernel_rfl) ?_
    try simp only [Act.put, zA, zB, zC]
    have DD324 := zH (((((((((D275.out.trans D279.out).trans D281.out).trans D294.out).trans D300.out).trans D304.out).trans D310.out).trans D313.out).trans D318.out))
    refine mC 4 (bs 6 31) (pAdd (L := 60000) (RV.Is.nin (RS.out.dig DD324.out) (Nat.le_trans BS.out (by omega))) (RV.Is.nin R316.out (Nat.le_trans B316.out (by omega))) (by omega)) ?_
    rintro e w322 ⟨c_, rfl, hc_, hx⟩
    have H325 := zH (H318.out.step hx)
    have D325 := zH (Dig.of_ext hx)
    have S328 := zH (show Fr (fun kz => kz = X251) w308 w322 from S321.out.trans (Fr.of_ext hx))
    obtain ⟨r323, rfl, hr_⟩ := hc_
    have R323 := zH hr_
    clear hr_
    have B323 := zH (show Nm.rl ((lenV f t ((es.map SpE.vl).take k)) + (q290 - q288)) ≤ (2 + KP) + (L + L + 1) + 1 from by have h1 := BS.out; have h2 := B316.out; have h3 := Nm.rl_add (lenV f t ((es.map SpE.vl).take k)) (q290 - q288); omega)
    clear hx
    refine zm S328.out ?_
    refine md_st (i := 5) (listed' := (bs 6 63)) (by rfl) (by kernel_rfl) (by rfl) (by kernel_rfl) _ _ _ (by rfl) H325.out (ix := 3) (by rfl) 0 [.bool r323.n, .slice r323.p r323.l r323.c, .bool r323.m, .slice r323.p2 r323.l2 r323.c2] (by rfl) (by rfl) (by simp) (by kernel_rfl) (by simp [Value.oneCell']) (by simp [NoUL]) ?_
    intro w329 hh hd ho
    have H330 := zH (show Hp w w329 [.blk X232 29 (rc rf), .blk X237 29 (rc rt), .blk X242 29 rz, .blk X251 29 (rc r323), ro 31 8 (some ⟨gm, 0, none⟩) es.length cm SpE.cells es, .blk X273 31 [.bool e.a.n, .slice e.a.p e.a.l e.a.c, .bool e.a.m, .slice e.a.p2 e.a.l2 e.a.c2, .bool e.b.n, .slice e.b.p e.b.l e.b.c, .bool e.b.m, .slice e.b.p2 e.b.l2 e.b.c2], .blk X291 29 (rc r288), .blk Y292 29 (rc r290)] from hh)
    have D330 := zH (hd)
    have S332 := zH (show Fr (fun kz => kz = X251) w308 w329 from Fr.trans_new S328.out ho (fun j hj => .inl (by simpa using hj.symm)))
    clear hh hd ho
    refine ⟨S332.out, ?_⟩
    (try simp only [Act.put])
    refine wpAnyH_done (by kernel_rfl) ?_ _
    have HL1 := zH ((len1_case (p := e.p) (q := e.q) (f := f) (t := t) Q288.out.symm Q290.out.symm).trans (if_pos CL.out))
    have DD333 := zH ((((((((((((D270.out.trans D275.out).trans D279.out).trans D281.out).trans D294.out).trans D300.out).trans D304.out).trans D310.out).trans D313.out).trans D318.out).trans D325.out).trans D330.out))
    go_wp2_with fail
    go_roundg (es.length - (k + 1))
    case measure => exact (by have ob0 := HLT.out; omega)
    case rel => exact ⟨k + 1, r323, rfl, (by go_num), HLT.out, (by rw [HTK.out, HL1.out]; exact (R323.out.dig D330.out)), (by rw [HTK.out, HL1.out, HKQ.out]; exact Nat.le_trans B323.out (by omega)), H330.out.take 5, DD333.out⟩
   have CL := zH c307
   clear c307
   go_upto_region 7 with fail
   refine wp_region_lit ?_
   refine zd X291 (0) (rc r288) (H304.out.range (i := 6) (by rfl) 0 4) Tryz.underlying29 ?_
   refine zd Y292 (0) (rc r290) (H304.out.range (i := 7) (by rfl) 0 4) Tryz.underlying29 ?_
   have DD335 := zH ((D300.out.trans D304.out))
   refine zc (pCmp (L := 60000) (RV.In.nin (RV.In.mono (R288.out.dig DD335.out) (by omega))) (RV.In.nin (RV.In.mono (R290.out.dig DD335.out) (by omega))) (by omega)) ?_
   rintro e w334 ⟨rfl, hx⟩
   have H336 := zH (H304.out.step hx)
   have D336 := zH (Dig.of_ext hx)
   clear hx
   refine zn ?_
   refine zp (w' := w334) (.bool false) (by exact ezl (e := (dec_f (fun hh => CL.out (rcmp_lt.1 hh))))) ?_
   have HL1 := zH ((len1_case (p := e.p) (q := e.q) (f := f) (t := t) Q288.out.symm Q290.out.symm).trans (if_neg CL.out))
   have DD339 := zH (((((((D275.out.trans D279.out).trans D281.out).trans D294.out).trans D300.out).trans D304.out).trans D336.out))
   have DD340 := zH ((((((((D270.out.trans D275.out).trans D279.out).trans D281.out).trans D294.out).trans D300.out).trans D304.out).trans D336.out))
   go_wp2_with fail
   go_roundg (es.length - (k + 1))
   case measure => exact (by have ob0 := HLT.out; omega)
   case rel => exact ⟨k + 1, rs, rfl, (by go_num), HLT.out, (by rw [HTK.out, HL1.out, Rat.add_zero]; exact (RS.out.dig DD339.out)), (by rw [HTK.out, HL1.out, HKQ.out, Rat.add_zero]; exact Nat.le_trans BS.out (by have := HKP.out; omega)), H336.out.take 5, DD340.out⟩
  have HLT := zH c271
  clear c271
  obtain rfl : k = es.length := by have := HK.out; have := HLT.out; omega
  have hge : ¬ (es.length : Int) < (es.length : Int) := by omega
  have HR := zH (show lenV f t ((es.map SpE.vl).take es.length) = lenV f t (mergeV ps) by rw [List.take_of_length_le (by simp), HVAL.out])
  go_upto_region 10 with fail
  refine wp_region_lit ?_
  refine zd X251 (0) (rc rs) (H270.out.range (i := 3) (by rfl) 0 4) Tryz.underlying29 ?_
  refine mv_st (by rfl) _ _ _ (by rfl) H270.out (ix := 2) (by rfl) 0 [.bool rs.n, .slice rs.p rs.l rs.c, .bool rs.m, .slice rs.p2 rs.l2 rs.c2] (by rfl) (by rfl) (by simp) (by kernel_rfl) (by simp [Value.oneCell']) (by simp [NoUL]) ?_
  intro w341 hh hd ho
  have H342 := zH (show Hp w w341 [.blk X232 29 (rc rf), .blk X237 29 (rc rt), .blk X242 29 (rc rs), .blk X251 29 (rc rs), ro 31 8 Am es.length cm SpE.cells es] from hh)
  have D342 := zH (hd)
  clear hh hd ho
  (try simp only [Act.put])
  go_wp2_with fail
  refine bodyPost_ret (v := .agg #[.bool rs.n, .slice rs.p rs.l rs.c, .bool rs.m, .slice rs.p2 rs.l2 rs.c2]) ?_ rfl ⟨rs, rfl, by rw [← HR.out]; exact (RS.out.dig D342.out), by rw [← HR.out]; exact Nat.le_trans BS.out (by have := Nat.mul_le_mul (show es.length ≤ 1200 by omega) (show 2 * L + 2 ≤ 42 by omega); omega), H342.out.ext⟩
  exact results_cell1 rfl rfl ((H342.out.blk (i := 2) (by rfl)).loadVar rfl rfl (by rfl))
theorem length_any (L : Nat) (u : Value) (ps : List QQ) (rf rt : RV) (f t : Rat) (w : World) (hu : SpansV L w u ps) (hf : rf.In L w f) (ht : rt.In L w t) (h1L : 1 ≤ L) (hL : L ≤ 20) (hn : ps.length ≤ 60) :
    Calls Tryz.prog 13 #[u, .agg #[.bool rf.n, .slice rf.p rf.l rf.c, .bool rf.m, .slice rf.p2 rf.l2 rf.c2], .agg #[.bool rt.n, .slice rt.p rt.l rt.c, .bool rt.m, .slice rt.p2 rt.l2 rt.c2]] w fun e w' => ∃ r : RV, e = .returned (.agg #[.bool r.n, .slice r.p r.l r.c, .bool r.m, .slice r.p2 r.l2 r.c2]) ∧ r.Is w' (lenV f t (mergeV ps)) ∧ Nm.rl (lenV f t (mergeV ps)) ≤ 60000 ∧ Ext w w' := lengthB_any L u ps rf rt f t w hu hf ht h1L hL (by omega)

def inL (l : List QQ) (q : Rat) : Bool := l.any fun p => decide (p.1 < q) && decide (q < p.2)
def inV (ps : List QQ) (q : Rat) : Bool := inL (mergeV ps) q
theorem any_stop {es : List SpE} {k : Nat} {e : SpE} {q : Rat} (h : es[k]? = some e) (h2 : (decide (e.p < q) && decide (q < e.q)) = true) : inL (es.map SpE.vl) q = true := by
  unfold inL
  rw [List.any_eq_true]
  exact ⟨e.vl, List.mem_map_of_mem (List.mem_of_getElem? h), h2⟩
theorem any_end {es : List SpE} {q : Rat} (h : ∀ i e, i < es.length → es[i]? = some e → (decide (e.p < q) && decide (q < e.q)) = false) : inL (es.map SpE.vl) q = false := by
  unfold inL
  rw [List.any_eq_false]
  intro x hx
  obtain ⟨e, he, rfl⟩ := List.mem_map.1 hx
  obtain ⟨i, hi⟩ := List.mem_iff_getElem?.1 he
  have h3 := h i e (List.getElem?_eq_some_iff.1 hi).1 hi
  show ¬ (decide (e.p < q) && decide (q < e.q)) = true
  rw [h3]
  simp
theorem range_new (w : World) (cs : List Value) (t : TypeId) : (w.alloc (.cells cs.toArray t)).rangeAt w.heap.size 0 cs := fun j v hv => by
  have h := (Blk.new w t cs.toArray).cell j
  rw [Nat.zero_add, h, List.getElem?_toArray]
  exact hv
set_option maxRecDepth 20000 in
set_option maxHeartbeats 4000000 in
theorem rcontains_any (L : Nat) (u : Value) (ps : List QQ) (cx : Array Value) (q : Rat) (w : World) (hu : SpansV L w u ps) (hc : NIn L w cx q) (h1L : 1 ≤ L) (hL : L ≤ 60000) (hn : ps.length ≤ 20000) :
  Calls Tryz.prog 20 #[u, .agg cx] w fun e w' => e = .returned (.bool (inV ps q)) ∧ Ext w w' := by
 obtain ⟨r, rfl, hr⟩ := hc
 have HC := zH (rmerge_any L u ps (w.alloc (.cells #[.bool r.n, .slice r.p r.l r.c, .bool r.m, .slice r.p2 r.l2 r.c2] 29)) (hu.ext ((Ext.refl w).alloc _)) h1L hL hn)
 have HQ := zH (show NIn L (w.alloc (.cells #[.bool r.n, .slice r.p r.l r.c, .bool r.m, .slice r.p2 r.l2 r.c2] 29)) #[.bool r.n, .slice r.p r.l r.c, .bool r.m, .slice r.p2 r.l2 r.c2] q from ⟨r, rfl, hr.ext ((Ext.refl w).alloc _)⟩)
 have HB := zH (show (w.alloc (.cells #[.bool r.n, .slice r.p r.l r.c, .bool r.m, .slice r.p2 r.l2 r.c2] 29)).rangeAt w.heap.size 0 ([.bool r.n, .slice r.p r.l r.c, .bool r.m, .slice r.p2 r.l2 r.c2] : List Value) from range_new w _ _)
 have HW := zH ((Ext.refl w).alloc (.cells #[.bool r.n, .slice r.p r.l r.c, .bool r.m, .slice r.p2 r.l2 r.c2] 29))
 clear hu hr
 go_enter Tryz.func20, Tryz.ntmps20
 go_upto_region 2 with (go_at_call 10; refine HC.out.mono ?_; rintro e ws ⟨vs, es, rfl, hes, hval, hel, hXs⟩)
 have HB2 := zH (range_ext HB.out hXs)
 have HQ2 := zH (HQ.out.ext hXs)
 have HW2 := zH (HW.out.trans hXs)
 have HES := zH hes
 have hen : es.length ≤ 20000 := by omega
 have HVAL := zH (show inV ps q = inL (es.map SpE.vl) q by rw [hval]; rfl)
 obtain ⟨As, cs, rfl⟩ := row_slice hes.1
 clear hes hXs hval hel HC HB HQ HW
 generalize w.heap.size = X at *
 go_wp2_with fail
 go_loopg [6] es.length (fun c i wr => ∃ k : Nat, k ≤ es.length ∧ c = es.length - k ∧ i = .int .i64 k ∧ (∀ i e, i < k → es[i]? = some e → (decide (e.p < q) && decide (q < e.q)) = false) ∧ Ext ws wr)
 case atStart => exact ⟨0, Nat.zero_le _, rfl, rfl, fun i x h => absurd h (Nat.not_lt_zero _), Ext.refl _⟩
 case round =>
  obtain ⟨k, hk, rfl, rfl, ho, hx⟩ := hrel
  have HO := zH ho
  have HX := zH hx
  clear ho hx
  by_cases hlt : k < es.length
  ·have hlt2 : (k : Int) < (es.length : Int) := by omega
   obtain ⟨e, hee⟩ : ∃ e, es[k]? = some e := ⟨_, List.getElem?_eq_getElem hlt⟩
   obtain ⟨gs, rfl⟩ : ∃ gs, As = some ⟨gs, 0, none⟩ := by
    rcases HES.out.form with ⟨_, hn⟩ | ⟨g, cap, rest, hv, _⟩
    ·rw [hn] at hlt; simp at hlt
    injection hv with e1 _ _; exact ⟨g, e1⟩
   have HOK := zH ((HES.out.2 e (List.mem_of_getElem? hee)).ext HX.out)
   have HRD := zH (range_ext (HES.out.read hee) HX.out)
   have HBX := zH (range_ext HB2.out HX.out)
   have HQX := zH (HQ2.out.ext HX.out)
   have HEE := zH hee
   have HLT := zH hlt
   clear hee hlt
   go_upto_region 5 with fail
   refine wp_region_held_drew (S := fun x => Ext wr x) (by kernel_rfl) (Ext.refl _).drew (fun _ => ?_)
   refine zv 0 (bs 16 1) (Ext.refl wr).drew ?_
   refine zv 1 (bs 16 3) (Ext.refl wr).drew ?_
   refine zv 2 (bs 16 7) (Ext.refl wr).drew ?_
   refine mV 3 (bs 16 15) (Ext.refl wr).drew ?_
   refine mR 4 (bs 16 31) gs (k * 8) [.bool e.a.n, .slice e.a.p e.a.l e.a.c, .bool e.a.m, .slice e.a.p2 e.a.l2 e.a.c2] (fun wX hwX => range_ext (range_left (a := [.bool e.a.n, .slice e.a.p e.a.l e.a.c, .bool e.a.m, .slice e.a.p2 e.a.l2 e.a.c2]) (b := [.bool e.b.n, .slice e.b.p e.b.l e.b.c, .bool e.b.m, .slice e.b.p2 e.b.l2 e.b.c2]) HRD.out) hwX) Tryz.underlying29 (Ext.refl wr).drew ?_
   refine zr 5 (bs 16 63) X (0) [.bool r.n, .slice r.p r.l r.c, .bool r.m, .slice r.p2 r.l2 r.c2] (fun wX hwX => range_ext HBX.out hwX) Tryz.underlying29 (Ext.refl wr).drew ?_
   refine mC 6 (bs 16 127) (less_any L _ _ e.p q _ (NIn.ofa2 (HOK.out.ext (Ext.refl _).drew)) (HQX.out.ext (Ext.refl _).drew) hL) ?_
   rintro e w5 ⟨rfl, hx⟩
   have HEw5 := zH (show Ext wr w5 from ((Ext.refl wr).drew).trans hx)
   clear hx
   refine ⟨_, rfl, HEw5.out, ?_⟩
   try simp only [Act.put, zA, zB, zC]
   by_cases c1 : e.p < q
   ·have hdd : decide (e.p < q) = true := by simpa using c1
    try rw [hdd]
    refine mV 7 (bs 16 255) HEw5.out ?_
    refine zr 8 (bs 16 511) X (0) [.bool r.n, .slice r.p r.l r.c, .bool r.m, .slice r.p2 r.l2 r.c2] (fun wX hwX => range_ext HBX.out hwX) Tryz.underlying29 HEw5.out ?_
    refine zv 9 (bs 16 1023) HEw5.out ?_
    refine zv 10 (bs 16 2047) HEw5.out ?_
    refine zv 11 (bs 16 4095) HEw5.out ?_
    refine mV 12 (bs 16 8191) HEw5.out ?_
    refine zr 13 (bs 16 16383) gs (k * 8 + 4) [.bool e.b.n, .slice e.b.p e.b.l e.b.c, .bool e.b.m, .slice e.b.p2 e.b.l2 e.b.c2] (fun wX hwX => range_ext (range_right (a := [.bool e.a.n, .slice e.a.p e.a.l e.a.c, .bool e.a.m, .slice e.a.p2 e.a.l2 e.a.c2]) (b := [.bool e.b.n, .slice e.b.p e.b.l e.b.c, .bool e.b.m, .slice e.b.p2 e.b.l2 e.b.c2]) (n := 4) HRD.out rfl) hwX) Tryz.underlying29 HEw5.out ?_
    refine mC 14 (bs 16 32767) (less_any L _ _ q e.q _ (HQX.out.ext HEw5.out) (NIn.ofb (HOK.out.ext HEw5.out)) hL) ?_
    rintro e w6 ⟨rfl, hx⟩
    have HEw6 := zH (show Ext wr w6 from (HEw5.out).trans hx)
    clear hx
    refine ⟨_, rfl, HEw6.out, ?_⟩
    try simp only [Act.put, zA, zB, zC]
    by_cases c2 : q < e.q
    ·have hd2 : decide (q < e.q) = true := by simpa using c2
     refine zv 15 (bs 16 65535) HEw6.out ?_
     refine wpAnyH_done (by kernel_rfl) ?_ _
     have HST := zH (HVAL.out.trans (any_stop HEE.out (by rw [hdd, hd2]; rfl)))
     clear hdd hd2 c1 c2
     go_wp2_with fail
     go_ret
     exact ⟨by rw [HST.out]; rfl, HW2.out.trans (HX.out.trans HEw6.out)⟩
    have hd2 : decide (q < e.q) = false := by simpa using c2
    refine zv 15 (bs 16 65535) HEw6.out ?_
    refine wpAnyH_done (by kernel_rfl) ?_ _
    have HF := zH (show (decide (e.p < q) && decide (q < e.q)) = false by rw [hdd, hd2]; rfl)
    clear hdd hd2 c1 c2
    go_wp2_with fail
    go_roundg (es.length - (k + 1))
    case measure => have := HLT.out; omega
    case rel => exact ⟨k + 1, HLT.out, rfl, by go_num, fun i x hi hx2 => by
     rcases Nat.lt_or_ge i k with h | h
     ·exact HO.out i x h hx2
     obtain rfl : i = k := by omega
     rw [HEE.out] at hx2
     injection hx2 with hx2
     rw [← hx2]; exact HF.out, HX.out.trans HEw6.out⟩
   have hdd : decide (e.p < q) = false := by simpa using c1
   try rw [hdd]
   refine zv 7 (bs 16 255) HEw5.out ?_
   refine zs 8 (bs 16 511) HEw5.out ?_
   refine zs 9 (bs 16 1023) HEw5.out ?_
   refine zs 10 (bs 16 2047) HEw5.out ?_
   refine zs 11 (bs 16 4095) HEw5.out ?_
   refine zs 12 (bs 16 8191) HEw5.out ?_
   refine zs 13 (bs 16 16383) HEw5.out ?_
   refine zs 14 (bs 16 32767) HEw5.out ?_
   refine zv 15 (bs 16 65535) HEw5.out ?_
   refine wpAnyH_done (by kernel_rfl) ?_ _
   have HF := zH (show (decide (e.p < q) && decide (q < e.q)) = false by rw [hdd]; rfl)
   clear hdd c1
   go_wp2_with fail
   go_roundg (es.length - (k + 1))
   case measure => have := HLT.out; omega
   case rel => exact ⟨k + 1, HLT.out, rfl, by go_num, fun i x hi hx2 => by
    rcases Nat.lt_or_ge i k with h | h
    ·exact HO.out i x h hx2
    obtain rfl : i = k := by omega
    rw [HEE.out] at hx2
    injection hx2 with hx2
    rw [← hx2]; exact HF.out, HX.out.trans HEw5.out⟩
  obtain rfl : k = es.length := by omega
  have hge : ¬ (es.length : Int) < (es.length : Int) := by omega
  have HE := zH (HVAL.out.trans (any_end HO.out))
  go_wp2_with fail
  go_ret
  exact ⟨by rw [HE.out]; rfl, HW2.out.trans HX.out⟩

set_option maxRecDepth 20000 in
set_option maxHeartbeats 4000000 in
theorem inside_any (L X : Nat) (e : SpE) (r : RV) (q : Rat) (w : World) (he : e.Ok L w) (hr : NIn L w #[.bool r.n, .slice r.p r.l r.c, .bool r.m, .slice r.p2 r.l2 r.c2] q) (hX : w.rangeAt X 0 ([.bool r.n, .slice r.p r.l r.c, .bool r.m, .slice r.p2 r.l2 r.c2] : List Value)) (hL : L ≤ 60000) :
  Calls Tryz.prog 43 #[.agg #[.bool e.a.n, .slice e.a.p e.a.l e.a.c, .bool e.a.m, .slice e.a.p2 e.a.l2 e.a.c2, .bool e.b.n, .slice e.b.p e.b.l e.b.c, .bool e.b.m, .slice e.b.p2 e.b.l2 e.b.c2], .pointer (some ⟨X, 0, none⟩)] w fun x w' => x = .returned (.bool (decide (e.p < q) && decide (q < e.q))) ∧ Ext w w' := by
 have HW := zH ((Ext.refl w).alloc (.cells #[.bool e.a.n, .slice e.a.p e.a.l e.a.c, .bool e.a.m, .slice e.a.p2 e.a.l2 e.a.c2, .bool e.b.n, .slice e.b.p e.b.l e.b.c, .bool e.b.m, .slice e.b.p2 e.b.l2 e.b.c2] 31))
 have HB := zH (show (w.alloc (.cells #[.bool e.a.n, .slice e.a.p e.a.l e.a.c, .bool e.a.m, .slice e.a.p2 e.a.l2 e.a.c2, .bool e.b.n, .slice e.b.p e.b.l e.b.c, .bool e.b.m, .slice e.b.p2 e.b.l2 e.b.c2] 31)).rangeAt w.heap.size 0 ([.bool e.a.n, .slice e.a.p e.a.l e.a.c, .bool e.a.m, .slice e.a.p2 e.a.l2 e.a.c2] ++ [.bool e.b.n, .slice e.b.p e.b.l e.b.c, .bool e.b.m, .slice e.b.p2 e.b.l2 e.b.c2]) from range_new w _ _)
 have HOK := zH (he.ext HW.out)
 have HQ := zH (hr.ext HW.out)
 have HX := zH (range_ext hX HW.out)
 clear he hr hX
 go_enter Tryz.func43, Tryz.ntmps43
 go_upto_region 1 with fail
 generalize w.alloc (.cells #[.bool e.a.n, .slice e.a.p e.a.l e.a.c, .bool e.a.m, .slice e.a.p2 e.a.l2 e.a.c2, .bool e.b.n, .slice e.b.p e.b.l e.b.c, .bool e.b.m, .slice e.b.p2 e.b.l2 e.b.c2] 31) = wr at *
 generalize hY : w.heap.size = Y at *
 clear hY
 refine wp_region_lit ?_
 refine zq (.pointer (some ⟨Y, 0, none⟩)) ?_
 refine wpList_if (by rfl) (wp_load_mid _ _ (by rfl) Y (0) (by rfl) [.bool e.a.n, .slice e.a.p e.a.l e.a.c, .bool e.a.m, .slice e.a.p2 e.a.l2 e.a.c2] _ (range_left (a := [.bool e.a.n, .slice e.a.p e.a.l e.a.c, .bool e.a.m, .slice e.a.p2 e.a.l2 e.a.c2]) (b := [.bool e.b.n, .slice e.b.p e.b.l e.b.c, .bool e.b.m, .slice e.b.p2 e.b.l2 e.b.c2]) HB.out) Tryz.underlying29 (by rfl) (by kernel_rfl) ?_)
 try simp only [Act.put, zA, zB, zC]
 refine wpList_if (by rfl) (wp_load_mid _ _ (by rfl) X (0) (by rfl) [.bool r.n, .slice r.p r.l r.c, .bool r.m, .slice r.p2 r.l2 r.c2] _ HX.out Tryz.underlying29 (by rfl) (by kernel_rfl) ?_)
 try simp only [Act.put, zA, zB, zC]
 refine mv_call (by rfl) (by go_simp) (pCmp (NIn.ofa2 (HOK.out.ext (Ext.refl _))) (HQ.out.ext (Ext.refl _)) (by omega)) ?_
 rintro e w5 ⟨rfl, hx⟩
 have HEw5 := zH (show Ext wr w5 from ((Ext.refl wr)).trans hx)
 clear hx
 refine ⟨_, rfl, ?_⟩
 try simp only [Act.put, zA, zB, zC]
 by_cases c1 : e.p < q
 ·have hdd : decide (e.p < q) = true := by simpa using c1
  have hz : rcmp e.p q < 0 := rcmp_lt.2 c1
  have HDD := zH hdd
  clear hdd c1
  refine qV (.bool true) ?_
  refine zq (.bool true) ?_
  refine wpList_if (by rfl) (wp_load_mid _ _ (by rfl) X (0) (by rfl) [.bool r.n, .slice r.p r.l r.c, .bool r.m, .slice r.p2 r.l2 r.c2] _ (range_ext HX.out HEw5.out) Tryz.underlying29 (by rfl) (by kernel_rfl) ?_)
  try simp only [Act.put, zA, zB, zC]
  refine zq (.pointer (some ⟨Y, 4, none⟩)) ?_
  refine wpList_if (by rfl) (wp_load_mid _ _ (by rfl) Y (4) (by rfl) [.bool e.b.n, .slice e.b.p e.b.l e.b.c, .bool e.b.m, .slice e.b.p2 e.b.l2 e.b.c2] _ (range_right (a := [.bool e.a.n, .slice e.a.p e.a.l e.a.c, .bool e.a.m, .slice e.a.p2 e.a.l2 e.a.c2]) (b := [.bool e.b.n, .slice e.b.p e.b.l e.b.c, .bool e.b.m, .slice e.b.p2 e.b.l2 e.b.c2]) (n := 4) (range_ext HB.out HEw5.out) rfl) Tryz.underlying29 (by rfl) (by kernel_rfl) ?_)
  try simp only [Act.put, zA, zB, zC]
  refine mv_call (by rfl) (by go_simp) (pCmp (HQ.out.ext HEw5.out) (NIn.ofb (HOK.out.ext HEw5.out)) (by omega)) ?_
  rintro e w6 ⟨rfl, hx⟩
  have HEw6 := zH (show Ext wr w6 from (HEw5.out).trans hx)
  clear hx
  refine ⟨_, rfl, ?_⟩
  try simp only [Act.put, zA, zB, zC]
  by_cases c2 : q < e.q
  ·have HD2 := zH (show decide (q < e.q) = true by simpa using c2)
   have hz2 : rcmp q e.q < 0 := rcmp_lt.2 c2
   clear c2
   refine qV (.bool true) ?_
   refine zq (.bool true) ?_
   refine zq (.bool true) ?_
   go_wp2_with fail
   go_ret
   exact ⟨by rw [HDD.out, HD2.out]; rfl, HW.out.trans HEw6.out⟩
  have HD2 := zH (show decide (q < e.q) = false by simpa using c2)
  have hz2 : ¬ rcmp q e.q < 0 := fun h => c2 (rcmp_lt.1 h)
  clear c2
  refine qV (.bool false) ?_
  refine zq (.bool false) ?_
  refine zq (.bool false) ?_
  go_wp2_with fail
  go_ret
  exact ⟨by rw [HDD.out, HD2.out]; rfl, HW.out.trans HEw6.out⟩
 have HDD := zH (show decide (e.p < q) = false by simpa using c1)
 have hz : ¬ rcmp e.p q < 0 := fun h => c1 (rcmp_lt.1 h)
 clear c1
 refine qV (.bool false) ?_
 refine zq (.bool false) ?_
 refine zk ?_
 refine zk ?_
 refine zk ?_
 refine zk ?_
 refine zk ?_
 refine qV (.bool false) ?_
 refine zq (.bool false) ?_
 go_wp2_with fail
 go_ret
 exact ⟨by rw [HDD.out]; rfl, HW.out.trans HEw5.out⟩
set_option maxRecDepth 20000 in
set_option maxHeartbeats 4000000 in
theorem insideIx_any (L X b : Nat) (v : Value) (es : List SpE) (r : RV) (q : Rat) (w : World) (hv : SpR L w b v es) (hr : NIn L w #[.bool r.n, .slice r.p r.l r.c, .bool r.m, .slice r.p2 r.l2 r.c2] q) (hX : w.rangeAt X 0 ([.bool r.n, .slice r.p r.l r.c, .bool r.m, .slice r.p2 r.l2 r.c2] : List Value)) (hL : L ≤ 60000) (hn : es.length ≤ 20000) :
  Calls Tryz.prog 63 #[v, .func (.func 43) #[] #[.pointer (some ⟨X, 0, none⟩)]] w fun x w' => ∃ z : Int, x = .returned (.int .i64 z) ∧ decide (0 ≤ z) = inL (es.map SpE.vl) q ∧ Ext w w' := by
 obtain ⟨As, cs, rfl⟩ := row_slice hv.1
 have HES := zH hv
 have HQ2 := zH hr
 have HB2 := zH hX
 clear hv hr hX
 go_enter Tryz.func63, Tryz.ntmps63
 go_wp2_with fail
 go_loopg [8] es.length (fun c i wr => ∃ k : Nat, k ≤ es.length ∧ c = es.length - k ∧ i = .int .i64 k ∧ (∀ i e, i < k → es[i]? = some e → (decide (e.p < q) && decide (q < e.q)) = false) ∧ Ext w wr)
 case atStart => exact ⟨0, Nat.zero_le _, rfl, rfl, fun i x h => absurd h (Nat.not_lt_zero _), Ext.refl _⟩
 case round =>
  obtain ⟨k, hk, rfl, rfl, ho, hx⟩ := hrel
  have HO := zH ho
  have HX := zH hx
  clear ho hx
  by_cases hlt : k < es.length
  ·have hlt2 : (k : Int) < (es.length : Int) := by omega
   obtain ⟨e, hee⟩ : ∃ e, es[k]? = some e := ⟨_, List.getElem?_eq_getElem hlt⟩
   obtain ⟨gs, rfl⟩ : ∃ gs, As = some ⟨gs, 0, none⟩ := by
    rcases HES.out.form with ⟨_, hn⟩ | ⟨g, cap, rest, hv, _⟩
    ·rw [hn] at hlt; simp at hlt
    injection hv with e1 _ _; exact ⟨g, e1⟩
   have HOK := zH ((HES.out.2 e (List.mem_of_getElem? hee)).ext HX.out)
   have HRD := zH (range_ext (HES.out.read hee) HX.out)
   have HBX := zH (range_ext HB2.out HX.out)
   have HQX := zH (HQ2.out.ext HX.out)
   have HEE := zH hee
   have HLT := zH hlt
   clear hee hlt
   go_upto_region 4 with fail
   refine wp_region_lit ?_
   refine qV (.func (.func 43) #[] #[.pointer (some ⟨X, 0, none⟩)]) ?_
   refine zq (.slice (some ⟨gs, 0, none⟩) es.length cs) ?_
   refine qV (.int .i64 k) ?_
   refine zq (.pointer (some ⟨gs, k * 8, none⟩)) ?_
   refine wpList_if (by rfl) (wp_load_mid _ _ (by rfl) gs (k * 8) (by rfl) [.bool e.a.n, .slice e.a.p e.a.l e.a.c, .bool e.a.m, .slice e.a.p2 e.a.l2 e.a.c2, .bool e.b.n, .slice e.b.p e.b.l e.b.c, .bool e.b.m, .slice e.b.p2 e.b.l2 e.b.c2] _ HRD.out Tryz.underlying31 (by rfl) (by kernel_rfl) ?_)
   try simp only [Act.put, zA, zB, zC]
   refine mv_call (by rfl) (by go_simp) (inside_any L X e r q _ (HOK.out.ext (Ext.refl _)) (HQX.out.ext (Ext.refl _)) (range_ext HBX.out (Ext.refl _)) hL) ?_
   rintro e w5 ⟨rfl, hx⟩
   have HEw5 := zH (show Ext wr w5 from ((Ext.refl wr)).trans hx)
   clear hx
   refine ⟨_, rfl, ?_⟩
   try simp only [Act.put, zA, zB, zC]
   by_cases hb : (decide (e.p < q) && decide (q < e.q)) = true
   ·have HST := zH (any_stop HEE.out hb)
    rw [hb]
    clear hb
    go_wp2_with fail
    go_ret
    exact ⟨_, rfl, by rw [HST.out]; simp, HX.out.trans HEw5.out⟩
   replace hb := eq_false_of_ne_true hb
   have HF := zH hb
   rw [hb]
   clear hb
   go_wp2_with fail
   go_roundg (es.length - (k + 1))
   case measure => have := HLT.out; omega
   case rel => exact ⟨k + 1, HLT.out, rfl, by go_num, fun i x hi hx2 => by
    rcases Nat.lt_or_ge i k with h | h
    ·exact HO.out i x h hx2
    obtain rfl : i = k := by omega
    rw [HEE.out] at hx2
    injection hx2 with hx2
    rw [← hx2]; exact HF.out, HX.out.trans HEw5.out⟩
  obtain rfl : k = es.length := by omega
  have hge : ¬ (es.length : Int) < (es.length : Int) := by omega
  have HE := zH (any_end HO.out)
  go_wp2_with fail
  go_ret
  exact ⟨_, rfl, by rw [HE.out]; simp, HX.out⟩
set_option maxRecDepth 20000 in
set_option maxHeartbeats 4000000 in
theorem insideC_any (L X b : Nat) (v : Value) (es : List SpE) (r : RV) (q : Rat) (w : World) (hv : SpR L w b v es) (hr : NIn L w #[.bool r.n, .slice r.p r.l r.c, .bool r.m, .slice r.p2 r.l2 r.c2] q) (hX : w.rangeAt X 0 ([.bool r.n, .slice r.p r.l r.c, .bool r.m, .slice r.p2 r.l2 r.c2] : List Value)) (hL : L ≤ 60000) (hn : es.length ≤ 20000) :
  Calls Tryz.prog 42 #[v, .func (.func 43) #[] #[.pointer (some ⟨X, 0, none⟩)]] w fun x w' => x = .returned (.bool (inL (es.map SpE.vl) q)) ∧ Ext w w' := by
 have HC := zH (insideIx_any L X b v es r q w hv hr hX hL hn)
 clear hv hr hX
 go_enter Tryz.func42, Tryz.ntmps42
 go_wp2_with (go_at_call 63; refine HC.out.mono ?_; rintro e w2 ⟨z, rfl, hz, hx2⟩)
 go_ret
 exact ⟨by rw [← hz]; rfl, hx2⟩
set_option maxRecDepth 20000 in
set_option maxHeartbeats 4000000 in
theorem contains_any (L : Nat) (u : Value) (ps : List QQ) (cx : Array Value) (q : Rat) (w : World) (hu : SpansV L w u ps) (hc : NIn L w cx q) (h1L : 1 ≤ L) (hL : L ≤ 60000) (hn : ps.length ≤ 20000) :
  Calls Tryz.prog 19 #[u, .agg cx] w fun e w' => e = .returned (.bool (inV ps q)) ∧ Ext w w' := by
 obtain ⟨r, rfl, hr⟩ := hc
 have HC := zH (merge_any L u ps (w.alloc (.cells #[.bool r.n, .slice r.p r.l r.c, .bool r.m, .slice r.p2 r.l2 r.c2] 29)) (hu.ext ((Ext.refl w).alloc _)) h1L hL hn)
 have HQ := zH (show NIn L (w.alloc (.cells #[.bool r.n, .slice r.p r.l r.c, .bool r.m, .slice r.p2 r.l2 r.c2] 29)) #[.bool r.n, .slice r.p r.l r.c, .bool r.m, .slice r.p2 r.l2 r.c2] q from ⟨r, rfl, hr.ext ((Ext.refl w).alloc _)⟩)
 have HB := zH (show (w.alloc (.cells #[.bool r.n, .slice r.p r.l r.c, .bool r.m, .slice r.p2 r.l2 r.c2] 29)).rangeAt w.heap.size 0 ([.bool r.n, .slice r.p r.l r.c, .bool r.m, .slice r.p2 r.l2 r.c2] : List Value) from range_new w _ _)
 have HW := zH ((Ext.refl w).alloc (.cells #[.bool r.n, .slice r.p r.l r.c, .bool r.m, .slice r.p2 r.l2 r.c2] 29))
 clear hu hr
 go_enter Tryz.func19, Tryz.ntmps19
 go_wp2_with (first | (go_at_call 8; refine HC.out.mono ?_; rintro e ws ⟨vs, es, rfl, hes, hval, hel, hXs⟩; have HVAL := zH (show inV ps q = inL (es.map SpE.vl) q by rw [hval]; rfl); clear hval) | (go_at_call 42; refine (insideC_any L _ _ _ es r q _ hes (HQ.out.ext hXs) (range_ext HB.out hXs) hL (by omega)).mono ?_; rintro e w2 ⟨rfl, hx2⟩))
 go_ret
 exact ⟨by rw [HVAL.out]; rfl, (HW.out.trans hXs).trans hx2⟩
end Go.Proofs.YtaeeeailoiioaaaGreat
