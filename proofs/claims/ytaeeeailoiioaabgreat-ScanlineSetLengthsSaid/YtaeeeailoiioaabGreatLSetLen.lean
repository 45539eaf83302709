/- ScanlineSetLengths. -/
import Derived.Test.YtaeeeailoiioaabGreatM7
namespace Go.Proofs.YtaeeeailoiioaabGreat.setlen
open Go.RowKit Go.ChangeShapes Go.WideShapes Go.ChangeAt
attribute [local go_sem ↓] Go.wp_at_zero Go.wp_at_succ run_max_ii run_min_ii
set_option maxRecDepth 20000 in
set_option maxHeartbeats 4000000 in
theorem walkF0 (A : Option Addr) (es : List (RV × RV)) (cap : Nat) (B : Option Addr) (fs : List (RV × RV)) (cab : Nat) (a b : RV)  (w : World) (hs : ∀ W, Ext w W → Calls Tryz.prog 6 #[.slice A es.length cap] W fun e w' => e = .returned (.bool false) ∧ Ext W w')  :
  Calls Tryz.prog 3 #[.slice A es.length cap, .slice B fs.length cab, .agg #[.bool a.n, .slice a.p a.l a.c, .bool a.m, .slice a.p2 a.l2 a.c2, .bool b.n, .slice b.p b.l b.c, .bool b.m, .slice b.p2 b.l2 b.c2]] w fun e w' => e = .returned (.bool true) ∧ Ext w w' := by
 have HS := zH hs
 clear hs
 go_enter Tryz.func3, Tryz.ntmps3
 have H0 := zH (Hp.start w)
 go_upto_region 0 with fail
 refine wp_region_lit ?_
 refine mv_alloc (T := 28) (zs := [.bool a.n, .slice a.p a.l a.c, .bool a.m, .slice a.p2 a.l2 a.c2, .bool b.n, .slice b.p b.l b.c, .bool b.m, .slice b.p2 b.l2 b.c2]) (by rfl) (by go_simp) H0.out (by simp [NoUL]) ?_
 intro X1 w2 hh hx hge
 have H3 := zH (show Hp w w2 [.blk X1 28 [.bool a.n, .slice a.p a.l a.c, .bool a.m, .slice a.p2 a.l2 a.c2, .bool b.n, .slice b.p b.l b.c, .bool b.m, .slice b.p2 b.l2 b.c2]] from hh)
 clear hh hx hge
 try simp only [Act.put, zA, zB, zC]
 refine zq (.bool false) ?_
 go_upto_region 1 with fail
 refine wp_region_lit ?_
 refine qV (.slice A es.length cap) ?_
 refine zc (HS.out _ H3.out.ext) ?_
 rintro e w8 ⟨rfl, hx⟩
 have H9 := zH (H3.out.step hx)
 clear hx
 refine zn ?_
 refine qV (.bool true) ?_
 refine zq (.bool true) ?_
 refine zk ?_
 refine zk ?_
 refine zk ?_
 refine qV (.bool true) ?_
 refine zq (.bool true) ?_
 refine zk ?_
 refine zk ?_
 refine zk ?_
 refine zk ?_
 refine qV (.bool true) ?_
 refine zq (.bool true) ?_
 refine zk ?_
 refine zk ?_
 refine zk ?_
 refine zk ?_
 refine zq (.bool true) ?_
 go_upto_region 2 with fail
 refine wp_region_lit ?_
 refine zc (example_any _) ?_
 rintro e w18 ⟨rfl, hx⟩
 have H19 := zH (H9.out.step hx)
 clear hx
 refine zn ?_
 refine zq (.bool true) ?_
 go_wp2_with fail
 go_ret
 exact ⟨rfl, H19.out.ext⟩
set_option maxRecDepth 20000 in
set_option maxHeartbeats 4000000 in
theorem walkF1 (A : Option Addr) (es : List (RV × RV)) (cap : Nat) (B : Option Addr) (fs : List (RV × RV)) (cab : Nat) (a b : RV)  (w : World) (hs : ∀ W, Ext w W → Calls Tryz.prog 6 #[.slice A es.length cap] W fun e w' => e = .returned (.bool true) ∧ Ext W w') (ht : ∀ W, Ext w W → Calls Tryz.prog 6 #[.slice B fs.length cab] W fun e w' => e = .returned (.bool false) ∧ Ext W w')  :
  Calls Tryz.prog 3 #[.slice A es.length cap, .slice B fs.length cab, .agg #[.bool a.n, .slice a.p a.l a.c, .bool a.m, .slice a.p2 a.l2 a.c2, .bool b.n, .slice b.p b.l b.c, .bool b.m, .slice b.p2 b.l2 b.c2]] w fun e w' => e = .returned (.bool true) ∧ Ext w w' := by
 have HS := zH hs
 clear hs
 have HT := zH ht
 clear ht
 go_enter Tryz.func3, Tryz.ntmps3
 have H0 := zH (Hp.start w)
 go_upto_region 0 with fail
 refine wp_region_lit ?_
 refine mv_alloc (T := 28) (zs := [.bool a.n, .slice a.p a.l a.c, .bool a.m, .slice a.p2 a.l2 a.c2, .bool b.n, .slice b.p b.l b.c, .bool b.m, .slice b.p2 b.l2 b.c2]) (by rfl) (by go_simp) H0.out (by simp [NoUL]) ?_
 intro X22 w23 hh hx hge
 have H24 := zH (show Hp w w23 [.blk X22 28 [.bool a.n, .slice a.p a.l a.c, .bool a.m, .slice a.p2 a.l2 a.c2, .bool b.n, .slice b.p b.l b.c, .bool b.m, .slice b.p2 b.l2 b.c2]] from hh)
 clear hh hx hge
 try simp only [Act.put, zA, zB, zC]
 refine zq (.bool false) ?_
 go_upto_region 1 with fail
 refine wp_region_lit ?_
 refine qV (.slice A es.length cap) ?_
 refine zc (HS.out _ H24.out.ext) ?_
 rintro e w29 ⟨rfl, hx⟩
 have H30 := zH (H24.out.step hx)
 clear hx
 refine zn ?_
 refine qV (.bool false) ?_
 refine zq (.bool false) ?_
 refine qV (.slice B fs.length cab) ?_
 refine zc (HT.out _ H30.out.ext) ?_
 rintro e w35 ⟨rfl, hx⟩
 have H36 := zH (H30.out.step hx)
 clear hx
 refine zn ?_
 refine qV (.bool true) ?_
 refine zq (.bool true) ?_
 refine zq (.bool true) ?_
 refine zk ?_
 refine zk ?_
 refine zk ?_
 refine zk ?_
 refine qV (.bool true) ?_
 refine zq (.bool true) ?_
 refine zk ?_
 refine zk ?_
 refine zk ?_
 refine zk ?_
 refine zq (.bool true) ?_
 go_upto_region 2 with fail
 refine wp_region_lit ?_
 refine zc (example_any _) ?_
 rintro e w44 ⟨rfl, hx⟩
 have H45 := zH (H36.out.step hx)
 clear hx
 refine zn ?_
 refine zq (.bool true) ?_
 go_wp2_with fail
 go_ret
 exact ⟨rfl, H45.out.ext⟩
set_option maxRecDepth 20000 in
set_option maxHeartbeats 4000000 in
theorem walkF2 (A : Option Addr) (es : List (RV × RV)) (cap : Nat) (B : Option Addr) (fs : List (RV × RV)) (cab : Nat) (a b : RV)  (w : World) (hs : ∀ W, Ext w W → Calls Tryz.prog 6 #[.slice A es.length cap] W fun e w' => e = .returned (.bool true) ∧ Ext W w') (ht : ∀ W, Ext w W → Calls Tryz.prog 6 #[.slice B fs.length cab] W fun e w' => e = .returned (.bool true) ∧ Ext W w') (ha : ∀ W, Ext w W → Calls Tryz.prog 7 #[.agg #[.bool a.n, .slice a.p a.l a.c, .bool a.m, .slice a.p2 a.l2 a.c2]] W fun e w' => e = .returned (.bool false) ∧ Ext W w')  :
  Calls Tryz.prog 3 #[.slice A es.length cap, .slice B fs.length cab, .agg #[.bool a.n, .slice a.p a.l a.c, .bool a.m, .slice a.p2 a.l2 a.c2, .bool b.n, .slice b.p b.l b.c, .bool b.m, .slice b.p2 b.l2 b.c2]] w fun e w' => e = .returned (.bool true) ∧ Ext w w' := by
 have HS := zH hs
 clear hs
 have HT := zH ht
 clear ht
 have HSa := zH ha
 clear ha
 go_enter Tryz.func3, Tryz.ntmps3
 have H0 := zH (Hp.start w)
 go_upto_region 0 with fail
 refine wp_region_lit ?_
 refine mv_alloc (T := 28) (zs := [.bool a.n, .slice a.p a.l a.c, .bool a.m, .slice a.p2 a.l2 a.c2, .bool b.n, .slice b.p b.l b.c, .bool b.m, .slice b.p2 b.l2 b.c2]) (by rfl) (by go_simp) H0.out (by simp [NoUL]) ?_
 intro X48 w49 hh hx hge
 have H50 := zH (show Hp w w49 [.blk X48 28 [.bool a.n, .slice a.p a.l a.c, .bool a.m, .slice a.p2 a.l2 a.c2, .bool b.n, .slice b.p b.l b.c, .bool b.m, .slice b.p2 b.l2 b.c2]] from hh)
 clear hh hx hge
 try simp only [Act.put, zA, zB, zC]
 refine zq (.bool false) ?_
 go_upto_region 1 with fail
 refine wp_region_lit ?_
 refine qV (.slice A es.length cap) ?_
 refine zc (HS.out _ H50.out.ext) ?_
 rintro e w55 ⟨rfl, hx⟩
 have H56 := zH (H50.out.step hx)
 clear hx
 refine zn ?_
 refine qV (.bool false) ?_
 refine zq (.bool false) ?_
 refine qV (.slice B fs.length cab) ?_
 refine zc (HT.out _ H56.out.ext) ?_
 rintro e w61 ⟨rfl, hx⟩
 have H62 := zH (H56.out.step hx)
 clear hx
 refine zn ?_
 refine qV (.bool false) ?_
 refine zq (.bool false) ?_
 refine qV (.bool false) ?_
 refine zq (.pointer (some ⟨X48, 0, none⟩)) ?_
 refine zd X48 (0) (rc a) (H62.out.range (i := 0) (by rfl) 0 4) Tryz.underlying27 ?_
 refine zc (HSa.out _ H62.out.ext) ?_
 rintro e w68 ⟨rfl, hx⟩
 have H69 := zH (H62.out.step hx)
 clear hx
 refine zn ?_
 refine qV (.bool true) ?_
 refine zq (.bool true) ?_
 refine zq (.bool true) ?_
 refine zk ?_
 refine zk ?_
 refine zk ?_
 refine zk ?_
 refine zq (.bool true) ?_
 go_upto_region 2 with fail
 refine wp_region_lit ?_
 refine zc (example_any _) ?_
 rintro e w75 ⟨rfl, hx⟩
 have H76 := zH (H69.out.step hx)
 clear hx
 refine zn ?_
 refine zq (.bool true) ?_
 go_wp2_with fail
 go_ret
 exact ⟨rfl, H76.out.ext⟩
set_option maxRecDepth 20000 in
set_option maxHeartbeats 4000000 in
theorem walkF3 (A : Option Addr) (es : List (RV × RV)) (cap : Nat) (B : Option Addr) (fs : List (RV × RV)) (cab : Nat) (a b : RV)  (w : World) (hs : ∀ W, Ext w W → Calls Tryz.prog 6 #[.slice A es.length cap] W fun e w' => e = .returned (.bool true) ∧ Ext W w') (ht : ∀ W, Ext w W → Calls Tryz.prog 6 #[.slice B fs.length cab] W fun e w' => e = .returned (.bool true) ∧ Ext W w') (ha : ∀ W, Ext w W → Calls Tryz.prog 7 #[.agg #[.bool a.n, .slice a.p a.l a.c, .bool a.m, .slice a.p2 a.l2 a.c2]] W fun e w' => e = .returned (.bool true) ∧ Ext W w') (hb : ∀ W, Ext w W → Calls Tryz.prog 7 #[.agg #[.bool b.n, .slice b.p b.l b.c, .bool b.m, .slice b.p2 b.l2 b.c2]] W fun e w' => e = .returned (.bool false) ∧ Ext W w')  :
  Calls Tryz.prog 3 #[.slice A es.length cap, .slice B fs.length cab, .agg #[.bool a.n, .slice a.p a.l a.c, .bool a.m, .slice a.p2 a.l2 a.c2, .bool b.n, .slice b.p b.l b.c, .bool b.m, .slice b.p2 b.l2 b.c2]] w fun e w' => e = .returned (.bool true) ∧ Ext w w' := by
 have HS := zH hs
 clear hs
 have HT := zH ht
 clear ht
 have HSa := zH ha
 clear ha
 have HSb := zH hb
 clear hb
 go_enter Tryz.func3, Tryz.ntmps3
 have H0 := zH (Hp.start w)
 go_upto_region 0 with fail
 refine wp_region_lit ?_
 refine mv_alloc (T := 28) (zs := [.bool a.n, .slice a.p a.l a.c, .bool a.m, .slice a.p2 a.l2 a.c2, .bool b.n, .slice b.p b.l b.c, .bool b.m, .slice b.p2 b.l2 b.c2]) (by rfl) (by go_simp) H0.out (by simp [NoUL]) ?_
 intro X79 w80 hh hx hge
 have H81 := zH (show Hp w w80 [.blk X79 28 [.bool a.n, .slice a.p a.l a.c, .bool a.m, .slice a.p2 a.l2 a.c2, .bool b.n, .slice b.p b.l b.c, .bool b.m, .slice b.p2 b.l2 b.c2]] from hh)
 clear hh hx hge
 try simp only [Act.put, zA, zB, zC]
 refine zq (.bool false) ?_
 go_upto_region 1 with fail
 refine wp_region_lit ?_
 refine qV (.slice A es.length cap) ?_
 refine zc (HS.out _ H81.out.ext) ?_
 rintro e w86 ⟨rfl, hx⟩
 have H87 := zH (H81.out.step hx)
 clear hx
 refine zn ?_
 refine qV (.bool false) ?_
 refine zq (.bool false) ?_
 refine qV (.slice B fs.length cab) ?_
 refine zc (HT.out _ H87.out.ext) ?_
 rintro e w92 ⟨rfl, hx⟩
 have H93 := zH (H87.out.step hx)
 clear hx
 refine zn ?_
 refine qV (.bool false) ?_
 refine zq (.bool false) ?_
 refine qV (.bool false) ?_
 refine zq (.pointer (some ⟨X79, 0, none⟩)) ?_
 refine zd X79 (0) (rc a) (H93.out.range (i := 0) (by rfl) 0 4) Tryz.underlying27 ?_
 refine zc (HSa.out _ H93.out.ext) ?_
 rintro e w99 ⟨rfl, hx⟩
 have H100 := zH (H93.out.step hx)
 clear hx
 refine zn ?_
 refine qV (.bool false) ?_
 refine zq (.bool false) ?_
 refine qV (.bool false) ?_
 refine zq (.pointer (some ⟨X79, 4, none⟩)) ?_
 refine zd X79 (4) (rc b) (H100.out.range (i := 0) (by rfl) 4 4) Tryz.underlying27 ?_
 refine zc (HSb.out _ H100.out.ext) ?_
 rintro e w106 ⟨rfl, hx⟩
 have H107 := zH (H100.out.step hx)
 clear hx
 refine zn ?_
 refine qV (.bool true) ?_
 refine zq (.bool true) ?_
 go_upto_region 2 with fail
 refine wp_region_lit ?_
 refine zc (example_any _) ?_
 rintro e w111 ⟨rfl, hx⟩
 have H112 := zH (H107.out.step hx)
 clear hx
 refine zn ?_
 refine zq (.bool true) ?_
 go_wp2_with fail
 go_ret
 exact ⟨rfl, H112.out.ext⟩
set_option maxRecDepth 20000 in
set_option maxHeartbeats 4000000 in
theorem walkT (A : Option Addr) (es : List (RV × RV)) (cap : Nat) (B : Option Addr) (fs : List (RV × RV)) (cab : Nat) (a b : RV) (ps qs : List QQ) (f t : Rat) (w : World) (hs : ∀ W, Ext w W → Calls Tryz.prog 6 #[.slice A es.length cap] W fun e w' => e = .returned (.bool true) ∧ Ext W w') (ht : ∀ W, Ext w W → Calls Tryz.prog 6 #[.slice B fs.length cab] W fun e w' => e = .returned (.bool true) ∧ Ext W w') (ha : ∀ W, Ext w W → Calls Tryz.prog 7 #[.agg #[.bool a.n, .slice a.p a.l a.c, .bool a.m, .slice a.p2 a.l2 a.c2]] W fun e w' => e = .returned (.bool true) ∧ Ext W w') (hb : ∀ W, Ext w W → Calls Tryz.prog 7 #[.agg #[.bool b.n, .slice b.p b.l b.c, .bool b.m, .slice b.p2 b.l2 b.c2]] W fun e w' => e = .returned (.bool true) ∧ Ext W w') (hu : SpansV 20 w (.slice A es.length cap) ps) (hv : SpansV 20 w (.slice B fs.length cab) qs) (hf : a.In 20 w f) (htt : b.In 20 w t) (hn : ps.length ≤ 60 ∧ qs.length ≤ 60) :
  Calls Tryz.prog 3 #[.slice A es.length cap, .slice B fs.length cab, .agg #[.bool a.n, .slice a.p a.l a.c, .bool a.m, .slice a.p2 a.l2 a.c2, .bool b.n, .slice b.p b.l b.c, .bool b.m, .slice b.p2 b.l2 b.c2]] w fun e w' => e = .returned (.bool true) ∧ Ext w w' := by
 have HS := zH hs
 clear hs
 have HT := zH ht
 clear ht
 have HSa := zH ha
 clear ha
 have HSb := zH hb
 clear hb
 have HU := zH hu
 have HV := zH hv
 have HF := zH hf
 have HTT := zH htt
 have HN := zH hn
 clear hu hv hf htt hn
 go_enter Tryz.func3, Tryz.ntmps3
 have H0 := zH (Hp.start w)
 go_upto_region 0 with fail
 refine wp_region_lit ?_
 refine mv_alloc (T := 28) (zs := [.bool a.n, .slice a.p a.l a.c, .bool a.m, .slice a.p2 a.l2 a.c2, .bool b.n, .slice b.p b.l b.c, .bool b.m, .slice b.p2 b.l2 b.c2]) (by rfl) (by go_simp) H0.out (by simp [NoUL]) ?_
 intro X115 w116 hh hx hge
 have H117 := zH (show Hp w w116 [.blk X115 28 [.bool a.n, .slice a.p a.l a.c, .bool a.m, .slice a.p2 a.l2 a.c2, .bool b.n, .slice b.p b.l b.c, .bool b.m, .slice b.p2 b.l2 b.c2]] from hh)
 clear hh hx hge
 try simp only [Act.put, zA, zB, zC]
 refine zq (.bool false) ?_
 go_upto_region 1 with fail
 refine wp_region_lit ?_
 refine qV (.slice A es.length cap) ?_
 refine zc (HS.out _ H117.out.ext) ?_
 rintro e w122 ⟨rfl, hx⟩
 have H123 := zH (H117.out.step hx)
 clear hx
 refine zn ?_
 refine qV (.bool false) ?_
 refine zq (.bool false) ?_
 refine qV (.slice B fs.length cab) ?_
 refine zc (HT.out _ H123.out.ext) ?_
 rintro e w128 ⟨rfl, hx⟩
 have H129 := zH (H123.out.step hx)
 clear hx
 refine zn ?_
 refine qV (.bool false) ?_
 refine zq (.bool false) ?_
 refine qV (.bool false) ?_
 refine zq (.pointer (some ⟨X115, 0, none⟩)) ?_
 refine zd X115 (0) (rc a) (H129.out.range (i := 0) (by rfl) 0 4) Tryz.underlying27 ?_
 refine zc (HSa.out _ H129.out.ext) ?_
 rintro e w135 ⟨rfl, hx⟩
 have H136 := zH (H129.out.step hx)
 clear hx
 refine zn ?_
 refine qV (.bool false) ?_
 refine zq (.bool false) ?_
 refine qV (.bool false) ?_
 refine zq (.pointer (some ⟨X115, 4, none⟩)) ?_
 refine zd X115 (4) (rc b) (H136.out.range (i := 0) (by rfl) 4 4) Tryz.underlying27 ?_
 refine zc (HSb.out _ H136.out.ext) ?_
 rintro e w142 ⟨rfl, hx⟩
 have H143 := zH (H136.out.step hx)
 clear hx
 refine zn ?_
 refine qV (.bool false) ?_
 refine zq (.bool false) ?_
 go_upto_region 3 with fail
 refine wp_region_lit ?_
 refine qV (.slice A es.length cap) ?_
 refine zq (.slice B fs.length cab) ?_
 refine zc (inter_any 20 (.slice A es.length cap) (.slice B fs.length cab) ps qs _ (HU.out.ext H143.out.ext) (HV.out.ext H143.out.ext) (by decide) (by decide) (by have qn_ := HN.out; (try simp only [List.length_map]); omega)) ?_
 rintro e w149 ⟨v_, es150, rfl, hv1_, hv2_, hv3_, hx⟩
 have VL150 := zH hv2_
 have LN150 := zH hv3_
 have OK150 := zH hv1_.2
 obtain ⟨A150, c150, rfl, hA_⟩ := RowN.form hv1_.1
 have HA150 := zH hA_
 clear hv2_ hv3_ hA_
 have H151 := zH (show Hp w w149 [.blk X115 28 [.bool a.n, .slice a.p a.l a.c, .bool a.m, .slice a.p2 a.l2 a.c2, .bool b.n, .slice b.p b.l b.c, .bool b.m, .slice b.p2 b.l2 b.c2], ro 51 8 A150 es150.length c150 SpE.cells es150] from H143.out.addRow hx hv1_.1)
 clear hv1_
 clear hx
 refine zn ?_
 refine qV (.slice A es.length cap) ?_
 refine zq (.slice B fs.length cab) ?_
 refine zc (union_any 20 (.slice A es.length cap) (.slice B fs.length cab) ps qs _ (HU.out.ext H151.out.ext) (HV.out.ext H151.out.ext) (by decide) (by decide) (by have qn_ := HN.out; (try simp only [List.length_map]); omega)) ?_
 rintro e w155 ⟨v_, es156, rfl, hv1_, hv2_, hv3_, hx⟩
 have VL156 := zH hv2_
 have LN156 := zH hv3_
 have OK156 := zH hv1_.2
 obtain ⟨A156, c156, rfl, hA_⟩ := RowN.form hv1_.1
 have HA156 := zH hA_
 clear hv2_ hv3_ hA_
 have H157 := zH (show Hp w w155 [.blk X115 28 [.bool a.n, .slice a.p a.l a.c, .bool a.m, .slice a.p2 a.l2 a.c2, .bool b.n, .slice b.p b.l b.c, .bool b.m, .slice b.p2 b.l2 b.c2], ro 51 8 A150 es150.length c150 SpE.cells es150, ro 51 8 A156 es156.length c156 SpE.cells es156] from H151.out.addRow hx hv1_.1)
 have D157 := zH (Dig.of_ext hx)
 clear hv1_
 clear hx
 refine zn ?_
 refine qV (.slice A es.length cap) ?_
 refine zq (.slice B fs.length cab) ?_
 refine zc (subt_any 20 (.slice A es.length cap) (.slice B fs.length cab) ps qs _ (HU.out.ext H157.out.ext) (HV.out.ext H157.out.ext) (by decide) (by decide) (by have qn_ := HN.out; (try simp only [List.length_map]); omega)) ?_
 rintro e w161 ⟨v_, es162, rfl, hv1_, hv2_, hv3_, hx⟩
 have VL162 := zH hv2_
 have LN162 := zH hv3_
 have OK162 := zH hv1_.2
 obtain ⟨A162, c162, rfl, hA_⟩ := RowN.form hv1_.1
 have HA162 := zH hA_
 clear hv2_ hv3_ hA_
 have H163 := zH (show Hp w w161 [.blk X115 28 [.bool a.n, .slice a.p a.l a.c, .bool a.m, .slice a.p2 a.l2 a.c2, .bool b.n, .slice b.p b.l b.c, .bool b.m, .slice b.p2 b.l2 b.c2], ro 51 8 A150 es150.length c150 SpE.cells es150, ro 51 8 A156 es156.length c156 SpE.cells es156, ro 51 8 A162 es162.length c162 SpE.cells es162] from H157.out.addRow hx hv1_.1)
 have D163 := zH (Dig.of_ext hx)
 clear hv1_
 clear hx
 refine zn ?_
 refine qV (.slice A150 es150.length c150) ?_
 refine zq (.slice A156 es156.length c156) ?_
 refine zq (.slice A162 es162.length c162) ?_
 go_upto_region 4 with fail
 refine zy ?_
 have H168 := zH (H163.out.step (Ext.refl w161).drew)
 have D168 := zH (Dig.of_ext (w := w161) zb)
 refine zx 0 (bs 16 1) (.slice A es.length cap) zb ?_
 refine mX 1 (bs 16 3) (.pointer (some ⟨X115, 0, none⟩)) zb ?_
 refine zg 2 (bs 16 7) X115 (0) (rc a) (H163.out.range (i := 0) (by rfl) 0 4) Tryz.underlying27 zb ?_
 refine mX 3 (bs 16 15) (.pointer (some ⟨X115, 4, none⟩)) zb ?_
 refine zg 4 (bs 16 31) X115 (4) (rc b) (H163.out.range (i := 0) (by rfl) 4 4) Tryz.underlying27 zb ?_
 refine zx 6 (bs 16 95) (.slice B fs.length cab) zb ?_
 refine mX 7 (bs 16 223) (.pointer (some ⟨X115, 0, none⟩)) zb ?_
 refine zg 8 (bs 16 479) X115 (0) (rc a) (H163.out.range (i := 0) (by rfl) 0 4) Tryz.underlying27 zb ?_
 refine mX 9 (bs 16 991) (.pointer (some ⟨X115, 4, none⟩)) zb ?_
 refine zg 10 (bs 16 2015) X115 (4) (rc b) (H163.out.range (i := 0) (by rfl) 4 4) Tryz.underlying27 zb ?_
 refine tuple2 (f := 2) 5 11 12 13 48 54 10 11 27 z4 (fun v w => ∃ r : RV, v = .agg #[.bool r.n, .slice r.p r.l r.c, .bool r.m, .slice r.p2 r.l2 r.c2] ∧ r.Is w (lenV f t (mergeV ps)) ∧ Nm.rl (lenV f t (mergeV ps)) ≤ 60000) (fun v w => ∃ r : RV, v = .agg #[.bool r.n, .slice r.p r.l r.c, .bool r.m, .slice r.p2 r.l2 r.c2] ∧ r.Is w (lenV f t (mergeV qs)) ∧ Nm.rl (lenV f t (mergeV qs)) ≤ 60000) rfl rfl rfl rfl (by decide) (by decide) (by kernel_rfl) (fun _ hx => zb.trans hx) (fun _ _ _ h e => by obtain ⟨c, h1, h2, h3⟩ := h; exact ⟨c, h1, h2.ext e, h3⟩) (fun _ _ _ h e => by obtain ⟨c, h1, h2, h3⟩ := h; exact ⟨c, h1, h2.ext e, h3⟩) ?ht176c1 ?ht176c2 ?ht176c3 ?ht176c4 ?ht176e _ _ _ _ (by kernel_rfl) rfl
 case ht176c1 =>
  intro v1 v2 v3 v4 w1 K hxq hSw hK
  try simp only [Act.put, zA, zB, zC]
  rw [if_pos (by rfl)]
  refine wp_call_op (by go_simp) (lengthB_any 20 (.slice A es.length cap) ps a b f t _ (HU.out.ext (H168.out.step hxq).ext) (HF.out.dig (H168.out.dig0.trans (Dig.of_ext hxq))) (HTT.out.dig (H168.out.dig0.trans (Dig.of_ext hxq))) (by decide) (by decide) (by have qn_ := HN.out; (try simp only [List.length_map]); omega)) ?_
  rintro e w' ⟨r177, rfl, hr_, hb_, hx⟩
  refine ⟨_, rfl, ?_⟩
  have hk := hK.out _ _ ⟨r177, rfl, hr_, hb_⟩ hx
  try simp only [Act.put, zA, zB, zC]
  simp only [Act.put, zA, zB, zC] at hk
  exact hk
 case ht176c2 =>
  intro v1 v2 v3 v4 w1 K hxq hSw hK
  try simp only [Act.put, zA, zB, zC]
  rw [if_pos (by rfl)]
  refine wp_call_op (by go_simp) (lengthB_any 20 (.slice B fs.length cab) qs a b f t _ (HV.out.ext (H168.out.step hxq).ext) (HF.out.dig (H168.out.dig0.trans (Dig.of_ext hxq))) (HTT.out.dig (H168.out.dig0.trans (Dig.of_ext hxq))) (by decide) (by decide) (by have qn_ := HN.out; (try simp only [List.length_map]); omega)) ?_
  rintro e w' ⟨r178, rfl, hr_, hb_, hx⟩
  refine ⟨_, rfl, ?_⟩
  have hk := hK.out _ _ ⟨r178, rfl, hr_, hb_⟩ hx
  try simp only [Act.put, zA, zB, zC]
  simp only [Act.put, zA, zB, zC] at hk
  exact hk
 case ht176c3 =>
  intro v1 v2 v3 v4 w1 K hxq hSw hK
  try simp only [Act.put, zA, zB, zC]
  go_simp
  have hk := hK.out
  simp only [Act.put, zA, zB, zC] at hk
  exact hk
 case ht176c4 =>
  intro v1 v2 v3 v4 w1 K hxq hSw hK
  try simp only [Act.put, zA, zB, zC]
  go_simp
  have hk := hK.out
  simp only [Act.put, zA, zB, zC] at hk
  exact hk
 case ht176e =>
 intro v1_ v2_ X179 Y180 w181 hx hSw xp1 xp2 xb1 xb2 xz1 xz2 n12
 have hh := H168.out.add2 hx xb1 xb2 xz1 xz2 n12 (by simp [NoUL]) (by simp [NoUL])
 have H182 := zH (show Hp w w181 [.blk X115 28 [.bool a.n, .slice a.p a.l a.c, .bool a.m, .slice a.p2 a.l2 a.c2, .bool b.n, .slice b.p b.l b.c, .bool b.m, .slice b.p2 b.l2 b.c2], ro 51 8 A150 es150.length c150 SpE.cells es150, ro 51 8 A156 es156.length c156 SpE.cells es156, ro 51 8 A162 es162.length c162 SpE.cells es162, .blk X179 27 rz, .blk Y180 27 rz] from hh)
 have D182 := zH (show Dig w161.drew w181 from Dig.of_ext hx)
 have S184 := zH (show Ext w161 w181 from zb.trans hx)
 have G185 := zH (show w161.heap.size ≤ X179 from Nat.le_trans zb.size xz1)
 have G186 := zH (show w161.heap.size ≤ Y180 from Nat.le_trans zb.size xz2)
 obtain ⟨r177, rfl, hr_, hb_⟩ := xp1
 have R177 := zH hr_
 have B177 := zH hb_
 clear hr_ hb_
 obtain ⟨r178, rfl, hr_, hb_⟩ := xp2
 have R178 := zH hr_
 have B178 := zH hb_
 clear hr_ hb_
 clear hh hx hSw xb1 xb2 xz1 xz2 n12
 try simp only [Act.put, zA, zB, zC]
 refine md_st (i := 14) (listed' := (bs 16 32767)) (by rfl) (by kernel_rfl) (by rfl) (by kernel_rfl) _ _ _ (by rfl) H182.out (ix := 4) (by rfl) 0 [.bool r177.n, .slice r177.p r177.l r177.c, .bool r177.m, .slice r177.p2 r177.l2 r177.c2] (by rfl) (by rfl) (by simp) (by kernel_rfl) (by simp [Value.oneCell']) (by simp [NoUL]) ?_
 intro w187 hh hd ho
 have H188 := zH (show Hp w w187 [.blk X115 28 [.bool a.n, .slice a.p a.l a.c, .bool a.m, .slice a.p2 a.l2 a.c2, .bool b.n, .slice b.p b.l b.c, .bool b.m, .slice b.p2 b.l2 b.c2], ro 51 8 A150 es150.length c150 SpE.cells es150, ro 51 8 A156 es156.length c156 SpE.cells es156, ro 51 8 A162 es162.length c162 SpE.cells es162, .blk X179 27 (rc r177), .blk Y180 27 rz] from hh)
 have D188 := zH (hd)
 have S190 := zH (show Ext w161 w187 from Own.ext ho S184.out G185.out)
 clear hh hd ho
 refine ⟨S190.out, ?_⟩
 (try simp only [Act.put])
 refine md_st (i := 15) (listed' := (bs 16 65535)) (by rfl) (by kernel_rfl) (by rfl) (by kernel_rfl) _ _ _ (by rfl) H188.out (ix := 5) (by rfl) 0 [.bool r178.n, .slice r178.p r178.l r178.c, .bool r178.m, .slice r178.p2 r178.l2 r178.c2] (by rfl) (by rfl) (by simp) (by kernel_rfl) (by simp [Value.oneCell']) (by simp [NoUL]) ?_
 intro w191 hh hd ho
 have H192 := zH (show Hp w w191 [.blk X115 28 [.bool a.n, .slice a.p a.l a.c, .bool a.m, .slice a.p2 a.l2 a.c2, .bool b.n, .slice b.p b.l b.c, .bool b.m, .slice b.p2 b.l2 b.c2], ro 51 8 A150 es150.length c150 SpE.cells es150, ro 51 8 A156 es156.length c156 SpE.cells es156, ro 51 8 A162 es162.length c162 SpE.cells es162, .blk X179 27 (rc r177), .blk Y180 27 (rc r178)] from hh)
 have D192 := zH (hd)
 have S194 := zH (show Ext w161 w191 from Own.ext ho S190.out G186.out)
 clear hh hd ho
 refine ⟨S194.out, ?_⟩
 (try simp only [Act.put])
 refine wpAnyH_done (by kernel_rfl) ?_ _
 go_upto_region 5 with fail
 refine wp_region_lit ?_
 refine qV (.slice A150 es150.length c150) ?_
 refine zq (.pointer (some ⟨X115, 0, none⟩)) ?_
 refine zd X115 (0) (rc a) (H192.out.range (i := 0) (by rfl) 0 4) Tryz.underlying27 ?_
 refine qV (.pointer (some ⟨X115, 4, none⟩)) ?_
 refine zd X115 (4) (rc b) (H192.out.range (i := 0) (by rfl) 4 4) Tryz.underlying27 ?_
 have DD200 := zH ((((((D157.out.trans D163.out).trans D168.out).trans D182.out).trans D188.out).trans D192.out))
 refine zc (lengthB_any 20 (.slice A150 es150.length c150) (List.map SpE.vl es150) a b f t _ (SpR.reads ⟨H192.out.row (i := 1) (by rfl), (fun e_ he_ => (OK150.out e_ he_).dig DD200.out)⟩) (HF.out.dig H192.out.dig0) (HTT.out.dig H192.out.dig0) (by decide) (by decide) (by have q1_ := LN150.out; have qn_ := HN.out; (try simp only [List.length_map]); omega)) ?_
 rintro e w198 ⟨r199, rfl, hr_, hb_, hx⟩
 have H201 := zH (H192.out.step hx)
 have D201 := zH (Dig.of_ext hx)
 have R199 := zH hr_
 have B199 := zH hb_
 clear hr_ hb_
 clear hx
 refine zn ?_
 refine mv_alloc (T := 27) (zs := [.bool false, .slice none 0 0, .bool false, .slice none 0 0]) (by rfl) (by go_simp) H201.out (by simp [NoUL]) ?_
 intro X203 w204 hh hx hge
 have H205 := zH (show Hp w w204 [.blk X115 28 [.bool a.n, .slice a.p a.l a.c, .bool a.m, .slice a.p2 a.l2 a.c2, .bool b.n, .slice b.p b.l b.c, .bool b.m, .slice b.p2 b.l2 b.c2], ro 51 8 A150 es150.length c150 SpE.cells es150, ro 51 8 A156 es156.length c156 SpE.cells es156, ro 51 8 A162 es162.length c162 SpE.cells es162, .blk X179 27 (rc r177), .blk Y180 27 (rc r178), .blk X203 27 rz] from hh)
 have D205 := zH (Dig.of_ext hx)
 clear hh hx hge
 try simp only [Act.put, zA, zB, zC]
 refine mv_st (by rfl) _ _ _ (by rfl) H205.out (ix := 6) (by rfl) 0 [.bool r199.n, .slice r199.p r199.l r199.c, .bool r199.m, .slice r199.p2 r199.l2 r199.c2] (by rfl) (by rfl) (by simp) (by kernel_rfl) (by simp [Value.oneCell']) (by simp [NoUL]) ?_
 intro w208 hh hd ho
 have H209 := zH (show Hp w w208 [.blk X115 28 [.bool a.n, .slice a.p a.l a.c, .bool a.m, .slice a.p2 a.l2 a.c2, .bool b.n, .slice b.p b.l b.c, .bool b.m, .slice b.p2 b.l2 b.c2], ro 51 8 A150 es150.length c150 SpE.cells es150, ro 51 8 A156 es156.length c156 SpE.cells es156, ro 51 8 A162 es162.length c162 SpE.cells es162, .blk X179 27 (rc r177), .blk Y180 27 (rc r178), .blk X203 27 (rc r199)] from hh)
 have D209 := zH (hd)
 clear hh hd ho
 (try simp only [Act.put])
 go_upto_region 6 with fail
 refine zy ?_
 have H211 := zH (H209.out.step (Ext.refl w208).drew)
 have D211 := zH (Dig.of_ext (w := w208) zb)
 refine zx 0 (bs 26 1) (.slice A156 es156.length c156) zb ?_
 refine mX 1 (bs 26 3) (.pointer (some ⟨X115, 0, none⟩)) zb ?_
 refine zg 2 (bs 26 7) X115 (0) (rc a) (H209.out.range (i := 0) (by rfl) 0 4) Tryz.underlying27 zb ?_
 refine mX 3 (bs 26 15) (.pointer (some ⟨X115, 4, none⟩)) zb ?_
 refine mR 4 (bs 26 31) X115 (4) [.bool b.n, .slice b.p b.l b.c, .bool b.m, .slice b.p2 b.l2 b.c2] (fun x hx => range_ext (show World.rangeAt w208 X115 (4) [.bool b.n, .slice b.p b.l b.c, .bool b.m, .slice b.p2 b.l2 b.c2] from (H209.out.range (i := 0) (by rfl) 4 4)) hx) Tryz.underlying27 zb ?_
 refine zg 6 (bs 26 95) X203 (0) (rc r199) (H209.out.range (i := 6) (by rfl) 0 4) Tryz.underlying27 zb ?_
 refine mR 8 (bs 26 351) X179 (0) [.bool r177.n, .slice r177.p r177.l r177.c, .bool r177.m, .slice r177.p2 r177.l2 r177.c2] (fun x hx => range_ext (show World.rangeAt w208 X179 (0) [.bool r177.n, .slice r177.p r177.l r177.c, .bool r177.m, .slice r177.p2 r177.l2 r177.c2] from (H209.out.range (i := 4) (by rfl) 0 4)) hx) Tryz.underlying27 zb ?_
 refine zg 9 (bs 26 863) Y180 (0) (rc r178) (H209.out.range (i := 5) (by rfl) 0 4) Tryz.underlying27 zb ?_
 have DD218 := zH (((((((((D163.out.trans D168.out).trans D182.out).trans D188.out).trans D192.out).trans D201.out).trans D205.out).trans D209.out).trans D211.out))
 refine mC 5 (bs 26 895) (lengthB_any 20 (.slice A156 es156.length c156) (List.map SpE.vl es156) a b f t _ (SpR.reads ⟨H211.out.row (i := 2) (by rfl), (fun e_ he_ => (OK156.out e_ he_).dig DD218.out)⟩) (HF.out.dig H211.out.dig0) (HTT.out.dig H211.out.dig0) (by decide) (by decide) (by have q1_ := LN156.out; have qn_ := HN.out; (try simp only [List.length_map]); omega)) ?_
 rintro e w216 ⟨r217, rfl, hr_, hb_, hx⟩
 have H219 := zH (H211.out.step hx)
 have D219 := zH (show Dig w208.drew w216 from Dig.of_ext hx)
 have S221 := zH (show Ext w208 w216 from zb.trans hx)
 have R217 := zH hr_
 have B217 := zH hb_
 clear hr_ hb_
 clear hx
 refine zm S221.out ?_
 have DD224 := zH ((((D205.out.trans D209.out).trans D211.out).trans D219.out))
 refine mC 7 (bs 26 1023) (q03Add (L := 60000) (RV.Is.nin R217.out (Nat.le_trans B217.out (by omega))) (RV.Is.nin (R199.out.dig DD224.out) (Nat.le_trans B199.out (by omega))) (by omega)) ?_
 rintro e w222 ⟨c_, rfl, hc_, hx⟩
 have H225 := zH (H219.out.step hx)
 have D225 := zH (Dig.of_ext hx)
 have S227 := zH (S221.out.trans hx)
 obtain ⟨r223, rfl, hr_⟩ := hc_
 have R223 := zH hr_
 clear hr_
 have B223 := zH (show Nm.rl ((lenV f t (mergeV (List.map SpE.vl es156))) + (lenV f t (mergeV (List.map SpE.vl es150)))) ≤ 60000 + 60000 + 1 from by have h1 := B217.out; have h2 := B199.out; have h3 := Nm.rl_add (lenV f t (mergeV (List.map SpE.vl es156))) (lenV f t (mergeV (List.map SpE.vl es150))); omega)
 clear hx
 refine zm S227.out ?_
 have DD230 := zH ((((((((D188.out.trans D192.out).trans D201.out).trans D205.out).trans D209.out).trans D211.out).trans D219.out).trans D225.out))
 refine mC 10 (bs 26 2047) (q03Add (L := 60000) (RV.Is.nin (R177.out.dig DD230.out) (Nat.le_trans B177.out (by omega))) (RV.Is.nin (R178.out.dig DD230.out) (Nat.le_trans B178.out (by omega))) (by omega)) ?_
 rintro e w228 ⟨c_, rfl, hc_, hx⟩
 have H231 := zH (H225.out.step hx)
 have D231 := zH (Dig.of_ext hx)
 have S233 := zH (S227.out.trans hx)
 obtain ⟨r229, rfl, hr_⟩ := hc_
 have R229 := zH hr_
 clear hr_
 clear hx
 refine zm S233.out ?_
 refine mC 11 (bs 26 4095) (same_any r223 r229 ((lenV f t (mergeV (List.map SpE.vl es156))) + (lenV f t (mergeV (List.map SpE.vl es150)))) 200000 _ (R223.out.dig D231.out) (by rw [show ((lenV f t (mergeV (List.map SpE.vl es156))) + (lenV f t (mergeV (List.map SpE.vl es150)))) = ((lenV f t (mergeV ps)) + (lenV f t (mergeV qs))) by rw [VL156.out, VL150.out, mergeV_idem, mergeV_sep (interV_sep (mergeV_law ps).1 (mergeV_law qs).1), ← union_eq]; exact union_inter_len f t ps qs]; exact R229.out) (Nat.le_trans B223.out (by omega)) (by decide)) ?_
 rintro e w234 ⟨rfl, hx⟩
 have H235 := zH (H231.out.step hx)
 have D235 := zH (Dig.of_ext hx)
 have S237 := zH (S233.out.trans hx)
 clear hx
 refine zm S237.out ?_
 refine zx 12 (bs 26 8191) (.bool false) S237.out ?_
 refine zx 13 (bs 26 16383) (.bool false) S237.out ?_
 refine zx 14 (bs 26 32767) (.slice A162 es162.length c162) S237.out ?_
 refine mX 15 (bs 26 65535) (.pointer (some ⟨X115, 0, none⟩)) S237.out ?_
 refine zg 16 (bs 26 131071) X115 (0) (rc a) (H209.out.range (i := 0) (by rfl) 0 4) Tryz.underlying27 S237.out ?_
 refine mX 17 (bs 26 262143) (.pointer (some ⟨X115, 4, none⟩)) S237.out ?_
 refine mR 18 (bs 26 524287) X115 (4) [.bool b.n, .slice b.p b.l b.c, .bool b.m, .slice b.p2 b.l2 b.c2] (fun x hx => range_ext (show World.rangeAt w208 X115 (4) [.bool b.n, .slice b.p b.l b.c, .bool b.m, .slice b.p2 b.l2 b.c2] from (H209.out.range (i := 0) (by rfl) 4 4)) hx) Tryz.underlying27 S237.out ?_
 refine zg 20 (bs 26 1572863) X203 (0) (rc r199) (H209.out.range (i := 6) (by rfl) 0 4) Tryz.underlying27 S237.out ?_
 refine zg 22 (bs 26 5767167) X179 (0) (rc r177) (H209.out.range (i := 4) (by rfl) 0 4) Tryz.underlying27 S237.out ?_
 have DD245 := zH ((((((((((((D168.out.trans D182.out).trans D188.out).trans D192.out).trans D201.out).trans D205.out).trans D209.out).trans D211.out).trans D219.out).trans D225.out).trans D231.out).trans D235.out))
 refine mC 19 (bs 26 6291455) (lengthB_any 20 (.slice A162 es162.length c162) (List.map SpE.vl es162) a b f t _ (SpR.reads ⟨H235.out.row (i := 3) (by rfl), (fun e_ he_ => (OK162.out e_ he_).dig DD245.out)⟩) (HF.out.dig H235.out.dig0) (HTT.out.dig H235.out.dig0) (by decide) (by decide) (by have q1_ := LN162.out; have qn_ := HN.out; (try simp only [List.length_map]); omega)) ?_
 rintro e w243 ⟨r244, rfl, hr_, hb_, hx⟩
 have H246 := zH (H235.out.step hx)
 have D246 := zH (Dig.of_ext hx)
 have S248 := zH (S237.out.trans hx)
 have R244 := zH hr_
 have B244 := zH hb_
 clear hr_ hb_
 clear hx
 refine zm S248.out ?_
 have DD251 := zH ((((((((D205.out.trans D209.out).trans D211.out).trans D219.out).trans D225.out).trans D231.out).trans D235.out).trans D246.out))
 refine mC 21 (bs 26 8388607) (q03Add (L := 60000) (RV.Is.nin R244.out (Nat.le_trans B244.out (by omega))) (RV.Is.nin (R199.out.dig DD251.out) (Nat.le_trans B199.out (by omega))) (by omega)) ?_
 rintro e w249 ⟨c_, rfl, hc_, hx⟩
 have H252 := zH (H246.out.step hx)
 have D252 := zH (Dig.of_ext hx)
 have S254 := zH (S248.out.trans hx)
 obtain ⟨r250, rfl, hr_⟩ := hc_
 have R250 := zH hr_
 clear hr_
 have B250 := zH (show Nm.rl ((lenV f t (mergeV (List.map SpE.vl es162))) + (lenV f t (mergeV (List.map SpE.vl es150)))) ≤ 60000 + 60000 + 1 from by have h1 := B244.out; have h2 := B199.out; have h3 := Nm.rl_add (lenV f t (mergeV (List.map SpE.vl es162))) (lenV f t (mergeV (List.map SpE.vl es150))); omega)
 clear hx
 refine zm S254.out ?_
 have DD256 := zH ((((((((((((D188.out.trans D192.out).trans D201.out).trans D205.out).trans D209.out).trans D211.out).trans D219.out).trans D225.out).trans D231.out).trans D235.out).trans D246.out).trans D252.out))
 refine mC 23 (bs 26 16777215) (same_any r250 r177 ((lenV f t (mergeV (List.map SpE.vl es162))) + (lenV f t (mergeV (List.map SpE.vl es150)))) 200000 _ R250.out (by rw [show ((lenV f t (mergeV (List.map SpE.vl es162))) + (lenV f t (mergeV (List.map SpE.vl es150)))) = (lenV f t (mergeV ps)) by rw [VL162.out, VL150.out, mergeV_sep (subV_sep (mergeV_law ps).1 (mergeV_law qs).1), mergeV_sep (interV_sep (mergeV_law ps).1 (mergeV_law qs).1)]; exact sub_inter_len f t (mergeV_law ps).1 (mergeV_law qs).1]; exact (R177.out.dig DD256.out)) (Nat.le_trans B250.out (by omega)) (by decide)) ?_
 rintro e w255 ⟨rfl, hx⟩
 have H257 := zH (H252.out.step hx)
 have D257 := zH (Dig.of_ext hx)
 have S259 := zH (S254.out.trans hx)
 clear hx
 refine zm S259.out ?_
 refine zx 24 (bs 26 33554431) (.bool false) S259.out ?_
 refine zx 25 (bs 26 67108863) (.bool false) S259.out ?_
 refine wpAnyH_done (by kernel_rfl) ?_ _
 go_upto_region 8 with fail
 refine wp_region_lit ?_
 refine qV (.slice A162 es162.length c162) ?_
 refine zq (.slice B fs.length cab) ?_
 have DD266 := zH (((((((((((((((D168.out.trans D182.out).trans D188.out).trans D192.out).trans D201.out).trans D205.out).trans D209.out).trans D211.out).trans D219.out).trans D225.out).trans D231.out).trans D235.out).trans D246.out).trans D252.out).trans D257.out))
 refine zc (inter_any 20 (.slice A162 es162.length c162) (.slice B fs.length cab) (List.map SpE.vl es162) qs _ (SpR.reads ⟨H257.out.row (i := 3) (by rfl), (fun e_ he_ => (OK162.out e_ he_).dig DD266.out)⟩) (HV.out.ext H257.out.ext) (by decide) (by decide) (by have q0_ := LN162.out; have qn_ := HN.out; (try simp only [List.length_map]); omega)) ?_
 rintro e w264 ⟨v_, es265, rfl, hv1_, hv2_, hv3_, hx⟩
 have VL265 := zH hv2_
 have LN265 := zH hv3_
 have OK265 := zH hv1_.2
 obtain ⟨A265, c265, rfl, hA_⟩ := RowN.form hv1_.1
 have HA265 := zH hA_
 clear hv2_ hv3_ hA_
 have H267 := zH (show Hp w w264 [.blk X115 28 [.bool a.n, .slice a.p a.l a.c, .bool a.m, .slice a.p2 a.l2 a.c2, .bool b.n, .slice b.p b.l b.c, .bool b.m, .slice b.p2 b.l2 b.c2], ro 51 8 A150 es150.length c150 SpE.cells es150, ro 51 8 A156 es156.length c156 SpE.cells es156, ro 51 8 A162 es162.length c162 SpE.cells es162, .blk X179 27 (rc r177), .blk Y180 27 (rc r178), .blk X203 27 (rc r199), ro 51 8 A265 es265.length c265 SpE.cells es265] from H257.out.addRow hx hv1_.1)
 have D267 := zH (Dig.of_ext hx)
 clear hv1_
 clear hx
 refine zn ?_
 have hz : es265.length = 0 := by have h := VL265.out; rw [VL162.out, mergeV_sep (subV_sep (mergeV_law ps).1 (mergeV_law qs).1), sub_inter_nil (mergeV_law ps).1 (mergeV_law qs).1] at h; have h2 := congrArg List.length h; rwa [List.length_map] at h2
 have HZ0 := zH hz
 clear hz
 refine zq (.int .i64 ((es265.length : Nat) : Int)) ?_
 refine zp (w' := w264) (.bool true) (by exact ezq (e := (dec_t (by have ob0 := HZ0.out; omega)))) ?_
 refine qV (.bool true) ?_
 refine zq (.slice A162 es162.length c162) ?_
 refine zq (.slice A150 es150.length c150) ?_
 have DD276 := zH ((((((((((((((((D168.out.trans D182.out).trans D188.out).trans D192.out).trans D201.out).trans D205.out).trans D209.out).trans D211.out).trans D219.out).trans D225.out).trans D231.out).trans D235.out).trans D246.out).trans D252.out).trans D257.out).trans D267.out))
 have DD277 := zH ((((((((((((((((((D157.out.trans D163.out).trans D168.out).trans D182.out).trans D188.out).trans D192.out).trans D201.out).trans D205.out).trans D209.out).trans D211.out).trans D219.out).trans D225.out).trans D231.out).trans D235.out).trans D246.out).trans D252.out).trans D257.out).trans D267.out))
 refine zc (union_any 20 (.slice A162 es162.length c162) (.slice A150 es150.length c150) (List.map SpE.vl es162) (List.map SpE.vl es150) _ (SpR.reads ⟨H267.out.row (i := 3) (by rfl), (fun e_ he_ => (OK162.out e_ he_).dig DD276.out)⟩) (SpR.reads ⟨H267.out.row (i := 1) (by rfl), (fun e_ he_ => (OK150.out e_ he_).dig DD277.out)⟩) (by decide) (by decide) (by have q0_ := LN162.out; have q1_ := LN150.out; have qn_ := HN.out; (try simp only [List.length_map]); omega)) ?_
 rintro e w274 ⟨v_, es275, rfl, hv1_, hv2_, hv3_, hx⟩
 have VL275 := zH hv2_
 have LN275 := zH hv3_
 have OK275 := zH hv1_.2
 obtain ⟨A275, c275, rfl, hA_⟩ := RowN.form hv1_.1
 have HA275 := zH hA_
 clear hv2_ hv3_ hA_
 have H278 := zH (show Hp w w274 [.blk X115 28 [.bool a.n, .slice a.p a.l a.c, .bool a.m, .slice a.p2 a.l2 a.c2, .bool b.n, .slice b.p b.l b.c, .bool b.m, .slice b.p2 b.l2 b.c2], ro 51 8 A150 es150.length c150 SpE.cells es150, ro 51 8 A156 es156.length c156 SpE.cells es156, ro 51 8 A162 es162.length c162 SpE.cells es162, .blk X179 27 (rc r177), .blk Y180 27 (rc r178), .blk X203 27 (rc r199), ro 51 8 A265 es265.length c265 SpE.cells es265, ro 51 8 A275 es275.length c275 SpE.cells es275] from H267.out.addRow hx hv1_.1)
 clear hv1_
 clear hx
 refine zn ?_
 refine qV (.slice A es.length cap) ?_
 refine zc (merge_any 20 (.slice A es.length cap) ps _ (HU.out.ext H278.out.ext) (by decide) (by decide) (by have := HN.out; omega)) ?_
 rintro e w281 ⟨v_, es282, rfl, hv1_, hv2_, hv3_, hx⟩
 have VL282 := zH hv2_
 have LN282 := zH hv3_
 have OK282 := zH hv1_.2
 obtain ⟨A282, c282, rfl, hA_⟩ := RowN.form hv1_.1
 have HA282 := zH hA_
 clear hv2_ hv3_ hA_
 have H283 := zH (show Hp w w281 [.blk X115 28 [.bool a.n, .slice a.p a.l a.c, .bool a.m, .slice a.p2 a.l2 a.c2, .bool b.n, .slice b.p b.l b.c, .bool b.m, .slice b.p2 b.l2 b.c2], ro 51 8 A150 es150.length c150 SpE.cells es150, ro 51 8 A156 es156.length c156 SpE.cells es156, ro 51 8 A162 es162.length c162 SpE.cells es162, .blk X179 27 (rc r177), .blk Y180 27 (rc r178), .blk X203 27 (rc r199), ro 51 8 A265 es265.length c265 SpE.cells es265, ro 51 8 A275 es275.length c275 SpE.cells es275, ro 51 8 A282 es282.length c282 SpE.cells es282] from H278.out.addRow hx hv1_.1)
 have D283 := zH (Dig.of_ext hx)
 clear hv1_
 clear hx
 refine zn ?_
 refine zc (r18same_any 60000 (.slice A275 es275.length c275) (.slice A282 es282.length c282) _ _ es275 es282 _ (SpR.up (L := 20) ⟨H283.out.row (i := 8) (by rfl), (fun e_ he_ => (OK275.out e_ he_).dig D283.out)⟩ (by omega)) (SpR.up (L := 20) ⟨H283.out.row (i := 9) (by rfl), OK282.out⟩ (by omega)) (VL275.out.trans (by rw [VL282.out, VL162.out, VL150.out, ← union_eq]; exact sub_inter_union (mergeV_law ps).1 (mergeV_law qs).1)) (by omega) (Nat.le_trans LN275.out (by have q1_ := LN162.out; have q2_ := LN150.out; have q3_ := HN.out; simp only [List.length_map]; omega))) ?_
 rintro e w285 ⟨rfl, hx⟩
 have H286 := zH (H283.out.step hx)
 clear hx
 refine zn ?_
 refine qV (.bool true) ?_
 refine zq (.bool true) ?_
 refine zc (example_any _) ?_
 rintro e w290 ⟨rfl, hx⟩
 have H291 := zH (H286.out.step hx)
 clear hx
 refine zn ?_
 refine qV (.bool true) ?_
 refine zq (.bool true) ?_
 go_wp2_with fail
 go_ret
 exact ⟨rfl, H291.out.ext⟩

theorem walk (A : Option Addr) (es : List (RV × RV)) (cap : Nat) (B : Option Addr) (fs : List (RV × RV)) (cab : Nat) (a b : RV) (w : World) (hv : RawV w (.slice A es.length cap) es ∧ RawL w es) (hm : es.length ≤ maxLen) (hv2 : RawV w (.slice B fs.length cab) fs ∧ RawL w fs) (hm2 : fs.length ≤ maxLen) (hx : a.Raw w ∧ b.Raw w) :
  Calls Tryz.prog 3 #[.slice A es.length cap, .slice B fs.length cab, .agg #[.bool a.n, .slice a.p a.l a.c, .bool a.m, .slice a.p2 a.l2 a.c2, .bool b.n, .slice b.p b.l b.c, .bool b.m, .slice b.p2 b.l2 b.c2]] w fun e w' => e = .returned (.bool true) ∧ Ext w w' := by
 have hs := fun W (x : Ext w W) => smallSpans_any (.slice A es.length cap) es W (hv.1.ext x) hm
 have ht := fun W (x : Ext w W) => smallSpans_any (.slice B fs.length cab) fs W (hv2.1.ext x) hm2
 have sa := fun W (_ : Ext w W) => small_any a W
 have sb := fun W (_ : Ext w W) => small_any b W
 cases h0 : (smAll es && decide (es.length ≤ 60)) with
 | false => rw [h0] at hs; exact walkF0 A es cap B fs cab a b w hs
 | true =>
  rw [h0] at hs
  cases h1 : (smAll fs && decide (fs.length ≤ 60)) with
  | false => rw [h1] at ht; exact walkF1 A es cap B fs cab a b w hs ht
  | true =>
   rw [h1] at ht
   cases h2 : a.sm with
   | false => rw [h2] at sa; exact walkF2 A es cap B fs cab a b w hs ht sa
   | true =>
    rw [h2] at sa
    cases h3 : b.sm with
    | false => rw [h3] at sb; exact walkF3 A es cap B fs cab a b w hs ht sa sb
    | true =>
     rw [h3] at sb
     simp only [Bool.and_eq_true, decide_eq_true_eq] at h0 h1
     obtain ⟨ps, hl, hp⟩ := hv.1.spans hv.2 h0.1
     obtain ⟨qs, hl2, hp2⟩ := hv2.1.spans hv2.2 h1.1
     obtain ⟨f, hf⟩ := RV.sm_in hx.1 h2
     obtain ⟨t, htt⟩ := RV.sm_in hx.2 h3
     exact walkT A es cap B fs cab a b ps qs f t w hs ht sa sb hp hp2 hf htt ⟨by rw [hl]; exact h0.2, by rw [hl2]; exact h1.2⟩
set_option maxRecDepth 100000 in
theorem lifted (os : Os) (started : os.Started) (H : Type) (enc : TypeId × Value → H) :
  ReturnsInHanded {} Tryz.checked os 3 .any (Rows.scanlineSetLengthsSpec.pre6 enc Tryz.prog Tryz.f3 Rows.scanlineSetLengthsRow.domain false) (Rows.scanlineSetLengthsSpec.post enc Tryz.prog Tryz.f3 false true false false) := by
 refine returnsInHanded_of_change (C := Tryz.checked) own started (by kernel_rfl) Tryz.func3
  (ChangeSpec.witness6 (enc := enc) (C := Tryz.checked) false ⟨#[], #[.slice none 0 0, .slice none 0 0, .agg z8], []⟩ 8 (by kernel_rfl) (by kernel_rfl) (by kernel_rfl) (by kernel_rfl)) ?_
 intro W base args ds gs before hval0 hW hcnd _
 have hval : ∀ (j : Nat) t v, Tryz.f3.params[j]? = some t → args[j]? = some v → Value.okWide Tryz.prog W .any base t v := hval0
 have hW' := hW
 obtain ⟨p, q, hA0, hV, rfl, hfz, hnd⟩ := hW
 have hA : DataW.TrodAll enc Tryz.prog W 0 (fun _ => true) true Tryz.f3.params.toList args.toList ds p := hA0
 rw [Tryz.params3] at hA hval
 obtain ⟨v0, vs0, d0, ds0, p0, q0, hargs, rfl, rfl, h0, r0⟩ := trodAll_cons hA
 obtain ⟨v1, vs1, d1, ds1, p1, q1, rfl, rfl, rfl, h1, r1⟩ := trodAll_cons r0
 obtain ⟨v2, vs2, d2, ds2, p2, q2, rfl, rfl, rfl, h2, r2⟩ := trodAll_cons r1
 obtain ⟨rfl, rfl, rfl⟩ := trodAll_nil r2
 obtain rfl : args = #[v0, v1, v2] := by cases args; simp_all
 obtain ⟨rfl, rfl⟩ := trodVars_none hV
 have k0 := h0
 have lt0 : ∀ x ∈ p0, x.block < W.heap.size := by obtain ⟨m, hm⟩ := k0; exact DataW.trod_lt m _ _ _ hm
 obtain ⟨yA, zl0, yc, rfl⟩ := okWide_slice Tryz.underlying22 (hval 0 22 v0 rfl rfl)
 obtain ⟨zA0, yl, zc0, ze0, g0⟩ := (by obtain ⟨m, hm⟩ := h0; exact spans_openQ hm : ∃ zB zl zc, [Value.slice yA zl0 yc] = [.slice zB (List.length zl) zc] ∧ zl.length ≤ maxLen ∧ RawV W (.slice zB zl.length zc) zl ∧ RawL W zl)
 obtain ⟨rfl, rfl, rfl⟩ : yA = zA0 ∧ zl0 = yl.length ∧ yc = zc0 := by simpa using ze0
 have k1 := h1
 have lt1 : ∀ x ∈ p1, x.block < W.heap.size := by obtain ⟨m, hm⟩ := k1; exact DataW.trod_lt m _ _ _ hm
 obtain ⟨xA, zl1, xc, rfl⟩ := okWide_slice Tryz.underlying22 (hval 1 22 v1 rfl rfl)
 obtain ⟨zA1, xl, zc1, ze1, g1⟩ := (by obtain ⟨m, hm⟩ := h1; exact spans_openQ hm : ∃ zB zl zc, [Value.slice xA zl1 xc] = [.slice zB (List.length zl) zc] ∧ zl.length ≤ maxLen ∧ RawV W (.slice zB zl.length zc) zl ∧ RawL W zl)
 obtain ⟨rfl, rfl, rfl⟩ : xA = zA1 ∧ zl1 = xl.length ∧ xc = zc1 := by simpa using ze1
 have k2 := h2
 have lt2 : ∀ x ∈ p2, x.block < W.heap.size := by obtain ⟨m, hm⟩ := k2; exact DataW.trod_lt m _ _ _ hm
 obtain ⟨⟨l2⟩, rfl, _⟩ := okWide_array Tryz.underlying28 (hval 2 28 v2 rfl rfl)
 obtain ⟨a, b, rfl, g2⟩ : ∃ a b : RV, l2 = [.bool a.n, .slice a.p a.l a.c, .bool a.m, .slice a.p2 a.l2 a.c2, .bool b.n, .slice b.p b.l b.c, .bool b.m, .slice b.p2 b.l2 b.c2] ∧ a.Raw W ∧ b.Raw W := by
  obtain ⟨m, hm⟩ := h2
  exact rat2_openQ hm
 clear hA0 hval0
 refine (walk yA yl yc xA xl xc a b W g0.2 g0.1 g1.2 g1.1 g2).mono fun e W' ⟨he, hx⟩ => ?_
 subst he
 have bel := hx.below
 exact ⟨_, rfl, _, _, _, [], _, [], hW', trodAll_mk1 (shut_bool Tryz.underlying4 _), (trodAll_cons_mk (Below.trod laidOut (by kernel_rfl) (of_decide_eq_true (by kernel_rfl)) k0 bel lt0) (trodAll_cons_mk (Below.trod laidOut (by kernel_rfl) (of_decide_eq_true (by kernel_rfl)) k1 bel lt1) (trodAll_cons_mk (Below.trod laidOut (by kernel_rfl) (of_decide_eq_true (by kernel_rfl)) k2 bel lt2) trodAll_mk0))), rfl, bel.frame _, fun h => by cases h⟩

theorem proved : Rows.ScanlineSetLengthsSaid :=
  OpenClaim.holds_of_wide 3 Tryz.f3 rfl rfl rfl rfl rfl rfl rfl ⟨rfl, rfl, rfl, rfl, rfl⟩ rfl rfl rfl rfl rfl (by kernel_rfl) Tryz.func3 (by kernel_rfl)
    (of_decide_eq_true (by kernel_rfl)) (by unfold Func.isWrapper; first | (rw [if_pos (by decide +kernel)]; kernel_rfl) | (rw [if_neg (by decide +kernel)]; exact ⟨rfl, rfl⟩))
    (fun os started H enc _ => lifted os started H enc)
#print axioms proved
end Go.Proofs.YtaeeeailoiioaabGreat.setlen
