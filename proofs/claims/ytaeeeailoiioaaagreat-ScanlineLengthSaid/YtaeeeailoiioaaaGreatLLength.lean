/- ScanlineLength. -/
import Derived.Test.YtaeeeailoiioaaaGreatM7
namespace Go.Proofs.YtaeeeailoiioaaaGreat.length
open Go.RowKit Go.ChangeShapes Go.WideShapes Go.ChangeAt
attribute [local go_sem ↓] Go.wp_at_zero Go.wp_at_succ run_max_ii run_min_ii
set_option maxRecDepth 20000 in
set_option maxHeartbeats 4000000 in
theorem walkF0 (A : Option Addr) (es : List (RV × RV)) (cap : Nat) (a b c : RV)  (w : World) (hs : ∀ W, Ext w W → Calls Tryz.prog 6 #[.slice A es.length cap] W fun e w' => e = .returned (.bool false) ∧ Ext W w')  :
  Calls Tryz.prog 4 #[.slice A es.length cap, .agg #[.bool a.n, .slice a.p a.l a.c, .bool a.m, .slice a.p2 a.l2 a.c2, .bool b.n, .slice b.p b.l b.c, .bool b.m, .slice b.p2 b.l2 b.c2, .bool c.n, .slice c.p c.l c.c, .bool c.m, .slice c.p2 c.l2 c.c2]] w fun e w' => e = .returned (.bool true) ∧ Ext w w' := by
 have HS := zH hs
 clear hs
 go_enter Tryz.func4, Tryz.ntmps4
 have H0 := zH (Hp.start w)
 go_upto_region 0 with fail
 refine wp_region_lit ?_
 refine mv_alloc (T := 35) (zs := [.bool a.n, .slice a.p a.l a.c, .bool a.m, .slice a.p2 a.l2 a.c2, .bool b.n, .slice b.p b.l b.c, .bool b.m, .slice b.p2 b.l2 b.c2, .bool c.n, .slice c.p c.l c.c, .bool c.m, .slice c.p2 c.l2 c.c2]) (by rfl) (by go_simp) H0.out (by simp [NoUL]) ?_
 intro X1 w2 hh hx hge
 have H3 := zH (show Hp w w2 [.blk X1 35 [.bool a.n, .slice a.p a.l a.c, .bool a.m, .slice a.p2 a.l2 a.c2, .bool b.n, .slice b.p b.l b.c, .bool b.m, .slice b.p2 b.l2 b.c2, .bool c.n, .slice c.p c.l c.c, .bool c.m, .slice c.p2 c.l2 c.c2]] from hh)
 clear hh hx hge
 try simp only [Act.put, zA, zB, zC]
 refine zq (.bool false) ?_
 go_upto_region 1 with fail
 refine wp_region_lit ?_
 refine qV (.slice A es.length cap) ?_
 refine zc (HS.out _ H3.out.ext) ?_
 rintro e w8 ⟨rfl, hx⟩
 have H9 := zH (H3.out.step hx)
 clear hx
 refine zn ?_
 refine qV (.bool true) ?_
 refine zq (.bool true) ?_
 refine zk ?_
 refine zk ?_
 refine zk ?_
 refine zk ?_
 refine qV (.bool true) ?_
 refine zq (.bool true) ?_
 refine zk ?_
 refine zk ?_
 refine zk ?_
 refine zk ?_
 refine qV (.bool true) ?_
 refine zq (.bool true) ?_
 refine zk ?_
 refine zk ?_
 refine zk ?_
 refine zk ?_
 refine zq (.bool true) ?_
 go_upto_region 2 with fail
 refine wp_region_lit ?_
 refine zc (example_any _) ?_
 rintro e w18 ⟨rfl, hx⟩
 have H19 := zH (H9.out.step hx)
 clear hx
 refine zn ?_
 refine zq (.bool true) ?_
 go_wp2_with fail
 go_ret
 exact ⟨rfl, H19.out.ext⟩
set_option maxRecDepth 20000 in
set_option maxHeartbeats 4000000 in
theorem walkF1 (A : Option Addr) (es : List (RV × RV)) (cap : Nat) (a b c : RV)  (w : World) (hs : ∀ W, Ext w W → Calls Tryz.prog 6 #[.slice A es.length cap] W fun e w' => e = .returned (.bool true) ∧ Ext W w') (ha : ∀ W, Ext w W → Calls Tryz.prog 11 #[.agg #[.bool a.n, .slice a.p a.l a.c, .bool a.m, .slice a.p2 a.l2 a.c2]] W fun e w' => e = .returned (.bool false) ∧ Ext W w')  :
  Calls Tryz.prog 4 #[.slice A es.length cap, .agg #[.bool a.n, .slice a.p a.l a.c, .bool a.m, .slice a.p2 a.l2 a.c2, .bool b.n, .slice b.p b.l b.c, .bool b.m, .slice b.p2 b.l2 b.c2, .bool c.n, .slice c.p c.l c.c, .bool c.m, .slice c.p2 c.l2 c.c2]] w fun e w' => e = .returned (.bool true) ∧ Ext w w' := by
 have HS := zH hs
 clear hs
 have HSa := zH ha
 clear ha
 go_enter Tryz.func4, Tryz.ntmps4
 have H0 := zH (Hp.start w)
 go_upto_region 0 with fail
 refine wp_region_lit ?_
 refine mv_alloc (T := 35) (zs := [.bool a.n, .slice a.p a.l a.c, .bool a.m, .slice a.p2 a.l2 a.c2, .bool b.n, .slice b.p b.l b.c, .bool b.m, .slice b.p2 b.l2 b.c2, .bool c.n, .slice c.p c.l c.c, .bool c.m, .slice c.p2 c.l2 c.c2]) (by rfl) (by go_simp) H0.out (by simp [NoUL]) ?_
 intro X22 w23 hh hx hge
 have H24 := zH (show Hp w w23 [.blk X22 35 [.bool a.n, .slice a.p a.l a.c, .bool a.m, .slice a.p2 a.l2 a.c2, .bool b.n, .slice b.p b.l b.c, .bool b.m, .slice b.p2 b.l2 b.c2, .bool c.n, .slice c.p c.l c.c, .bool c.m, .slice c.p2 c.l2 c.c2]] from hh)
 clear hh hx hge
 try simp only [Act.put, zA, zB, zC]
 refine zq (.bool false) ?_
 go_upto_region 1 with fail
 refine wp_region_lit ?_
 refine qV (.slice A es.length cap) ?_
 refine zc (HS.out _ H24.out.ext) ?_
 rintro e w29 ⟨rfl, hx⟩
 have H30 := zH (H24.out.step hx)
 clear hx
 refine zn ?_
 refine qV (.bool false) ?_
 refine zq (.bool false) ?_
 refine qV (.pointer (some ⟨X22, 0, none⟩)) ?_
 refine zd X22 (0) (rc a) (H30.out.range (i := 0) (by rfl) 0 4) Tryz.underlying29 ?_
 refine zc (HSa.out _ H30.out.ext) ?_
 rintro e w35 ⟨rfl, hx⟩
 have H36 := zH (H30.out.step hx)
 clear hx
 refine zn ?_
 refine qV (.bool true) ?_
 refine zq (.bool true) ?_
 refine zq (.bool true) ?_
 refine zk ?_
 refine zk ?_
 refine zk ?_
 refine zk ?_
 refine qV (.bool true) ?_
 refine zq (.bool true) ?_
 refine zk ?_
 refine zk ?_
 refine zk ?_
 refine zk ?_
 refine zq (.bool true) ?_
 go_upto_region 2 with fail
 refine wp_region_lit ?_
 refine zc (example_any _) ?_
 rintro e w44 ⟨rfl, hx⟩
 have H45 := zH (H36.out.step hx)
 clear hx
 refine zn ?_
 refine zq (.bool true) ?_
 go_wp2_with fail
 go_ret
 exact ⟨rfl, H45.out.ext⟩
set_option maxRecDepth 20000 in
set_option maxHeartbeats 4000000 in
theorem walkF2 (A : Option Addr) (es : List (RV × RV)) (cap : Nat) (a b c : RV)  (w : World) (hs : ∀ W, Ext w W → Calls Tryz.prog 6 #[.slice A es.length cap] W fun e w' => e = .returned (.bool true) ∧ Ext W w') (ha : ∀ W, Ext w W → Calls Tryz.prog 11 #[.agg #[.bool a.n, .slice a.p a.l a.c, .bool a.m, .slice a.p2 a.l2 a.c2]] W fun e w' => e = .returned (.bool true) ∧ Ext W w') (hb : ∀ W, Ext w W → Calls Tryz.prog 11 #[.agg #[.bool b.n, .slice b.p b.l b.c, .bool b.m, .slice b.p2 b.l2 b.c2]] W fun e w' => e = .returned (.bool false) ∧ Ext W w')  :
  Calls Tryz.prog 4 #[.slice A es.length cap, .agg #[.bool a.n, .slice a.p a.l a.c, .bool a.m, .slice a.p2 a.l2 a.c2, .bool b.n, .slice b.p b.l b.c, .bool b.m, .slice b.p2 b.l2 b.c2, .bool c.n, .slice c.p c.l c.c, .bool c.m, .slice c.p2 c.l2 c.c2]] w fun e w' => e = .returned (.bool true) ∧ Ext w w' := by
 have HS := zH hs
 clear hs
 have HSa := zH ha
 clear ha
 have HSb := zH hb
 clear hb
 go_enter Tryz.func4, Tryz.ntmps4
 have H0 := zH (Hp.start w)
 go_upto_region 0 with fail
 refine wp_region_lit ?_
 refine mv_alloc (T := 35) (zs := [.bool a.n, .slice a.p a.l a.c, .bool a.m, .slice a.p2 a.l2 a.c2, .bool b.n, .slice b.p b.l b.c, .bool b.m, .slice b.p2 b.l2 b.c2, .bool c.n, .slice c.p c.l c.c, .bool c.m, .slice c.p2 c.l2 c.c2]) (by rfl) (by go_simp) H0.out (by simp [NoUL]) ?_
 intro X48 w49 hh hx hge
 have H50 := zH (show Hp w w49 [.blk X48 35 [.bool a.n, .slice a.p a.l a.c, .bool a.m, .slice a.p2 a.l2 a.c2, .bool b.n, .slice b.p b.l b.c, .bool b.m, .slice b.p2 b.l2 b.c2, .bool c.n, .slice c.p c.l c.c, .bool c.m, .slice c.p2 c.l2 c.c2]] from hh)
 clear hh hx hge
 try simp only [Act.put, zA, zB, zC]
 refine zq (.bool false) ?_
 go_upto_region 1 with fail
 refine wp_region_lit ?_
 refine qV (.slice A es.length cap) ?_
 refine zc (HS.out _ H50.out.ext) ?_
 rintro e w55 ⟨rfl, hx⟩
 have H56 := zH (H50.out.step hx)
 clear hx
 refine zn ?_
 refine qV (.bool false) ?_
 refine zq (.bool false) ?_
 refine qV (.pointer (some ⟨X48, 0, none⟩)) ?_
 refine zd X48 (0) (rc a) (H56.out.range (i := 0) (by rfl) 0 4) Tryz.underlying29 ?_
 refine zc (HSa.out _ H56.out.ext) ?_
 rintro e w61 ⟨rfl, hx⟩
 have H62 := zH (H56.out.step hx)
 clear hx
 refine zn ?_
 refine qV (.bool false) ?_
 refine zq (.bool false) ?_
 refine qV (.bool false) ?_
 refine zq (.pointer (some ⟨X48, 4, none⟩)) ?_
 refine zd X48 (4) (rc b) (H62.out.range (i := 0) (by rfl) 4 4) Tryz.underlying29 ?_
 refine zc (HSb.out _ H62.out.ext) ?_
 rintro e w68 ⟨rfl, hx⟩
 have H69 := zH (H62.out.step hx)
 clear hx
 refine zn ?_
 refine qV (.bool true) ?_
 refine zq (.bool true) ?_
 refine zq (.bool true) ?_
 refine zk ?_
 refine zk ?_
 refine zk ?_
 refine zk ?_
 refine zq (.bool true) ?_
 go_upto_region 2 with fail
 refine wp_region_lit ?_
 refine zc (example_any _) ?_
 rintro e w75 ⟨rfl, hx⟩
 have H76 := zH (H69.out.step hx)
 clear hx
 refine zn ?_
 refine zq (.bool true) ?_
 go_wp2_with fail
 go_ret
 exact ⟨rfl, H76.out.ext⟩
set_option maxRecDepth 20000 in
set_option maxHeartbeats 4000000 in
theorem walkF3 (A : Option Addr) (es : List (RV × RV)) (cap : Nat) (a b c : RV)  (w : World) (hs : ∀ W, Ext w W → Calls Tryz.prog 6 #[.slice A es.length cap] W fun e w' => e = .returned (.bool true) ∧ Ext W w') (ha : ∀ W, Ext w W → Calls Tryz.prog 11 #[.agg #[.bool a.n, .slice a.p a.l a.c, .bool a.m, .slice a.p2 a.l2 a.c2]] W fun e w' => e = .returned (.bool true) ∧ Ext W w') (hb : ∀ W, Ext w W → Calls Tryz.prog 11 #[.agg #[.bool b.n, .slice b.p b.l b.c, .bool b.m, .slice b.p2 b.l2 b.c2]] W fun e w' => e = .returned (.bool true) ∧ Ext W w') (hc : ∀ W, Ext w W → Calls Tryz.prog 11 #[.agg #[.bool c.n, .slice c.p c.l c.c, .bool c.m, .slice c.p2 c.l2 c.c2]] W fun e w' => e = .returned (.bool false) ∧ Ext W w')  :
  Calls Tryz.prog 4 #[.slice A es.length cap, .agg #[.bool a.n, .slice a.p a.l a.c, .bool a.m, .slice a.p2 a.l2 a.c2, .bool b.n, .slice b.p b.l b.c, .bool b.m, .slice b.p2 b.l2 b.c2, .bool c.n, .slice c.p c.l c.c, .bool c.m, .slice c.p2 c.l2 c.c2]] w fun e w' => e = .returned (.bool true) ∧ Ext w w' := by
 have HS := zH hs
 clear hs
 have HSa := zH ha
 clear ha
 have HSb := zH hb
 clear hb
 have HSc := zH hc
 clear hc
 go_enter Tryz.func4, Tryz.ntmps4
 have H0 := zH (Hp.start w)
 go_upto_region 0 with fail
 refine wp_region_lit ?_
 refine mv_alloc (T := 35) (zs := [.bool a.n, .slice a.p a.l a.c, .bool a.m, .slice a.p2 a.l2 a.c2, .bool b.n, .slice b.p b.l b.c, .bool b.m, .slice b.p2 b.l2 b.c2, .bool c.n, .slice c.p c.l c.c, .bool c.m, .slice c.p2 c.l2 c.c2]) (by rfl) (by go_simp) H0.out (by simp [NoUL]) ?_
 intro X79 w80 hh hx hge
 have H81 := zH (show Hp w w80 [.blk X79 35 [.bool a.n, .slice a.p a.l a.c, .bool a.m, .slice a.p2 a.l2 a.c2, .bool b.n, .slice b.p b.l b.c, .bool b.m, .slice b.p2 b.l2 b.c2, .bool c.n, .slice c.p c.l c.c, .bool c.m, .slice c.p2 c.l2 c.c2]] from hh)
 clear hh hx hge
 try simp only [Act.put, zA, zB, zC]
 refine zq (.bool false) ?_
 go_upto_region 1 with fail
 refine wp_region_lit ?_
 refine qV (.slice A es.length cap) ?_
 refine zc (HS.out _ H81.out.ext) ?_
 rintro e w86 ⟨rfl, hx⟩
 have H87 := zH (H81.out.step hx)
 clear hx
 refine zn ?_
 refine qV (.bool false) ?_
 refine zq (.bool false) ?_
 refine qV (.pointer (some ⟨X79, 0, none⟩)) ?_
 refine zd X79 (0) (rc a) (H87.out.range (i := 0) (by rfl) 0 4) Tryz.underlying29 ?_
 refine zc (HSa.out _ H87.out.ext) ?_
 rintro e w92 ⟨rfl, hx⟩
 have H93 := zH (H87.out.step hx)
 clear hx
 refine zn ?_
 refine qV (.bool false) ?_
 refine zq (.bool false) ?_
 refine qV (.bool false) ?_
 refine zq (.pointer (some ⟨X79, 4, none⟩)) ?_
 refine zd X79 (4) (rc b) (H93.out.range (i := 0) (by rfl) 4 4) Tryz.underlying29 ?_
 refine zc (HSb.out _ H93.out.ext) ?_
 rintro e w99 ⟨rfl, hx⟩
 have H100 := zH (H93.out.step hx)
 clear hx
 refine zn ?_
 refine qV (.bool false) ?_
 refine zq (.bool false) ?_
 refine qV (.bool false) ?_
 refine zq (.pointer (some ⟨X79, 8, none⟩)) ?_
 refine zd X79 (8) (rc c) (H100.out.range (i := 0) (by rfl) 8 4) Tryz.underlying29 ?_
 refine zc (HSc.out _ H100.out.ext) ?_
 rintro e w106 ⟨rfl, hx⟩
 have H107 := zH (H100.out.step hx)
 clear hx
 refine zn ?_
 refine qV (.bool true) ?_
 refine zq (.bool true) ?_
 go_upto_region 2 with fail
 refine wp_region_lit ?_
 refine zc (example_any _) ?_
 rintro e w111 ⟨rfl, hx⟩
 have H112 := zH (H107.out.step hx)
 clear hx
 refine zn ?_
 refine zq (.bool true) ?_
 go_wp2_with fail
 go_ret
 exact ⟨rfl, H112.out.ext⟩
def BO (i : Nat) (p q r : Rat) : Prop := (1 ≤ i → p ≤ r ∧ q ≤ r) ∧ (2 ≤ i → p ≤ q)
def BS (i k : Nat) (p q r : Rat) : Prop := (k = 1 → p ≤ q) ∧ (2 ≤ k → p ≤ r ∧ q ≤ r) ∧ (1 ≤ i → p ≤ r ∧ q ≤ r) ∧ (1 ≤ i ∧ 1 ≤ k → p ≤ q)
set_option maxRecDepth 20000 in
set_option maxHeartbeats 4000000 in
theorem walkT (A : Option Addr) (es : List (RV × RV)) (cap : Nat) (a b c : RV) (ps : List QQ) (p q r : Rat) (w : World) (hs : ∀ W, Ext w W → Calls Tryz.prog 6 #[.slice A es.length cap] W fun e w' => e = .returned (.bool true) ∧ Ext W w') (ha : ∀ W, Ext w W → Calls Tryz.prog 11 #[.agg #[.bool a.n, .slice a.p a.l a.c, .bool a.m, .slice a.p2 a.l2 a.c2]] W fun e w' => e = .returned (.bool true) ∧ Ext W w') (hb : ∀ W, Ext w W → Calls Tryz.prog 11 #[.agg #[.bool b.n, .slice b.p b.l b.c, .bool b.m, .slice b.p2 b.l2 b.c2]] W fun e w' => e = .returned (.bool true) ∧ Ext W w') (hc : ∀ W, Ext w W → Calls Tryz.prog 11 #[.agg #[.bool c.n, .slice c.p c.l c.c, .bool c.m, .slice c.p2 c.l2 c.c2]] W fun e w' => e = .returned (.bool true) ∧ Ext W w') (hu : SpansV 20 w (.slice A es.length cap) ps) (hp : a.In 20 w p) (hq : b.In 20 w q) (hr : c.In 20 w r) (hn : ps.length ≤ 60) :
  Calls Tryz.prog 4 #[.slice A es.length cap, .agg #[.bool a.n, .slice a.p a.l a.c, .bool a.m, .slice a.p2 a.l2 a.c2, .bool b.n, .slice b.p b.l b.c, .bool b.m, .slice b.p2 b.l2 b.c2, .bool c.n, .slice c.p c.l c.c, .bool c.m, .slice c.p2 c.l2 c.c2]] w fun e w' => e = .returned (.bool true) ∧ Ext w w' := by
 have HS := zH hs
 clear hs
 have HSa := zH ha
 clear ha
 have HSb := zH hb
 clear hb
 have HSc := zH hc
 clear hc
 have HU := zH hu
 have HP := zH hp
 have HQ := zH hq
 have HR := zH hr
 have HN := zH hn
 clear hu hp hq hr hn
 go_enter Tryz.func4, Tryz.ntmps4
 have H0 := zH (Hp.start w)
 go_upto_region 0 with fail
 refine wp_region_lit ?_
 refine mv_alloc (T := 35) (zs := [.bool a.n, .slice a.p a.l a.c, .bool a.m, .slice a.p2 a.l2 a.c2, .bool b.n, .slice b.p b.l b.c, .bool b.m, .slice b.p2 b.l2 b.c2, .bool c.n, .slice c.p c.l c.c, .bool c.m, .slice c.p2 c.l2 c.c2]) (by rfl) (by go_simp) H0.out (by simp [NoUL]) ?_
 intro X115 w116 hh hx hge
 have H117 := zH (show Hp w w116 [.blk X115 35 [.bool a.n, .slice a.p a.l a.c, .bool a.m, .slice a.p2 a.l2 a.c2, .bool b.n, .slice b.p b.l b.c, .bool b.m, .slice b.p2 b.l2 b.c2, .bool c.n, .slice c.p c.l c.c, .bool c.m, .slice c.p2 c.l2 c.c2]] from hh)
 clear hh hx hge
 try simp only [Act.put, zA, zB, zC]
 refine zq (.bool false) ?_
 go_upto_region 1 with fail
 refine wp_region_lit ?_
 refine qV (.slice A es.length cap) ?_
 refine zc (HS.out _ H117.out.ext) ?_
 rintro e w122 ⟨rfl, hx⟩
 have H123 := zH (H117.out.step hx)
 clear hx
 refine zn ?_
 refine qV (.bool false) ?_
 refine zq (.bool false) ?_
 refine qV (.pointer (some ⟨X115, 0, none⟩)) ?_
 refine zd X115 (0) (rc a) (H123.out.range (i := 0) (by rfl) 0 4) Tryz.underlying29 ?_
 refine zc (HSa.out _ H123.out.ext) ?_
 rintro e w128 ⟨rfl, hx⟩
 have H129 := zH (H123.out.step hx)
 clear hx
 refine zn ?_
 refine qV (.bool false) ?_
 refine zq (.bool false) ?_
 refine qV (.bool false) ?_
 refine zq (.pointer (some ⟨X115, 4, none⟩)) ?_
 refine zd X115 (4) (rc b) (H129.out.range (i := 0) (by rfl) 4 4) Tryz.underlying29 ?_
 refine zc (HSb.out _ H129.out.ext) ?_
 rintro e w135 ⟨rfl, hx⟩
 have H136 := zH (H129.out.step hx)
 clear hx
 refine zn ?_
 refine qV (.bool false) ?_
 refine zq (.bool false) ?_
 refine qV (.bool false) ?_
 refine zq (.pointer (some ⟨X115, 8, none⟩)) ?_
 refine zd X115 (8) (rc c) (H136.out.range (i := 0) (by rfl) 8 4) Tryz.underlying29 ?_
 refine zc (HSc.out _ H136.out.ext) ?_
 rintro e w142 ⟨rfl, hx⟩
 have H143 := zH (H136.out.step hx)
 clear hx
 refine zn ?_
 refine qV (.bool false) ?_
 refine zq (.bool false) ?_
 go_upto_region 3 with fail
 refine wp_region_lit ?_
 refine zq (.int .i64 0) ?_
 go_wp2_with fail
 go_loopg [5] (2) (fun cq v148 wr => ∃ (i : Nat) (zi : Int) (a1 : RV) (b1 : RV) (c1 : RV) (p1 : Rat) (q1 : Rat) (r1 : Rat), cq = 2 - i ∧ v148 = .int .i64 zi ∧ (i ≤ 2) ∧ (a1.In 20 w p1) ∧ (b1.In 20 w q1) ∧ (c1.In 20 w r1) ∧ (zi = (i : Int)) ∧ (BO i p1 q1 r1) ∧ Hp w wr [.blk X115 35 [.bool a1.n, .slice a1.p a1.l a1.c, .bool a1.m, .slice a1.p2 a1.l2 a1.c2, .bool b1.n, .slice b1.p b1.l b1.c, .bool b1.m, .slice b1.p2 b1.l2 b1.c2, .bool c1.n, .slice c1.p c1.l c1.c, .bool c1.m, .slice c1.p2 c1.l2 c1.c2]] ∧ Dig w142 wr)
 case atStart => exact ⟨0, 0, a, b, c, p, q, r, rfl, rfl, (by decide), HP.out, HQ.out, HR.out, rfl, (by unfold BO; grind), H143.out, Dig.refl _⟩
 case round =>
  obtain ⟨i, zi, a1, b1, c1, p1, q1, r1, rfl, rfl, q_HKI, q_HP1, q_HQ1, q_HR1, q_HZI, q_HSO, hh_, hd_⟩ := hrel
  generalize wr = w149 at *
  have HKI := zH q_HKI
  clear q_HKI
  have HP1 := zH q_HP1
  clear q_HP1
  have HQ1 := zH q_HQ1
  clear q_HQ1
  have HR1 := zH q_HR1
  clear q_HR1
  have HZI := zH q_HZI
  clear q_HZI
  have HSO := zH q_HSO
  clear q_HSO
  have H151 := zH hh_
  have D151 := zH hd_
  clear hh_ hd_ H143
  by_cases c152 : i < 2
  ·have HLT := zH c152
   clear c152
   go_upto_region 4 with fail
   refine wp_region_lit ?_
   refine zq (.int .i64 zi) ?_
   refine zp (w' := w149) (.bool true) (by exact ezl (e := (dec_t (by have ob0 := HLT.out; have ob1 := HZI.out; omega)))) ?_
   go_upto_region 6 with fail
   refine wp_region_lit ?_
   refine zq (.int .i64 0) ?_
   go_wp2_with fail
   go_loopg [6] (2) (fun cq v156 wr => ∃ (k : Nat) (zk : Int) (a2 : RV) (b2 : RV) (c2 : RV) (p2 : Rat) (q2 : Rat) (r2 : Rat), cq = 2 - k ∧ v156 = .int .i64 zk ∧ (k ≤ 2) ∧ (a2.In 20 w p2) ∧ (b2.In 20 w q2) ∧ (c2.In 20 w r2) ∧ (zk = (k : Int)) ∧ (BS i k p2 q2 r2) ∧ Hp w wr [.blk X115 35 [.bool a2.n, .slice a2.p a2.l a2.c, .bool a2.m, .slice a2.p2 a2.l2 a2.c2, .bool b2.n, .slice b2.p b2.l b2.c, .bool b2.m, .slice b2.p2 b2.l2 b2.c2, .bool c2.n, .slice c2.p c2.l c2.c, .bool c2.m, .slice c2.p2 c2.l2 c2.c2]] ∧ Dig w149 wr)
   case atStart => exact ⟨0, 0, a1, b1, c1, p1, q1, r1, rfl, rfl, (by decide), HP1.out, HQ1.out, HR1.out, rfl, (by have h := HSO.out; unfold BO at h; unfold BS; grind), H151.out, Dig.refl _⟩
   case round =>
    obtain ⟨k, zk, a2, b2, c2, p2, q2, r2, rfl, rfl, q_HK, q_HP2, q_HQ2, q_HR2, q_HZK, q_HSI, hh_, hd_⟩ := hrel
    generalize wr = w157 at *
    have HK := zH q_HK
    clear q_HK
    have HP2 := zH q_HP2
    clear q_HP2
    have HQ2 := zH q_HQ2
    clear q_HQ2
    have HR2 := zH q_HR2
    clear q_HR2
    have HZK := zH q_HZK
    clear q_HZK
    have HSI := zH q_HSI
    clear q_HSI
    have H159 := zH hh_
    have D159 := zH hd_
    clear hh_ hd_ H151
    by_cases c160 : k < 2
    ·have HLT2 := zH c160
     clear c160
     by_cases c161 : k = 0
     ·have HK0 := zH c161
      clear c161
      obtain rfl : k = 0 := HK0.out
      obtain rfl : zk = 0 := by have h := HZK.out; omega
      go_upto_region 7 with fail
      refine wp_region_lit ?_
      refine zq (.int .i64 0) ?_
      refine zp (w' := w157) (.bool true) (by exact ezl (e := (dec_t (by have ob0 := HLT.out; have ob1 := HZI.out; omega)))) ?_
      by_cases c164 : q2 < p2
      ·have C := zH c164
       clear c164
       go_upto_region 9 with fail
       refine zy ?_
       have H165 := zH (H159.out.step (Ext.refl w157).drew)
       have D165 := zH (Dig.of_ext (w := w157) zb)
       refine zx 0 (bs 9 1) (.int .i64 0) zb ?_
       refine mX 1 (bs 9 3) (.pointer (some ⟨X115, 0, none⟩)) zb ?_
       refine zg 2 (bs 9 7) X115 (0) (rc a2) (H159.out.range (i := 0) (by rfl) 0 4) Tryz.underlying29 zb ?_
       refine zx 3 (bs 9 15) (.int .i64 0) zb ?_
       refine zu 4 (bs 9 31) (v := .int .i64 1) zb ?_ (hv := by intro w hSw; exact ez1 (by have ob0 := HLT.out; have ob1 := HZI.out; omega))
       refine mX 5 (bs 9 63) (.pointer (some ⟨X115, 4, none⟩)) zb ?_
       refine zg 6 (bs 9 127) X115 (4) (rc b2) (H159.out.range (i := 0) (by rfl) 4 4) Tryz.underlying29 zb ?_
       refine mC 7 (bs 9 255) (q03Cmp (L := 60000) (RV.In.nin (RV.In.mono (HP2.out.dig H165.out.dig0) (by omega))) (RV.In.nin (RV.In.mono (HQ2.out.dig H165.out.dig0) (by omega))) (by omega)) ?_
       rintro e w172 ⟨rfl, hx⟩
       have H173 := zH (H165.out.step hx)
       have D173 := zH (show Dig w157.drew w172 from Dig.of_ext hx)
       have S175 := zH (show Ext w157 w172 from zb.trans hx)
       clear hx
       refine zm S175.out ?_
       refine zu 8 (bs 9 511) (v := .bool true) S175.out ?_ (hv := by intro w hSw; exact ezg (e := (dec_t (rcmp_gt.2 C.out))))
       refine wpAnyH_done (by kernel_rfl) ?_ _
       go_upto_region 10 with fail
       refine wp_region_lit ?_
       refine qV (.int .i64 0) ?_
       refine zq (.pointer (some ⟨X115, 0, none⟩)) ?_
       refine zd X115 (0) (rc a2) (H173.out.range (i := 0) (by rfl) 0 4) Tryz.underlying29 ?_
       refine mv_alloc (T := 29) (zs := [.bool false, .slice none 0 0, .bool false, .slice none 0 0]) (by rfl) (by go_simp) H173.out (by simp [NoUL]) ?_
       intro X179 w180 hh hx hge
       have H181 := zH (show Hp w w180 [.blk X115 35 [.bool a2.n, .slice a2.p a2.l a2.c, .bool a2.m, .slice a2.p2 a2.l2 a2.c2, .bool b2.n, .slice b2.p b2.l b2.c, .bool b2.m, .slice b2.p2 b2.l2 b2.c2, .bool c2.n, .slice c2.p c2.l c2.c, .bool c2.m, .slice c2.p2 c2.l2 c2.c2], .blk X179 29 rz] from hh)
       have D181 := zH (Dig.of_ext hx)
       clear hh hx hge
       try simp only [Act.put, zA, zB, zC]
       refine mv_st (by rfl) _ _ _ (by rfl) H181.out (ix := 1) (by rfl) 0 [.bool a2.n, .slice a2.p a2.l a2.c, .bool a2.m, .slice a2.p2 a2.l2 a2.c2] (by rfl) (by rfl) (by simp) (by kernel_rfl) (by simp [Value.oneCell']) (by simp [NoUL]) ?_
       intro w184 hh hd ho
       have H185 := zH (show Hp w w184 [.blk X115 35 [.bool a2.n, .slice a2.p a2.l a2.c, .bool a2.m, .slice a2.p2 a2.l2 a2.c2, .bool b2.n, .slice b2.p b2.l b2.c, .bool b2.m, .slice b2.p2 b2.l2 b2.c2, .bool c2.n, .slice c2.p c2.l c2.c, .bool c2.m, .slice c2.p2 c2.l2 c2.c2], .blk X179 29 (rc a2)] from hh)
       have D185 := zH (hd)
       clear hh hd ho
       (try simp only [Act.put])
       go_upto_region 11 with fail
       refine wp_region_lit ?_
       refine qV (.int .i64 0) ?_
       refine zq (.int .i64 0) ?_
       refine zp (w' := w184) (.int .i64 1) (by exact ez1 (by have ob0 := HLT.out; have ob1 := HZI.out; omega)) ?_
       refine qV (.pointer (some ⟨X115, 4, none⟩)) ?_
       refine zd X115 (4) (rc b2) (H185.out.range (i := 0) (by rfl) 4 4) Tryz.underlying29 ?_
       refine zq (.pointer (some ⟨X115, 0, none⟩)) ?_
       refine mv_st (by rfl) _ _ _ (by rfl) H185.out (ix := 0) (by rfl) 0 [.bool b2.n, .slice b2.p b2.l b2.c, .bool b2.m, .slice b2.p2 b2.l2 b2.c2] (by rfl) (by rfl) (by simp) (by kernel_rfl) (by simp [Value.oneCell']) (by simp [NoUL]) ?_
       intro w192 hh hd ho
       have H193 := zH (show Hp w w192 [.blk X115 35 [.bool b2.n, .slice b2.p b2.l b2.c, .bool b2.m, .slice b2.p2 b2.l2 b2.c2, .bool b2.n, .slice b2.p b2.l b2.c, .bool b2.m, .slice b2.p2 b2.l2 b2.c2, .bool c2.n, .slice c2.p c2.l c2.c, .bool c2.m, .slice c2.p2 c2.l2 c2.c2], .blk X179 29 (rc a2)] from hh)
       have D193 := zH (hd)
       clear hh hd ho
       (try simp only [Act.put])
       go_upto_region 12 with fail
       refine wp_region_lit ?_
       refine zq (.int .i64 0) ?_
       refine zp (w' := w192) (.int .i64 1) (by exact ez1 (by have ob0 := HLT.out; have ob1 := HZI.out; omega)) ?_
       refine zd X179 (0) (rc a2) (H193.out.range (i := 1) (by rfl) 0 4) Tryz.underlying29 ?_
       refine zq (.pointer (some ⟨X115, 4, none⟩)) ?_
       refine mv_st (by rfl) _ _ _ (by rfl) H193.out (ix := 0) (by rfl) 4 [.bool a2.n, .slice a2.p a2.l a2.c, .bool a2.m, .slice a2.p2 a2.l2 a2.c2] (by rfl) (by rfl) (by simp) (by kernel_rfl) (by simp [Value.oneCell']) (by simp [NoUL]) ?_
       intro w198 hh hd ho
       have H199 := zH (show Hp w w198 [.blk X115 35 [.bool b2.n, .slice b2.p b2.l b2.c, .bool b2.m, .slice b2.p2 b2.l2 b2.c2, .bool a2.n, .slice a2.p a2.l a2.c, .bool a2.m, .slice a2.p2 a2.l2 a2.c2, .bool c2.n, .slice c2.p c2.l c2.c, .bool c2.m, .slice c2.p2 c2.l2 c2.c2], .blk X179 29 (rc a2)] from hh)
       have D199 := zH (hd)
       clear hh hd ho
       (try simp only [Act.put])
       go_upto_region 8 with fail
       refine wp_region_lit ?_
       refine zq (.int .i64 0) ?_
       refine zp (w' := w198) (.int .i64 1) (by exact ez1 (by have ob0 := HLT.out; have ob1 := HZI.out; omega)) ?_
       refine zq (.int .i64 1) ?_
       have DD204 := zH (((((((D159.out.trans D165.out).trans D173.out).trans D181.out).trans D185.out).trans D193.out).trans D199.out))
       go_wp2_with fail
       go_roundg (2 - (1))
       case measure => exact (by have ob0 := HLT.out; have ob1 := HZI.out; have ob2 := (show 0 < 2 by decide); omega)
       case rel => exact ⟨1, 1, b2, a2, c2, q2, p2, r2, rfl, rfl, (by decide), HQ2.out, HP2.out, HR2.out, (by decide), (by have h := HSI.out; have h2 := C.out; unfold BS at *; grind), H199.out.take 1, DD204.out⟩
      have C := zH c164
      clear c164
      go_upto_region 9 with fail
      refine zy ?_
      have H205 := zH (H159.out.step (Ext.refl w157).drew)
      have D205 := zH (Dig.of_ext (w := w157) zb)
      refine zx 0 (bs 9 1) (.int .i64 0) zb ?_
      refine mX 1 (bs 9 3) (.pointer (some ⟨X115, 0, none⟩)) zb ?_
      refine zg 2 (bs 9 7) X115 (0) (rc a2) (H159.out.range (i := 0) (by rfl) 0 4) Tryz.underlying29 zb ?_
      refine zx 3 (bs 9 15) (.int .i64 0) zb ?_
      refine zu 4 (bs 9 31) (v := .int .i64 1) zb ?_ (hv := by intro w hSw; exact ez1 (by have ob0 := HLT.out; have ob1 := HZI.out; omega))
      refine mX 5 (bs 9 63) (.pointer (some ⟨X115, 4, none⟩)) zb ?_
      refine zg 6 (bs 9 127) X115 (4) (rc b2) (H159.out.range (i := 0) (by rfl) 4 4) Tryz.underlying29 zb ?_
      refine mC 7 (bs 9 255) (q03Cmp (L := 60000) (RV.In.nin (RV.In.mono (HP2.out.dig H205.out.dig0) (by omega))) (RV.In.nin (RV.In.mono (HQ2.out.dig H205.out.dig0) (by omega))) (by omega)) ?_
      rintro e w212 ⟨rfl, hx⟩
      have H213 := zH (H205.out.step hx)
      have D213 := zH (show Dig w157.drew w212 from Dig.of_ext hx)
      have S215 := zH (show Ext w157 w212 from zb.trans hx)
      clear hx
      refine zm S215.out ?_
      refine zu 8 (bs 9 511) (v := .bool false) S215.out ?_ (hv := by intro w hSw; exact ezg (e := (dec_f (fun hh => C.out (rcmp_gt.1 hh)))))
      refine wpAnyH_done (by kernel_rfl) ?_ _
      go_upto_region 8 with fail
      refine wp_region_lit ?_
      refine zq (.int .i64 0) ?_
      refine zp (w' := w212) (.int .i64 1) (by exact ez1 (by have ob0 := HLT.out; have ob1 := HZI.out; omega)) ?_
      refine zq (.int .i64 1) ?_
      have DD220 := zH (((D159.out.trans D205.out).trans D213.out))
      go_wp2_with fail
      go_roundg (2 - (1))
      case measure => exact (by have ob0 := HLT.out; have ob1 := HZI.out; have ob2 := (show 0 < 2 by decide); omega)
      case rel => exact ⟨1, 1, a2, b2, c2, p2, q2, r2, rfl, rfl, (by decide), HP2.out, HQ2.out, HR2.out, (by decide), (by have h := HSI.out; have h2 := C.out; unfold BS at *; grind), H213.out, DD220.out⟩
     have HK0 := zH c161
     clear c161
     obtain rfl : k = 1 := by have h := HK0.out; have h2 := HLT2.out; omega
     obtain rfl : zk = 1 := by have h := HZK.out; omega
     go_upto_region 7 with fail
     refine wp_region_lit ?_
     refine zq (.int .i64 1) ?_
     refine zp (w' := w157) (.bool true) (by exact ezl (e := (dec_t (by have ob0 := HLT.out; have ob1 := HZI.out; omega)))) ?_
     by_cases c223 : r2 < q2
     ·have C := zH c223
      clear c223
      go_upto_region 9 with fail
      refine zy ?_
      have H224 := zH (H159.out.step (Ext.refl w157).drew)
      have D224 := zH (Dig.of_ext (w := w157) zb)
      refine zx 0 (bs 9 1) (.int .i64 1) zb ?_
      refine mX 1 (bs 9 3) (.pointer (some ⟨X115, 4, none⟩)) zb ?_
      refine zg 2 (bs 9 7) X115 (4) (rc b2) (H159.out.range (i := 0) (by rfl) 4 4) Tryz.underlying29 zb ?_
      refine zx 3 (bs 9 15) (.int .i64 1) zb ?_
      refine zu 4 (bs 9 31) (v := .int .i64 2) zb ?_ (hv := by intro w hSw; exact ez1 (by have ob0 := HLT.out; have ob1 := HZI.out; omega))
      refine mX 5 (bs 9 63) (.pointer (some ⟨X115, 8, none⟩)) zb ?_
      refine zg 6 (bs 9 127) X115 (8) (rc c2) (H159.out.range (i := 0) (by rfl) 8 4) Tryz.underlying29 zb ?_
      refine mC 7 (bs 9 255) (q03Cmp (L := 60000) (RV.In.nin (RV.In.mono (HQ2.out.dig H224.out.dig0) (by omega))) (RV.In.nin (RV.In.mono (HR2.out.dig H224.out.dig0) (by omega))) (by omega)) ?_
      rintro e w231 ⟨rfl, hx⟩
      have H232 := zH (H224.out.step hx)
      have D232 := zH (show Dig w157.drew w231 from Dig.of_ext hx)
      have S234 := zH (show Ext w157 w231 from zb.trans hx)
      clear hx
      refine zm S234.out ?_
      refine zu 8 (bs 9 511) (v := .bool true) S234.out ?_ (hv := by intro w hSw; exact ezg (e := (dec_t (rcmp_gt.2 C.out))))
      refine wpAnyH_done (by kernel_rfl) ?_ _
      go_upto_region 10 with fail
      refine wp_region_lit ?_
      refine qV (.int .i64 1) ?_
      refine zq (.pointer (some ⟨X115, 4, none⟩)) ?_
      refine zd X115 (4) (rc b2) (H232.out.range (i := 0) (by rfl) 4 4) Tryz.underlying29 ?_
      refine mv_alloc (T := 29) (zs := [.bool false, .slice none 0 0, .bool false, .slice none 0 0]) (by rfl) (by go_simp) H232.out (by simp [NoUL]) ?_
      intro X238 w239 hh hx hge
      have H240 := zH (show Hp w w239 [.blk X115 35 [.bool a2.n, .slice a2.p a2.l a2.c, .bool a2.m, .slice a2.p2 a2.l2 a2.c2, .bool b2.n, .slice b2.p b2.l b2.c, .bool b2.m, .slice b2.p2 b2.l2 b2.c2, .bool c2.n, .slice c2.p c2.l c2.c, .bool c2.m, .slice c2.p2 c2.l2 c2.c2], .blk X238 29 rz] from hh)
      have D240 := zH (Dig.of_ext hx)
      clear hh hx hge
      try simp only [Act.put, zA, zB, zC]
      refine mv_st (by rfl) _ _ _ (by rfl) H240.out (ix := 1) (by rfl) 0 [.bool b2.n, .slice b2.p b2.l b2.c, .bool b2.m, .slice b2.p2 b2.l2 b2.c2] (by rfl) (by rfl) (by simp) (by kernel_rfl) (by simp [Value.oneCell']) (by simp [NoUL]) ?_
      intro w243 hh hd ho
      have H244 := zH (show Hp w w243 [.blk X115 35 [.bool a2.n, .slice a2.p a2.l a2.c, .bool a2.m, .slice a2.p2 a2.l2 a2.c2, .bool b2.n, .slice b2.p b2.l b2.c, .bool b2.m, .slice b2.p2 b2.l2 b2.c2, .bool c2.n, .slice c2.p c2.l c2.c, .bool c2.m, .slice c2.p2 c2.l2 c2.c2], .blk X238 29 (rc b2)] from hh)
      have D244 := zH (hd)
      clear hh hd ho
      (try simp only [Act.put])
      go_upto_region 11 with fail
      refine wp_region_lit ?_
      refine qV (.int .i64 1) ?_
      refine zq (.int .i64 1) ?_
      refine zp (w' := w243) (.int .i64 2) (by exact ez1 (by have ob0 := HLT.out; have ob1 := HZI.out; omega)) ?_
      refine qV (.pointer (some ⟨X115, 8, none⟩)) ?_
      refine zd X115 (8) (rc c2) (H244.out.range (i := 0) (by rfl) 8 4) Tryz.underlying29 ?_
      refine zq (.pointer (some ⟨X115, 4, none⟩)) ?_
      refine mv_st (by rfl) _ _ _ (by rfl) H244.out (ix := 0) (by rfl) 4 [.bool c2.n, .slice c2.p c2.l c2.c, .bool c2.m, .slice c2.p2 c2.l2 c2.c2] (by rfl) (by rfl) (by simp) (by kernel_rfl) (by simp [Value.oneCell']) (by simp [NoUL]) ?_
      intro w251 hh hd ho
      have H252 := zH (show Hp w w251 [.blk X115 35 [.bool a2.n, .slice a2.p a2.l a2.c, .bool a2.m, .slice a2.p2 a2.l2 a2.c2, .bool c2.n, .slice c2.p c2.l c2.c, .bool c2.m, .slice c2.p2 c2.l2 c2.c2, .bool c2.n, .slice c2.p c2.l c2.c, .bool c2.m, .slice c2.p2 c2.l2 c2.c2], .blk X238 29 (rc b2)] from hh)
      have D252 := zH (hd)
      clear hh hd ho
      (try simp only [Act.put])
      go_upto_region 12 with fail
      refine wp_region_lit ?_
      refine zq (.int .i64 1) ?_
      refine zp (w' := w251) (.int .i64 2) (by exact ez1 (by have ob0 := HLT.out; have ob1 := HZI.out; omega)) ?_
      refine zd X238 (0) (rc b2) (H252.out.range (i := 1) (by rfl) 0 4) Tryz.underlying29 ?_
      refine zq (.pointer (some ⟨X115, 8, none⟩)) ?_
      refine mv_st (by rfl) _ _ _ (by rfl) H252.out (ix := 0) (by rfl) 8 [.bool b2.n, .slice b2.p b2.l b2.c, .bool b2.m, .slice b2.p2 b2.l2 b2.c2] (by rfl) (by rfl) (by simp) (by kernel_rfl) (by simp [Value.oneCell']) (by simp [NoUL]) ?_
      intro w257 hh hd ho
      have H258 := zH (show Hp w w257 [.blk X115 35 [.bool a2.n, .slice a2.p a2.l a2.c, .bool a2.m, .slice a2.p2 a2.l2 a2.c2, .bool c2.n, .slice c2.p c2.l c2.c, .bool c2.m, .slice c2.p2 c2.l2 c2.c2, .bool b2.n, .slice b2.p b2.l b2.c, .bool b2.m, .slice b2.p2 b2.l2 b2.c2], .blk X238 29 (rc b2)] from hh)
      have D258 := zH (hd)
      clear hh hd ho
      (try simp only [Act.put])
      go_upto_region 8 with fail
      refine wp_region_lit ?_
      refine zq (.int .i64 1) ?_
      refine zp (w' := w257) (.int .i64 2) (by exact ez1 (by have ob0 := HLT.out; have ob1 := HZI.out; omega)) ?_
      refine zq (.int .i64 2) ?_
      have DD263 := zH (((((((D159.out.trans D224.out).trans D232.out).trans D240.out).trans D244.out).trans D252.out).trans D258.out))
      go_wp2_with fail
      go_roundg (2 - (2))
      case measure => exact (by have ob0 := HLT.out; have ob1 := HZI.out; have ob2 := (show 1 < 2 by decide); omega)
      case rel => exact ⟨2, 2, a2, c2, b2, p2, r2, q2, rfl, rfl, (by decide), HP2.out, HR2.out, HQ2.out, (by decide), (by have h := HSI.out; have h2 := C.out; unfold BS at *; grind), H258.out.take 1, DD263.out⟩
     have C := zH c223
     clear c223
     go_upto_region 9 with fail
     refine zy ?_
     have H264 := zH (H159.out.step (Ext.refl w157).drew)
     have D264 := zH (Dig.of_ext (w := w157) zb)
     refine zx 0 (bs 9 1) (.int .i64 1) zb ?_
     refine mX 1 (bs 9 3) (.pointer (some ⟨X115, 4, none⟩)) zb ?_
     refine zg 2 (bs 9 7) X115 (4) (rc b2) (H159.out.range (i := 0) (by rfl) 4 4) Tryz.underlying29 zb ?_
     refine zx 3 (bs 9 15) (.int .i64 1) zb ?_
     refine zu 4 (bs 9 31) (v := .int .i64 2) zb ?_ (hv := by intro w hSw; exact ez1 (by have ob0 := HLT.out; have ob1 := HZI.out; omega))
     refine mX 5 (bs 9 63) (.pointer (some ⟨X115, 8, none⟩)) zb ?_
     refine zg 6 (bs 9 127) X115 (8) (rc c2) (H159.out.range (i := 0) (by rfl) 8 4) Tryz.underlying29 zb ?_
     refine mC 7 (bs 9 255) (q03Cmp (L := 60000) (RV.In.nin (RV.In.mono (HQ2.out.dig H264.out.dig0) (by omega))) (RV.In.nin (RV.In.mono (HR2.out.dig H264.out.dig0) (by omega))) (by omega)) ?_
     rintro e w271 ⟨rfl, hx⟩
     have H272 := zH (H264.out.step hx)
     have D272 := zH (show Dig w157.drew w271 from Dig.of_ext hx)
     have S274 := zH (show Ext w157 w271 from zb.trans hx)
     clear hx
     refine zm S274.out ?_
     refine zu 8 (bs 9 511) (v := .bool false) S274.out ?_ (hv := by intro w hSw; exact ezg (e := (dec_f (fun hh => C.out (rcmp_gt.1 hh)))))
     refine wpAnyH_done (by kernel_rfl) ?_ _
     go_upto_region 8 with fail
     refine wp_region_lit ?_
     refine zq (.int .i64 1) ?_
     refine zp (w' := w271) (.int .i64 2) (by exact ez1 (by have ob0 := HLT.out; have ob1 := HZI.out; omega)) ?_
     refine zq (.int .i64 2) ?_
     have DD279 := zH (((D159.out.trans D264.out).trans D272.out))
     go_wp2_with fail
     go_roundg (2 - (2))
     case measure => exact (by have ob0 := HLT.out; have ob1 := HZI.out; have ob2 := (show 1 < 2 by decide); omega)
     case rel => exact ⟨2, 2, a2, b2, c2, p2, q2, r2, rfl, rfl, (by decide), HP2.out, HQ2.out, HR2.out, (by decide), (by have h := HSI.out; have h2 := C.out; unfold BS at *; grind), H272.out, DD279.out⟩
    have HLT2 := zH c160
    clear c160
    have hlt2 := HLT2.out
    go_upto_region 7 with fail
    refine wp_region_lit ?_
    refine zq (.int .i64 zk) ?_
    refine zp (w' := w157) (.bool false) (by exact ezl (e := (dec_f (by have ob0 := HLT.out; have ob1 := HZI.out; have ob2 := HLT2.out; have ob3 := HZK.out; omega)))) ?_
    go_upto_region 5 with fail
    refine wp_region_lit ?_
    refine zq (.int .i64 zi) ?_
    refine zp (w' := w157) (.int .i64 (zi + 1)) (by exact ez1 (by have ob0 := HLT.out; have ob1 := HZI.out; have ob2 := HLT2.out; have ob3 := HZK.out; omega)) ?_
    refine zq (.int .i64 (zi + 1)) ?_
    have DD285 := zH ((D151.out.trans D159.out))
    go_wp2_with fail
    go_roundg (2 - (i + 1))
    case measure => exact (by have ob0 := HLT.out; have ob1 := HZI.out; have ob2 := HLT2.out; have ob3 := HZK.out; have ob4 := HLT.out; omega)
    case rel => exact ⟨i + 1, zi + 1, a2, b2, c2, p2, q2, r2, rfl, rfl, (by have h := HLT.out; omega), HP2.out, HQ2.out, HR2.out, (by have h := HZI.out; omega), (by have h := HSI.out; have h2 := HLT2.out; have h3 := HK.out; unfold BS at h; unfold BO; grind), H159.out, DD285.out⟩
  have HLT := zH c152
  clear c152
  go_upto_region 4 with fail
  refine wp_region_lit ?_
  refine zq (.int .i64 zi) ?_
  refine zp (w' := w149) (.bool false) (by exact ezl (e := (dec_f (by have ob0 := HLT.out; have ob1 := HZI.out; omega)))) ?_
  obtain rfl : i = 2 := by have h := HLT.out; have h2 := HKI.out; omega
  obtain ⟨hpr, hqr, hpq⟩ : p1 ≤ r1 ∧ q1 ≤ r1 ∧ p1 ≤ q1 := by have h := HSO.out; unfold BO at h; grind
  have HO3 := zH (And.intro hpr (And.intro hqr hpq))
  clear hpr hqr hpq
  go_upto_region 13 with fail
  refine wp_region_lit ?_
  refine qV (.slice A es.length cap) ?_
  refine zq (.pointer (some ⟨X115, 0, none⟩)) ?_
  refine zd X115 (0) (rc a1) (H151.out.range (i := 0) (by rfl) 0 4) Tryz.underlying29 ?_
  refine qV (.pointer (some ⟨X115, 8, none⟩)) ?_
  refine zd X115 (8) (rc c1) (H151.out.range (i := 0) (by rfl) 8 4) Tryz.underlying29 ?_
  refine zc (length_any 20 (.slice A es.length cap) ps a1 c1 p1 r1 _ (HU.out.ext H151.out.ext) (HP1.out.dig H151.out.dig0) (HR1.out.dig H151.out.dig0) (by decide) (by decide) HN.out) ?_
  rintro e w291 ⟨r292, rfl, hr_, hb_, hx⟩
  have H293 := zH (H151.out.step hx)
  have R292 := zH hr_
  have B292 := zH hb_
  clear hr_ hb_
  clear hx
  refine zn ?_
  refine mv_alloc (T := 29) (zs := [.bool false, .slice none 0 0, .bool false, .slice none 0 0]) (by rfl) (by go_simp) H293.out (by simp [NoUL]) ?_
  intro X295 w296 hh hx hge
  have H297 := zH (show Hp w w296 [.blk X115 35 [.bool a1.n, .slice a1.p a1.l a1.c, .bool a1.m, .slice a1.p2 a1.l2 a1.c2, .bool b1.n, .slice b1.p b1.l b1.c, .bool b1.m, .slice b1.p2 b1.l2 b1.c2, .bool c1.n, .slice c1.p c1.l c1.c, .bool c1.m, .slice c1.p2 c1.l2 c1.c2], .blk X295 29 rz] from hh)
  have D297 := zH (Dig.of_ext hx)
  clear hh hx hge
  try simp only [Act.put, zA, zB, zC]
  refine mv_st (by rfl) _ _ _ (by rfl) H297.out (ix := 1) (by rfl) 0 [.bool r292.n, .slice r292.p r292.l r292.c, .bool r292.m, .slice r292.p2 r292.l2 r292.c2] (by rfl) (by rfl) (by simp) (by kernel_rfl) (by simp [Value.oneCell']) (by simp [NoUL]) ?_
  intro w300 hh hd ho
  have H301 := zH (show Hp w w300 [.blk X115 35 [.bool a1.n, .slice a1.p a1.l a1.c, .bool a1.m, .slice a1.p2 a1.l2 a1.c2, .bool b1.n, .slice b1.p b1.l b1.c, .bool b1.m, .slice b1.p2 b1.l2 b1.c2, .bool c1.n, .slice c1.p c1.l c1.c, .bool c1.m, .slice c1.p2 c1.l2 c1.c2], .blk X295 29 (rc r292)] from hh)
  have D301 := zH (hd)
  clear hh hd ho
  (try simp only [Act.put])
  go_upto_region 14 with fail
  refine zy ?_
  have H303 := zH (H301.out.step (Ext.refl w300).drew)
  have D303 := zH (Dig.of_ext (w := w300) zb)
  refine zx 0 (bs 16 1) (.slice A es.length cap) zb ?_
  refine mX 1 (bs 16 3) (.pointer (some ⟨X115, 0, none⟩)) zb ?_
  refine zg 2 (bs 16 7) X115 (0) (rc a1) (H301.out.range (i := 0) (by rfl) 0 4) Tryz.underlying29 zb ?_
  refine mX 3 (bs 16 15) (.pointer (some ⟨X115, 4, none⟩)) zb ?_
  refine zg 4 (bs 16 31) X115 (4) (rc b1) (H301.out.range (i := 0) (by rfl) 4 4) Tryz.underlying29 zb ?_
  refine zx 6 (bs 16 95) (.slice A es.length cap) zb ?_
  refine mX 7 (bs 16 223) (.pointer (some ⟨X115, 4, none⟩)) zb ?_
  refine zg 8 (bs 16 479) X115 (4) (rc b1) (H301.out.range (i := 0) (by rfl) 4 4) Tryz.underlying29 zb ?_
  refine mX 9 (bs 16 991) (.pointer (some ⟨X115, 8, none⟩)) zb ?_
  refine zg 10 (bs 16 2015) X115 (8) (rc c1) (H301.out.range (i := 0) (by rfl) 8 4) Tryz.underlying29 zb ?_
  refine tuple2 (f := 2) 5 11 12 13 74 80 9 10 29 z4 (fun v w => ∃ r : RV, v = .agg #[.bool r.n, .slice r.p r.l r.c, .bool r.m, .slice r.p2 r.l2 r.c2] ∧ r.Is w (lenV p1 q1 (mergeV ps)) ∧ Nm.rl (lenV p1 q1 (mergeV ps)) ≤ 60000) (fun v w => ∃ r : RV, v = .agg #[.bool r.n, .slice r.p r.l r.c, .bool r.m, .slice r.p2 r.l2 r.c2] ∧ r.Is w (lenV q1 r1 (mergeV ps)) ∧ Nm.rl (lenV q1 r1 (mergeV ps)) ≤ 60000) rfl rfl rfl rfl (by decide) (by decide) (by kernel_rfl) (fun _ hx => zb.trans hx) (fun _ _ _ h e => by obtain ⟨c, h1, h2, h3⟩ := h; exact ⟨c, h1, h2.ext e, h3⟩) (fun _ _ _ h e => by obtain ⟨c, h1, h2, h3⟩ := h; exact ⟨c, h1, h2.ext e, h3⟩) ?ht311c1 ?ht311c2 ?ht311c3 ?ht311c4 ?ht311e _ _ _ _ (by kernel_rfl) rfl
  case ht311c1 =>
   intro v1 v2 v3 v4 w1 K hxq hSw hK
   try simp only [Act.put, zA, zB, zC]
   rw [if_pos (by rfl)]
   refine wp_call_op (by go_simp) (length_any 20 (.slice A es.length cap) ps a1 b1 p1 q1 _ (HU.out.ext (H303.out.step hxq).ext) (HP1.out.dig (H303.out.dig0.trans (Dig.of_ext hxq))) (HQ1.out.dig (H303.out.dig0.trans (Dig.of_ext hxq))) (by decide) (by decide) HN.out) ?_
   rintro e w' ⟨r312, rfl, hr_, hb_, hx⟩
   refine ⟨_, rfl, ?_⟩
   have hk := hK.out _ _ ⟨r312, rfl, hr_, hb_⟩ hx
   try simp only [Act.put, zA, zB, zC]
   simp only [Act.put, zA, zB, zC] at hk
   exact hk
  case ht311c2 =>
   intro v1 v2 v3 v4 w1 K hxq hSw hK
   try simp only [Act.put, zA, zB, zC]
   rw [if_pos (by rfl)]
   refine wp_call_op (by go_simp) (length_any 20 (.slice A es.length cap) ps b1 c1 q1 r1 _ (HU.out.ext (H303.out.step hxq).ext) (HQ1.out.dig (H303.out.dig0.trans (Dig.of_ext hxq))) (HR1.out.dig (H303.out.dig0.trans (Dig.of_ext hxq))) (by decide) (by decide) HN.out) ?_
   rintro e w' ⟨r313, rfl, hr_, hb_, hx⟩
   refine ⟨_, rfl, ?_⟩
   have hk := hK.out _ _ ⟨r313, rfl, hr_, hb_⟩ hx
   try simp only [Act.put, zA, zB, zC]
   simp only [Act.put, zA, zB, zC] at hk
   exact hk
  case ht311c3 =>
   intro v1 v2 v3 v4 w1 K hxq hSw hK
   try simp only [Act.put, zA, zB, zC]
   go_simp
   have hk := hK.out
   simp only [Act.put, zA, zB, zC] at hk
   exact hk
  case ht311c4 =>
   intro v1 v2 v3 v4 w1 K hxq hSw hK
   try simp only [Act.put, zA, zB, zC]
   go_simp
   have hk := hK.out
   simp only [Act.put, zA, zB, zC] at hk
   exact hk
  case ht311e =>
  intro v1_ v2_ X314 Y315 w316 hx hSw xp1 xp2 xb1 xb2 xz1 xz2 n12
  have hh := H303.out.add2 hx xb1 xb2 xz1 xz2 n12 (by simp [NoUL]) (by simp [NoUL])
  have H317 := zH (show Hp w w316 [.blk X115 35 [.bool a1.n, .slice a1.p a1.l a1.c, .bool a1.m, .slice a1.p2 a1.l2 a1.c2, .bool b1.n, .slice b1.p b1.l b1.c, .bool b1.m, .slice b1.p2 b1.l2 b1.c2, .bool c1.n, .slice c1.p c1.l c1.c, .bool c1.m, .slice c1.p2 c1.l2 c1.c2], .blk X295 29 (rc r292), .blk X314 29 rz, .blk Y315 29 rz] from hh)
  have D317 := zH (show Dig w300.drew w316 from Dig.of_ext hx)
  have S319 := zH (show Ext w300 w316 from zb.trans hx)
  have G320 := zH (show w300.heap.size ≤ X314 from Nat.le_trans zb.size xz1)
  have G321 := zH (show w300.heap.size ≤ Y315 from Nat.le_trans zb.size xz2)
  obtain ⟨r312, rfl, hr_, hb_⟩ := xp1
  have R312 := zH hr_
  have B312 := zH hb_
  clear hr_ hb_
  obtain ⟨r313, rfl, hr_, hb_⟩ := xp2
  have R313 := zH hr_
  have B313 := zH hb_
  clear hr_ hb_
  clear hh hx hSw xb1 xb2 xz1 xz2 n12
  try simp only [Act.put, zA, zB, zC]
  refine md_st (i := 14) (listed' := (bs 16 32767)) (by rfl) (by kernel_rfl) (by rfl) (by kernel_rfl) _ _ _ (by rfl) H317.out (ix := 2) (by rfl) 0 [.bool r312.n, .slice r312.p r312.l r312.c, .bool r312.m, .slice r312.p2 r312.l2 r312.c2] (by rfl) (by rfl) (by simp) (by kernel_rfl) (by simp [Value.oneCell']) (by simp [NoUL]) ?_
  intro w322 hh hd ho
  have H323 := zH (show Hp w w322 [.blk X115 35 [.bool a1.n, .slice a1.p a1.l a1.c, .bool a1.m, .slice a1.p2 a1.l2 a1.c2, .bool b1.n, .slice b1.p b1.l b1.c, .bool b1.m, .slice b1.p2 b1.l2 b1.c2, .bool c1.n, .slice c1.p c1.l c1.c, .bool c1.m, .slice c1.p2 c1.l2 c1.c2], .blk X295 29 (rc r292), .blk X314 29 (rc r312), .blk Y315 29 rz] from hh)
  have D323 := zH (hd)
  have S325 := zH (show Ext w300 w322 from Own.ext ho S319.out G320.out)
  clear hh hd ho
  refine ⟨S325.out, ?_⟩
  (try simp only [Act.put])
  refine md_st (i := 15) (listed' := (bs 16 65535)) (by rfl) (by kernel_rfl) (by rfl) (by kernel_rfl) _ _ _ (by rfl) H323.out (ix := 3) (by rfl) 0 [.bool r313.n, .slice r313.p r313.l r313.c, .bool r313.m, .slice r313.p2 r313.l2 r313.c2] (by rfl) (by rfl) (by simp) (by kernel_rfl) (by simp [Value.oneCell']) (by simp [NoUL]) ?_
  intro w326 hh hd ho
  have H327 := zH (show Hp w w326 [.blk X115 35 [.bool a1.n, .slice a1.p a1.l a1.c, .bool a1.m, .slice a1.p2 a1.l2 a1.c2, .bool b1.n, .slice b1.p b1.l b1.c, .bool b1.m, .slice b1.p2 b1.l2 b1.c2, .bool c1.n, .slice c1.p c1.l c1.c, .bool c1.m, .slice c1.p2 c1.l2 c1.c2], .blk X295 29 (rc r292), .blk X314 29 (rc r312), .blk Y315 29 (rc r313)] from hh)
  have D327 := zH (hd)
  have S329 := zH (show Ext w300 w326 from Own.ext ho S325.out G321.out)
  clear hh hd ho
  refine ⟨S329.out, ?_⟩
  (try simp only [Act.put])
  refine wpAnyH_done (by kernel_rfl) ?_ _
  go_upto_region 15 with fail
  refine zy ?_
  have H330 := zH (H327.out.step (Ext.refl w326).drew)
  have D330 := zH (Dig.of_ext (w := w326) zb)
  refine mR 0 (bs 22 1) X295 (0) [.bool r292.n, .slice r292.p r292.l r292.c, .bool r292.m, .slice r292.p2 r292.l2 r292.c2] (fun x hx => range_ext (show World.rangeAt w326 X295 (0) [.bool r292.n, .slice r292.p r292.l r292.c, .bool r292.m, .slice r292.p2 r292.l2 r292.c2] from (H327.out.range (i := 1) (by rfl) 0 4)) hx) Tryz.underlying29 zb ?_
  refine mR 1 (bs 22 3) X314 (0) [.bool r312.n, .slice r312.p r312.l r312.c, .bool r312.m, .slice r312.p2 r312.l2 r312.c2] (fun x hx => range_ext (show World.rangeAt w326 X314 (0) [.bool r312.n, .slice r312.p r312.l r312.c, .bool r312.m, .slice r312.p2 r312.l2 r312.c2] from (H327.out.range (i := 2) (by rfl) 0 4)) hx) Tryz.underlying29 zb ?_
  refine zg 2 (bs 22 7) Y315 (0) (rc r313) (H327.out.range (i := 3) (by rfl) 0 4) Tryz.underlying29 zb ?_
  have DD334 := zH (((D323.out.trans D327.out).trans D330.out))
  refine mC 3 (bs 22 15) (q03Add (L := 60000) (RV.Is.nin (R312.out.dig DD334.out) (Nat.le_trans B312.out (by omega))) (RV.Is.nin (R313.out.dig DD334.out) (Nat.le_trans B313.out (by omega))) (by omega)) ?_
  rintro e w332 ⟨c_, rfl, hc_, hx⟩
  have H335 := zH (H330.out.step hx)
  have D335 := zH (show Dig w326.drew w332 from Dig.of_ext hx)
  have S337 := zH (show Ext w326 w332 from zb.trans hx)
  obtain ⟨r333, rfl, hr_⟩ := hc_
  have R333 := zH hr_
  clear hr_
  clear hx
  refine zm S337.out ?_
  have DD339 := zH ((((((((D297.out.trans D301.out).trans D303.out).trans D317.out).trans D323.out).trans D327.out).trans D330.out).trans D335.out))
  refine mC 4 (bs 22 31) (same_any r292 r333 (lenV p1 r1 (mergeV ps)) 60000 _ (R292.out.dig DD339.out) (by rw [show lenV p1 r1 (mergeV ps) = lenV p1 q1 (mergeV ps) + lenV q1 r1 (mergeV ps) from lenV_add HO3.out.2.2 HO3.out.2.1 _]; exact R333.out) (Nat.le_trans B292.out (by omega)) (by decide)) ?_
  rintro e w338 ⟨rfl, hx⟩
  have H340 := zH (H335.out.step hx)
  have D340 := zH (Dig.of_ext hx)
  have S342 := zH (S337.out.trans hx)
  clear hx
  refine zm S342.out ?_
  refine zx 5 (bs 22 63) (.bool false) S342.out ?_
  refine mX 6 (bs 22 127) (.bool false) S342.out ?_
  refine zg 7 (bs 22 255) X295 (0) (rc r292) (H327.out.range (i := 1) (by rfl) 0 4) Tryz.underlying29 S342.out ?_
  refine mX 8 (bs 22 511) (.pointer (some ⟨X115, 8, none⟩)) S342.out ?_
  refine zg 9 (bs 22 1023) X115 (8) (rc c1) (H327.out.range (i := 0) (by rfl) 8 4) Tryz.underlying29 S342.out ?_
  refine mX 10 (bs 22 2047) (.pointer (some ⟨X115, 0, none⟩)) S342.out ?_
  refine zg 11 (bs 22 4095) X115 (0) (rc a1) (H327.out.range (i := 0) (by rfl) 0 4) Tryz.underlying29 S342.out ?_
  refine mC 12 (bs 22 8191) (q03Sub (L := 60000) (RV.In.nin (RV.In.mono (HR1.out.dig H340.out.dig0) (by omega))) (RV.In.nin (RV.In.mono (HP1.out.dig H340.out.dig0) (by omega))) (by omega)) ?_
  rintro e w347 ⟨c_, rfl, hc_, hx⟩
  have H349 := zH (H340.out.step hx)
  have D349 := zH (Dig.of_ext hx)
  have S351 := zH (S342.out.trans hx)
  obtain ⟨r348, rfl, hr_⟩ := hc_
  have R348 := zH hr_
  clear hr_
  have B348 := zH (show Nm.rl (r1 - p1) ≤ 20 + 20 + 1 from by have h1 := (show Nm.rl r1 ≤ 20 from by have h := (HR1.out.dig H349.out.dig0).rl; omega); have h2 := (show Nm.rl p1 ≤ 20 from by have h := (HP1.out.dig H349.out.dig0).rl; omega); have h3 := Nm.rl_sub r1 p1; omega)
  clear hx
  refine zm S351.out ?_
  have DD353 := zH ((((((((((D297.out.trans D301.out).trans D303.out).trans D317.out).trans D323.out).trans D327.out).trans D330.out).trans D335.out).trans D340.out).trans D349.out))
  refine mC 13 (bs 22 16383) (q03Cmp (L := 60000) (RV.Is.nin (R292.out.dig DD353.out) (Nat.le_trans B292.out (by omega))) (RV.Is.nin R348.out (Nat.le_trans B348.out (by omega))) (by omega)) ?_
  rintro e w352 ⟨rfl, hx⟩
  have H354 := zH (H349.out.step hx)
  have D354 := zH (Dig.of_ext hx)
  have S356 := zH (S351.out.trans hx)
  clear hx
  refine zm S356.out ?_
  refine zu 14 (bs 22 32767) (v := .bool false) S356.out ?_ (hv := by intro w hSw; exact ezg (e := (dec_f (fun hh => (Rat.not_lt.2 (lenV_le _ (mergeV_law ps).1 HO3.out.1)) (rcmp_gt.1 hh)))))
  refine zx 15 (bs 22 65535) (.bool false) S356.out ?_
  refine mX 16 (bs 22 131071) (.bool false) S356.out ?_
  refine zg 17 (bs 22 262143) X314 (0) (rc r312) (H327.out.range (i := 2) (by rfl) 0 4) Tryz.underlying29 S356.out ?_
  refine mC 18 (bs 22 524287) (q03From 0 _ (by have ob0 := HLT.out; have ob1 := HZI.out; omega) (by have ob0 := HLT.out; have ob1 := HZI.out; omega)) ?_
  rintro e w360 ⟨c_, rfl, hc_, hx⟩
  have H362 := zH (H354.out.step hx)
  have D362 := zH (Dig.of_ext hx)
  have S364 := zH (S356.out.trans hx)
  obtain ⟨r361, rfl, hr_⟩ := hc_
  have R361 := zH hr_
  have B361 := zH (rl_i64 0 (by have ob0 := HLT.out; have ob1 := HZI.out; omega) (by have ob0 := HLT.out; have ob1 := HZI.out; omega))
  clear hr_
  clear hx
  refine zm S364.out ?_
  have DD366 := zH ((((((((D323.out.trans D327.out).trans D330.out).trans D335.out).trans D340.out).trans D349.out).trans D354.out).trans D362.out))
  refine mC 19 (bs 22 1048575) (q03Cmp (L := 60000) (RV.Is.nin (R312.out.dig DD366.out) (Nat.le_trans B312.out (by omega))) (RV.Is.nin R361.out (Nat.le_trans B361.out (by omega))) (by omega)) ?_
  rintro e w365 ⟨rfl, hx⟩
  have H367 := zH (H362.out.step hx)
  have D367 := zH (Dig.of_ext hx)
  have S369 := zH (S364.out.trans hx)
  clear hx
  refine zm S369.out ?_
  refine zu 20 (bs 22 2097151) (v := .bool false) S369.out ?_ (hv := by intro w hSw; exact ezl (e := (dec_f (fun hh => (fun h_ => absurd h_ (Rat.not_lt.2 (by have h := lenV_nn p1 q1 (mergeV ps); simpa using h))) (rcmp_lt.1 hh)))))
  refine zx 21 (bs 22 4194303) (.bool false) S369.out ?_
  refine wpAnyH_done (by kernel_rfl) ?_ _
  go_upto_region 17 with fail
  refine zy ?_
  have H372 := zH (H367.out.step (Ext.refl w365).drew)
  have D372 := zH (Dig.of_ext (w := w365) zb)
  refine zx 0 (bs 24 1) (.slice A es.length cap) zb ?_
  refine mX 2 (bs 24 5) (.pointer (some ⟨X115, 0, none⟩)) zb ?_
  refine zg 3 (bs 24 13) X115 (0) (rc a1) (H367.out.range (i := 0) (by rfl) 0 4) Tryz.underlying29 zb ?_
  refine mX 4 (bs 24 29) (.pointer (some ⟨X115, 8, none⟩)) zb ?_
  refine mR 5 (bs 24 61) X115 (8) [.bool c1.n, .slice c1.p c1.l c1.c, .bool c1.m, .slice c1.p2 c1.l2 c1.c2] (fun x hx => range_ext (show World.rangeAt w365 X115 (8) [.bool c1.n, .slice c1.p c1.l c1.c, .bool c1.m, .slice c1.p2 c1.l2 c1.c2] from (H367.out.range (i := 0) (by rfl) 8 4)) hx) Tryz.underlying29 zb ?_
  refine zg 7 (bs 24 189) X295 (0) (rc r292) (H367.out.range (i := 1) (by rfl) 0 4) Tryz.underlying29 zb ?_
  refine mC 1 (bs 24 191) (merge_any 20 _ ps _ (HU.out.ext H372.out.ext) (by decide) (by decide) (by have := HN.out; omega)) ?_
  rintro e w377 ⟨v_, es378, rfl, hv1_, hv2_, hv3_, hx⟩
  have VL378 := zH hv2_
  have LN378 := zH hv3_
  have OK378 := zH hv1_.2
  obtain ⟨A378, c378, rfl, hA_⟩ := RowN.form hv1_.1
  have HA378 := zH hA_
  clear hv2_ hv3_ hA_
  have H379 := zH (show Hp w w377 [.blk X115 35 [.bool a1.n, .slice a1.p a1.l a1.c, .bool a1.m, .slice a1.p2 a1.l2 a1.c2, .bool b1.n, .slice b1.p b1.l b1.c, .bool b1.m, .slice b1.p2 b1.l2 b1.c2, .bool c1.n, .slice c1.p c1.l c1.c, .bool c1.m, .slice c1.p2 c1.l2 c1.c2], .blk X295 29 (rc r292), .blk X314 29 (rc r312), .blk Y315 29 (rc r313), ro 31 8 A378 es378.length c378 SpE.cells es378] from H372.out.addRow hx hv1_.1)
  have D379 := zH (show Dig w365.drew w377 from Dig.of_ext hx)
  have S381 := zH (show Ext w365 w377 from zb.trans hx)
  clear hv1_
  have VM378 := zH (show List.map SpE.vl es378 = mergeV ps from VL378.out.trans rfl)
  clear hx
  refine zm S381.out ?_
  refine mC 6 (bs 24 255) (length_any 20 (.slice A378 es378.length c378) (List.map SpE.vl es378) a1 c1 p1 r1 _ (SpR.reads ⟨H379.out.row (i := 4) (by rfl), OK378.out⟩) (HP1.out.dig H379.out.dig0) (HR1.out.dig H379.out.dig0) (by decide) (by decide) (by rw [List.length_map]; exact Nat.le_trans LN378.out HN.out)) ?_
  rintro e w382 ⟨r383, rfl, hr_, hb_, hx⟩
  have H384 := zH (H379.out.step hx)
  have D384 := zH (Dig.of_ext hx)
  have S386 := zH (S381.out.trans hx)
  have R383 := zH hr_
  have B383 := zH hb_
  clear hr_ hb_
  clear hx
  refine zm S386.out ?_
  have DD388 := zH ((((((((((((((((D297.out.trans D301.out).trans D303.out).trans D317.out).trans D323.out).trans D327.out).trans D330.out).trans D335.out).trans D340.out).trans D349.out).trans D354.out).trans D362.out).trans D367.out).trans D372.out).trans D379.out).trans D384.out))
  refine mC 8 (bs 24 511) (same_any r383 r292 (lenV p1 r1 (mergeV (List.map SpE.vl es378))) 60000 _ R383.out (by rw [show (lenV p1 r1 (mergeV (List.map SpE.vl es378))) = (lenV p1 r1 (mergeV ps)) by rw [VM378.out, mergeV_idem]]; exact (R292.out.dig DD388.out)) (Nat.le_trans B383.out (by omega)) (by decide)) ?_
  rintro e w387 ⟨rfl, hx⟩
  have H389 := zH (H384.out.step hx)
  have S391 := zH (S386.out.trans hx)
  clear hx
  refine zm S391.out ?_
  refine zx 9 (bs 24 1023) (.bool true) S391.out ?_
  refine zx 10 (bs 24 2047) (.slice A es.length cap) S391.out ?_
  refine mX 11 (bs 24 4095) (.pointer (some ⟨X115, 8, none⟩)) S391.out ?_
  refine zg 12 (bs 24 8191) X115 (8) (rc c1) (H367.out.range (i := 0) (by rfl) 8 4) Tryz.underlying29 S391.out ?_
  refine mX 13 (bs 24 16383) (.pointer (some ⟨X115, 0, none⟩)) S391.out ?_
  refine zg 14 (bs 24 32767) X115 (0) (rc a1) (H367.out.range (i := 0) (by rfl) 0 4) Tryz.underlying29 S391.out ?_
  refine mC 15 (bs 24 65535) (length_any 20 (.slice A es.length cap) ps c1 a1 r1 p1 _ (HU.out.ext H389.out.ext) (HR1.out.dig H389.out.dig0) (HP1.out.dig H389.out.dig0) (by decide) (by decide) HN.out) ?_
  rintro e w396 ⟨r397, rfl, hr_, hb_, hx⟩
  have H398 := zH (H389.out.step hx)
  have S400 := zH (S391.out.trans hx)
  have R397 := zH hr_
  have B397 := zH hb_
  clear hr_ hb_
  clear hx
  refine zm S400.out ?_
  refine mC 16 (bs 24 131071) (q03From 0 _ (by have ob0 := HLT.out; have ob1 := HZI.out; omega) (by have ob0 := HLT.out; have ob1 := HZI.out; omega)) ?_
  rintro e w401 ⟨c_, rfl, hc_, hx⟩
  have H403 := zH (H398.out.step hx)
  have D403 := zH (Dig.of_ext hx)
  have S405 := zH (S400.out.trans hx)
  obtain ⟨r402, rfl, hr_⟩ := hc_
  have R402 := zH hr_
  have B402 := zH (rl_i64 0 (by have ob0 := HLT.out; have ob1 := HZI.out; omega) (by have ob0 := HLT.out; have ob1 := HZI.out; omega))
  clear hr_
  clear hx
  refine zm S405.out ?_
  refine mC 17 (bs 24 262143) (q03Cmp (L := 60000) (RV.Is.nin (R397.out.dig D403.out) (Nat.le_trans B397.out (by omega))) (RV.Is.nin R402.out (Nat.le_trans B402.out (by omega))) (by omega)) ?_
  rintro e w406 ⟨rfl, hx⟩
  have H407 := zH (H403.out.step hx)
  have S409 := zH (S405.out.trans hx)
  clear hx
  refine zm S409.out ?_
  refine zu 18 (bs 24 524287) (v := .bool true) S409.out ?_ (hv := by intro w hSw; exact ezq (e := (dec_t (rcmp_eq_i.2 (by rw [lenV_back HO3.out.1]; rfl)))))
  refine zx 19 (bs 24 1048575) (.bool true) S409.out ?_
  refine zx 20 (bs 24 2097151) (.bool true) S409.out ?_
  refine mC 21 (bs 24 4194303) (example_any _) ?_
  rintro e w413 ⟨rfl, hx⟩
  have H414 := zH (H407.out.step hx)
  have S416 := zH (S409.out.trans hx)
  clear hx
  refine zm S416.out ?_
  refine zx 22 (bs 24 8388607) (.bool true) S416.out ?_
  refine zx 23 (bs 24 16777215) (.bool true) S416.out ?_
  refine wpAnyH_done (by kernel_rfl) ?_ _
  go_wp2_with fail
  go_ret
  exact ⟨rfl, H414.out.ext⟩

theorem walk (A : Option Addr) (es : List (RV × RV)) (cap : Nat) (a b c : RV) (w : World) (hv : RawV w (.slice A es.length cap) es ∧ RawL w es) (hm : es.length ≤ maxLen) (hx : a.Raw w ∧ b.Raw w ∧ c.Raw w) :
  Calls Tryz.prog 4 #[.slice A es.length cap, .agg #[.bool a.n, .slice a.p a.l a.c, .bool a.m, .slice a.p2 a.l2 a.c2, .bool b.n, .slice b.p b.l b.c, .bool b.m, .slice b.p2 b.l2 b.c2, .bool c.n, .slice c.p c.l c.c, .bool c.m, .slice c.p2 c.l2 c.c2]] w fun e w' => e = .returned (.bool true) ∧ Ext w w' := by
 have hs := fun W (x : Ext w W) => smallSpans_any (.slice A es.length cap) es W (hv.1.ext x) hm
 have sa := fun W (_ : Ext w W) => small_any a W
 have sb := fun W (_ : Ext w W) => small_any b W
 have sc := fun W (_ : Ext w W) => small_any c W
 cases h0 : (smAll es && decide (es.length ≤ 60)) with
 | false => rw [h0] at hs; exact walkF0 A es cap a b c w hs
 | true =>
  rw [h0] at hs
  cases h1 : a.sm with
  | false => rw [h1] at sa; exact walkF1 A es cap a b c w hs sa
  | true =>
   rw [h1] at sa
   cases h2 : b.sm with
   | false => rw [h2] at sb; exact walkF2 A es cap a b c w hs sa sb
   | true =>
    rw [h2] at sb
    cases h3 : c.sm with
    | false => rw [h3] at sc; exact walkF3 A es cap a b c w hs sa sb sc
    | true =>
     rw [h3] at sc
     simp only [Bool.and_eq_true, decide_eq_true_eq] at h0
     obtain ⟨ps, hl, hp⟩ := hv.1.spans hv.2 h0.1
     obtain ⟨p, ha⟩ := RV.sm_in hx.1 h1
     obtain ⟨q, hb⟩ := RV.sm_in hx.2.1 h2
     obtain ⟨r, hc⟩ := RV.sm_in hx.2.2 h3
     exact walkT A es cap a b c ps p q r w hs sa sb sc hp ha hb hc (by rw [hl]; exact h0.2)
set_option maxRecDepth 100000 in
theorem lifted (os : Os) (started : os.Started) (H : Type) (enc : TypeId × Value → H) :
  ReturnsInHanded {} Tryz.checked os 4 .any (Rows.scanlineLengthSpec.pre6 enc Tryz.prog Tryz.f4 Rows.scanlineLengthRow.domain false) (Rows.scanlineLengthSpec.post enc Tryz.prog Tryz.f4 false true false false) := by
 refine returnsInHanded_of_change (C := Tryz.checked) own started (by kernel_rfl) Tryz.func4
  (ChangeSpec.witness6 (enc := enc) (C := Tryz.checked) false ⟨#[], #[.slice none 0 0, .agg #[.bool false, .slice none 0 0, .bool false, .slice none 0 0, .bool false, .slice none 0 0, .bool false, .slice none 0 0, .bool false, .slice none 0 0, .bool false, .slice none 0 0]], []⟩ 8 (by kernel_rfl) (by kernel_rfl) (by kernel_rfl) (by kernel_rfl)) ?_
 intro W base args ds gs before hval0 hW hcnd _
 have hval : ∀ (j : Nat) t v, Tryz.f4.params[j]? = some t → args[j]? = some v → Value.okWide Tryz.prog W .any base t v := hval0
 have hW' := hW
 obtain ⟨p, q, hA0, hV, rfl, hfz, hnd⟩ := hW
 have hA : DataW.TrodAll enc Tryz.prog W 0 (fun _ => true) true Tryz.f4.params.toList args.toList ds p := hA0
 rw [Tryz.params4] at hA hval
 obtain ⟨v0, vs0, d0, ds0, p0, q0, hargs, rfl, rfl, h0, r0⟩ := trodAll_cons hA
 obtain ⟨v1, vs1, d1, ds1, p1, q1, rfl, rfl, rfl, h1, r1⟩ := trodAll_cons r0
 obtain ⟨rfl, rfl, rfl⟩ := trodAll_nil r1
 obtain rfl : args = #[v0, v1] := by cases args; simp_all
 obtain ⟨rfl, rfl⟩ := trodVars_none hV
 have k0 := h0
 have lt0 : ∀ x ∈ p0, x.block < W.heap.size := by obtain ⟨m, hm⟩ := k0; exact DataW.trod_lt m _ _ _ hm
 obtain ⟨yA, zl0, yc, rfl⟩ := okWide_slice Tryz.underlying22 (hval 0 22 v0 rfl rfl)
 obtain ⟨zA0, yl, zc0, ze0, g0⟩ := (by obtain ⟨m, hm⟩ := h0; exact spans_openQ hm : ∃ zB zl zc, [Value.slice yA zl0 yc] = [.slice zB (List.length zl) zc] ∧ zl.length ≤ maxLen ∧ RawV W (.slice zB zl.length zc) zl ∧ RawL W zl)
 obtain ⟨rfl, rfl, rfl⟩ : yA = zA0 ∧ zl0 = yl.length ∧ yc = zc0 := by simpa using ze0
 have k1 := h1
 have lt1 : ∀ x ∈ p1, x.block < W.heap.size := by obtain ⟨m, hm⟩ := k1; exact DataW.trod_lt m _ _ _ hm
 obtain ⟨⟨l1⟩, rfl, _⟩ := okWide_array Tryz.underlying35 (hval 1 35 v1 rfl rfl)
 obtain ⟨a, b, c, rfl, g1⟩ : ∃ a b c : RV, l1 = [.bool a.n, .slice a.p a.l a.c, .bool a.m, .slice a.p2 a.l2 a.c2, .bool b.n, .slice b.p b.l b.c, .bool b.m, .slice b.p2 b.l2 b.c2, .bool c.n, .slice c.p c.l c.c, .bool c.m, .slice c.p2 c.l2 c.c2] ∧ a.Raw W ∧ b.Raw W ∧ c.Raw W := by
  obtain ⟨m, hm⟩ := h1
  exact rat3_openQ hm
 clear hA0 hval0
 refine (walk yA yl yc a b c W g0.2 g0.1 g1).mono fun e W' ⟨he, hx⟩ => ?_
 subst he
 have bel := hx.below
 exact ⟨_, rfl, _, _, _, [], _, [], hW', trodAll_mk1 (shut_bool Tryz.underlying4 _), (trodAll_cons_mk (Below.trod laidOut (by kernel_rfl) (of_decide_eq_true (by kernel_rfl)) k0 bel lt0) (trodAll_cons_mk (Below.trod laidOut (by kernel_rfl) (of_decide_eq_true (by kernel_rfl)) k1 bel lt1) trodAll_mk0)), rfl, bel.frame _, fun h => by cases h⟩

theorem proved : Rows.ScanlineLengthSaid :=
  OpenClaim.holds_of_wide 4 Tryz.f4 rfl rfl rfl rfl rfl rfl rfl ⟨rfl, rfl, rfl, rfl, rfl⟩ rfl rfl rfl rfl rfl (by kernel_rfl) Tryz.func4 (by kernel_rfl)
    (of_decide_eq_true (by kernel_rfl)) (by unfold Func.isWrapper; first | (rw [if_pos (by decide +kernel)]; kernel_rfl) | (rw [if_neg (by decide +kernel)]; exact ⟨rfl, rfl⟩))
    (fun os started H enc _ => lifted os started H enc)
#print axioms proved
end Go.Proofs.YtaeeeailoiioaaaGreat.length
