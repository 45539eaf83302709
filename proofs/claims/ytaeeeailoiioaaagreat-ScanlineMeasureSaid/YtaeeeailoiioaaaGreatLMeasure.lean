/- ScanlineMeasure. -/
import Derived.Test.YtaeeeailoiioaaaGreatM7
namespace Go.Proofs.YtaeeeailoiioaaaGreat.measure
open Go.RowKit Go.ChangeShapes Go.WideShapes Go.ChangeAt
attribute [local go_sem ↓] Go.wp_at_zero Go.wp_at_succ run_max_ii run_min_ii
set_option maxRecDepth 20000 in
set_option maxHeartbeats 4000000 in
theorem walkF0 (A : Option Addr) (es : List (RV × RV)) (cap : Nat) (a b : RV)  (w : World) (hs : ∀ W, Ext w W → Calls Tryz.prog 6 #[.slice A es.length cap] W fun e w' => e = .returned (.bool false) ∧ Ext W w')  :
  Calls Tryz.prog 5 #[.slice A es.length cap, .agg #[.bool a.n, .slice a.p a.l a.c, .bool a.m, .slice a.p2 a.l2 a.c2], .agg #[.bool b.n, .slice b.p b.l b.c, .bool b.m, .slice b.p2 b.l2 b.c2]] w fun e w' => e = .returned (.bool true) ∧ Ext w w' := by
 have HS := zH hs
 clear hs
 go_enter Tryz.func5, Tryz.ntmps5
 have H0 := zH (Hp.start w)
 go_upto_region 0 with fail
 refine wp_region_lit ?_
 refine mv_alloc (T := 29) (zs := [.bool a.n, .slice a.p a.l a.c, .bool a.m, .slice a.p2 a.l2 a.c2]) (by rfl) (by go_simp) H0.out (by simp [NoUL]) ?_
 intro X1 w2 hh hx hge
 have H3 := zH (show Hp w w2 [.blk X1 29 (rc a)] from hh)
 clear hh hx hge
 try simp only [Act.put, zA, zB, zC]
 refine mv_alloc (T := 29) (zs := [.bool b.n, .slice b.p b.l b.c, .bool b.m, .slice b.p2 b.l2 b.c2]) (by rfl) (by go_simp) H3.out (by simp [NoUL]) ?_
 intro X6 w7 hh hx hge
 have H8 := zH (show Hp w w7 [.blk X1 29 (rc a), .blk X6 29 (rc b)] from hh)
 clear hh hx hge
 try simp only [Act.put, zA, zB, zC]
 refine zq (.bool false) ?_
 go_upto_region 1 with fail
 refine wp_region_lit ?_
 refine qV (.slice A es.length cap) ?_
 refine zc (HS.out _ H8.out.ext) ?_
 rintro e w13 ⟨rfl, hx⟩
 have H14 := zH (H8.out.step hx)
 clear hx
 refine zn ?_
 refine qV (.bool true) ?_
 refine zq (.bool true) ?_
 refine zk ?_
 refine zk ?_
 refine zk ?_
 refine qV (.bool true) ?_
 refine zq (.bool true) ?_
 refine zk ?_
 refine zk ?_
 refine zk ?_
 refine zq (.bool true) ?_
 go_upto_region 2 with fail
 refine wp_region_lit ?_
 refine zc (example_any _) ?_
 rintro e w21 ⟨rfl, hx⟩
 have H22 := zH (H14.out.step hx)
 clear hx
 refine zn ?_
 refine zq (.bool true) ?_
 go_wp2_with fail
 go_ret
 exact ⟨rfl, H22.out.ext⟩
set_option maxRecDepth 20000 in
set_option maxHeartbeats 4000000 in
theorem walkF1 (A : Option Addr) (es : List (RV × RV)) (cap : Nat) (a b : RV)  (w : World) (hs : ∀ W, Ext w W → Calls Tryz.prog 6 #[.slice A es.length cap] W fun e w' => e = .returned (.bool true) ∧ Ext W w') (ha : ∀ W, Ext w W → Calls Tryz.prog 11 #[.agg #[.bool a.n, .slice a.p a.l a.c, .bool a.m, .slice a.p2 a.l2 a.c2]] W fun e w' => e = .returned (.bool false) ∧ Ext W w')  :
  Calls Tryz.prog 5 #[.slice A es.length cap, .agg #[.bool a.n, .slice a.p a.l a.c, .bool a.m, .slice a.p2 a.l2 a.c2], .agg #[.bool b.n, .slice b.p b.l b.c, .bool b.m, .slice b.p2 b.l2 b.c2]] w fun e w' => e = .returned (.bool true) ∧ Ext w w' := by
 have HS := zH hs
 clear hs
 have HSA := zH ha
 clear ha
 go_enter Tryz.func5, Tryz.ntmps5
 have H0 := zH (Hp.start w)
 go_upto_region 0 with fail
 refine wp_region_lit ?_
 refine mv_alloc (T := 29) (zs := [.bool a.n, .slice a.p a.l a.c, .bool a.m, .slice a.p2 a.l2 a.c2]) (by rfl) (by go_simp) H0.out (by simp [NoUL]) ?_
 intro X25 w26 hh hx hge
 have H27 := zH (show Hp w w26 [.blk X25 29 (rc a)] from hh)
 clear hh hx hge
 try simp only [Act.put, zA, zB, zC]
 refine mv_alloc (T := 29) (zs := [.bool b.n, .slice b.p b.l b.c, .bool b.m, .slice b.p2 b.l2 b.c2]) (by rfl) (by go_simp) H27.out (by simp [NoUL]) ?_
 intro X30 w31 hh hx hge
 have H32 := zH (show Hp w w31 [.blk X25 29 (rc a), .blk X30 29 (rc b)] from hh)
 clear hh hx hge
 try simp only [Act.put, zA, zB, zC]
 refine zq (.bool false) ?_
 go_upto_region 1 with fail
 refine wp_region_lit ?_
 refine qV (.slice A es.length cap) ?_
 refine zc (HS.out _ H32.out.ext) ?_
 rintro e w37 ⟨rfl, hx⟩
 have H38 := zH (H32.out.step hx)
 clear hx
 refine zn ?_
 refine qV (.bool false) ?_
 refine zq (.bool false) ?_
 refine zd X25 (0) (rc a) (H38.out.range (i := 0) (by rfl) 0 4) Tryz.underlying29 ?_
 refine zc (HSA.out _ H38.out.ext) ?_
 rintro e w42 ⟨rfl, hx⟩
 have H43 := zH (H38.out.step hx)
 clear hx
 refine zn ?_
 refine qV (.bool true) ?_
 refine zq (.bool true) ?_
 refine zq (.bool true) ?_
 refine zk ?_
 refine zk ?_
 refine zk ?_
 refine zq (.bool true) ?_
 go_upto_region 2 with fail
 refine wp_region_lit ?_
 refine zc (example_any _) ?_
 rintro e w49 ⟨rfl, hx⟩
 have H50 := zH (H43.out.step hx)
 clear hx
 refine zn ?_
 refine zq (.bool true) ?_
 go_wp2_with fail
 go_ret
 exact ⟨rfl, H50.out.ext⟩
set_option maxRecDepth 20000 in
set_option maxHeartbeats 4000000 in
theorem walkF2 (A : Option Addr) (es : List (RV × RV)) (cap : Nat) (a b : RV)  (w : World) (hs : ∀ W, Ext w W → Calls Tryz.prog 6 #[.slice A es.length cap] W fun e w' => e = .returned (.bool true) ∧ Ext W w') (ha : ∀ W, Ext w W → Calls Tryz.prog 11 #[.agg #[.bool a.n, .slice a.p a.l a.c, .bool a.m, .slice a.p2 a.l2 a.c2]] W fun e w' => e = .returned (.bool true) ∧ Ext W w') (hb : ∀ W, Ext w W → Calls Tryz.prog 11 #[.agg #[.bool b.n, .slice b.p b.l b.c, .bool b.m, .slice b.p2 b.l2 b.c2]] W fun e w' => e = .returned (.bool false) ∧ Ext W w')  :
  Calls Tryz.prog 5 #[.slice A es.length cap, .agg #[.bool a.n, .slice a.p a.l a.c, .bool a.m, .slice a.p2 a.l2 a.c2], .agg #[.bool b.n, .slice b.p b.l b.c, .bool b.m, .slice b.p2 b.l2 b.c2]] w fun e w' => e = .returned (.bool true) ∧ Ext w w' := by
 have HS := zH hs
 clear hs
 have HSA := zH ha
 clear ha
 have HSB := zH hb
 clear hb
 go_enter Tryz.func5, Tryz.ntmps5
 have H0 := zH (Hp.start w)
 go_upto_region 0 with fail
 refine wp_region_lit ?_
 refine mv_alloc (T := 29) (zs := [.bool a.n, .slice a.p a.l a.c, .bool a.m, .slice a.p2 a.l2 a.c2]) (by rfl) (by go_simp) H0.out (by simp [NoUL]) ?_
 intro X53 w54 hh hx hge
 have H55 := zH (show Hp w w54 [.blk X53 29 (rc a)] from hh)
 clear hh hx hge
 try simp only [Act.put, zA, zB, zC]
 refine mv_alloc (T := 29) (zs := [.bool b.n, .slice b.p b.l b.c, .bool b.m, .slice b.p2 b.l2 b.c2]) (by rfl) (by go_simp) H55.out (by simp [NoUL]) ?_
 intro X58 w59 hh hx hge
 have H60 := zH (show Hp w w59 [.blk X53 29 (rc a), .blk X58 29 (rc b)] from hh)
 clear hh hx hge
 try simp only [Act.put, zA, zB, zC]
 refine zq (.bool false) ?_
 go_upto_region 1 with fail
 refine wp_region_lit ?_
 refine qV (.slice A es.length cap) ?_
 refine zc (HS.out _ H60.out.ext) ?_
 rintro e w65 ⟨rfl, hx⟩
 have H66 := zH (H60.out.step hx)
 clear hx
 refine zn ?_
 refine qV (.bool false) ?_
 refine zq (.bool false) ?_
 refine zd X53 (0) (rc a) (H66.out.range (i := 0) (by rfl) 0 4) Tryz.underlying29 ?_
 refine zc (HSA.out _ H66.out.ext) ?_
 rintro e w70 ⟨rfl, hx⟩
 have H71 := zH (H66.out.step hx)
 clear hx
 refine zn ?_
 refine qV (.bool false) ?_
 refine zq (.bool false) ?_
 refine qV (.bool false) ?_
 refine zd X58 (0) (rc b) (H71.out.range (i := 1) (by rfl) 0 4) Tryz.underlying29 ?_
 refine zc (HSB.out _ H71.out.ext) ?_
 rintro e w76 ⟨rfl, hx⟩
 have H77 := zH (H71.out.step hx)
 clear hx
 refine zn ?_
 refine qV (.bool true) ?_
 refine zq (.bool true) ?_
 go_upto_region 2 with fail
 refine wp_region_lit ?_
 refine zc (example_any _) ?_
 rintro e w81 ⟨rfl, hx⟩
 have H82 := zH (H77.out.step hx)
 clear hx
 refine zn ?_
 refine zq (.bool true) ?_
 go_wp2_with fail
 go_ret
 exact ⟨rfl, H82.out.ext⟩
set_option maxRecDepth 20000 in
set_option maxHeartbeats 4000000 in
theorem walkT (A : Option Addr) (es : List (RV × RV)) (cap : Nat) (a b : RV) (ps : List QQ) (f t : Rat) (w : World) (hs : ∀ W, Ext w W → Calls Tryz.prog 6 #[.slice A es.length cap] W fun e w' => e = .returned (.bool true) ∧ Ext W w') (ha : ∀ W, Ext w W → Calls Tryz.prog 11 #[.agg #[.bool a.n, .slice a.p a.l a.c, .bool a.m, .slice a.p2 a.l2 a.c2]] W fun e w' => e = .returned (.bool true) ∧ Ext W w') (hb : ∀ W, Ext w W → Calls Tryz.prog 11 #[.agg #[.bool b.n, .slice b.p b.l b.c, .bool b.m, .slice b.p2 b.l2 b.c2]] W fun e w' => e = .returned (.bool true) ∧ Ext W w') (hu : SpansV 20 w (.slice A es.length cap) ps) (hf : a.In 20 w f) (ht : b.In 20 w t) (hn : ps.length ≤ 60) :
  Calls Tryz.prog 5 #[.slice A es.length cap, .agg #[.bool a.n, .slice a.p a.l a.c, .bool a.m, .slice a.p2 a.l2 a.c2], .agg #[.bool b.n, .slice b.p b.l b.c, .bool b.m, .slice b.p2 b.l2 b.c2]] w fun e w' => e = .returned (.bool true) ∧ Ext w w' := by
 have HS := zH hs
 clear hs
 have HSA := zH ha
 clear ha
 have HSB := zH hb
 clear hb
 have HU := zH hu
 have RF := zH hf
 have RT := zH ht
 have HN := zH hn
 clear hu hf ht hn
 go_enter Tryz.func5, Tryz.ntmps5
 have H0 := zH (Hp.start w)
 go_upto_region 0 with fail
 refine wp_region_lit ?_
 refine mv_alloc (T := 29) (zs := [.bool a.n, .slice a.p a.l a.c, .bool a.m, .slice a.p2 a.l2 a.c2]) (by rfl) (by go_simp) H0.out (by simp [NoUL]) ?_
 intro X85 w86 hh hx hge
 have H87 := zH (show Hp w w86 [.blk X85 29 (rc a)] from hh)
 clear hh hx hge
 try simp only [Act.put, zA, zB, zC]
 refine mv_alloc (T := 29) (zs := [.bool b.n, .slice b.p b.l b.c, .bool b.m, .slice b.p2 b.l2 b.c2]) (by rfl) (by go_simp) H87.out (by simp [NoUL]) ?_
 intro X90 w91 hh hx hge
 have H92 := zH (show Hp w w91 [.blk X85 29 (rc a), .blk X90 29 (rc b)] from hh)
 clear hh hx hge
 try simp only [Act.put, zA, zB, zC]
 refine zq (.bool false) ?_
 go_upto_region 1 with fail
 refine wp_region_lit ?_
 refine qV (.slice A es.length cap) ?_
 refine zc (HS.out _ H92.out.ext) ?_
 rintro e w97 ⟨rfl, hx⟩
 have H98 := zH (H92.out.step hx)
 clear hx
 refine zn ?_
 refine qV (.bool false) ?_
 refine zq (.bool false) ?_
 refine zd X85 (0) (rc a) (H98.out.range (i := 0) (by rfl) 0 4) Tryz.underlying29 ?_
 refine zc (HSA.out _ H98.out.ext) ?_
 rintro e w102 ⟨rfl, hx⟩
 have H103 := zH (H98.out.step hx)
 clear hx
 refine zn ?_
 refine qV (.bool false) ?_
 refine zq (.bool false) ?_
 refine qV (.bool false) ?_
 refine zd X90 (0) (rc b) (H103.out.range (i := 1) (by rfl) 0 4) Tryz.underlying29 ?_
 refine zc (HSB.out _ H103.out.ext) ?_
 rintro e w108 ⟨rfl, hx⟩
 have H109 := zH (H103.out.step hx)
 clear hx
 refine zn ?_
 refine qV (.bool false) ?_
 refine zq (.bool false) ?_
 go_upto_region 3 with fail
 refine zy ?_
 have H113 := zH (H109.out.step (Ext.refl w108).drew)
 refine mX 0 (bs 22 1) (.slice A es.length cap) zb ?_
 refine mR 1 (bs 22 3) X85 (0) [.bool a.n, .slice a.p a.l a.c, .bool a.m, .slice a.p2 a.l2 a.c2] (fun x hx => range_ext (show World.rangeAt w108 X85 (0) [.bool a.n, .slice a.p a.l a.c, .bool a.m, .slice a.p2 a.l2 a.c2] from (H109.out.range (i := 0) (by rfl) 0 4)) hx) Tryz.underlying29 zb ?_
 refine zg 2 (bs 22 7) X90 (0) (rc b) (H109.out.range (i := 1) (by rfl) 0 4) Tryz.underlying29 zb ?_
 refine mX 4 (bs 22 23) (.slice A es.length cap) zb ?_
 refine mR 5 (bs 22 55) X85 (0) [.bool a.n, .slice a.p a.l a.c, .bool a.m, .slice a.p2 a.l2 a.c2] (fun x hx => range_ext (show World.rangeAt w108 X85 (0) [.bool a.n, .slice a.p a.l a.c, .bool a.m, .slice a.p2 a.l2 a.c2] from (H109.out.range (i := 0) (by rfl) 0 4)) hx) Tryz.underlying29 zb ?_
 refine zg 6 (bs 22 119) X90 (0) (rc b) (H109.out.range (i := 1) (by rfl) 0 4) Tryz.underlying29 zb ?_
 refine mC 3 (bs 22 127) (length_any 20 _ ps a b f t _ (HU.out.ext H113.out.ext) (RF.out.dig H113.out.dig0) (RT.out.dig H113.out.dig0) (by decide) (by decide) HN.out) ?_
 rintro e w117 ⟨r118, rfl, hr_, hb_, hx⟩
 have H119 := zH (H113.out.step hx)
 have S121 := zH (show Ext w108 w117 from zb.trans hx)
 have R118 := zH hr_
 have B118 := zH hb_
 clear hr_ hb_
 clear hx
 refine zm S121.out ?_
 refine mC 7 (bs 22 255) (rlength_any 20 _ ps a b f t _ (HU.out.ext H119.out.ext) (RF.out.dig H119.out.dig0) (RT.out.dig H119.out.dig0) (by decide) (by decide) HN.out) ?_
 rintro e w122 ⟨r123, rfl, hr_, hb_, hx⟩
 have H124 := zH (H119.out.step hx)
 have D124 := zH (Dig.of_ext hx)
 have S126 := zH (S121.out.trans hx)
 have R123 := zH hr_
 have B123 := zH hb_
 clear hr_ hb_
 clear hx
 refine zm S126.out ?_
 refine mC 8 (bs 22 511) (same_any r118 r123 (lenV f t (mergeV ps)) 60000 _ (R118.out.dig D124.out) R123.out (Nat.le_trans B118.out (by omega)) (by decide)) ?_
 rintro e w127 ⟨rfl, hx⟩
 have H128 := zH (H124.out.step hx)
 have S130 := zH (S126.out.trans hx)
 clear hx
 refine zm S130.out ?_
 refine zx 9 (bs 22 1023) (.bool true) S130.out ?_
 refine mX 10 (bs 22 2047) (.slice A es.length cap) S130.out ?_
 refine zg 11 (bs 22 4095) X85 (0) (rc a) (H109.out.range (i := 0) (by rfl) 0 4) Tryz.underlying29 S130.out ?_
 refine mX 13 (bs 22 12287) (.slice A es.length cap) S130.out ?_
 refine zg 14 (bs 22 28671) X85 (0) (rc a) (H109.out.range (i := 0) (by rfl) 0 4) Tryz.underlying29 S130.out ?_
 refine mC 12 (bs 22 32767) (contains_any 20 _ ps _ f _ (HU.out.ext H128.out.ext) (RV.In.nin (RF.out.dig H128.out.dig0)) (by decide) (by decide) (by have := HN.out; omega)) ?_
 rintro e w134 ⟨rfl, hx⟩
 have H135 := zH (H128.out.step hx)
 have S137 := zH (S130.out.trans hx)
 clear hx
 refine zm S137.out ?_
 refine mC 15 (bs 22 65535) (rcontains_any 20 _ ps _ f _ (HU.out.ext H135.out.ext) (RV.In.nin (RF.out.dig H135.out.dig0)) (by decide) (by decide) (by have := HN.out; omega)) ?_
 rintro e w138 ⟨rfl, hx⟩
 have H139 := zH (H135.out.step hx)
 have S141 := zH (S137.out.trans hx)
 clear hx
 refine zm S141.out ?_
 refine zu 16 (bs 22 131071) (v := .bool true) S141.out ?_ (hv := by intro w hSw; go_simp)
 refine zx 17 (bs 22 262143) (.bool true) S141.out ?_
 refine zx 18 (bs 22 524287) (.bool true) S141.out ?_
 refine mC 19 (bs 22 1048575) (example_any _) ?_
 rintro e w145 ⟨rfl, hx⟩
 have H146 := zH (H139.out.step hx)
 have S148 := zH (S141.out.trans hx)
 clear hx
 refine zm S148.out ?_
 refine zx 20 (bs 22 2097151) (.bool true) S148.out ?_
 refine zx 21 (bs 22 4194303) (.bool true) S148.out ?_
 refine wpAnyH_done (by kernel_rfl) ?_ _
 go_wp2_with fail
 go_ret
 exact ⟨rfl, H146.out.ext⟩

theorem walk (A : Option Addr) (es : List (RV × RV)) (cap : Nat) (a b : RV) (w : World) (hv : RawV w (.slice A es.length cap) es ∧ RawL w es) (hm : es.length ≤ maxLen) (ha : a.Raw w) (hb : b.Raw w) :
  Calls Tryz.prog 5 #[.slice A es.length cap, .agg #[.bool a.n, .slice a.p a.l a.c, .bool a.m, .slice a.p2 a.l2 a.c2], .agg #[.bool b.n, .slice b.p b.l b.c, .bool b.m, .slice b.p2 b.l2 b.c2]] w fun e w' => e = .returned (.bool true) ∧ Ext w w' := by
 have hs := fun W (x : Ext w W) => smallSpans_any (.slice A es.length cap) es W (hv.1.ext x) hm
 have sa := fun W (_ : Ext w W) => small_any a W
 have sb := fun W (_ : Ext w W) => small_any b W
 cases h0 : (smAll es && decide (es.length ≤ 60)) with
 | false => rw [h0] at hs; exact walkF0 A es cap a b w hs
 | true =>
  rw [h0] at hs
  cases h1 : a.sm with
  | false => rw [h1] at sa; exact walkF1 A es cap a b w hs sa
  | true =>
   rw [h1] at sa
   cases h2 : b.sm with
   | false => rw [h2] at sb; exact walkF2 A es cap a b w hs sa sb
   | true =>
    rw [h2] at sb
    simp only [Bool.and_eq_true, decide_eq_true_eq] at h0
    obtain ⟨ps, hl, hp⟩ := hv.1.spans hv.2 h0.1
    obtain ⟨f, hf⟩ := RV.sm_in ha h1
    obtain ⟨t, ht⟩ := RV.sm_in hb h2
    exact walkT A es cap a b ps f t w hs sa sb hp hf ht (by rw [hl]; exact h0.2)
set_option maxRecDepth 100000 in
theorem lifted (os : Os) (started : os.Started) (H : Type) (enc : TypeId × Value → H) :
  ReturnsInHanded {} Tryz.checked os 5 .any (Rows.scanlineMeasureSpec.pre6 enc Tryz.prog Tryz.f5 Rows.scanlineMeasureRow.domain false) (Rows.scanlineMeasureSpec.post enc Tryz.prog Tryz.f5 false true false false) := by
 refine returnsInHanded_of_change (C := Tryz.checked) own started (by kernel_rfl) Tryz.func5
  (ChangeSpec.witness6 (enc := enc) (C := Tryz.checked) false ⟨#[], #[.slice none 0 0, .agg z4, .agg z4], []⟩ 8 (by kernel_rfl) (by kernel_rfl) (by kernel_rfl) (by kernel_rfl)) ?_
 intro W base args ds gs before hval0 hW hcnd _
 have hval : ∀ (j : Nat) t v, Tryz.f5.params[j]? = some t → args[j]? = some v → Value.okWide Tryz.prog W .any base t v := hval0
 have hW' := hW
 obtain ⟨p, q, hA0, hV, rfl, hfz, hnd⟩ := hW
 have hA : DataW.TrodAll enc Tryz.prog W 0 (fun _ => true) true Tryz.f5.params.toList args.toList ds p := hA0
 rw [Tryz.params5] at hA hval
 obtain ⟨v0, vs0, d0, ds0, p0, q0, hargs, rfl, rfl, h0, r0⟩ := trodAll_cons hA
 obtain ⟨v1, vs1, d1, ds1, p1, q1, rfl, rfl, rfl, h1, r1⟩ := trodAll_cons r0
 obtain ⟨v2, vs2, d2, ds2, p2, q2, rfl, rfl, rfl, h2, r2⟩ := trodAll_cons r1
 obtain ⟨rfl, rfl, rfl⟩ := trodAll_nil r2
 obtain rfl : args = #[v0, v1, v2] := by cases args; simp_all
 obtain ⟨rfl, rfl⟩ := trodVars_none hV
 have k0 := h0
 have lt0 : ∀ x ∈ p0, x.block < W.heap.size := by obtain ⟨m, hm⟩ := k0; exact DataW.trod_lt m _ _ _ hm
 obtain ⟨yA, zl0, yc, rfl⟩ := okWide_slice Tryz.underlying22 (hval 0 22 v0 rfl rfl)
 obtain ⟨zA0, yl, zc0, ze0, g0⟩ := (by obtain ⟨m, hm⟩ := h0; exact spans_openQ hm : ∃ zB zl zc, [Value.slice yA zl0 yc] = [.slice zB (List.length zl) zc] ∧ zl.length ≤ maxLen ∧ RawV W (.slice zB zl.length zc) zl ∧ RawL W zl)
 obtain ⟨rfl, rfl, rfl⟩ : yA = zA0 ∧ zl0 = yl.length ∧ yc = zc0 := by simpa using ze0
 have k1 := h1
 have lt1 : ∀ x ∈ p1, x.block < W.heap.size := by obtain ⟨m, hm⟩ := k1; exact DataW.trod_lt m _ _ _ hm
 obtain ⟨⟨l1⟩, rfl, _⟩ := okWide_structQ Tryz.underlying29 (hval 1 29 v1 rfl rfl)
 obtain ⟨a, rfl, g1⟩ : ∃ a : RV, l1 = [.bool a.n, .slice a.p a.l a.c, .bool a.m, .slice a.p2 a.l2 a.c2] ∧ a.Raw W := by
  obtain ⟨m, hm⟩ := h1
  exact rat_open hm
 have k2 := h2
 have lt2 : ∀ x ∈ p2, x.block < W.heap.size := by obtain ⟨m, hm⟩ := k2; exact DataW.trod_lt m _ _ _ hm
 obtain ⟨⟨l2⟩, rfl, _⟩ := okWide_structQ Tryz.underlying29 (hval 2 29 v2 rfl rfl)
 obtain ⟨b, rfl, g2⟩ : ∃ a : RV, l2 = [.bool a.n, .slice a.p a.l a.c, .bool a.m, .slice a.p2 a.l2 a.c2] ∧ a.Raw W := by
  obtain ⟨m, hm⟩ := h2
  exact rat_open hm
 clear hA0 hval0
 refine (walk yA yl yc a b W g0.2 g0.1 g1 g2).mono fun e W' ⟨he, hx⟩ => ?_
 subst he
 have bel := hx.below
 exact ⟨_, rfl, _, _, _, [], _, [], hW', trodAll_mk1 (shut_bool Tryz.underlying4 _), (trodAll_cons_mk (Below.trod laidOut (by kernel_rfl) (of_decide_eq_true (by kernel_rfl)) k0 bel lt0) (trodAll_cons_mk (Below.trod laidOut (by kernel_rfl) (of_decide_eq_true (by kernel_rfl)) k1 bel lt1) (trodAll_cons_mk (Below.trod laidOut (by kernel_rfl) (of_decide_eq_true (by kernel_rfl)) k2 bel lt2) trodAll_mk0))), rfl, bel.frame _, fun h => by cases h⟩

theorem proved : Rows.ScanlineMeasureSaid :=
  OpenClaim.holds_of_wide 5 Tryz.f5 rfl rfl rfl rfl rfl rfl rfl ⟨rfl, rfl, rfl, rfl, rfl⟩ rfl rfl rfl rfl rfl (by kernel_rfl) Tryz.func5 (by kernel_rfl)
    (of_decide_eq_true (by kernel_rfl)) (by unfold Func.isWrapper; first | (rw [if_pos (by decide +kernel)]; kernel_rfl) | (rw [if_neg (by decide +kernel)]; exact ⟨rfl, rfl⟩))
    (fun os started H enc _ => lifted os started H enc)
#print axioms proved
end Go.Proofs.YtaeeeailoiioaaaGreat.measure
