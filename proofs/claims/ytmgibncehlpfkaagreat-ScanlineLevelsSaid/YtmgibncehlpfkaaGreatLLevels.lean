/- ScanlineLevels. -/
import Derived.Test.YtmgibncehlpfkaaGreatM9
namespace Go.Proofs.YtmgibncehlpfkaaGreat.levels
open Go.RowKit Go.ChangeShapes Go.WideShapes Go.ChangeAt
attribute [local go_sem ↓] Go.wp_at_zero Go.wp_at_succ run_max_ii run_min_ii
theorem le_sumQ {a : Nat} : ∀ {l : List Nat}, a ∈ l → a ≤ l.sum
  | x :: l, h => by
    rw [List.sum_cons]
    rcases List.mem_cons.1 h with rfl | h
    · omega
    have := le_sumQ h; omega
theorem smPoly_ring {rs : List Ring} (h : smPoly rs = true) : ∀ r, r ∈ rs → r.length ≤ 60 := by
  intro r hr
  have h2 := (smPoly_out h).2
  have h3 : min r.length 1000 ≤ mtot rs := by
    unfold mtot
    exact le_sumQ (List.mem_map.2 ⟨r, hr, rfl⟩)
  omega
theorem smPoly_small {rs : List Ring} (h : smPoly rs = true) : rs.length ≤ 100000 ∧ ∀ r, r ∈ rs → r.length ≤ 100000 := ⟨by have := (smPoly_out h).1; omega, fun r hr => by have := smPoly_ring h r hr; omega⟩
theorem lv_ints {w : World} {b n : Nat} {t : TypeId} {v : Value} {es : List LvE} (h : RowN w b t 1 v n (es.flatMap LvE.cn)) (hn : n = es.length) : IntsV w v (es.map LvE.n) := by
  obtain ⟨A, c, rfl, hA⟩ := h.form
  refine ⟨A, c, by rw [List.length_map, hn], fun k x hx => ?_⟩
  rw [List.getElem?_map] at hx
  obtain ⟨e, he, rfl⟩ := Option.map_eq_some_iff.1 hx
  have hk := (List.getElem?_eq_some_iff.1 he).1
  obtain ⟨g, rfl⟩ := hA (by omega)
  have h1 := h.rangeAt _ _ (fun j v hj => flat_get (c := 1) LvE.cn_len es k e he j v hj) 0 _ rfl
  exact ⟨g, 0, rfl, by simpa using h1⟩
theorem lv_spr {L : Nat} {w : World} {b : Nat} {v : Value} {es : List LvE} (h : RowN w b 39 8 v es.length (es.flatMap LvE.cs)) (ho : ∀ e, e ∈ es → e.Ok L w) : SpR L w b v (es.map LvE.sp) := by
  rw [lv_sp] at h
  refine ⟨by rw [List.length_map]; exact h, fun e he => ?_⟩
  obtain ⟨x, hx, rfl⟩ := List.mem_map.1 he
  have h1 := ho x hx
  exact ⟨h1.1, h1.2.1, h1.2.2.1, h1.2.2.2.1⟩
theorem lv_vls {es fs : List LvE} {l : List (QQ × Int)} (h : es.map LvE.vl = l) (k : fs.map LvE.vl = l) : (es.map LvE.sp).map SpE.vl = (fs.map LvE.sp).map SpE.vl := by
  have h1 : ∀ x : List LvE, (x.map LvE.sp).map SpE.vl = (x.map LvE.vl).map Prod.fst := fun x => by rw [List.map_map, List.map_map]; rfl
  rw [h1, h1, h, k]
theorem lv_nums {es fs : List LvE} {l : List (QQ × Int)} (h : es.map LvE.vl = l) (k : fs.map LvE.vl = l) : es.map LvE.n = fs.map LvE.n := by
  have h1 : ∀ x : List LvE, x.map LvE.n = (x.map LvE.vl).map Prod.snd := fun x => by rw [List.map_map]; rfl
  rw [h1, h1, h, k]
def picked (rule : Int) (es : List LvE) (i : Nat) : List SpE := ((es.take i).filter fun e => fillsV e.n rule).map LvE.sp
theorem picked_yes {rule : Int} {es : List LvE} {i : Nat} {e : LvE} (h : es[i]? = some e) (hf : fillsV e.n rule = true) : picked rule es (i + 1) = picked rule es i ++ [e.sp] := by
  unfold picked
  rw [List.take_add_one, h, List.filter_append, List.map_append]
  simp [hf]
theorem picked_no {rule : Int} {es : List LvE} {i : Nat} {e : LvE} (h : es[i]? = some e) (hf : fillsV e.n rule = false) : picked rule es (i + 1) = picked rule es i := by
  unfold picked
  rw [List.take_add_one, h, List.filter_append, List.map_append]
  simp [hf]
theorem picked_le (rule : Int) (es : List LvE) (i : Nat) : (picked rule es i).length ≤ i := by
  unfold picked
  rw [List.length_map]
  exact Nat.le_trans (List.length_filter_le _ _) (List.length_take_le _ _)
theorem picked_ok {L : Nat} {w : World} {rule : Int} {es : List LvE} {i : Nat} (h : ∀ e, e ∈ es → e.Ok L w) : ∀ e, e ∈ picked rule es i → e.Ok L w := by
  intro e he
  unfold picked at he
  obtain ⟨x, hx, rfl⟩ := List.mem_map.1 he
  have h1 := h x (List.mem_of_mem_take (List.mem_filter.1 hx).1)
  exact ⟨h1.1, h1.2.1, h1.2.2.1, h1.2.2.2.1⟩
theorem picked_all {rule : Int} {es : List LvE} {ms : List QI} (h : es.map LvE.vl = levelsV ms) : mergeV ((picked rule es es.length).map SpE.vl) = spansV rule ms := by
  rw [← levels_spans, ← h]
  congr 1
  unfold picked sel
  rw [List.take_length, List.filter_map, List.map_map, List.map_map]
  rfl
set_option maxRecDepth 20000 in
set_option maxHeartbeats 4000000 in
theorem walkF0 (A : Option Addr) (rs : List Ring) (cap : Nat) (rule : Int) (ry : RV)  (w : World) (hs : ∀ W, Ext w W → Calls Tryz.prog 4 #[.slice A rs.length cap] W fun e w' => e = .returned (.bool false) ∧ Ext W w')  :
  Calls Tryz.prog 3 #[.slice A rs.length cap, .int .i64 rule, .agg #[.bool ry.n, .slice ry.p ry.l ry.c, .bool ry.m, .slice ry.p2 ry.l2 ry.c2]] w fun e w' => e = .returned (.bool true) ∧ Ext w w' := by
 have HS := zH hs
 clear hs
 go_enter Tryz.func3, Tryz.ntmps3
 have H0 := zH (Hp.start w)
 go_upto_region 0 with fail
 refine wp_region_lit ?_
 refine mv_alloc (T := 27) (zs := [.bool ry.n, .slice ry.p ry.l ry.c, .bool ry.m, .slice ry.p2 ry.l2 ry.c2]) (by rfl) (by go_simp) H0.out (by simp [NoUL]) ?_
 intro X1 w2 hh hx hge
 have H3 := zH (show Hp w w2 [.blk X1 27 (rc ry)] from hh)
 clear hh hx hge
 try simp only [Act.put, zA, zB, zC]
 refine zq (.bool false) ?_
 go_upto_region 1 with fail
 refine wp_region_lit ?_
 refine qV (.slice A rs.length cap) ?_
 refine zc (HS.out _ H3.out.ext) ?_
 rintro e w8 ⟨rfl, hx⟩
 have H9 := zH (H3.out.step hx)
 clear hx
 refine zn ?_
 refine qV (.bool true) ?_
 refine zq (.bool true) ?_
 refine zk ?_
 refine zk ?_
 refine zk ?_
 refine zq (.bool true) ?_
 go_upto_region 2 with fail
 refine wp_region_lit ?_
 refine zc (example_any _) ?_
 rintro e w14 ⟨rfl, hx⟩
 have H15 := zH (H9.out.step hx)
 clear hx
 refine zn ?_
 refine zq (.bool true) ?_
 go_wp2_with fail
 go_ret
 exact ⟨rfl, H15.out.ext⟩
set_option maxRecDepth 20000 in
set_option maxHeartbeats 4000000 in
theorem walkF1 (A : Option Addr) (rs : List Ring) (cap : Nat) (rule : Int) (ry : RV)  (w : World) (hs : ∀ W, Ext w W → Calls Tryz.prog 4 #[.slice A rs.length cap] W fun e w' => e = .returned (.bool true) ∧ Ext W w') (ha : ∀ W, Ext w W → Calls Tryz.prog 5 #[.agg #[.bool ry.n, .slice ry.p ry.l ry.c, .bool ry.m, .slice ry.p2 ry.l2 ry.c2]] W fun e w' => e = .returned (.bool false) ∧ Ext W w')  :
  Calls Tryz.prog 3 #[.slice A rs.length cap, .int .i64 rule, .agg #[.bool ry.n, .slice ry.p ry.l ry.c, .bool ry.m, .slice ry.p2 ry.l2 ry.c2]] w fun e w' => e = .returned (.bool true) ∧ Ext w w' := by
 have HS := zH hs
 clear hs
 have HSA := zH ha
 clear ha
 go_enter Tryz.func3, Tryz.ntmps3
 have H0 := zH (Hp.start w)
 go_upto_region 0 with fail
 refine wp_region_lit ?_
 refine mv_alloc (T := 27) (zs := [.bool ry.n, .slice ry.p ry.l ry.c, .bool ry.m, .slice ry.p2 ry.l2 ry.c2]) (by rfl) (by go_simp) H0.out (by simp [NoUL]) ?_
 intro X18 w19 hh hx hge
 have H20 := zH (show Hp w w19 [.blk X18 27 (rc ry)] from hh)
 clear hh hx hge
 try simp only [Act.put, zA, zB, zC]
 refine zq (.bool false) ?_
 go_upto_region 1 with fail
 refine wp_region_lit ?_
 refine qV (.slice A rs.length cap) ?_
 refine zc (HS.out _ H20.out.ext) ?_
 rintro e w25 ⟨rfl, hx⟩
 have H26 := zH (H20.out.step hx)
 clear hx
 refine zn ?_
 refine qV (.bool false) ?_
 refine zq (.bool false) ?_
 refine zd X18 (0) (rc ry) (H26.out.range (i := 0) (by rfl) 0 4) Tryz.underlying27 ?_
 refine zc (HSA.out _ H26.out.ext) ?_
 rintro e w30 ⟨rfl, hx⟩
 have H31 := zH (H26.out.step hx)
 clear hx
 refine zn ?_
 refine qV (.bool true) ?_
 refine zq (.bool true) ?_
 go_upto_region 2 with fail
 refine wp_region_lit ?_
 refine zc (example_any _) ?_
 rintro e w35 ⟨rfl, hx⟩
 have H36 := zH (H31.out.step hx)
 clear hx
 refine zn ?_
 refine zq (.bool true) ?_
 go_wp2_with fail
 go_ret
 exact ⟨rfl, H36.out.ext⟩
set_option maxRecDepth 20000 in
set_option maxHeartbeats 4000000 in
theorem walkT (A : Option Addr) (rs : List Ring) (cap : Nat) (rule : Int) (ry : RV) (y : Rat) (w : World) (hs : ∀ W, Ext w W → Calls Tryz.prog 4 #[.slice A rs.length cap] W fun e w' => e = .returned (.bool true) ∧ Ext W w') (ha : ∀ W, Ext w W → Calls Tryz.prog 5 #[.agg #[.bool ry.n, .slice ry.p ry.l ry.c, .bool ry.m, .slice ry.p2 ry.l2 ry.c2]] W fun e w' => e = .returned (.bool true) ∧ Ext W w') (hu : RingsV w (.slice A rs.length cap) rs) (hy : ry.In 20 w y) (hn : rs.length ≤ 100000) (hr : ∀ r, r ∈ rs → r.length ≤ 100000) (hru : -9223372036854775808 ≤ rule ∧ rule ≤ 9223372036854775807) :
  Calls Tryz.prog 3 #[.slice A rs.length cap, .int .i64 rule, .agg #[.bool ry.n, .slice ry.p ry.l ry.c, .bool ry.m, .slice ry.p2 ry.l2 ry.c2]] w fun e w' => e = .returned (.bool true) ∧ Ext w w' := by
 have HS := zH hs
 clear hs
 have HSA := zH ha
 clear ha
 have HU := zH hu
 have RY := zH hy
 have HN := zH hn
 have HR := zH hr
 have h1L : 1 ≤ 20 := by decide
 clear hu hy hn hr
 go_enter Tryz.func3, Tryz.ntmps3
 have H0 := zH (Hp.start w)
 go_upto_region 0 with fail
 refine wp_region_lit ?_
 refine mv_alloc (T := 27) (zs := [.bool ry.n, .slice ry.p ry.l ry.c, .bool ry.m, .slice ry.p2 ry.l2 ry.c2]) (by rfl) (by go_simp) H0.out (by simp [NoUL]) ?_
 intro X39 w40 hh hx hge
 have H41 := zH (show Hp w w40 [.blk X39 27 (rc ry)] from hh)
 clear hh hx hge
 try simp only [Act.put, zA, zB, zC]
 refine zq (.bool false) ?_
 go_upto_region 1 with fail
 refine wp_region_lit ?_
 refine qV (.slice A rs.length cap) ?_
 refine zc (HS.out _ H41.out.ext) ?_
 rintro e w46 ⟨rfl, hx⟩
 have H47 := zH (H41.out.step hx)
 clear hx
 refine zn ?_
 refine qV (.bool false) ?_
 refine zq (.bool false) ?_
 refine zd X39 (0) (rc ry) (H47.out.range (i := 0) (by rfl) 0 4) Tryz.underlying27 ?_
 refine zc (HSA.out _ H47.out.ext) ?_
 rintro e w51 ⟨rfl, hx⟩
 have H52 := zH (H47.out.step hx)
 clear hx
 refine zn ?_
 refine qV (.bool false) ?_
 refine zq (.bool false) ?_
 go_upto_region 3 with fail
 refine wp_region_lit ?_
 refine qV (.slice A rs.length cap) ?_
 refine zd X39 (0) (rc ry) (H52.out.range (i := 0) (by rfl) 0 4) Tryz.underlying27 ?_
 refine zc (levels_any 20 (.slice A rs.length cap) rs ry y _ (HU.out.ext H52.out.ext) (RY.out.dig H52.out.dig0) (by decide) (by decide) HN.out HR.out) ?_
 rintro e w57 ⟨A158, c158, A258, c258, n_, ls58, rfl, rfl, hr1_, hr2_, hok_, hcv_, hml_, hx⟩
 have HVC58 := zH hcv_
 have HOC58 := zH hok_
 have HML58 := zH hml_
 obtain ⟨Ax_, cx_, hv_, hA_⟩ := RowN.form hr1_
 obtain rfl : A158 = Ax_ := by injection hv_
 have HXA58 := zH hA_
 clear hv_ hA_ hcv_ hok_ hml_
 obtain ⟨Ay_, cy_, hv_, hA_⟩ := RowN.form hr2_
 obtain rfl : A258 = Ay_ := by injection hv_
 have HWA58 := zH hA_
 clear hv_ hA_
 have H59 := zH (show Hp w w57 [.blk X39 27 (rc ry), ro 39 8 A158 ls58.length c158 LvE.cs ls58, ro 3 1 A258 ls58.length c258 LvE.cn ls58] from H52.out.addRow2 hx hr1_ hr2_ (by decide))
 clear hr1_ hr2_
 clear hx
 refine zn ?_
 refine qV (.tuple #[.slice A158 ls58.length c158, .slice A258 ls58.length c258]) ?_
 refine zq (.slice A158 ls58.length c158) ?_
 refine qV (.slice A258 ls58.length c258) ?_
 refine zq (.slice A158 ls58.length c158) ?_
 refine zq (.slice A258 ls58.length c258) ?_
 go_upto_region 4 with fail
 refine wp_region_lit ?_
 refine qV (.slice A rs.length cap) ?_
 refine zd X39 (0) (rc ry) (H59.out.range (i := 0) (by rfl) 0 4) Tryz.underlying27 ?_
 refine zc (rlevels_any 20 (.slice A rs.length cap) rs ry y _ (HU.out.ext H59.out.ext) (RY.out.dig H59.out.dig0) (by decide) (by decide) HN.out HR.out) ?_
 rintro e w67 ⟨A168, c168, A268, c268, n_, ls68, rfl, rfl, hr1_, hr2_, hok_, hcv_, hml_, hx⟩
 have HVC68 := zH hcv_
 have HOC68 := zH hok_
 have HML68 := zH hml_
 obtain ⟨Ax_, cx_, hv_, hA_⟩ := RowN.form hr1_
 obtain rfl : A168 = Ax_ := by injection hv_
 have HXA68 := zH hA_
 clear hv_ hA_ hcv_ hok_ hml_
 obtain ⟨Ay_, cy_, hv_, hA_⟩ := RowN.form hr2_
 obtain rfl : A268 = Ay_ := by injection hv_
 have HWA68 := zH hA_
 clear hv_ hA_
 have H69 := zH (show Hp w w67 [.blk X39 27 (rc ry), ro 39 8 A158 ls58.length c158 LvE.cs ls58, ro 3 1 A258 ls58.length c258 LvE.cn ls58, ro 39 8 A168 ls68.length c168 LvE.cs ls68, ro 3 1 A268 ls68.length c268 LvE.cn ls68] from H59.out.addRow2 hx hr1_ hr2_ (by decide))
 have D69 := zH (Dig.of_ext hx)
 clear hr1_ hr2_
 clear hx
 refine zn ?_
 refine qV (.tuple #[.slice A168 ls68.length c168, .slice A268 ls68.length c268]) ?_
 refine zq (.slice A168 ls68.length c168) ?_
 refine qV (.slice A268 ls68.length c268) ?_
 refine zq (.slice A168 ls68.length c168) ?_
 refine zq (.slice A268 ls68.length c268) ?_
 go_upto_region 5 with fail
 refine wp_region_lit ?_
 refine qV (.slice A158 ls58.length c158) ?_
 refine zq (.slice A168 ls68.length c168) ?_
 refine zc (r18same_any 28 (.slice A158 ls58.length c158) (.slice A168 ls68.length c168) _ _ _ _ _ (lv_spr (H69.out.row (i := 1) (by rfl)) (fun e_ h_ => (HOC58.out e_ h_).dig D69.out)) (lv_spr (H69.out.row (i := 3) (by rfl)) HOC68.out) (lv_vls HVC58.out HVC68.out) (by decide) (by rw [List.length_map]; exact Nat.le_trans HML58.out (by decide))) ?_
 rintro e w78 ⟨rfl, hx⟩
 have H79 := zH (H69.out.step hx)
 have D79 := zH (Dig.of_ext hx)
 clear hx
 refine zn ?_
 refine qV (.bool false) ?_
 refine zq (.bool false) ?_
 refine qV (.slice A258 ls58.length c258) ?_
 refine zq (.slice A268 ls68.length c268) ?_
 refine zc (equalInts_any (.slice A258 ls58.length c258) (.slice A268 ls68.length c268) (List.map LvE.n ls58) _ (lv_ints (H79.out.row (i := 2) (by rfl)) rfl) (by rw [lv_nums HVC58.out HVC68.out]; exact lv_ints (H79.out.row (i := 4) (by rfl)) rfl) (by rw [List.length_map]; exact Nat.le_trans HML58.out (by decide))) ?_
 rintro e w85 ⟨rfl, hx⟩
 have H86 := zH (H79.out.step hx)
 have D86 := zH (Dig.of_ext hx)
 clear hx
 refine zn ?_
 refine qV (.bool false) ?_
 refine zq (.bool false) ?_
 have H90 := zH (show Hp w w85 [.blk X39 27 (rc ry), ro 39 8 A158 ls58.length c158 LvE.cs ls58, ro 3 1 A258 ls58.length c258 LvE.cn ls58, ro 39 8 A168 ls68.length c168 LvE.cs ls68, ro 3 1 A268 ls68.length c268 LvE.cn ls68, ro 39 8 none 0 0 SpE.cells ([])] from H86.out.addNil 39 8)
 go_upto_region 7 with fail
 refine wp_region_lit ?_
 refine zq (.slice none 0 0) ?_
 go_upto_region 8 with fail
 refine wp_region_lit ?_
 refine qV (.slice A258 ls58.length c258) ?_
 refine zq (.int .i64 ((ls58.length : Nat) : Int)) ?_
 refine zq (.int .i64 0) ?_
 go_wp2_with fail
 go_loopg [11, 46] (ls58.length) (fun cq v95 v96 wr => ∃ (i : Nat) (m : Nat) (fs : List SpE) (A3 : Option Addr) (c3 : Nat), cq = ls58.length - i ∧ v95 = .slice A3 m c3 ∧ v96 = .int .i64 (i : Int) ∧ (i ≤ ls58.length) ∧ (m = fs.length) ∧ (fs = picked rule ls58 i) ∧ Hp w wr [.blk X39 27 [.bool ry.n, .slice ry.p ry.l ry.c, .bool ry.m, .slice ry.p2 ry.l2 ry.c2], .row 39 8 (.slice A158 ls58.length c158) (ls58.length) (List.flatMap LvE.cs ls58), .row 3 1 (.slice A258 ls58.length c258) (ls58.length) (List.flatMap LvE.cn ls58), .row 39 8 (.slice A168 ls68.length c168) (ls68.length) (List.flatMap LvE.cs ls68), .row 3 1 (.slice A268 ls68.length c268) (ls68.length) (List.flatMap LvE.cn ls68), .row 39 8 (.slice A3 m c3) (m) (List.flatMap SpE.cells fs)] ∧ Dig w85 wr)
 case atStart => exact ⟨0, 0, [], none, 0, rfl, rfl, rfl, Nat.zero_le _, rfl, rfl, H90.out, Dig.refl _⟩
 case round =>
  obtain ⟨i, m, fs, A3, c3, rfl, rfl, rfl, q_HKI, q_HM, q_HFS, hh_, hd_⟩ := hrel
  generalize wr = w97 at *
  have HKI := zH q_HKI
  clear q_HKI
  have HM := zH q_HM
  clear q_HM
  have HFS := zH q_HFS
  clear q_HFS
  have H99 := zH hh_
  have D99 := zH hd_
  clear hh_ hd_ H90
  by_cases c100 : i < ls58.length
  ·have HLT := zH c100
   clear c100
   have hlt := HLT.out
   have hml : ls58.length ≤ 4096 := HML58.out
   have hm4 : m ≤ 4096 := by have h_ := HM.out; have h2_ := picked_le rule ls58 i; rw [← HFS.out] at h2_; omega
   obtain ⟨gxs, rfl⟩ := HXA58.out (by omega)
   obtain ⟨gws, rfl⟩ := HWA58.out (by omega)
   obtain ⟨e, he_⟩ : ∃ e, ls58[i]? = some e := ⟨_, List.getElem?_eq_getElem hlt⟩
   have HEe := zH he_
   have HOe := zH (HOC58.out e (List.mem_of_getElem? he_))
   have RAe := zH HOe.out.1
   have RBe := zH HOe.out.2.1
   have BAe := zH HOe.out.2.2.1
   have BBe := zH HOe.out.2.2.2.1
   clear he_
   go_upto_region 10 with fail
   refine wp_region_lit ?_
   refine qV (.int .i64 (i : Int)) ?_
   refine zq (.int .i64 (i : Int)) ?_
   rcases hcf : fillsV e.n rule with _ | _
   ·have CF := zH hcf
    clear hcf
    go_upto_region 11 with fail
    refine wp_region_lit ?_
    refine qV (.slice (some ⟨gws, 0, none⟩) ls58.length c258) ?_
    refine zq (.int .i64 (i : Int)) ?_
    refine zp (w' := w97) (.pointer (some ⟨gws, i * 1, none⟩)) (by exact ezi (k := i) Tryz.underlying32 (l := hlt) (f := (Nat.zero_add _).symm)) ?_
    refine ze gws (i * 1) (.int .i64 e.n) (H99.out.elem (f := LvE.cn) (i := 2) (by rfl) LvE.cn_len HEe.out) ?_
    refine qV (.int .i64 rule) ?_
    refine zc (rfills_is e.n rule false _ CF.out (by have h_ := HOe.out.2.2.2.2; constructor <;> omega)) ?_
    rintro e w107 ⟨rfl, hx⟩
    have H108 := zH (H99.out.step hx)
    have D108 := zH (Dig.of_ext hx)
    clear hx
    refine zn ?_
    have DD110 := zH ((D99.out.trans D108.out))
    go_wp2_with fail
    go_roundg (ls58.length - (i + 1))
    case measure => exact (by omega)
    case rel => exact ⟨i + 1, m, fs, A3, c3, rfl, rfl, (by go_num), hlt, HM.out, (by rw [HFS.out, picked_no HEe.out CF.out]), H108.out, DD110.out⟩
   have CF := zH hcf
   clear hcf
   go_upto_region 11 with fail
   refine wp_region_lit ?_
   refine qV (.slice (some ⟨gws, 0, none⟩) ls58.length c258) ?_
   refine zq (.int .i64 (i : Int)) ?_
   refine zp (w' := w97) (.pointer (some ⟨gws, i * 1, none⟩)) (by exact ezi (k := i) Tryz.underlying32 (l := hlt) (f := (Nat.zero_add _).symm)) ?_
   refine ze gws (i * 1) (.int .i64 e.n) (H99.out.elem (f := LvE.cn) (i := 2) (by rfl) LvE.cn_len HEe.out) ?_
   refine qV (.int .i64 rule) ?_
   refine zc (rfills_is e.n rule true _ CF.out (by have h_ := HOe.out.2.2.2.2; constructor <;> omega)) ?_
   rintro e w115 ⟨rfl, hx⟩
   have H116 := zH (H99.out.step hx)
   have D116 := zH (Dig.of_ext hx)
   clear hx
   refine zn ?_
   go_upto_region 12 with fail
   refine wp_region_lit ?_
   refine qV (.slice A3 m c3) ?_
   refine zq (.slice (some ⟨gxs, 0, none⟩) ls58.length c158) ?_
   refine zq (.int .i64 (i : Int)) ?_
   refine zp (w' := w115) (.pointer (some ⟨gxs, i * 8, none⟩)) (by exact ezi (k := i) Tryz.underlying31 (l := hlt) (f := (Nat.zero_add _).symm)) ?_
   refine zd gxs (i * 8) [.bool e.a.n, .slice e.a.p e.a.l e.a.c, .bool e.a.m, .slice e.a.p2 e.a.l2 e.a.c2, .bool e.b.n, .slice e.b.p e.b.l e.b.c, .bool e.b.m, .slice e.b.p2 e.b.l2 e.b.c2] (H116.out.elem (f := LvE.cs) (i := 1) (by rfl) LvE.cs_len HEe.out) Tryz.underlying39 ?_
   refine zp (w' := (w115.alloc (.cells ([.bool e.a.n, .slice e.a.p e.a.l e.a.c, .bool e.a.m, .slice e.a.p2 e.a.l2 e.a.c2, .bool e.b.n, .slice e.b.p e.b.l e.b.c, .bool e.b.m, .slice e.b.p2 e.b.l2 e.b.c2] : List Value).toArray 39))) (.slice (some ⟨w115.heap.size, 0, none⟩) 1 1) (by go_simp) ?_
   refine mv_app (by rfl) _ _ _ (by rfl) elSpan (by rfl) H116.out (ix := 5) (by rfl) 1 1 [.bool e.a.n, .slice e.a.p e.a.l e.a.c, .bool e.a.m, .slice e.a.p2 e.a.l2 e.a.c2, .bool e.b.n, .slice e.b.p e.b.l e.b.c, .bool e.b.m, .slice e.b.p2 e.b.l2 e.b.c2] (by rfl) rfl (by simp [Value.oneCell']) (by simp [NoUL]) (by decide) (by unfold maxLen; exact (by omega)) (by omega) ?_
   intro g123 cp124 w122 hf hh hd hg
   have Fg123 := zH hf
   clear hf
   rw [show List.flatMap SpE.cells fs ++ [.bool e.a.n, .slice e.a.p e.a.l e.a.c, .bool e.a.m, .slice e.a.p2 e.a.l2 e.a.c2, .bool e.b.n, .slice e.b.p e.b.l e.b.c, .bool e.b.m, .slice e.b.p2 e.b.l2 e.b.c2] = _ from flat_snoc SpE.cells _ e.sp] at hh
   have H125 := zH (show Hp w w122 [.blk X39 27 (rc ry), ro 39 8 (some ⟨gxs, 0, none⟩) ls58.length c158 LvE.cs ls58, ro 3 1 (some ⟨gws, 0, none⟩) ls58.length c258 LvE.cn ls58, ro 39 8 A168 ls68.length c168 LvE.cs ls68, ro 3 1 A268 ls68.length c268 LvE.cn ls68, ro 39 8 (some ⟨g123, 0, none⟩) (m + 1) cp124 SpE.cells (fs ++ [e.sp])] from hh)
   have D125 := zH (hd)
   clear hh hd hg
   try simp only [Act.put, zA, zB, zC]
   refine zq (.slice (some ⟨g123, 0, none⟩) (m + 1) cp124) ?_
   have DD128 := zH (((D99.out.trans D116.out).trans D125.out))
   go_wp2_with fail
   go_roundg (ls58.length - (i + 1))
   case measure => exact (by omega)
   case rel => exact ⟨i + 1, m + 1, fs ++ [e.sp], some ⟨g123, 0, none⟩, cp124, rfl, rfl, (by go_num), hlt, (by rw [List.length_append, ← HM.out]; rfl), (by rw [HFS.out, picked_yes HEe.out CF.out]), H125.out, DD128.out⟩
  have HLT := zH c100
  clear c100
  have DD129 := zH ((((D69.out.trans D79.out).trans D86.out).trans D99.out))
  have hlt := HLT.out
  have hki := HKI.out
  obtain rfl : i = ls58.length := by omega
  have hge : ¬ (ls58.length : Int) < (ls58.length : Int) := by omega
  have hml : ls58.length ≤ 4096 := HML58.out
  have hm := HM.out
  subst hm
  have hm4 : fs.length ≤ 4096 := by have h2_ := picked_le rule ls58 ls58.length; rw [← HFS.out] at h2_; omega
  have HOK2 := zH (show ∀ e, e ∈ fs → SpE.Ok 28 w97 e from by rw [HFS.out]; exact picked_ok (fun e_ h_ => (HOC58.out e_ h_).dig DD129.out))
  go_upto_region 14 with fail
  refine zy ?_
  have H130 := zH (H99.out.step (Ext.refl w97).drew)
  have D130 := zH (Dig.of_ext (w := w97) zb)
  refine zx 0 (bs 11 1) (.slice A3 fs.length c3) zb ?_
  refine zx 2 (bs 11 5) (.slice A rs.length cap) zb ?_
  refine mX 3 (bs 11 13) (.int .i64 rule) zb ?_
  refine zg 4 (bs 11 29) X39 (0) (rc ry) (H99.out.range (i := 0) (by rfl) 0 4) Tryz.underlying27 zb ?_
  refine mC 1 (bs 11 31) (merge_any 28 (.slice A3 fs.length c3) (List.map SpE.vl fs) _ (SpR.reads ⟨H130.out.row (i := 5) (by rfl), (fun e_ he_ => (HOK2.out e_ he_).dig D130.out)⟩) (by decide) (by decide) (by rw [List.length_map]; omega)) ?_
  rintro e w135 ⟨v_, es136, rfl, hv1_, hv2_, hv3_, hx⟩
  have VL136 := zH hv2_
  have LN136 := zH hv3_
  have OK136 := zH hv1_.2
  obtain ⟨A136, c136, rfl, hA_⟩ := RowN.form hv1_.1
  have HA136 := zH hA_
  clear hv2_ hv3_ hA_
  have H137 := zH (show Hp w w135 [.blk X39 27 (rc ry), ro 39 8 A158 ls58.length c158 LvE.cs ls58, ro 3 1 A258 ls58.length c258 LvE.cn ls58, ro 39 8 A168 ls68.length c168 LvE.cs ls68, ro 3 1 A268 ls68.length c268 LvE.cn ls68, ro 39 8 A3 fs.length c3 SpE.cells fs, ro 39 8 A136 es136.length c136 SpE.cells es136] from H130.out.addRow hx hv1_.1)
  have S139 := zH (show Ext w97 w135 from zb.trans hx)
  clear hv1_
  have VM136 := zH (show List.map SpE.vl es136 = spansV rule (marksV y rs) from VL136.out.trans (by rw [HFS.out]; exact picked_all HVC58.out))
  clear hx
  refine zm S139.out ?_
  refine mC 5 (bs 11 63) (spans_any 20 (.slice A rs.length cap) rs rule ry y _ (HU.out.ext H137.out.ext) (RY.out.dig H137.out.dig0) (by decide) (by decide) HN.out HR.out hru) ?_
  rintro e w140 ⟨v_, es141, rfl, hv1_, hv2_, hv3_, hx⟩
  have VL141 := zH hv2_
  have LN141 := zH hv3_
  have OK141 := zH hv1_.2
  obtain ⟨A141, c141, rfl, hA_⟩ := RowN.form hv1_.1
  have HA141 := zH hA_
  clear hv2_ hv3_ hA_
  have H142 := zH (show Hp w w140 [.blk X39 27 (rc ry), ro 39 8 A158 ls58.length c158 LvE.cs ls58, ro 3 1 A258 ls58.length c258 LvE.cn ls58, ro 39 8 A168 ls68.length c168 LvE.cs ls68, ro 3 1 A268 ls68.length c268 LvE.cn ls68, ro 39 8 A3 fs.length c3 SpE.cells fs, ro 39 8 A136 es136.length c136 SpE.cells es136, ro 39 8 A141 es141.length c141 SpE.cells es141] from H137.out.addRow hx hv1_.1)
  have D142 := zH (Dig.of_ext hx)
  have S144 := zH (S139.out.trans hx)
  clear hv1_
  clear hx
  refine zm S144.out ?_
  refine mC 6 (bs 11 127) (r18same_any 60000 (.slice A136 es136.length c136) (.slice A141 es141.length c141) _ _ es136 es141 _ (SpR.up (L := 28) ⟨H142.out.row (i := 6) (by rfl), (fun e_ he_ => (OK136.out e_ he_).dig D142.out)⟩ (by omega)) (SpR.up (L := (20 + 8)) ⟨H142.out.row (i := 7) (by rfl), OK141.out⟩ (by omega)) (VM136.out.trans VL141.out.symm) (by omega) (Nat.le_trans LN136.out (by rw [List.length_map]; exact Nat.le_trans hm4 (by decide)))) ?_
  rintro e w145 ⟨rfl, hx⟩
  have H146 := zH (H142.out.step hx)
  have S148 := zH (S144.out.trans hx)
  clear hx
  refine zm S148.out ?_
  refine zx 7 (bs 11 255) (.bool true) S148.out ?_
  refine mC 8 (bs 11 511) (example_any _) ?_
  rintro e w150 ⟨rfl, hx⟩
  have H151 := zH (H146.out.step hx)
  have S153 := zH (S148.out.trans hx)
  clear hx
  refine zm S153.out ?_
  refine zx 9 (bs 11 1023) (.bool true) S153.out ?_
  refine zx 10 (bs 11 2047) (.bool true) S153.out ?_
  refine wpAnyH_done (by kernel_rfl) ?_ _
  go_wp2_with fail
  go_ret
  exact ⟨rfl, H151.out.ext⟩

theorem walk (A : Option Addr) (rs : List Ring) (cap : Nat) (rule : Int) (ry : RV) (w : World) (hv : RingsV w (.slice A rs.length cap) rs ∧ ∀ r, r ∈ rs → r.length ≤ maxLen) (hm : rs.length ≤ maxLen) (hy : ry.Raw w) (hru : -9223372036854775808 ≤ rule ∧ rule ≤ 9223372036854775807) :
  Calls Tryz.prog 3 #[.slice A rs.length cap, .int .i64 rule, .agg #[.bool ry.n, .slice ry.p ry.l ry.c, .bool ry.m, .slice ry.p2 ry.l2 ry.c2]] w fun e w' => e = .returned (.bool true) ∧ Ext w w' := by
 have hs := fun W (x : Ext w W) => smallPolygons_any (.slice A rs.length cap) rs W (hv.1.ext x) hm
 have sa := fun W (_ : Ext w W) => small_any ry W
 cases h0 : smPoly rs with
 | false => rw [h0] at hs; exact walkF0 A rs cap rule ry w hs
 | true =>
  rw [h0] at hs
  cases h1 : ry.sm with
  | false => rw [h1] at sa; exact walkF1 A rs cap rule ry w hs sa
  | true =>
   rw [h1] at sa
   obtain ⟨y, hq⟩ := RV.sm_in hy h1
   obtain ⟨h2, h3⟩ := smPoly_small h0
   exact walkT A rs cap rule ry y w hs sa hv.1 hq h2 h3 hru
set_option maxRecDepth 100000 in
theorem lifted (os : Os) (started : os.Started) (H : Type) (enc : TypeId × Value → H) :
  ReturnsInHanded {} Tryz.checked os 3 .any (Rows.scanlineLevelsSpec.pre6 enc Tryz.prog Tryz.f3 Rows.scanlineLevelsRow.domain false) (Rows.scanlineLevelsSpec.post enc Tryz.prog Tryz.f3 false true false false) := by
 refine returnsInHanded_of_change (C := Tryz.checked) own started (by kernel_rfl) Tryz.func3
  (ChangeSpec.witness6 (enc := enc) (C := Tryz.checked) false ⟨#[], #[.slice none 0 0, .int .i64 0, .agg z4], []⟩ 8 (by kernel_rfl) (by kernel_rfl) (by kernel_rfl) (by kernel_rfl)) ?_
 intro W base args ds gs before hval0 hW hcnd _
 have hval : ∀ (j : Nat) t v, Tryz.f3.params[j]? = some t → args[j]? = some v → Value.okWide Tryz.prog W .any base t v := hval0
 have hW' := hW
 obtain ⟨p, q, hA0, hV, rfl, hfz, hnd⟩ := hW
 have hA : DataW.TrodAll enc Tryz.prog W 0 (fun _ => true) true Tryz.f3.params.toList args.toList ds p := hA0
 rw [Tryz.params3] at hA hval
 obtain ⟨v0, vs0, d0, ds0, p0, q0, hargs, rfl, rfl, h0, r0⟩ := trodAll_cons hA
 obtain ⟨v1, vs1, d1, ds1, p1, q1, rfl, rfl, rfl, h1, r1⟩ := trodAll_cons r0
 obtain ⟨v2, vs2, d2, ds2, p2, q2, rfl, rfl, rfl, h2, r2⟩ := trodAll_cons r1
 obtain ⟨rfl, rfl, rfl⟩ := trodAll_nil r2
 obtain rfl : args = #[v0, v1, v2] := by cases args; simp_all
 obtain ⟨rfl, rfl⟩ := trodVars_none hV
 have k0 := h0
 have lt0 : ∀ x ∈ p0, x.block < W.heap.size := by obtain ⟨m, hm⟩ := k0; exact DataW.trod_lt m _ _ _ hm
 obtain ⟨yA, zl0, yc, rfl⟩ := okWide_slice Tryz.underlying22 (hval 0 22 v0 rfl rfl)
 obtain ⟨zA0, yl, zc0, ze0, g0⟩ := (by obtain ⟨m, hm⟩ := h0; exact rings_openQ hm : ∃ zB zl zc, [Value.slice yA zl0 yc] = [.slice zB (List.length zl) zc] ∧ zl.length ≤ maxLen ∧ RingsV W (.slice zB zl.length zc) zl ∧ ∀ r, r ∈ zl → r.length ≤ maxLen)
 obtain ⟨rfl, rfl, rfl⟩ : yA = zA0 ∧ zl0 = yl.length ∧ yc = zc0 := by simpa using ze0
 obtain ⟨n, rfl, rfl, rfl, w1⟩ := open_int Tryz.underlying3 (hval 1 3 v1 rfl rfl) h1
 have k2 := h2
 have lt2 : ∀ x ∈ p2, x.block < W.heap.size := by obtain ⟨m, hm⟩ := k2; exact DataW.trod_lt m _ _ _ hm
 obtain ⟨⟨l2⟩, rfl, _⟩ := okWide_structQ Tryz.underlying27 (hval 2 27 v2 rfl rfl)
 obtain ⟨a, rfl, g2⟩ : ∃ a : RV, l2 = [.bool a.n, .slice a.p a.l a.c, .bool a.m, .slice a.p2 a.l2 a.c2] ∧ a.Raw W := by
  obtain ⟨m, hm⟩ := h2
  exact rat_open hm
 clear hA0 hval0
 refine (walk yA yl yc n a W g0.2 g0.1 g2 (bounds_i64 w1)).mono fun e W' ⟨he, hx⟩ => ?_
 subst he
 have bel := hx.below
 exact ⟨_, rfl, _, _, _, [], _, [], hW', trodAll_mk1 (shut_bool Tryz.underlying4 _), (trodAll_cons_mk (Below.trod laidOut (by kernel_rfl) (of_decide_eq_true (by kernel_rfl)) k0 bel lt0) (trodAll_cons_mk (shut_int Tryz.underlying3 w1) (trodAll_cons_mk (Below.trod laidOut (by kernel_rfl) (of_decide_eq_true (by kernel_rfl)) k2 bel lt2) trodAll_mk0))), rfl, bel.frame _, fun h => by cases h⟩

theorem proved : Rows.ScanlineLevelsSaid :=
  OpenClaim.holds_of_wide 3 Tryz.f3 rfl rfl rfl rfl rfl rfl rfl ⟨rfl, rfl, rfl, rfl, rfl⟩ rfl rfl rfl rfl rfl (by kernel_rfl) Tryz.func3 (by kernel_rfl)
    (of_decide_eq_true (by kernel_rfl)) (by unfold Func.isWrapper; first | (rw [if_pos (by decide +kernel)]; kernel_rfl) | (rw [if_neg (by decide +kernel)]; exact ⟨rfl, rfl⟩))
    (fun os started H enc _ => lifted os started H enc)
#print axioms proved
end Go.Proofs.YtmgibncehlpfkaaGreat.levels
