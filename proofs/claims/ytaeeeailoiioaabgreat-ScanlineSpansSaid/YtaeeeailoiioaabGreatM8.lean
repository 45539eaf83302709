/- Contracts that the claim stands on: XRCross to XSmPoly. -/
import Derived.Test.YtaeeeailoiioaabGreatM7
namespace Go.Proofs.YtaeeeailoiioaabGreat
open Go.RowKit
attribute [local go_sem ↓] Go.wp_at_zero Go.wp_at_succ run_max_ii run_min_ii
theorem wkK : Stb.Wk ltK := wkQ' fun e : MkE => e.vl
theorem srt_mk {es : List MkE} (h : Stb.Srt ltM (es.map MkE.vl)) : Stb.Srt ltK es := by
  unfold Stb.Srt at h ⊢
  rw [List.pairwise_map] at h
  exact h
theorem edgesOf_len (rs : List Ring) : (edgesOf rs).length ≤ 4096 := by
  unfold edgesOf
  refine Nat.le_trans (edgesV_len _) ?_
  split
  · rename_i h; exact okR_tot h
  decide
theorem edgesOf_ok (rs : List Ring) : ∀ e, e ∈ edgesOf rs → okE e := by
  unfold edgesOf
  split
  · rename_i h; exact edges_ok h
  intro e he; simp [edgesV] at he
theorem marksV_of (y : Rat) (rs : List Ring) : marksV y rs = Stb.stab ltM ((edgesOf rs).filterMap (crossV y)) := rfl
theorem crs_some {y : Rat} {l : List Edge} {i : Nat} {e : Edge} {z : QI} (h : l[i]? = some e) (hc : crossV y e = some z) : Stb.stab ltM ((l.take (i + 1)).filterMap (crossV y)) = Stb.ins ltM (Stb.stab ltM ((l.take i).filterMap (crossV y))) z := by
  rw [List.take_add_one, h, List.filterMap_append, show (some e).toList = [e] from rfl, List.filterMap_cons, hc, List.filterMap_nil, Stb.stab_snoc]
theorem crs_none {y : Rat} {l : List Edge} {i : Nat} {e : Edge} (h : l[i]? = some e) (hc : crossV y e = none) : Stb.stab ltM ((l.take (i + 1)).filterMap (crossV y)) = Stb.stab ltM ((l.take i).filterMap (crossV y)) := by
  rw [List.take_add_one, h, List.filterMap_append, show (some e).toList = [e] from rfl, List.filterMap_cons, hc, List.filterMap_nil, List.append_nil]
theorem ins_at {α : Type} {es : List α} {y : α} {q : Nat} (hq : q < es.length) : (es.take (q + 1) ++ y :: es.drop (q + 1))[q]? = some es[q] ∧ (es.take (q + 1) ++ y :: es.drop (q + 1))[q + 1]? = some y ∧
  ((es.take (q + 1) ++ y :: es.drop (q + 1)).set (q + 1) es[q]).set q y = es.take q ++ y :: es.drop q ∧ ∀ z, z ∈ es.drop q → z = es[q] ∨ z ∈ es.drop (q + 1) := by
 have g1 : (es.take (q + 1) ++ y :: es.drop (q + 1))[q]? = some es[q] := by
  rw [List.getElem?_append_left (by rw [List.length_take]; omega), List.getElem?_take, if_pos (by omega)]
  exact List.getElem?_eq_getElem hq
 have g2 : (es.take (q + 1) ++ y :: es.drop (q + 1))[q + 1]? = some y := by
  rw [List.getElem?_append_right (by rw [List.length_take]; omega), List.length_take, show q + 1 - min (q + 1) es.length = 0 by omega]
  rfl
 refine ⟨g1, g2, ?_, fun z hz => ?_⟩
 ·rw [← swp_eq g2 g1]
  have h := swps_left [] es [] y q hq
  simp only [List.nil_append, List.append_nil, List.length_nil, Nat.zero_add] at h
  exact h
 rw [List.drop_eq_getElem_cons hq] at hz
 exact List.mem_cons.1 hz
set_option maxRecDepth 20000 in
set_option maxHeartbeats 4000000 in
theorem rcrossings_any (L : Nat) (u : Value) (rs : List Ring) (ry : RV) (y : Rat) (w : World) (hu : RingsV w u rs) (hy : ry.In L w y) (h1L : 1 ≤ L) (hL : L ≤ 2000) (hn : rs.length ≤ 100000) (hr : ∀ r, r ∈ rs → r.length ≤ 100000) :
  Calls Tryz.prog 19 #[u, .agg #[.bool ry.n, .slice ry.p ry.l ry.c, .bool ry.m, .slice ry.p2 ry.l2 ry.c2]] w (CrossRet L rs y w) := by
 have HU := zH hu
 have HN := zH hn
 have HR := zH hr
 have RY := zH hy
 clear hu hn hr hy
 go_enter Tryz.func19, Tryz.ntmps19
 have H0 := zH (Hp.start w)
 go_upto_region 0 with fail
 refine wp_region_lit ?_
 refine mv_alloc (T := 27) (zs := [.bool ry.n, .slice ry.p ry.l ry.c, .bool ry.m, .slice ry.p2 ry.l2 ry.c2]) (by rfl) (by go_simp) H0.out (by simp [NoUL]) ?_
 intro X1 w2 hh hx hge
 have H3 := zH (show Hp w w2 [.blk X1 27 (rc ry)] from hh)
 clear hh hx hge
 try simp only [Act.put, zA, zB, zC]
 refine qV (.slice none 0 0) ?_
 refine zq (.slice none 0 0) ?_
 go_upto_region 1 with fail
 refine wp_region_lit ?_
 refine zp (w' := w2.alloc (.cells #[] 27)) (.slice (some ⟨w2.heap.size, 0, none⟩) 0 0) (by go_simp) ?_
 have hh := H3.out.addEmpty 27 4
 have hd := Dig.of_ext ((Ext.refl w2).alloc (.cells #[] 27))
 generalize w2.alloc (.cells #[] 27) = w8 at hh hd ⊢
 generalize w2.heap.size = X9 at hh ⊢
 have H10 := zH (show Hp w w8 [.blk X1 27 (rc ry), ro 27 4 (some ⟨X9, 0, none⟩) 0 0 MkE.cx ([])] from hh)
 clear hh hd
 refine zq (.slice (some ⟨X9, 0, none⟩) 0 0) ?_
 go_upto_region 2 with fail
 refine wp_region_lit ?_
 refine zp (w' := w8.alloc (.cells #[] 3)) (.slice (some ⟨w8.heap.size, 0, none⟩) 0 0) (by go_simp) ?_
 have hh := H10.out.addEmpty 3 1
 have hd := Dig.of_ext ((Ext.refl w8).alloc (.cells #[] 3))
 generalize w8.alloc (.cells #[] 3) = w13 at hh hd ⊢
 generalize w8.heap.size = X14 at hh ⊢
 have H15 := zH (show Hp w w13 [.blk X1 27 (rc ry), ro 27 4 (some ⟨X9, 0, none⟩) 0 0 MkE.cx ([]), ro 3 1 (some ⟨X14, 0, none⟩) 0 0 MkE.cu ([])] from hh)
 clear hh hd
 refine zq (.slice (some ⟨X14, 0, none⟩) 0 0) ?_
 by_cases c18 : okR rs = true
 ·have HV := zH c18
  clear c18
  go_upto_region 3 with fail
  refine wp_region_lit ?_
  refine qV (u) ?_
  refine zc (r16Valid_any _ rs _ (HU.out.ext H15.out.ext) HN.out HR.out) ?_
  rintro e w20 ⟨rfl, hx⟩
  have H21 := zH (H15.out.step hx)
  clear hx
  refine ⟨.bool true, by rw [HV.out], ?_⟩
  try simp only [Act.put, zA, zB, zC]
  refine zq (.bool false) ?_
  go_upto_region 5 with fail
  refine wp_region_lit ?_
  refine qV (u) ?_
  refine zc (redges_any u rs _ (HU.out.ext H21.out.ext) HN.out HR.out) ?_
  rintro e w25 ⟨Ae, nE_, ce, rfl, rfl, hrow_, hx⟩
  obtain ⟨Ae2_, ce2_, hv_, hA_⟩ := RowN.form hrow_
  obtain rfl : Ae = Ae2_ := by injection hv_
  have HAE := zH hA_
  clear hA_ hv_
  have H26 := zH (show Hp w w25 [.blk X1 27 (rc ry), ro 27 4 (some ⟨X9, 0, none⟩) 0 0 MkE.cx ([]), ro 3 1 (some ⟨X14, 0, none⟩) 0 0 MkE.cu ([]), ro 71 4 Ae ((edgesOf rs).length) ce edC (edgesOf rs)] from H21.out.addRow hx hrow_)
  clear hrow_
  clear hx
  refine zn ?_
  refine zq (.slice Ae ((edgesOf rs).length) ce) ?_
  have HEL := zH (edgesOf_len rs)
  go_upto_region 6 with fail
  refine wp_region_lit ?_
  refine zq (.int .i64 0) ?_
  go_wp2_with fail
  go_loopg [6, 7, 9] ((edgesOf rs).length) (fun cq v30 v31 v32 wr => ∃ (i : Nat) (m : Nat) (es : List MkE) (A1 : Option Addr) (c1 : Nat) (A2 : Option Addr) (c2 : Nat), cq = ((edgesOf rs).length) - i ∧ v30 = .slice A1 m c1 ∧ v31 = .slice A2 m c2 ∧ v32 = .int .i64 (i : Int) ∧ (i ≤ (edgesOf rs).length) ∧ (m = es.length ∧ m ≤ i) ∧ (es.map MkE.vl = Stb.stab ltM (((edgesOf rs).take i).filterMap (crossV y))) ∧ (∀ e, e ∈ es → e.Ok (L + 8) wr) ∧ Hp w wr [.blk X1 27 [.bool ry.n, .slice ry.p ry.l ry.c, .bool ry.m, .slice ry.p2 ry.l2 ry.c2], .row 27 4 (.slice A1 m c1) (m) (List.flatMap MkE.cx es), .row 3 1 (.slice A2 m c2) (m) (List.flatMap MkE.cu es), .row 71 4 (.slice Ae ((edgesOf rs).length) ce) ((edgesOf rs).length) (List.flatMap edC (edgesOf rs))] ∧ Dig w25 wr)
  case atStart => exact ⟨0, 0, [], some ⟨X9, 0, none⟩, 0, some ⟨X14, 0, none⟩, 0, rfl, rfl, rfl, rfl, Nat.zero_le _, ⟨rfl, Nat.le_refl _⟩, rfl, (by simp), H26.out, Dig.refl _⟩
  case round =>
   obtain ⟨i, m, es, A1, c1, A2, c2, rfl, rfl, rfl, rfl, q_HKI, q_HM, q_HVL, q_HOE, hh_, hd_⟩ := hrel
   generalize wr = w33 at *
   have HKI := zH q_HKI
   clear q_HKI
   have HM := zH q_HM
   clear q_HM
   have HVL := zH q_HVL
   clear q_HVL
   have HOE := zH q_HOE
   clear q_HOE
   have H35 := zH hh_
   have D35 := zH hd_
   clear hh_ hd_ H26
   by_cases c36 : i < (edgesOf rs).length
   ·have HLT := zH c36
    clear c36
    have hlt := HLT.out
    have hlt2 : (i : Int) < ((edgesOf rs).length : Int) := by omega
    have hi4 : i < 4096 := by have h_ := HEL.out; omega
    obtain ⟨ge, rfl⟩ := HAE.out (by omega)
    obtain ⟨⟨⟨ax, ay⟩, ⟨bx, bY⟩⟩, he_⟩ : ∃ e, (edgesOf rs)[i]? = some e := ⟨_, List.getElem?_eq_getElem hlt⟩
    have HE := zH he_
    have HKE := zH (edgesOf_ok rs _ (List.mem_of_getElem? he_))
    have HOA := zH HKE.out.1
    have HOB := zH HKE.out.2
    clear he_
    dsimp only at HOA HOB
    have HPT := zH (show (-1048576 ≤ ay ∧ ay ≤ 1048576) ∧ (-1048576 ≤ bY ∧ bY ≤ 1048576) by have h1 := HOA.out; have h2 := HOB.out; unfold okPt at h1 h2; simp only [Bool.and_eq_true, decide_eq_true_eq] at h1 h2; omega)
    have hv37 := HPT.out
    have hv38 := HEL.out
    have hv39 := HM.out.2
    go_upto_region 9 with fail
    refine zy ?_
    have H40 := zH (H35.out.step (Ext.refl w33).drew)
    have D40 := zH (Dig.of_ext (w := w33) zb)
    refine zx 0 (bs 14 1) (.slice (some ⟨ge, 0, none⟩) ((edgesOf rs).length) ce) zb ?_
    refine zx 1 (bs 14 3) (.int .i64 (i : Int)) zb ?_
    refine zu 2 (bs 14 7) (v := .pointer (some ⟨ge, i * 4, none⟩)) zb ?_ (hv := by intro w hSw; exact ezi (k := i) Tryz.underlying69 (l := hlt) (f := (Nat.zero_add _).symm))
    refine mX 3 (bs 14 15) (.pointer (some ⟨ge, i * 4, none⟩)) zb ?_
    refine zg 4 (bs 14 31) ge (i * 4) [.int .i64 ax, .int .i64 ay] (range_part (H35.out.elem (f := edC) (i := 3) (by rfl) edC_len HE.out) 0 2) Tryz.underlying53 zb ?_
    refine zx 5 (bs 14 63) (.slice (some ⟨ge, 0, none⟩) ((edgesOf rs).length) ce) zb ?_
    refine zx 6 (bs 14 127) (.int .i64 (i : Int)) zb ?_
    refine zu 7 (bs 14 255) (v := .pointer (some ⟨ge, i * 4, none⟩)) zb ?_ (hv := by intro w hSw; exact ezi (k := i) Tryz.underlying69 (l := hlt) (f := (Nat.zero_add _).symm))
    refine mX 8 (bs 14 511) (.pointer (some ⟨ge, i * 4 + 2, none⟩)) zb ?_
    refine zg 9 (bs 14 1023) ge (i * 4 + 2) [.int .i64 bx, .int .i64 bY] (range_part (H35.out.elem (f := edC) (i := 3) (by rfl) edC_len HE.out) 2 2) Tryz.underlying53 zb ?_
    refine md_alloc2 (i := 10) (j := 11) (T := 53) (U := 53) (zs := [.int .i64 0, .int .i64 0]) (us := [.int .i64 0, .int .i64 0]) (li := (bs 14 2047)) (lj := (bs 14 3071)) (lij := (bs 14 4095)) (by rfl) (by rfl) (by kernel_rfl) (by kernel_rfl) (by kernel_rfl) (by kernel_rfl) (by kernel_rfl) (by kernel_rfl) (by kernel_rfl) (by rfl) (by rfl) (by decide) (by intro r_ x_; go_simp) (by intro r_ x_; go_simp) (fun x y h1 h2 => h1.trans h2) zb H40.out (by simp [NoUL]) (by simp [NoUL]) ?_
    intro X50 Y51 w52 hh hx hg1 hg2 hs
    have H53 := zH (show Hp w w52 [.blk X1 27 (rc ry), ro 27 4 A1 m c1 MkE.cx es, ro 3 1 A2 m c2 MkE.cu es, ro 71 4 (some ⟨ge, 0, none⟩) ((edgesOf rs).length) ce edC (edgesOf rs), .blk X50 53 [.int .i64 0, .int .i64 0], .blk Y51 53 [.int .i64 0, .int .i64 0]] from hh)
    have D53 := zH (show Dig w33.drew w52 from Dig.of_ext hx)
    have S55 := zH (show Ext w33 w52 from hs)
    have G56 := zH (show w33.heap.size ≤ X50 from Nat.le_trans zb.size hg1)
    have G57 := zH (show w33.heap.size ≤ Y51 from Nat.le_trans zb.size hg2)
    clear hh hx hg1 hg2 hs
    try simp only [Act.put, zA, zB, zC]
    refine md_st (i := 12) (listed' := (bs 14 8191)) (by rfl) (by kernel_rfl) (by rfl) (by kernel_rfl) _ _ _ (by rfl) H53.out (ix := 4) (by rfl) 0 [.int .i64 ax, .int .i64 ay] (by rfl) (by rfl) (by simp) (by kernel_rfl) (by simp [Value.oneCell']) (by simp [NoUL]) ?_
    intro w58 hh hd ho
    have H59 := zH (show Hp w w58 [.blk X1 27 (rc ry), ro 27 4 A1 m c1 MkE.cx es, ro 3 1 A2 m c2 MkE.cu es, ro 71 4 (some ⟨ge, 0, none⟩) ((edgesOf rs).length) ce edC (edgesOf rs), .blk X50 53 [.int .i64 ax, .int .i64 ay], .blk Y51 53 [.int .i64 0, .int .i64 0]] from hh)
    have D59 := zH (hd)
    have S61 := zH (show Ext w33 w58 from Own.ext ho S55.out G56.out)
    clear hh hd ho
    refine ⟨S61.out, ?_⟩
    (try simp only [Act.put])
    refine md_st (i := 13) (listed' := (bs 14 16383)) (by rfl) (by kernel_rfl) (by rfl) (by kernel_rfl) _ _ _ (by rfl) H59.out (ix := 5) (by rfl) 0 [.int .i64 bx, .int .i64 bY] (by rfl) (by rfl) (by simp) (by kernel_rfl) (by simp [Value.oneCell']) (by simp [NoUL]) ?_
    intro w62 hh hd ho
    have H63 := zH (show Hp w w62 [.blk X1 27 (rc ry), ro 27 4 A1 m c1 MkE.cx es, ro 3 1 A2 m c2 MkE.cu es, ro 71 4 (some ⟨ge, 0, none⟩) ((edgesOf rs).length) ce edC (edgesOf rs), .blk X50 53 [.int .i64 ax, .int .i64 ay], .blk Y51 53 [.int .i64 bx, .int .i64 bY]] from hh)
    have D63 := zH (hd)
    have S65 := zH (show Ext w33 w62 from Own.ext ho S61.out G57.out)
    clear hh hd ho
    refine ⟨S65.out, ?_⟩
    (try simp only [Act.put])
    refine wpAnyH_done (by kernel_rfl) ?_ _
    go_upto_region 10 with fail
    refine zy ?_
    have H66 := zH (H63.out.step (Ext.refl w62).drew)
    have D66 := zH (Dig.of_ext (w := w62) zb)
    refine zx 0 (bs 10 1) (.pointer (some ⟨X50, 1, none⟩)) zb ?_
    refine zf 1 (bs 10 3) X50 1 (.int .i64 ay) (H63.out.range (i := 4) (by rfl) 1 1) zb ?_
    refine zx 3 (bs 10 11) (.pointer (some ⟨Y51, 1, none⟩)) zb ?_
    refine zf 4 (bs 10 27) Y51 1 (.int .i64 bY) (H63.out.range (i := 5) (by rfl) 1 1) zb ?_
    refine tuple2 (f := 2) 2 5 6 7 47 50 12 13 27 z4 (fun v w => ∃ c, v = .agg c ∧ NIs w c (((ay) : Int) : Rat)) (fun v w => ∃ c, v = .agg c ∧ NIs w c (((bY) : Int) : Rat)) rfl rfl rfl rfl (by decide) (by decide) (by kernel_rfl) (fun _ hx => zb.trans hx) (fun _ _ _ h e => by obtain ⟨c, h1, h2⟩ := h; exact ⟨c, h1, h2.ext e⟩) (fun _ _ _ h e => by obtain ⟨c, h1, h2⟩ := h; exact ⟨c, h1, h2.ext e⟩) ?ht70c1 ?ht70c2 ?ht70c3 ?ht70c4 ?ht70e _ _ _ _ (by kernel_rfl) rfl
    case ht70c1 =>
     intro v1 v2 v3 v4 w1 K hxq hSw hK
     try simp only [Act.put, zA, zB, zC]
     rw [if_pos (by rfl)]
     refine wp_call_op (by go_simp) (q03From ay _ (by omega) (by omega)) ?_
     rintro e w' ⟨c_, rfl, hc_, hx⟩
     refine ⟨_, rfl, ?_⟩
     have hk := hK.out _ _ ⟨c_, rfl, hc_⟩ hx
     try simp only [Act.put, zA, zB, zC]
     simp only [Act.put, zA, zB, zC] at hk
     exact hk
    case ht70c2 =>
     intro v1 v2 v3 v4 w1 K hxq hSw hK
     try simp only [Act.put, zA, zB, zC]
     rw [if_pos (by rfl)]
     refine wp_call_op (by go_simp) (q03From bY _ (by omega) (by omega)) ?_
     rintro e w' ⟨c_, rfl, hc_, hx⟩
     refine ⟨_, rfl, ?_⟩
     have hk := hK.out _ _ ⟨c_, rfl, hc_⟩ hx
     try simp only [Act.put, zA, zB, zC]
     simp only [Act.put, zA, zB, zC] at hk
     exact hk
    case ht70c3 =>
     intro v1 v2 v3 v4 w1 K hxq hSw hK
     try simp only [Act.put, zA, zB, zC]
     go_simp
     have hk := hK.out
     simp only [Act.put, zA, zB, zC] at hk
     exact hk
    case ht70c4 =>
     intro v1 v2 v3 v4 w1 K hxq hSw hK
     try simp only [Act.put, zA, zB, zC]
     go_simp
     have hk := hK.out
     simp only [Act.put, zA, zB, zC] at hk
     exact hk
    case ht70e =>
    intro v1_ v2_ X73 Y74 w75 hx hSw xp1 xp2 xb1 xb2 xz1 xz2 n12
    have hh := H66.out.add2 hx xb1 xb2 xz1 xz2 n12 (by simp [NoUL]) (by simp [NoUL])
    have H76 := zH (show Hp w w75 [.blk X1 27 (rc ry), ro 27 4 A1 m c1 MkE.cx es, ro 3 1 A2 m c2 MkE.cu es, ro 71 4 (some ⟨ge, 0, none⟩) ((edgesOf rs).length) ce edC (edgesOf rs), .blk X50 53 [.int .i64 ax, .int .i64 ay], .blk Y51 53 [.int .i64 bx, .int .i64 bY], .blk X73 27 rz, .blk Y74 27 rz] from hh)
    have D76 := zH (show Dig w62.drew w75 from Dig.of_ext hx)
    have S78 := zH (show Ext w62 w75 from zb.trans hx)
    have G79 := zH (show w62.heap.size ≤ X73 from Nat.le_trans zb.size xz1)
    have G80 := zH (show w62.heap.size ≤ Y74 from Nat.le_trans zb.size xz2)
    obtain ⟨c_, rfl, hc_⟩ := xp1
    obtain ⟨r71, rfl, hr_⟩ := hc_
    have R71 := zH hr_
    have B71 := zH (rl_i64 ay (by omega) (by omega))
    clear hr_
    obtain ⟨c_, rfl, hc_⟩ := xp2
    obtain ⟨r72, rfl, hr_⟩ := hc_
    have R72 := zH hr_
    have B72 := zH (rl_i64 bY (by omega) (by omega))
    clear hr_
    clear hh hx hSw xb1 xb2 xz1 xz2 n12
    (try simp only [zA, zB, zC])
    refine md_st (i := 8) (listed' := (bs 10 511)) (by rfl) (by kernel_rfl) (by rfl) (by kernel_rfl) _ _ _ (by rfl) H76.out (ix := 6) (by rfl) 0 [.bool r71.n, .slice r71.p r71.l r71.c, .bool r71.m, .slice r71.p2 r71.l2 r71.c2] (by rfl) (by rfl) (by simp) (by kernel_rfl) (by simp [Value.oneCell']) (by simp [NoUL]) ?_
    intro w81 hh hd ho
    have H82 := zH (show Hp w w81 [.blk X1 27 (rc ry), ro 27 4 A1 m c1 MkE.cx es, ro 3 1 A2 m c2 MkE.cu es, ro 71 4 (some ⟨ge, 0, none⟩) ((edgesOf rs).length) ce edC (edgesOf rs), .blk X50 53 [.int .i64 ax, .int .i64 ay], .blk Y51 53 [.int .i64 bx, .int .i64 bY], .blk X73 27 (rc r71), .blk Y74 27 rz] from hh)
    have D82 := zH (hd)
    have S84 := zH (show Ext w62 w81 from Own.ext ho S78.out G79.out)
    clear hh hd ho
    refine ⟨S84.out, ?_⟩
    (try simp only [Act.put])
    refine md_st (i := 9) (listed' := (bs 10 1023)) (by rfl) (by kernel_rfl) (by rfl) (by kernel_rfl) _ _ _ (by rfl) H82.out (ix := 7) (by rfl) 0 [.bool r72.n, .slice r72.p r72.l r72.c, .bool r72.m, .slice r72.p2 r72.l2 r72.c2] (by rfl) (by rfl) (by simp) (by kernel_rfl) (by simp [Value.oneCell']) (by simp [NoUL]) ?_
    intro w85 hh hd ho
    have H86 := zH (show Hp w w85 [.blk X1 27 (rc ry), ro 27 4 A1 m c1 MkE.cx es, ro 3 1 A2 m c2 MkE.cu es, ro 71 4 (some ⟨ge, 0, none⟩) ((edgesOf rs).length) ce edC (edgesOf rs), .blk X50 53 [.int .i64 ax, .int .i64 ay], .blk Y51 53 [.int .i64 bx, .int .i64 bY], .blk X73 27 (rc r71), .blk Y74 27 (rc r72)] from hh)
    have D86 := zH (hd)
    have S88 := zH (show Ext w62 w85 from Own.ext ho S84.out G80.out)
    clear hh hd ho
    refine ⟨S88.out, ?_⟩
    (try simp only [Act.put])
    refine wpAnyH_done (by kernel_rfl) ?_ _
    go_upto_region 11 with fail
    refine wp_region_lit ?_
    refine zq (.int .i64 0) ?_
    by_cases c90 : ((ay : Int) : Rat) < y
    ·have C1 := zH c90
     clear c90
     by_cases c91 : y < ((bY : Int) : Rat)
     ·have C2 := zH c91
      clear c91
      go_upto_region 12 with fail
      refine wp_region_lit ?_
      refine zd X73 (0) (rc r71) (H86.out.range (i := 6) (by rfl) 0 4) Tryz.underlying27 ?_
      refine zd X1 (0) (rc ry) (H86.out.range (i := 0) (by rfl) 0 4) Tryz.underlying27 ?_
      have DD93 := zH ((D82.out.trans D86.out))
      refine zc (less_any 60000 _ _ (((ay) : Int) : Rat) y _ (RV.Is.nin (R71.out.dig DD93.out) (Nat.le_trans B71.out (by omega))) (RV.In.nin (RV.In.mono (RY.out.dig H86.out.dig0) (by omega))) (by omega)) ?_
      rintro e w92 ⟨rfl, hx⟩
      have H94 := zH (H86.out.step hx)
      have D94 := zH (Dig.of_ext hx)
      clear hx
      refine ⟨.bool true, by rw [dec_t C1.out], ?_⟩
      try simp only [Act.put, zA, zB, zC]
      refine qV (.bool true) ?_
      refine zd X1 (0) (rc ry) (H94.out.range (i := 0) (by rfl) 0 4) Tryz.underlying27 ?_
      refine zd Y74 (0) (rc r72) (H94.out.range (i := 7) (by rfl) 0 4) Tryz.underlying27 ?_
      have DD98 := zH ((DD93.out.trans D94.out))
      refine zc (less_any 60000 _ _ y (((bY) : Int) : Rat) _ (RV.In.nin (RV.In.mono (RY.out.dig H94.out.dig0) (by omega))) (RV.Is.nin (R72.out.dig DD98.out) (Nat.le_trans B72.out (by omega))) (by omega)) ?_
      rintro e w97 ⟨rfl, hx⟩
      have H99 := zH (H94.out.step hx)
      have D99 := zH (Dig.of_ext hx)
      clear hx
      refine ⟨.bool true, by rw [dec_t C2.out], ?_⟩
      try simp only [Act.put, zA, zB, zC]
      refine zq (.bool true) ?_
      go_upto_region 13 with fail
      refine wp_region_lit ?_
      refine zq (.int .i64 1) ?_
      go_upto_region 14 with fail
      refine wp_region_lit ?_
      refine zd Y74 (0) (rc r72) (H99.out.range (i := 7) (by rfl) 0 4) Tryz.underlying27 ?_
      refine zd X1 (0) (rc ry) (H99.out.range (i := 0) (by rfl) 0 4) Tryz.underlying27 ?_
      have DD104 := zH ((DD98.out.trans D99.out))
      refine zc (less_any 60000 _ _ (((bY) : Int) : Rat) y _ (RV.Is.nin (R72.out.dig DD104.out) (Nat.le_trans B72.out (by omega))) (RV.In.nin (RV.In.mono (RY.out.dig H99.out.dig0) (by omega))) (by omega)) ?_
      rintro e w103 ⟨rfl, hx⟩
      have H105 := zH (H99.out.step hx)
      have D105 := zH (Dig.of_ext hx)
      clear hx
      refine ⟨.bool false, by rw [dec_f (fun h_ => absurd h_ (Rat.not_lt.2 (Rat.le_of_lt C2.out)))], ?_⟩
      try simp only [Act.put, zA, zB, zC]
      refine zq (.bool false) ?_
      refine zk ?_
      refine zk ?_
      refine zk ?_
      refine zq (.bool false) ?_
      go_upto_region 16 with fail
      refine wp_region_lit ?_
      refine zq (.int .i64 1) ?_
      refine zp (w' := w103) (.bool false) (by exact ezq (e := (dec_f (by omega)))) ?_
      go_upto_region 17 with fail
      refine wp_region_lit ?_
      refine zd X50 (0) [.int .i64 ax, .int .i64 ay] (H105.out.range (i := 4) (by rfl) 0 2) Tryz.underlying53 ?_
      refine zd Y51 (0) [.int .i64 bx, .int .i64 bY] (H105.out.range (i := 5) (by rfl) 0 2) Tryz.underlying53 ?_
      refine zd X1 (0) (rc ry) (H105.out.range (i := 0) (by rfl) 0 4) Tryz.underlying27 ?_
      refine zc (rxat_any L ax ay bx bY ry y _ (RY.out.dig H105.out.dig0) h1L hL HOA.out HOB.out (xat_pre (.inl ⟨C1.out, C2.out⟩)).1 (xat_pre (.inl ⟨C1.out, C2.out⟩)).2.1 (xat_pre (.inl ⟨C1.out, C2.out⟩)).2.2) ?_
      rintro e w111 ⟨r112, rfl, hr_, hx⟩
      have H113 := zH (H105.out.step hx)
      have D113 := zH (Dig.of_ext hx)
      have R112 := zH hr_
      have B112 := zH (rl_xat (ax := ax) (bx := bx) HOA.out HOB.out RY.out.rl)
      clear hr_
      clear hx
      refine zn ?_
      refine qV (.tuple #[.agg #[.bool r112.n, .slice r112.p r112.l r112.c, .bool r112.m, .slice r112.p2 r112.l2 r112.c2], .bool true]) ?_
      refine zq (.agg #[.bool r112.n, .slice r112.p r112.l r112.c, .bool r112.m, .slice r112.p2 r112.l2 r112.c2]) ?_
      refine zq (.bool true) ?_
      refine mv_alloc (T := 27) (zs := [.bool false, .slice none 0 0, .bool false, .slice none 0 0]) (by rfl) (by go_simp) H113.out (by simp [NoUL]) ?_
      intro X118 w119 hh hx hge
      have H120 := zH (show Hp w w119 [.blk X1 27 (rc ry), ro 27 4 A1 m c1 MkE.cx es, ro 3 1 A2 m c2 MkE.cu es, ro 71 4 (some ⟨ge, 0, none⟩) ((edgesOf rs).length) ce edC (edgesOf rs), .blk X50 53 [.int .i64 ax, .int .i64 ay], .blk Y51 53 [.int .i64 bx, .int .i64 bY], .blk X73 27 (rc r71), .blk Y74 27 (rc r72), .blk X118 27 rz] from hh)
      have D120 := zH (Dig.of_ext hx)
      clear hh hx hge
      try simp only [Act.put, zA, zB, zC]
      refine mv_st (by rfl) _ _ _ (by rfl) H120.out (ix := 8) (by rfl) 0 [.bool r112.n, .slice r112.p r112.l r112.c, .bool r112.m, .slice r112.p2 r112.l2 r112.c2] (by rfl) (by rfl) (by simp) (by kernel_rfl) (by simp [Value.oneCell']) (by simp [NoUL]) ?_
      intro w123 hh hd ho
      have H124 := zH (show Hp w w123 [.blk X1 27 (rc ry), ro 27 4 A1 m c1 MkE.cx es, ro 3 1 A2 m c2 MkE.cu es, ro 71 4 (some ⟨ge, 0, none⟩) ((edgesOf rs).length) ce edC (edgesOf rs), .blk X50 53 [.int .i64 ax, .int .i64 ay], .blk Y51 53 [.int .i64 bx, .int .i64 bY], .blk X73 27 (rc r71), .blk Y74 27 (rc r72), .blk X118 27 (rc r112)] from hh)
      have D124 := zH (hd)
      clear hh hd ho
      (try simp only [Act.put])
      refine zq (.bool true) ?_
      go_upto_region 18 with fail
      refine wp_region_lit ?_
      refine qV (.slice A1 m c1) ?_
      refine zd X118 (0) (rc r112) (H124.out.range (i := 8) (by rfl) 0 4) Tryz.underlying27 ?_
      refine zp (w' := (w123.alloc (.cells ([.bool r112.n, .slice r112.p r112.l r112.c, .bool r112.m, .slice r112.p2 r112.l2 r112.c2] : List Value).toArray 27))) (.slice (some ⟨w123.heap.size, 0, none⟩) 1 1) (by go_simp) ?_
      refine mv_app (by rfl) _ _ _ (by rfl) elRat (by rfl) H124.out (ix := 1) (by rfl) 1 1 [.bool r112.n, .slice r112.p r112.l r112.c, .bool r112.m, .slice r112.p2 r112.l2 r112.c2] (by rfl) rfl (by simp [Value.oneCell']) (by simp [NoUL]) (by decide) (by unfold maxLen; exact (by omega)) (by omega) ?_
      intro g129 cp130 w128 hf hh hd hg
      have Fg129 := zH hf
      clear hf
      rw [show List.flatMap MkE.cx es ++ [.bool r112.n, .slice r112.p r112.l r112.c, .bool r112.m, .slice r112.p2 r112.l2 r112.c2] = List.flatMap MkE.cx (es ++ [(⟨r112, (xatV ax ay bx bY y), 1⟩ : MkE)]) from flat_snoc MkE.cx _ (⟨r112, (xatV ax ay bx bY y), 1⟩ : MkE)] at hh
      have H131 := zH (show Hp w w128 [.blk X1 27 (rc ry), ro 27 4 (some ⟨g129, 0, none⟩) (m + 1) cp130 MkE.cx (es ++ [(⟨r112, (xatV ax ay bx bY y), 1⟩ : MkE)]), ro 3 1 A2 m c2 MkE.cu es, ro 71 4 (some ⟨ge, 0, none⟩) ((edgesOf rs).length) ce edC (edgesOf rs), .blk X50 53 [.int .i64 ax, .int .i64 ay], .blk Y51 53 [.int .i64 bx, .int .i64 bY], .blk X73 27 (rc r71), .blk Y74 27 (rc r72), .blk X118 27 (rc r112)] from hh)
      have D131 := zH (hd)
      clear hh hd hg
      try simp only [Act.put, zA, zB, zC]
      refine zq (.slice (some ⟨g129, 0, none⟩) (m + 1) cp130) ?_
      go_upto_region 19 with fail
      refine wp_region_lit ?_
      refine qV (.slice A2 m c2) ?_
      refine zq (.int .i64 1) ?_
      refine zp (w' := (w128.alloc (.cells ([.int .i64 1] : List Value).toArray 3))) (.slice (some ⟨w128.heap.size, 0, none⟩) 1 1) (by go_simp) ?_
      refine mv_app (by rfl) _ _ _ (by rfl) elInt (by rfl) H131.out (ix := 2) (by rfl) 1 1 [.int .i64 1] (by rfl) rfl (by simp [Value.oneCell']) (by simp [NoUL]) (by decide) (by unfold maxLen; exact (by omega)) (by omega) ?_
      intro g137 cp138 w136 hf hh hd hg
      have Fg137 := zH hf
      clear hf
      rw [show List.flatMap MkE.cu es ++ [.int .i64 1] = List.flatMap MkE.cu (es ++ [(⟨r112, (xatV ax ay bx bY y), 1⟩ : MkE)]) from flat_snoc MkE.cu _ (⟨r112, (xatV ax ay bx bY y), 1⟩ : MkE)] at hh
      have H139 := zH (show Hp w w136 [.blk X1 27 (rc ry), ro 27 4 (some ⟨g129, 0, none⟩) (m + 1) cp130 MkE.cx (es ++ [(⟨r112, (xatV ax ay bx bY y), 1⟩ : MkE)]), ro 3 1 (some ⟨g137, 0, none⟩) (m + 1) cp138 MkE.cu (es ++ [(⟨r112, (xatV ax ay bx bY y), 1⟩ : MkE)]), ro 71 4 (some ⟨ge, 0, none⟩) ((edgesOf rs).length) ce edC (edgesOf rs), .blk X50 53 [.int .i64 ax, .int .i64 ay], .blk Y51 53 [.int .i64 bx, .int .i64 bY], .blk X73 27 (rc r71), .blk Y74 27 (rc r72), .blk X118 27 (rc r112)] from hh)
      have D139 := zH (hd)
      clear hh hd hg
      try simp only [Act.put, zA, zB, zC]
      refine zq (.slice (some ⟨g137, 0, none⟩) (m + 1) cp138) ?_
      obtain ⟨ey, hey_⟩ : ∃ ey : MkE, ey = (⟨r112, (xatV ax ay bx bY y), 1⟩ : MkE) := ⟨_, rfl⟩
      have HZ := zH hey_
      have H142 := zH (show Hp w w136 [.blk X1 27 (rc ry), ro 27 4 (some ⟨g129, 0, none⟩) (m + 1) cp130 MkE.cx (es.take m ++ ey :: es.drop m), ro 3 1 (some ⟨g137, 0, none⟩) (m + 1) cp138 MkE.cu (es.take m ++ ey :: es.drop m), ro 71 4 (some ⟨ge, 0, none⟩) ((edgesOf rs).length) ce edC (edgesOf rs), .blk X50 53 [.int .i64 ax, .int .i64 ay], .blk Y51 53 [.int .i64 bx, .int .i64 bY], .blk X73 27 (rc r71), .blk Y74 27 (rc r72), .blk X118 27 (rc r112)] from by rw [show es.take m ++ ey :: es.drop m = es ++ [(⟨r112, (xatV ax ay bx bY y), 1⟩ : MkE)] by rw [List.take_of_length_le (by have := HM.out.1; omega), List.drop_of_length_le (by have := HM.out.1; omega), HZ.out]]; exact H139.out)
      have DD143 := zH ((((D120.out.trans D124.out).trans D131.out).trans D139.out))
      have HOY := zH (show ey.Ok (L + 8) w136 from by rw [HZ.out]; exact ⟨(R112.out.dig DD143.out), (show Nm.rl (xatV ax ay bx bY y) ≤ L + 8 by have q_ := B112.out; omega), (show (-1 : Int) ≤ 1 by decide), (show 1 ≤ (1 : Int) by decide)⟩)
      have HVY := zH (show ey.vl = (xatV ax ay bx bY y, 1) from by rw [HZ.out]; rfl)
      have HINS := zH (show (Stb.ins ltK es ey).map MkE.vl = Stb.stab ltM (((edgesOf rs).take (i + 1)).filterMap (crossV y)) by rw [crs_some HE.out (cross_up (a := (ax, ay)) (b := (bx, bY)) ⟨C1.out, C2.out⟩), ← HVL.out, ← HVY.out]; exact ins_map MkE.vl (fun _ _ => rfl) es ey)
      have HSRT := zH (show Stb.Srt ltK es from srt_mk (by rw [HVL.out]; exact Stb.stab_srt wkM _))
      go_upto_region 20 with fail
      refine wp_region_lit ?_
      refine qV (.slice (some ⟨g129, 0, none⟩) (m + 1) cp130) ?_
      refine zq (.int .i64 ((m + 1 : Nat) : Int)) ?_
      refine zp (w' := w136) (.int .i64 (m : Int)) (by exact ez2 (by omega)) ?_
      refine zq (.int .i64 (m : Int)) ?_
      have DD148 := zH ((((((((((((((((D40.out.trans D53.out).trans D59.out).trans D63.out).trans D66.out).trans D76.out).trans D82.out).trans D86.out).trans D94.out).trans D99.out).trans D105.out).trans D113.out).trans D120.out).trans D124.out).trans D131.out).trans D139.out))
      go_wp2_with fail
      go_loopg [17] (m + 1) (fun cq v149 wr => ∃ (t : Nat) (u : Nat), cq = (m + 1) - t ∧ v149 = .int .i64 (u : Int) ∧ (t + u = m) ∧ (∀ z, z ∈ es.drop u → ltK ey z = true) ∧ (∀ e, e ∈ es.take u ++ ey :: es.drop u → e.Ok (L + 8) wr) ∧ Hp w wr [.blk X1 27 [.bool ry.n, .slice ry.p ry.l ry.c, .bool ry.m, .slice ry.p2 ry.l2 ry.c2], .row 27 4 (.slice (some ⟨g129, 0, none⟩) (m + 1) cp130) (m + 1) (List.flatMap MkE.cx (es.take u ++ ey :: es.drop u)), .row 3 1 (.slice (some ⟨g137, 0, none⟩) (m + 1) cp138) (m + 1) (List.flatMap MkE.cu (es.take u ++ ey :: es.drop u)), .row 71 4 (.slice (some ⟨ge, 0, none⟩) ((edgesOf rs).length) ce) ((edgesOf rs).length) (List.flatMap edC (edgesOf rs)), .blk X50 53 [.int .i64 ax, .int .i64 ay], .blk Y51 53 [.int .i64 bx, .int .i64 bY], .blk X73 27 [.bool r71.n, .slice r71.p r71.l r71.c, .bool r71.m, .slice r71.p2 r71.l2 r71.c2], .blk Y74 27 [.bool r72.n, .slice r72.p r72.l r72.c, .bool r72.m, .slice r72.p2 r72.l2 r72.c2], .blk X118 27 [.bool r112.n, .slice r112.p r112.l r112.c, .bool r112.m, .slice r112.p2 r112.l2 r112.c2]] ∧ Dig w136 wr)
      case atStart => exact ⟨0, m, rfl, rfl, Nat.zero_add _, (fun z_ hz_ => by rw [List.drop_of_length_le (by have := HM.out.1; omega)] at hz_; simp at hz_), (fun g_ hg_ => by rw [List.take_of_length_le (by have := HM.out.1; omega), List.drop_of_length_le (by have := HM.out.1; omega)] at hg_; exact (List.mem_append.1 hg_).elim (fun hg_ => (HOE.out g_ hg_).dig DD148.out) (fun hg_ => by rw [List.mem_singleton.1 hg_]; exact HOY.out)), H142.out, Dig.refl _⟩
      case round =>
       obtain ⟨t, u, rfl, rfl, q_HTU, q_HALL, q_HOK2, hh_, hd_⟩ := hrel
       generalize wr = w150 at *
       have HTU := zH q_HTU
       clear q_HTU
       have HALL := zH q_HALL
       clear q_HALL
       have HOK2 := zH q_HOK2
       clear q_HOK2
       have H152 := zH hh_
       have D152 := zH hd_
       clear hh_ hd_ H142
       by_cases c153 : 0 < u
       ·have HU0 := zH c153
        clear c153
        have hu0 := HU0.out
        obtain ⟨q, rfl⟩ : ∃ q, u = q + 1 := ⟨u - 1, by omega⟩
        have HTQ := zH (show q < es.length by have h1 := HTU.out; have h2 := HM.out.1; omega)
        have hqm : q < m := by have h1 := HTU.out; omega
        obtain ⟨gx_, gy_, gs_, gz_⟩ := ins_at (y := ey) HTQ.out
        obtain ⟨ex, hex_⟩ : ∃ ex, ex = es[q]'HTQ.out := ⟨_, rfl⟩
        rw [← hex_] at gx_ gs_ gz_
        have HXE := zH hex_
        have GX := zH gx_
        have GY := zH gy_
        have GS := zH gs_
        have GZ := zH gz_
        have HLX := zH (List.getElem?_eq_some_iff.1 gx_).1
        have HLY := zH (List.getElem?_eq_some_iff.1 gy_).1
        clear gx_ gy_ gs_ gz_ hex_
        have OX := zH (HOK2.out ex (List.mem_of_getElem? GX.out))
        have OY := zH (HOK2.out ey (List.mem_of_getElem? GY.out))
        have RX := zH OX.out.1
        have RZ := zH OY.out.1
        have BX := zH OX.out.2.1
        have BZ := zH OY.out.2.1
        have HXS := zH OX.out.2.2
        have HYS := zH OY.out.2.2
        have hv154 := HEL.out
        have hv155 := HM.out.2
        have hv156 := HXS.out
        have hv157 := HYS.out
        rcases hcb_ : ltK ey ex with _ | _
        ·have CB := zH hcb_
         clear hcb_
         go_upto_region 21 with fail
         refine zy ?_
         have H158 := zH (H152.out.step (Ext.refl w150).drew)
         have D158 := zH (Dig.of_ext (w := w150) zb)
         refine zx 0 (bs 23 1) (.int .i64 ((q + 1 : Nat) : Int)) zb ?_
         refine zu 1 (bs 23 3) (v := .bool true) zb ?_ (hv := by intro w hSw; exact ezg (e := (dec_t (by omega))))
         refine zx 2 (bs 23 7) (.bool true) zb ?_
         refine zx 3 (bs 23 15) (.slice (some ⟨g129, 0, none⟩) (m + 1) cp130) zb ?_
         refine zx 4 (bs 23 31) (.int .i64 ((q + 1 : Nat) : Int)) zb ?_
         refine zo 5 (bs 23 63) (v := .pointer (some ⟨g129, (q + 1) * 4, none⟩)) zb ?_ (hv := by intro w hSw; exact ezi (k := q + 1) Tryz.underlying41 (l := (show q + 1 < m + 1 by omega)) (f := (Nat.zero_add _).symm))
         refine zg 6 (bs 23 127) g129 ((q + 1) * 4) (rc ey.a) (H152.out.elem (f := MkE.cx) (i := 1) (by rfl) MkE.cx_len GY.out) Tryz.underlying27 zb ?_
         refine zx 7 (bs 23 255) (.slice (some ⟨g137, 0, none⟩) (m + 1) cp138) zb ?_
         refine zx 8 (bs 23 511) (.int .i64 ((q + 1 : Nat) : Int)) zb ?_
         refine zu 9 (bs 23 1023) (v := .pointer (some ⟨g137, (q + 1) * 1, none⟩)) zb ?_ (hv := by intro w hSw; exact ezi (k := q + 1) Tryz.underlying42 (l := (show q + 1 < m + 1 by omega)) (f := (Nat.zero_add _).symm))
         refine zf 10 (bs 23 2047) g137 ((q + 1) * 1) (.int .i64 ey.up) (H152.out.elem (f := MkE.cu) (i := 2) (by rfl) MkE.cu_len GY.out) zb ?_
         refine zx 11 (bs 23 4095) (.slice (some ⟨g129, 0, none⟩) (m + 1) cp130) zb ?_
         refine zx 12 (bs 23 8191) (.int .i64 ((q + 1 : Nat) : Int)) zb ?_
         refine zu 13 (bs 23 16383) (v := .int .i64 (q : Int)) zb ?_ (hv := by intro w hSw; exact ez2 (by omega))
         refine zo 14 (bs 23 32767) (v := .pointer (some ⟨g129, q * 4, none⟩)) zb ?_ (hv := by intro w hSw; exact ezi (k := q) Tryz.underlying41 (l := (show q < m + 1 by omega)) (f := (Nat.zero_add _).symm))
         refine zg 15 (bs 23 65535) g129 (q * 4) (rc ex.a) (H152.out.elem (f := MkE.cx) (i := 1) (by rfl) MkE.cx_len GX.out) Tryz.underlying27 zb ?_
         refine zx 16 (bs 23 131071) (.slice (some ⟨g137, 0, none⟩) (m + 1) cp138) zb ?_
         refine zx 17 (bs 23 262143) (.int .i64 ((q + 1 : Nat) : Int)) zb ?_
         refine zu 18 (bs 23 524287) (v := .int .i64 (q : Int)) zb ?_ (hv := by intro w hSw; exact ez2 (by omega))
         refine zu 19 (bs 23 1048575) (v := .pointer (some ⟨g137, q * 1, none⟩)) zb ?_ (hv := by intro w hSw; exact ezi (k := q) Tryz.underlying42 (l := (show q < m + 1 by omega)) (f := (Nat.zero_add _).symm))
         refine zf 20 (bs 23 2097151) g137 (q * 1) (.int .i64 ex.up) (H152.out.elem (f := MkE.cu) (i := 2) (by rfl) MkE.cu_len GX.out) zb ?_
         refine mC 21 (bs 23 4194303) (before_any 60000 _ _ ey.q ex.q ey.up ex.up _ (RV.Is.nin (RZ.out.dig D158.out) (Nat.le_trans BZ.out (by omega))) (RV.Is.nin (RX.out.dig D158.out) (Nat.le_trans BX.out (by omega))) (by decide)) ?_
         rintro e w177 ⟨rfl, hx⟩
         have H178 := zH (H158.out.step hx)
         have D178 := zH (show Dig w150.drew w177 from Dig.of_ext hx)
         have S180 := zH (show Ext w150 w177 from zb.trans hx)
         clear hx
         refine ⟨.bool false, by rw [show beforeV ey.q ey.up ex.q ex.up = false from CB.out], S180.out, ?_⟩
         try simp only [Act.put, zA, zB, zC]
         refine zx 22 (bs 23 8388607) (.bool false) S180.out ?_
         refine wpAnyH_done (by kernel_rfl) ?_ _
         have H182 := zH (show Hp w w177 [.blk X1 27 (rc ry), ro 27 4 (some ⟨g129, 0, none⟩) (m + 1) cp130 MkE.cx (Stb.ins ltK es ey), ro 3 1 (some ⟨g137, 0, none⟩) (m + 1) cp138 MkE.cu (Stb.ins ltK es ey), ro 71 4 (some ⟨ge, 0, none⟩) ((edgesOf rs).length) ce edC (edgesOf rs), .blk X50 53 [.int .i64 ax, .int .i64 ay], .blk Y51 53 [.int .i64 bx, .int .i64 bY], .blk X73 27 (rc r71), .blk Y74 27 (rc r72), .blk X118 27 (rc r112)] from by rw [Stb.ins_stop wkK HSRT.out HALL.out (by have h1 := HTQ.out; omega) (Or.inr ⟨q, rfl, HTQ.out, by rw [← HXE.out]; exact CB.out⟩)]; exact H178.out)
         have DD183 := zH ((D158.out.trans D178.out))
         have DD184 := zH ((((((((((((((((((((D35.out.trans D40.out).trans D53.out).trans D59.out).trans D63.out).trans D66.out).trans D76.out).trans D82.out).trans D86.out).trans D94.out).trans D99.out).trans D105.out).trans D113.out).trans D120.out).trans D124.out).trans D131.out).trans D139.out).trans D152.out).trans D158.out).trans D178.out))
         go_wp2_with fail
         go_roundg ((edgesOf rs).length - (i + 1))
         case measure => exact (by omega)
         case rel => exact ⟨i + 1, m + 1, Stb.ins ltK es ey, some ⟨g129, 0, none⟩, cp130, some ⟨g137, 0, none⟩, cp138, rfl, rfl, rfl, (by go_num), hlt, ⟨by rw [Stb.ins_len, HM.out.1], by have := HM.out.2; omega⟩, HINS.out, (fun g_ hg_ => by rw [Stb.ins_stop wkK HSRT.out HALL.out (by have h1 := HTQ.out; omega) (Or.inr ⟨q, rfl, HTQ.out, by rw [← HXE.out]; exact CB.out⟩)] at hg_; exact ((HOK2.out g_ hg_).dig DD183.out)), H182.out.take 4, DD184.out⟩
        have CB := zH hcb_
        clear hcb_
        go_upto_region 21 with fail
        refine zy ?_
        have H185 := zH (H152.out.step (Ext.refl w150).drew)
        have D185 := zH (Dig.of_ext (w := w150) zb)
        refine zx 0 (bs 23 1) (.int .i64 ((q + 1 : Nat) : Int)) zb ?_
        refine zu 1 (bs 23 3) (v := .bool true) zb ?_ (hv := by intro w hSw; exact ezg (e := (dec_t (by omega))))
        refine zx 2 (bs 23 7) (.bool true) zb ?_
        refine zx 3 (bs 23 15) (.slice (some ⟨g129, 0, none⟩) (m + 1) cp130) zb ?_
        refine zx 4 (bs 23 31) (.int .i64 ((q + 1 : Nat) : Int)) zb ?_
        refine zo 5 (bs 23 63) (v := .pointer (some ⟨g129, (q + 1) * 4, none⟩)) zb ?_ (hv := by intro w hSw; exact ezi (k := q + 1) Tryz.underlying41 (l := (show q + 1 < m + 1 by omega)) (f := (Nat.zero_add _).symm))
        refine zg 6 (bs 23 127) g129 ((q + 1) * 4) (rc ey.a) (H152.out.elem (f := MkE.cx) (i := 1) (by rfl) MkE.cx_len GY.out) Tryz.underlying27 zb ?_
        refine zx 7 (bs 23 255) (.slice (some ⟨g137, 0, none⟩) (m + 1) cp138) zb ?_
        refine zx 8 (bs 23 511) (.int .i64 ((q + 1 : Nat) : Int)) zb ?_
        refine zu 9 (bs 23 1023) (v := .pointer (some ⟨g137, (q + 1) * 1, none⟩)) zb ?_ (hv := by intro w hSw; exact ezi (k := q + 1) Tryz.underlying42 (l := (show q + 1 < m + 1 by omega)) (f := (Nat.zero_add _).symm))
        refine zf 10 (bs 23 2047) g137 ((q + 1) * 1) (.int .i64 ey.up) (H152.out.elem (f := MkE.cu) (i := 2) (by rfl) MkE.cu_len GY.out) zb ?_
        refine zx 11 (bs 23 4095) (.slice (some ⟨g129, 0, none⟩) (m + 1) cp130) zb ?_
        refine zx 12 (bs 23 8191) (.int .i64 ((q + 1 : Nat) : Int)) zb ?_
        refine zu 13 (bs 23 16383) (v := .int .i64 (q : Int)) zb ?_ (hv := by intro w hSw; exact ez2 (by omega))
        refine zo 14 (bs 23 32767) (v := .pointer (some ⟨g129, q * 4, none⟩)) zb ?_ (hv := by intro w hSw; exact ezi (k := q) Tryz.underlying41 (l := (show q < m + 1 by omega)) (f := (Nat.zero_add _).symm))
        refine zg 15 (bs 23 65535) g129 (q * 4) (rc ex.a) (H152.out.elem (f := MkE.cx) (i := 1) (by rfl) MkE.cx_len GX.out) Tryz.underlying27 zb ?_
        refine zx 16 (bs 23 131071) (.slice (some ⟨g137, 0, none⟩) (m + 1) cp138) zb ?_
        refine zx 17 (bs 23 262143) (.int .i64 ((q + 1 : Nat) : Int)) zb ?_
        refine zu 18 (bs 23 524287) (v := .int .i64 (q : Int)) zb ?_ (hv := by intro w hSw; exact ez2 (by omega))
        refine zu 19 (bs 23 1048575) (v := .pointer (some ⟨g137, q * 1, none⟩)) zb ?_ (hv := by intro w hSw; exact ezi (k := q) Tryz.underlying42 (l := (show q < m + 1 by omega)) (f := (Nat.zero_add _).symm))
        refine zf 20 (bs 23 2097151) g137 (q * 1) (.int .i64 ex.up) (H152.out.elem (f := MkE.cu) (i := 2) (by rfl) MkE.cu_len GX.out) zb ?_
        refine mC 21 (bs 23 4194303) (before_any 60000 _ _ ey.q ex.q ey.up ex.up _ (RV.Is.nin (RZ.out.dig D185.out) (Nat.le_trans BZ.out (by omega))) (RV.Is.nin (RX.out.dig D185.out) (Nat.le_trans BX.out (by omega))) (by decide)) ?_
        rintro e w204 ⟨rfl, hx⟩
        have H205 := zH (H185.out.step hx)
        have D205 := zH (show Dig w150.drew w204 from Dig.of_ext hx)
        have S207 := zH (show Ext w150 w204 from zb.trans hx)
        clear hx
        refine ⟨.bool true, by rw [show beforeV ey.q ey.up ex.q ex.up = true from CB.out], S207.out, ?_⟩
        try simp only [Act.put, zA, zB, zC]
        refine zx 22 (bs 23 8388607) (.bool true) S207.out ?_
        refine wpAnyH_done (by kernel_rfl) ?_ _
        go_upto_region 23 with fail
        refine zy ?_
        have H209 := zH (H205.out.step (Ext.refl w204).drew)
        have D209 := zH (Dig.of_ext (w := w204) zb)
        refine zx 0 (bs 11 1) (.slice (some ⟨g129, 0, none⟩) (m + 1) cp130) zb ?_
        refine zx 1 (bs 11 3) (.int .i64 ((q + 1 : Nat) : Int)) zb ?_
        refine zo 2 (bs 11 7) (v := .pointer (some ⟨g129, (q + 1) * 4, none⟩)) zb ?_ (hv := by intro w hSw; exact ezi (k := q + 1) Tryz.underlying41 (l := (show q + 1 < m + 1 by omega)) (f := (Nat.zero_add _).symm))
        refine zg 3 (bs 11 15) g129 ((q + 1) * 4) (rc ey.a) (H205.out.elem (f := MkE.cx) (i := 1) (by rfl) MkE.cx_len GY.out) Tryz.underlying27 zb ?_
        refine zx 4 (bs 11 31) (.slice (some ⟨g137, 0, none⟩) (m + 1) cp138) zb ?_
        refine zx 5 (bs 11 63) (.int .i64 ((q + 1 : Nat) : Int)) zb ?_
        refine zu 6 (bs 11 127) (v := .pointer (some ⟨g137, (q + 1) * 1, none⟩)) zb ?_ (hv := by intro w hSw; exact ezi (k := q + 1) Tryz.underlying42 (l := (show q + 1 < m + 1 by omega)) (f := (Nat.zero_add _).symm))
        refine zf 7 (bs 11 255) g137 ((q + 1) * 1) (.int .i64 ey.up) (H205.out.elem (f := MkE.cu) (i := 2) (by rfl) MkE.cu_len GY.out) zb ?_
        refine md_alloc (T := 27) (zs := [.bool false, .slice none 0 0, .bool false, .slice none 0 0]) (i := 8) (listed' := (bs 11 511)) (by rfl) (by kernel_rfl) (by rfl) (by go_simp) (by kernel_rfl) H209.out (by simp [NoUL]) ?_
        intro X217 w218 hh hx hge
        have H219 := zH (show Hp w w218 [.blk X1 27 (rc ry), ro 27 4 (some ⟨g129, 0, none⟩) (m + 1) cp130 MkE.cx (es.take (q + 1) ++ ey :: es.drop (q + 1)), ro 3 1 (some ⟨g137, 0, none⟩) (m + 1) cp138 MkE.cu (es.take (q + 1) ++ ey :: es.drop (q + 1)), ro 71 4 (some ⟨ge, 0, none⟩) ((edgesOf rs).length) ce edC (edgesOf rs), .blk X50 53 [.int .i64 ax, .int .i64 ay], .blk Y51 53 [.int .i64 bx, .int .i64 bY], .blk X73 27 (rc r71), .blk Y74 27 (rc r72), .blk X118 27 (rc r112), .blk X217 27 rz] from hh)
        have D219 := zH (show Dig w204.drew w218 from Dig.of_ext hx)
        have S222 := zH (show Ext w204 w218 from zb.trans hx)
        have G221 := zH (show w204.heap.size ≤ X217 from Nat.le_trans zb.size hge)
        clear hh hx hge
        refine ⟨S222.out, ?_⟩
        try simp only [Act.put, zA, zB, zC]
        refine md_st (i := 9) (listed' := (bs 11 1023)) (by rfl) (by kernel_rfl) (by rfl) (by kernel_rfl) _ _ _ (by rfl) H219.out (ix := 9) (by rfl) 0 [.bool ey.a.n, .slice ey.a.p ey.a.l ey.a.c, .bool ey.a.m, .slice ey.a.p2 ey.a.l2 ey.a.c2] (by rfl) (by rfl) (by simp) (by kernel_rfl) (by simp [Value.oneCell']) (by simp [NoUL]) ?_
        intro w223 hh hd ho
        have H224 := zH (show Hp w w223 [.blk X1 27 (rc ry), ro 27 4 (some ⟨g129, 0, none⟩) (m + 1) cp130 MkE.cx (es.take (q + 1) ++ ey :: es.drop (q + 1)), ro 3 1 (some ⟨g137, 0, none⟩) (m + 1) cp138 MkE.cu (es.take (q + 1) ++ ey :: es.drop (q + 1)), ro 71 4 (some ⟨ge, 0, none⟩) ((edgesOf rs).length) ce edC (edgesOf rs), .blk X50 53 [.int .i64 ax, .int .i64 ay], .blk Y51 53 [.int .i64 bx, .int .i64 bY], .blk X73 27 (rc r71), .blk Y74 27 (rc r72), .blk X118 27 (rc r112), .blk X217 27 (rc ey.a)] from hh)
        have D224 := zH (hd)
        have S226 := zH (show Ext w204 w223 from Own.ext ho S222.out G221.out)
        clear hh hd ho
        refine ⟨S226.out, ?_⟩
        (try simp only [Act.put])
        refine zx 10 (bs 11 2047) (.int .i64 ey.up) S226.out ?_
        refine wpAnyH_done (by kernel_rfl) ?_ _
        go_upto_region 24 with fail
        refine wp_region_lit ?_
        refine qV (.slice (some ⟨g129, 0, none⟩) (m + 1) cp130) ?_
        refine zq (.int .i64 ((q + 1 : Nat) : Int)) ?_
        refine qV (.slice (some ⟨g129, 0, none⟩) (m + 1) cp130) ?_
        refine zq (.int .i64 ((q + 1 : Nat) : Int)) ?_
        refine zp (w' := w223) (.int .i64 (q : Int)) (by exact ez2 (by omega)) ?_
        refine zp (w' := w223) (.pointer (some ⟨g129, q * 4, none⟩)) (by exact ezi (k := q) Tryz.underlying41 (l := (show q < m + 1 by omega)) (f := (Nat.zero_add _).symm)) ?_
        refine zd g129 (q * 4) (rc ex.a) (H224.out.elem (f := MkE.cx) (i := 1) (by rfl) MkE.cx_len GX.out) Tryz.underlying27 ?_
        refine zp (w' := w223) (.pointer (some ⟨g129, (q + 1) * 4, none⟩)) (by exact ezi (k := q + 1) Tryz.underlying41 (l := (show q + 1 < m + 1 by omega)) (f := (Nat.zero_add _).symm)) ?_
        refine mv_stElem (f := MkE.cx) (by rfl) _ _ _ (by rfl) H224.out (ix := 1) (by rfl) MkE.cx_len (q + 1) ex HLY.out [.bool ex.a.n, .slice ex.a.p ex.a.l ex.a.c, .bool ex.a.m, .slice ex.a.p2 ex.a.l2 ex.a.c2] (by rfl) ((q + 1) * 4) (by rfl) (by rfl) (by rfl) (by kernel_rfl) (by simp [Value.oneCell']) (by simp [NoUL]) ?_
        intro w236 hh hd ho
        have H237 := zH (show Hp w w236 [.blk X1 27 (rc ry), ro 27 4 (some ⟨g129, 0, none⟩) (m + 1) cp130 MkE.cx ((es.take (q + 1) ++ ey :: es.drop (q + 1)).set (q + 1) ex), ro 3 1 (some ⟨g137, 0, none⟩) (m + 1) cp138 MkE.cu (es.take (q + 1) ++ ey :: es.drop (q + 1)), ro 71 4 (some ⟨ge, 0, none⟩) ((edgesOf rs).length) ce edC (edgesOf rs), .blk X50 53 [.int .i64 ax, .int .i64 ay], .blk Y51 53 [.int .i64 bx, .int .i64 bY], .blk X73 27 (rc r71), .blk Y74 27 (rc r72), .blk X118 27 (rc r112), .blk X217 27 (rc ey.a)] from hh)
        have D237 := zH (hd)
        clear hh hd ho
        (try simp only [Act.put])
        go_upto_region 25 with fail
        refine wp_region_lit ?_
        refine qV (.slice (some ⟨g129, 0, none⟩) (m + 1) cp130) ?_
        refine zq (.int .i64 ((q + 1 : Nat) : Int)) ?_
        refine zp (w' := w236) (.int .i64 (q : Int)) (by exact ez2 (by omega)) ?_
        refine zd X217 (0) (rc ey.a) (H237.out.range (i := 9) (by rfl) 0 4) Tryz.underlying27 ?_
        refine zp (w' := w236) (.pointer (some ⟨g129, q * 4, none⟩)) (by exact ezi (k := q) Tryz.underlying41 (l := (show q < m + 1 by omega)) (f := (Nat.zero_add _).symm)) ?_
        refine mv_stElem (f := MkE.cx) (by rfl) _ _ _ (by rfl) H237.out (ix := 1) (by rfl) MkE.cx_len q ey (by rw [List.length_set]; exact HLX.out) [.bool ey.a.n, .slice ey.a.p ey.a.l ey.a.c, .bool ey.a.m, .slice ey.a.p2 ey.a.l2 ey.a.c2] (by rfl) (q * 4) (by rfl) (by rfl) (by rfl) (by kernel_rfl) (by simp [Value.oneCell']) (by simp [NoUL]) ?_
        intro w244 hh hd ho
        have H245 := zH (show Hp w w244 [.blk X1 27 (rc ry), ro 27 4 (some ⟨g129, 0, none⟩) (m + 1) cp130 MkE.cx (((es.take (q + 1) ++ ey :: es.drop (q + 1)).set (q + 1) ex).set q ey), ro 3 1 (some ⟨g137, 0, none⟩) (m + 1) cp138 MkE.cu (es.take (q + 1) ++ ey :: es.drop (q + 1)), ro 71 4 (some ⟨ge, 0, none⟩) ((edgesOf rs).length) ce edC (edgesOf rs), .blk X50 53 [.int .i64 ax, .int .i64 ay], .blk Y51 53 [.int .i64 bx, .int .i64 bY], .blk X73 27 (rc r71), .blk Y74 27 (rc r72), .blk X118 27 (rc r112), .blk X217 27 (rc ey.a)] from hh)
        have D245 := zH (hd)
        clear hh hd ho
        (try simp only [Act.put])
        go_upto_region 26 with fail
        refine wp_region_lit ?_
        refine qV (.slice (some ⟨g137, 0, none⟩) (m + 1) cp138) ?_
        refine zq (.int .i64 ((q + 1 : Nat) : Int)) ?_
        refine qV (.slice (some ⟨g137, 0, none⟩) (m + 1) cp138) ?_
        refine zq (.int .i64 ((q + 1 : Nat) : Int)) ?_
        refine zp (w' := w244) (.int .i64 (q : Int)) (by exact ez2 (by omega)) ?_
        refine zp (w' := w244) (.pointer (some ⟨g137, q * 1, none⟩)) (by exact ezi (k := q) Tryz.underlying42 (l := (show q < m + 1 by omega)) (f := (Nat.zero_add _).symm)) ?_
        refine ze g137 (q * 1) (.int .i64 ex.up) (H245.out.elem (f := MkE.cu) (i := 2) (by rfl) MkE.cu_len GX.out) ?_
        refine zp (w' := w244) (.pointer (some ⟨g137, (q + 1) * 1, none⟩)) (by exact ezi (k := q + 1) Tryz.underlying42 (l := (show q + 1 < m + 1 by omega)) (f := (Nat.zero_add _).symm)) ?_
        refine mv_stElem1 (f := MkE.cu) (by rfl) _ _ _ (by rfl) H245.out (ix := 2) (by rfl) MkE.cu_len (q + 1) ex HLY.out (.int .i64 ex.up) (by rfl) ((q + 1) * 1) (by rfl) (by rfl) (by rfl) (by kernel_rfl) (by simp [Value.cells]) (by simp [Value.oneCell']) (by simp [NoUL]) ?_
        intro w255 hh hd ho
        have H256 := zH (show Hp w w255 [.blk X1 27 (rc ry), ro 27 4 (some ⟨g129, 0, none⟩) (m + 1) cp130 MkE.cx (((es.take (q + 1) ++ ey :: es.drop (q + 1)).set (q + 1) ex).set q ey), ro 3 1 (some ⟨g137, 0, none⟩) (m + 1) cp138 MkE.cu ((es.take (q + 1) ++ ey :: es.drop (q + 1)).set (q + 1) ex), ro 71 4 (some ⟨ge, 0, none⟩) ((edgesOf rs).length) ce edC (edgesOf rs), .blk X50 53 [.int .i64 ax, .int .i64 ay], .blk Y51 53 [.int .i64 bx, .int .i64 bY], .blk X73 27 (rc r71), .blk Y74 27 (rc r72), .blk X118 27 (rc r112), .blk X217 27 (rc ey.a)] from hh)
        have D256 := zH (hd)
        clear hh hd ho
        (try simp only [Act.put])
        go_upto_region 27 with fail
        refine wp_region_lit ?_
        refine qV (.slice (some ⟨g137, 0, none⟩) (m + 1) cp138) ?_
        refine zq (.int .i64 ((q + 1 : Nat) : Int)) ?_
        refine zp (w' := w255) (.int .i64 (q : Int)) (by exact ez2 (by omega)) ?_
        refine zq (.int .i64 ey.up) ?_
        refine zp (w' := w255) (.pointer (some ⟨g137, q * 1, none⟩)) (by exact ezi (k := q) Tryz.underlying42 (l := (show q < m + 1 by omega)) (f := (Nat.zero_add _).symm)) ?_
        refine mv_stElem1 (f := MkE.cu) (by rfl) _ _ _ (by rfl) H256.out (ix := 2) (by rfl) MkE.cu_len q ey (by rw [List.length_set]; exact HLX.out) (.int .i64 ey.up) (by rfl) (q * 1) (by rfl) (by rfl) (by rfl) (by kernel_rfl) (by simp [Value.cells]) (by simp [Value.oneCell']) (by simp [NoUL]) ?_
        intro w264 hh hd ho
        have H265 := zH (show Hp w w264 [.blk X1 27 (rc ry), ro 27 4 (some ⟨g129, 0, none⟩) (m + 1) cp130 MkE.cx (((es.take (q + 1) ++ ey :: es.drop (q + 1)).set (q + 1) ex).set q ey), ro 3 1 (some ⟨g137, 0, none⟩) (m + 1) cp138 MkE.cu (((es.take (q + 1) ++ ey :: es.drop (q + 1)).set (q + 1) ex).set q ey), ro 71 4 (some ⟨ge, 0, none⟩) ((edgesOf rs).length) ce edC (edgesOf rs), .blk X50 53 [.int .i64 ax, .int .i64 ay], .blk Y51 53 [.int .i64 bx, .int .i64 bY], .blk X73 27 (rc r71), .blk Y74 27 (rc r72), .blk X118 27 (rc r112), .blk X217 27 (rc ey.a)] from hh)
        have D265 := zH (hd)
        clear hh hd ho
        (try simp only [Act.put])
        go_upto_region 22 with fail
        refine wp_region_lit ?_
        refine zq (.int .i64 ((q + 1 : Nat) : Int)) ?_
        refine zp (w' := w264) (.int .i64 (q : Int)) (by exact ez2 (by omega)) ?_
        refine zq (.int .i64 (q : Int)) ?_
        have H270 := zH (show Hp w w264 [.blk X1 27 (rc ry), ro 27 4 (some ⟨g129, 0, none⟩) (m + 1) cp130 MkE.cx (es.take q ++ ey :: es.drop q), ro 3 1 (some ⟨g137, 0, none⟩) (m + 1) cp138 MkE.cu (es.take q ++ ey :: es.drop q), ro 71 4 (some ⟨ge, 0, none⟩) ((edgesOf rs).length) ce edC (edgesOf rs), .blk X50 53 [.int .i64 ax, .int .i64 ay], .blk Y51 53 [.int .i64 bx, .int .i64 bY], .blk X73 27 (rc r71), .blk Y74 27 (rc r72), .blk X118 27 (rc r112), .blk X217 27 (rc ey.a)] from by rw [← GS.out]; exact H265.out)
        have DD271 := zH (((((((((D185.out.trans D205.out).trans D209.out).trans D219.out).trans D224.out).trans D237.out).trans D245.out).trans D256.out).trans D265.out))
        have DD272 := zH ((((((((((D152.out.trans D185.out).trans D205.out).trans D209.out).trans D219.out).trans D224.out).trans D237.out).trans D245.out).trans D256.out).trans D265.out))
        go_wp2_with fail
        go_roundg (m + 1 - (t + 1))
        case measure => exact (by have ob6 := (show t < m + 1 by have h1 := HTU.out; omega); omega)
        case rel => exact ⟨t + 1, q, rfl, (by go_num), (by have h1 := HTU.out; omega), (fun z_ hz_ => (GZ.out z_ hz_).elim (fun h_ => by rw [h_]; exact CB.out) (HALL.out z_)), (fun g_ hg_ => by rw [← GS.out] at hg_; exact (List.mem_or_eq_of_mem_set hg_).elim (fun h_ => (List.mem_or_eq_of_mem_set h_).elim (fun h_ => (HOK2.out g_ h_).dig DD271.out) (fun h_ => by rw [h_]; exact OX.out.dig DD271.out)) (fun h_ => by rw [h_]; exact OY.out.dig DD271.out)), H270.out.take 9, DD272.out⟩
       have HU0 := zH c153
       clear c153
       obtain rfl : u = 0 := by have h := HU0.out; omega
       go_upto_region 21 with fail
       refine zy ?_
       have H273 := zH (H152.out.step (Ext.refl w150).drew)
       have D273 := zH (Dig.of_ext (w := w150) zb)
       refine zx 0 (bs 23 1) (.int .i64 0) zb ?_
       refine zu 1 (bs 23 3) (v := .bool false) zb ?_ (hv := by intro w hSw; exact ezg (e := (dec_f (by omega))))
       refine zx 2 (bs 23 7) (.bool false) zb ?_
       refine zs 3 (bs 23 15) zb ?_
       refine zs 4 (bs 23 31) zb ?_
       refine zs 5 (bs 23 63) zb ?_
       refine zs 6 (bs 23 127) zb ?_
       refine zs 7 (bs 23 255) zb ?_
       refine zs 8 (bs 23 511) zb ?_
       refine zs 9 (bs 23 1023) zb ?_
       refine zs 10 (bs 23 2047) zb ?_
       refine zs 11 (bs 23 4095) zb ?_
       refine zs 12 (bs 23 8191) zb ?_
       refine zs 13 (bs 23 16383) zb ?_
       refine zs 14 (bs 23 32767) zb ?_
       refine zs 15 (bs 23 65535) zb ?_
       refine zs 16 (bs 23 131071) zb ?_
       refine zs 17 (bs 23 262143) zb ?_
       refine zs 18 (bs 23 524287) zb ?_
       refine zs 19 (bs 23 1048575) zb ?_
       refine zs 20 (bs 23 2097151) zb ?_
       refine zs 21 (bs 23 4194303) zb ?_
       refine zx 22 (bs 23 8388607) (.bool false) zb ?_
       refine wpAnyH_done (by kernel_rfl) ?_ _
       have H279 := zH (show Hp w w150.drew [.blk X1 27 (rc ry), ro 27 4 (some ⟨g129, 0, none⟩) (m + 1) cp130 MkE.cx (Stb.ins ltK es ey), ro 3 1 (some ⟨g137, 0, none⟩) (m + 1) cp138 MkE.cu (Stb.ins ltK es ey), ro 71 4 (some ⟨ge, 0, none⟩) ((edgesOf rs).length) ce edC (edgesOf rs), .blk X50 53 [.int .i64 ax, .int .i64 ay], .blk Y51 53 [.int .i64 bx, .int .i64 bY], .blk X73 27 (rc r71), .blk Y74 27 (rc r72), .blk X118 27 (rc r112)] from by rw [Stb.ins_stop wkK HSRT.out HALL.out (Nat.zero_le _) (Or.inl rfl)]; exact H273.out)
       have DD280 := zH (((((((((((((((((((D35.out.trans D40.out).trans D53.out).trans D59.out).trans D63.out).trans D66.out).trans D76.out).trans D82.out).trans D86.out).trans D94.out).trans D99.out).trans D105.out).trans D113.out).trans D120.out).trans D124.out).trans D131.out).trans D139.out).trans D152.out).trans D273.out))
       go_wp2_with fail
       go_roundg ((edgesOf rs).length - (i + 1))
       case measure => exact (by omega)
       case rel => exact ⟨i + 1, m + 1, Stb.ins ltK es ey, some ⟨g129, 0, none⟩, cp130, some ⟨g137, 0, none⟩, cp138, rfl, rfl, rfl, (by go_num), hlt, ⟨by rw [Stb.ins_len, HM.out.1], by have := HM.out.2; omega⟩, HINS.out, (fun g_ hg_ => by rw [Stb.ins_stop wkK HSRT.out HALL.out (Nat.zero_le _) (Or.inl rfl)] at hg_; exact ((HOK2.out g_ hg_).dig D273.out)), H279.out.take 4, DD280.out⟩
     have C2 := zH c91
     clear c91
     go_upto_region 12 with fail
     refine wp_region_lit ?_
     refine zd X73 (0) (rc r71) (H86.out.range (i := 6) (by rfl) 0 4) Tryz.underlying27 ?_
     refine zd X1 (0) (rc ry) (H86.out.range (i := 0) (by rfl) 0 4) Tryz.underlying27 ?_
     have DD282 := zH ((D82.out.trans D86.out))
     refine zc (less_any 60000 _ _ (((ay) : Int) : Rat) y _ (RV.Is.nin (R71.out.dig DD282.out) (Nat.le_trans B71.out (by omega))) (RV.In.nin (RV.In.mono (RY.out.dig H86.out.dig0) (by omega))) (by omega)) ?_
     rintro e w281 ⟨rfl, hx⟩
     have H283 := zH (H86.out.step hx)
     have D283 := zH (Dig.of_ext hx)
     clear hx
     refine ⟨.bool true, by rw [dec_t C1.out], ?_⟩
     try simp only [Act.put, zA, zB, zC]
     refine qV (.bool true) ?_
     refine zd X1 (0) (rc ry) (H283.out.range (i := 0) (by rfl) 0 4) Tryz.underlying27 ?_
     refine zd Y74 (0) (rc r72) (H283.out.range (i := 7) (by rfl) 0 4) Tryz.underlying27 ?_
     have DD287 := zH ((DD282.out.trans D283.out))
     refine zc (less_any 60000 _ _ y (((bY) : Int) : Rat) _ (RV.In.nin (RV.In.mono (RY.out.dig H283.out.dig0) (by omega))) (RV.Is.nin (R72.out.dig DD287.out) (Nat.le_trans B72.out (by omega))) (by omega)) ?_
     rintro e w286 ⟨rfl, hx⟩
     have H288 := zH (H283.out.step hx)
     have D288 := zH (Dig.of_ext hx)
     clear hx
     refine ⟨.bool false, by rw [dec_f C2.out], ?_⟩
     try simp only [Act.put, zA, zB, zC]
     refine zq (.bool false) ?_
     by_cases c291 : ((bY : Int) : Rat) < y
     ·have C3 := zH c291
      clear c291
      go_upto_region 14 with fail
      refine wp_region_lit ?_
      refine zd Y74 (0) (rc r72) (H288.out.range (i := 7) (by rfl) 0 4) Tryz.underlying27 ?_
      refine zd X1 (0) (rc ry) (H288.out.range (i := 0) (by rfl) 0 4) Tryz.underlying27 ?_
      have DD293 := zH ((DD287.out.trans D288.out))
      refine zc (less_any 60000 _ _ (((bY) : Int) : Rat) y _ (RV.Is.nin (R72.out.dig DD293.out) (Nat.le_trans B72.out (by omega))) (RV.In.nin (RV.In.mono (RY.out.dig H288.out.dig0) (by omega))) (by omega)) ?_
      rintro e w292 ⟨rfl, hx⟩
      have H294 := zH (H288.out.step hx)
      have D294 := zH (Dig.of_ext hx)
      clear hx
      refine ⟨.bool true, by rw [dec_t C3.out], ?_⟩
      try simp only [Act.put, zA, zB, zC]
      refine qV (.bool true) ?_
      refine zd X1 (0) (rc ry) (H294.out.range (i := 0) (by rfl) 0 4) Tryz.underlying27 ?_
      refine zd X73 (0) (rc r71) (H294.out.range (i := 6) (by rfl) 0 4) Tryz.underlying27 ?_
      have DD298 := zH ((DD293.out.trans D294.out))
      refine zc (less_any 60000 _ _ y (((ay) : Int) : Rat) _ (RV.In.nin (RV.In.mono (RY.out.dig H294.out.dig0) (by omega))) (RV.Is.nin (R71.out.dig DD298.out) (Nat.le_trans B71.out (by omega))) (by omega)) ?_
      rintro e w297 ⟨rfl, hx⟩
      have H299 := zH (H294.out.step hx)
      have D299 := zH (Dig.of_ext hx)
      clear hx
      refine ⟨.bool false, by rw [dec_f (fun h_ => absurd h_ (Rat.not_lt.2 (Rat.le_of_lt C1.out)))], ?_⟩
      try simp only [Act.put, zA, zB, zC]
      refine zq (.bool false) ?_
      go_upto_region 16 with fail
      refine wp_region_lit ?_
      refine zq (.int .i64 0) ?_
      refine zp (w' := w297) (.bool true) (by exact ezq (e := (dec_t (by omega)))) ?_
      have DD304 := zH ((((((((((((D40.out.trans D53.out).trans D59.out).trans D63.out).trans D66.out).trans D76.out).trans D82.out).trans D86.out).trans D283.out).trans D288.out).trans D294.out).trans D299.out))
      have DD305 := zH (((((((((((((D35.out.trans D40.out).trans D53.out).trans D59.out).trans D63.out).trans D66.out).trans D76.out).trans D82.out).trans D86.out).trans D283.out).trans D288.out).trans D294.out).trans D299.out))
      go_wp2_with fail
      go_roundg ((edgesOf rs).length - (i + 1))
      case measure => exact (by omega)
      case rel => exact ⟨i + 1, m, es, A1, c1, A2, c2, rfl, rfl, rfl, (by go_num), hlt, ⟨HM.out.1, by have := HM.out.2; omega⟩, (by rw [HVL.out, crs_none HE.out (cross_no (a := (ax, ay)) (b := (bx, bY)) (fun h_ => C2.out h_.2) (fun h_ => absurd h_.2 (Rat.not_lt.2 (Rat.le_of_lt C1.out))))]), (fun g_ hg_ => (HOE.out g_ hg_).dig DD304.out), H299.out.take 4, DD305.out⟩
     have C3 := zH c291
     clear c291
     go_upto_region 14 with fail
     refine wp_region_lit ?_
     refine zd Y74 (0) (rc r72) (H288.out.range (i := 7) (by rfl) 0 4) Tryz.underlying27 ?_
     refine zd X1 (0) (rc ry) (H288.out.range (i := 0) (by rfl) 0 4) Tryz.underlying27 ?_
     have DD307 := zH ((DD287.out.trans D288.out))
     refine zc (less_any 60000 _ _ (((bY) : Int) : Rat) y _ (RV.Is.nin (R72.out.dig DD307.out) (Nat.le_trans B72.out (by omega))) (RV.In.nin (RV.In.mono (RY.out.dig H288.out.dig0) (by omega))) (by omega)) ?_
     rintro e w306 ⟨rfl, hx⟩
     have H308 := zH (H288.out.step hx)
     have D308 := zH (Dig.of_ext hx)
     clear hx
     refine ⟨.bool false, by rw [dec_f C3.out], ?_⟩
     try simp only [Act.put, zA, zB, zC]
     refine zq (.bool false) ?_
     refine zk ?_
     refine zk ?_
     refine zk ?_
     refine zq (.bool false) ?_
     go_upto_region 16 with fail
     refine wp_region_lit ?_
     refine zq (.int .i64 0) ?_
     refine zp (w' := w306) (.bool true) (by exact ezq (e := (dec_t (by omega)))) ?_
     have DD314 := zH (((((((((((D40.out.trans D53.out).trans D59.out).trans D63.out).trans D66.out).trans D76.out).trans D82.out).trans D86.out).trans D283.out).trans D288.out).trans D308.out))
     have DD315 := zH ((((((((((((D35.out.trans D40.out).trans D53.out).trans D59.out).trans D63.out).trans D66.out).trans D76.out).trans D82.out).trans D86.out).trans D283.out).trans D288.out).trans D308.out))
     go_wp2_with fail
     go_roundg ((edgesOf rs).length - (i + 1))
     case measure => exact (by omega)
     case rel => exact ⟨i + 1, m, es, A1, c1, A2, c2, rfl, rfl, rfl, (by go_num), hlt, ⟨HM.out.1, by have := HM.out.2; omega⟩, (by rw [HVL.out, crs_none HE.out (cross_no (a := (ax, ay)) (b := (bx, bY)) (fun h_ => C2.out h_.2) (fun h_ => C3.out h_.1))]), (fun g_ hg_ => (HOE.out g_ hg_).dig DD314.out), H308.out.take 4, DD315.out⟩
    have C1 := zH c90
    clear c90
    go_upto_region 12 with fail
    refine wp_region_lit ?_
    refine zd X73 (0) (rc r71) (H86.out.range (i := 6) (by rfl) 0 4) Tryz.underlying27 ?_
    refine zd X1 (0) (rc ry) (H86.out.range (i := 0) (by rfl) 0 4) Tryz.underlying27 ?_
    have DD317 := zH ((D82.out.trans D86.out))
    refine zc (less_any 60000 _ _ (((ay) : Int) : Rat) y _ (RV.Is.nin (R71.out.dig DD317.out) (Nat.le_trans B71.out (by omega))) (RV.In.nin (RV.In.mono (RY.out.dig H86.out.dig0) (by omega))) (by omega)) ?_
    rintro e w316 ⟨rfl, hx⟩
    have H318 := zH (H86.out.step hx)
    have D318 := zH (Dig.of_ext hx)
    clear hx
    refine ⟨.bool false, by rw [dec_f C1.out], ?_⟩
    try simp only [Act.put, zA, zB, zC]
    refine zq (.bool false) ?_
    refine zk ?_
    refine zk ?_
    refine zk ?_
    refine zq (.bool false) ?_
    by_cases c322 : ((bY : Int) : Rat) < y
    ·have C3 := zH c322
     clear c322
     by_cases c323 : y < ((ay : Int) : Rat)
     ·have C4 := zH c323
      clear c323
      go_upto_region 14 with fail
      refine wp_region_lit ?_
      refine zd Y74 (0) (rc r72) (H318.out.range (i := 7) (by rfl) 0 4) Tryz.underlying27 ?_
      refine zd X1 (0) (rc ry) (H318.out.range (i := 0) (by rfl) 0 4) Tryz.underlying27 ?_
      have DD325 := zH ((DD317.out.trans D318.out))
      refine zc (less_any 60000 _ _ (((bY) : Int) : Rat) y _ (RV.Is.nin (R72.out.dig DD325.out) (Nat.le_trans B72.out (by omega))) (RV.In.nin (RV.In.mono (RY.out.dig H318.out.dig0) (by omega))) (by omega)) ?_
      rintro e w324 ⟨rfl, hx⟩
      have H326 := zH (H318.out.step hx)
      have D326 := zH (Dig.of_ext hx)
      clear hx
      refine ⟨.bool true, by rw [dec_t C3.out], ?_⟩
      try simp only [Act.put, zA, zB, zC]
      refine qV (.bool true) ?_
      refine zd X1 (0) (rc ry) (H326.out.range (i := 0) (by rfl) 0 4) Tryz.underlying27 ?_
      refine zd X73 (0) (rc r71) (H326.out.range (i := 6) (by rfl) 0 4) Tryz.underlying27 ?_
      have DD330 := zH ((DD325.out.trans D326.out))
      refine zc (less_any 60000 _ _ y (((ay) : Int) : Rat) _ (RV.In.nin (RV.In.mono (RY.out.dig H326.out.dig0) (by omega))) (RV.Is.nin (R71.out.dig DD330.out) (Nat.le_trans B71.out (by omega))) (by omega)) ?_
      rintro e w329 ⟨rfl, hx⟩
      have H331 := zH (H326.out.step hx)
      have D331 := zH (Dig.of_ext hx)
      clear hx
      refine ⟨.bool true, by rw [dec_t C4.out], ?_⟩
      try simp only [Act.put, zA, zB, zC]
      refine zq (.bool true) ?_
      go_upto_region 15 with fail
      refine wp_region_lit ?_
      refine zq (.int .i64 (-1)) ?_
      go_upto_region 16 with fail
      refine wp_region_lit ?_
      refine zq (.int .i64 (-1)) ?_
      refine zp (w' := w329) (.bool false) (by exact ezq (e := (dec_f (by omega)))) ?_
      go_upto_region 17 with fail
      refine wp_region_lit ?_
      refine zd X50 (0) [.int .i64 ax, .int .i64 ay] (H331.out.range (i := 4) (by rfl) 0 2) Tryz.underlying53 ?_
      refine zd Y51 (0) [.int .i64 bx, .int .i64 bY] (H331.out.range (i := 5) (by rfl) 0 2) Tryz.underlying53 ?_
      refine zd X1 (0) (rc ry) (H331.out.range (i := 0) (by rfl) 0 4) Tryz.underlying27 ?_
      refine zc (rxat_any L ax ay bx bY ry y _ (RY.out.dig H331.out.dig0) h1L hL HOA.out HOB.out (xat_pre (.inr ⟨C3.out, C4.out⟩)).1 (xat_pre (.inr ⟨C3.out, C4.out⟩)).2.1 (xat_pre (.inr ⟨C3.out, C4.out⟩)).2.2) ?_
      rintro e w337 ⟨r338, rfl, hr_, hx⟩
      have H339 := zH (H331.out.step hx)
      have D339 := zH (Dig.of_ext hx)
      have R338 := zH hr_
      have B338 := zH (rl_xat (ax := ax) (bx := bx) HOA.out HOB.out RY.out.rl)
      clear hr_
      clear hx
      refine zn ?_
      refine qV (.tuple #[.agg #[.bool r338.n, .slice r338.p r338.l r338.c, .bool r338.m, .slice r338.p2 r338.l2 r338.c2], .bool true]) ?_
      refine zq (.agg #[.bool r338.n, .slice r338.p r338.l r338.c, .bool r338.m, .slice r338.p2 r338.l2 r338.c2]) ?_
      refine zq (.bool true) ?_
      refine mv_alloc (T := 27) (zs := [.bool false, .slice none 0 0, .bool false, .slice none 0 0]) (by rfl) (by go_simp) H339.out (by simp [NoUL]) ?_
      intro X344 w345 hh hx hge
      have H346 := zH (show Hp w w345 [.blk X1 27 (rc ry), ro 27 4 A1 m c1 MkE.cx es, ro 3 1 A2 m c2 MkE.cu es, ro 71 4 (some ⟨ge, 0, none⟩) ((edgesOf rs).length) ce edC (edgesOf rs), .blk X50 53 [.int .i64 ax, .int .i64 ay], .blk Y51 53 [.int .i64 bx, .int .i64 bY], .blk X73 27 (rc r71), .blk Y74 27 (rc r72), .blk X344 27 rz] from hh)
      have D346 := zH (Dig.of_ext hx)
      clear hh hx hge
      try simp only [Act.put, zA, zB, zC]
      refine mv_st (by rfl) _ _ _ (by rfl) H346.out (ix := 8) (by rfl) 0 [.bool r338.n, .slice r338.p r338.l r338.c, .bool r338.m, .slice r338.p2 r338.l2 r338.c2] (by rfl) (by rfl) (by simp) (by kernel_rfl) (by simp [Value.oneCell']) (by simp [NoUL]) ?_
      intro w349 hh hd ho
      have H350 := zH (show Hp w w349 [.blk X1 27 (rc ry), ro 27 4 A1 m c1 MkE.cx es, ro 3 1 A2 m c2 MkE.cu es, ro 71 4 (some ⟨ge, 0, none⟩) ((edgesOf rs).length) ce edC (edgesOf rs), .blk X50 53 [.int .i64 ax, .int .i64 ay], .blk Y51 53 [.int .i64 bx, .int .i64 bY], .blk X73 27 (rc r71), .blk Y74 27 (rc r72), .blk X344 27 (rc r338)] from hh)
      have D350 := zH (hd)
      clear hh hd ho
      (try simp only [Act.put])
      refine zq (.bool true) ?_
      go_upto_region 18 with fail
      refine wp_region_lit ?_
      refine qV (.slice A1 m c1) ?_
      refine zd X344 (0) (rc r338) (H350.out.range (i := 8) (by rfl) 0 4) Tryz.underlying27 ?_
      refine zp (w' := (w349.alloc (.cells ([.bool r338.n, .slice r338.p r338.l r338.c, .bool r338.m, .slice r338.p2 r338.l2 r338.c2] : List Value).toArray 27))) (.slice (some ⟨w349.heap.size, 0, none⟩) 1 1) (by go_simp) ?_
      refine mv_app (by rfl) _ _ _ (by rfl) elRat (by rfl) H350.out (ix := 1) (by rfl) 1 1 [.bool r338.n, .slice r338.p r338.l r338.c, .bool r338.m, .slice r338.p2 r338.l2 r338.c2] (by rfl) rfl (by simp [Value.oneCell']) (by simp [NoUL]) (by decide) (by unfold maxLen; exact (by omega)) (by omega) ?_
      intro g355 cp356 w354 hf hh hd hg
      have Fg355 := zH hf
      clear hf
      rw [show List.flatMap MkE.cx es ++ [.bool r338.n, .slice r338.p r338.l r338.c, .bool r338.m, .slice r338.p2 r338.l2 r338.c2] = List.flatMap MkE.cx (es ++ [(⟨r338, (xatV ax ay bx bY y), (-1)⟩ : MkE)]) from flat_snoc MkE.cx _ (⟨r338, (xatV ax ay bx bY y), (-1)⟩ : MkE)] at hh
      have H357 := zH (show Hp w w354 [.blk X1 27 (rc ry), ro 27 4 (some ⟨g355, 0, none⟩) (m + 1) cp356 MkE.cx (es ++ [(⟨r338, (xatV ax ay bx bY y), (-1)⟩ : MkE)]), ro 3 1 A2 m c2 MkE.cu es, ro 71 4 (some ⟨ge, 0, none⟩) ((edgesOf rs).length) ce edC (edgesOf rs), .blk X50 53 [.int .i64 ax, .int .i64 ay], .blk Y51 53 [.int .i64 bx, .int .i64 bY], .blk X73 27 (rc r71), .blk Y74 27 (rc r72), .blk X344 27 (rc r338)] from hh)
      have D357 := zH (hd)
      clear hh hd hg
      try simp only [Act.put, zA, zB, zC]
      refine zq (.slice (some ⟨g355, 0, none⟩) (m + 1) cp356) ?_
      go_upto_region 19 with fail
      refine wp_region_lit ?_
      refine qV (.slice A2 m c2) ?_
      refine zq (.int .i64 (-1)) ?_
      refine zp (w' := (w354.alloc (.cells ([.int .i64 (-1)] : List Value).toArray 3))) (.slice (some ⟨w354.heap.size, 0, none⟩) 1 1) (by go_simp) ?_
      refine mv_app (by rfl) _ _ _ (by rfl) elInt (by rfl) H357.out (ix := 2) (by rfl) 1 1 [.int .i64 (-1)] (by rfl) rfl (by simp [Value.oneCell']) (by simp [NoUL]) (by decide) (by unfold maxLen; exact (by omega)) (by omega) ?_
      intro g363 cp364 w362 hf hh hd hg
      have Fg363 := zH hf
      clear hf
      rw [show List.flatMap MkE.cu es ++ [.int .i64 (-1)] = List.flatMap MkE.cu (es ++ [(⟨r338, (xatV ax ay bx bY y), (-1)⟩ : MkE)]) from flat_snoc MkE.cu _ (⟨r338, (xatV ax ay bx bY y), (-1)⟩ : MkE)] at hh
      have H365 := zH (show Hp w w362 [.blk X1 27 (rc ry), ro 27 4 (some ⟨g355, 0, none⟩) (m + 1) cp356 MkE.cx (es ++ [(⟨r338, (xatV ax ay bx bY y), (-1)⟩ : MkE)]), ro 3 1 (some ⟨g363, 0, none⟩) (m + 1) cp364 MkE.cu (es ++ [(⟨r338, (xatV ax ay bx bY y), (-1)⟩ : MkE)]), ro 71 4 (some ⟨ge, 0, none⟩) ((edgesOf rs).length) ce edC (edgesOf rs), .blk X50 53 [.int .i64 ax, .int .i64 ay], .blk Y51 53 [.int .i64 bx, .int .i64 bY], .blk X73 27 (rc r71), .blk Y74 27 (rc r72), .blk X344 27 (rc r338)] from hh)
      have D365 := zH (hd)
      clear hh hd hg
      try simp only [Act.put, zA, zB, zC]
      refine zq (.slice (some ⟨g363, 0, none⟩) (m + 1) cp364) ?_
      obtain ⟨ey, hey_⟩ : ∃ ey : MkE, ey = (⟨r338, (xatV ax ay bx bY y), (-1)⟩ : MkE) := ⟨_, rfl⟩
      have HZ := zH hey_
      have H368 := zH (show Hp w w362 [.blk X1 27 (rc ry), ro 27 4 (some ⟨g355, 0, none⟩) (m + 1) cp356 MkE.cx (es.take m ++ ey :: es.drop m), ro 3 1 (some ⟨g363, 0, none⟩) (m + 1) cp364 MkE.cu (es.take m ++ ey :: es.drop m), ro 71 4 (some ⟨ge, 0, none⟩) ((edgesOf rs).length) ce edC (edgesOf rs), .blk X50 53 [.int .i64 ax, .int .i64 ay], .blk Y51 53 [.int .i64 bx, .int .i64 bY], .blk X73 27 (rc r71), .blk Y74 27 (rc r72), .blk X344 27 (rc r338)] from by rw [show es.take m ++ ey :: es.drop m = es ++ [(⟨r338, (xatV ax ay bx bY y), (-1)⟩ : MkE)] by rw [List.take_of_length_le (by have := HM.out.1; omega), List.drop_of_length_le (by have := HM.out.1; omega), HZ.out]]; exact H365.out)
      have DD369 := zH ((((D346.out.trans D350.out).trans D357.out).trans D365.out))
      have HOY := zH (show ey.Ok (L + 8) w362 from by rw [HZ.out]; exact ⟨(R338.out.dig DD369.out), (show Nm.rl (xatV ax ay bx bY y) ≤ L + 8 by have q_ := B338.out; omega), (show (-1 : Int) ≤ (-1) by decide), (show (-1) ≤ (1 : Int) by decide)⟩)
      have HVY := zH (show ey.vl = (xatV ax ay bx bY y, (-1)) from by rw [HZ.out]; rfl)
      have HINS := zH (show (Stb.ins ltK es ey).map MkE.vl = Stb.stab ltM (((edgesOf rs).take (i + 1)).filterMap (crossV y)) by rw [crs_some HE.out (cross_down (a := (ax, ay)) (b := (bx, bY)) ⟨C3.out, C4.out⟩), ← HVL.out, ← HVY.out]; exact ins_map MkE.vl (fun _ _ => rfl) es ey)
      have HSRT := zH (show Stb.Srt ltK es from srt_mk (by rw [HVL.out]; exact Stb.stab_srt wkM _))
      go_upto_region 20 with fail
      refine wp_region_lit ?_
      refine qV (.slice (some ⟨g355, 0, none⟩) (m + 1) cp356) ?_
      refine zq (.int .i64 ((m + 1 : Nat) : Int)) ?_
      refine zp (w' := w362) (.int .i64 (m : Int)) (by exact ez2 (by omega)) ?_
      refine zq (.int .i64 (m : Int)) ?_
      have DD374 := zH ((((((((((((((((D40.out.trans D53.out).trans D59.out).trans D63.out).trans D66.out).trans D76.out).trans D82.out).trans D86.out).trans D318.out).trans D326.out).trans D331.out).trans D339.out).trans D346.out).trans D350.out).trans D357.out).trans D365.out))
      go_wp2_with fail
      go_loopg [17] (m + 1) (fun cq v375 wr => ∃ (t : Nat) (u : Nat), cq = (m + 1) - t ∧ v375 = .int .i64 (u : Int) ∧ (t + u = m) ∧ (∀ z, z ∈ es.drop u → ltK ey z = true) ∧ (∀ e, e ∈ es.take u ++ ey :: es.drop u → e.Ok (L + 8) wr) ∧ Hp w wr [.blk X1 27 [.bool ry.n, .slice ry.p ry.l ry.c, .bool ry.m, .slice ry.p2 ry.l2 ry.c2], .row 27 4 (.slice (some ⟨g355, 0, none⟩) (m + 1) cp356) (m + 1) (List.flatMap MkE.cx (es.take u ++ ey :: es.drop u)), .row 3 1 (.slice (some ⟨g363, 0, none⟩) (m + 1) cp364) (m + 1) (List.flatMap MkE.cu (es.take u ++ ey :: es.drop u)), .row 71 4 (.slice (some ⟨ge, 0, none⟩) ((edgesOf rs).length) ce) ((edgesOf rs).length) (List.flatMap edC (edgesOf rs)), .blk X50 53 [.int .i64 ax, .int .i64 ay], .blk Y51 53 [.int .i64 bx, .int .i64 bY], .blk X73 27 [.bool r71.n, .slice r71.p r71.l r71.c, .bool r71.m, .slice r71.p2 r71.l2 r71.c2], .blk Y74 27 [.bool r72.n, .slice r72.p r72.l r72.c, .bool r72.m, .slice r72.p2 r72.l2 r72.c2], .blk X344 27 [.bool r338.n, .slice r338.p r338.l r338.c, .bool r338.m, .slice r338.p2 r338.l2 r338.c2]] ∧ Dig w362 wr)
      case atStart => exact ⟨0, m, rfl, rfl, Nat.zero_add _, (fun z_ hz_ => by rw [List.drop_of_length_le (by have := HM.out.1; omega)] at hz_; simp at hz_), (fun g_ hg_ => by rw [List.take_of_length_le (by have := HM.out.1; omega), List.drop_of_length_le (by have := HM.out.1; omega)] at hg_; exact (List.mem_append.1 hg_).elim (fun hg_ => (HOE.out g_ hg_).dig DD374.out) (fun hg_ => by rw [List.mem_singleton.1 hg_]; exact HOY.out)), H368.out, Dig.refl _⟩
      case round =>
       obtain ⟨t, u, rfl, rfl, q_HTU, q_HALL, q_HOK2, hh_, hd_⟩ := hrel
       generalize wr = w376 at *
       have HTU := zH q_HTU
       clear q_HTU
       have HALL := zH q_HALL
       clear q_HALL
       have HOK2 := zH q_HOK2
       clear q_HOK2
       have H378 := zH hh_
       have D378 := zH hd_
       clear hh_ hd_ H368
       by_cases c379 : 0 < u
       ·have HU0 := zH c379
        clear c379
        have hu0 := HU0.out
        obtain ⟨q, rfl⟩ : ∃ q, u = q + 1 := ⟨u - 1, by omega⟩
        have HTQ := zH (show q < es.length by have h1 := HTU.out; have h2 := HM.out.1; omega)
        have hqm : q < m := by have h1 := HTU.out; omega
        obtain ⟨gx_, gy_, gs_, gz_⟩ := ins_at (y := ey) HTQ.out
        obtain ⟨ex, hex_⟩ : ∃ ex, ex = es[q]'HTQ.out := ⟨_, rfl⟩
        rw [← hex_] at gx_ gs_ gz_
        have HXE := zH hex_
        have GX := zH gx_
        have GY := zH gy_
        have GS := zH gs_
        have GZ := zH gz_
        have HLX := zH (List.getElem?_eq_some_iff.1 gx_).1
        have HLY := zH (List.getElem?_eq_some_iff.1 gy_).1
        clear gx_ gy_ gs_ gz_ hex_
        have OX := zH (HOK2.out ex (List.mem_of_getElem? GX.out))
        have OY := zH (HOK2.out ey (List.mem_of_getElem? GY.out))
        have RX := zH OX.out.1
        have RZ := zH OY.out.1
        have BX := zH OX.out.2.1
        have BZ := zH OY.out.2.1
        have HXS := zH OX.out.2.2
        have HYS := zH OY.out.2.2
        have hv380 := HEL.out
        have hv381 := HM.out.2
        have hv382 := HXS.out
        have hv383 := HYS.out
        rcases hcb_ : ltK ey ex with _ | _
        ·have CB := zH hcb_
         clear hcb_
         go_upto_region 21 with fail
         refine zy ?_
         have H384 := zH (H378.out.step (Ext.refl w376).drew)
         have D384 := zH (Dig.of_ext (w := w376) zb)
         refine zx 0 (bs 23 1) (.int .i64 ((q + 1 : Nat) : Int)) zb ?_
         refine zu 1 (bs 23 3) (v := .bool true) zb ?_ (hv := by intro w hSw; exact ezg (e := (dec_t (by omega))))
         refine zx 2 (bs 23 7) (.bool true) zb ?_
         refine zx 3 (bs 23 15) (.slice (some ⟨g355, 0, none⟩) (m + 1) cp356) zb ?_
         refine zx 4 (bs 23 31) (.int .i64 ((q + 1 : Nat) : Int)) zb ?_
         refine zo 5 (bs 23 63) (v := .pointer (some ⟨g355, (q + 1) * 4, none⟩)) zb ?_ (hv := by intro w hSw; exact ezi (k := q + 1) Tryz.underlying41 (l := (show q + 1 < m + 1 by omega)) (f := (Nat.zero_add _).symm))
         refine zg 6 (bs 23 127) g355 ((q + 1) * 4) (rc ey.a) (H378.out.elem (f := MkE.cx) (i := 1) (by rfl) MkE.cx_len GY.out) Tryz.underlying27 zb ?_
         refine zx 7 (bs 23 255) (.slice (some ⟨g363, 0, none⟩) (m + 1) cp364) zb ?_
         refine zx 8 (bs 23 511) (.int .i64 ((q + 1 : Nat) : Int)) zb ?_
         refine zu 9 (bs 23 1023) (v := .pointer (some ⟨g363, (q + 1) * 1, none⟩)) zb ?_ (hv := by intro w hSw; exact ezi (k := q + 1) Tryz.underlying42 (l := (show q + 1 < m + 1 by omega)) (f := (Nat.zero_add _).symm))
         refine zf 10 (bs 23 2047) g363 ((q + 1) * 1) (.int .i64 ey.up) (H378.out.elem (f := MkE.cu) (i := 2) (by rfl) MkE.cu_len GY.out) zb ?_
         refine zx 11 (bs 23 4095) (.slice (some ⟨g355, 0, none⟩) (m + 1) cp356) zb ?_
         refine zx 12 (bs 23 8191) (.int .i64 ((q + 1 : Nat) : Int)) zb ?_
         refine zu 13 (bs 23 16383) (v := .int .i64 (q : Int)) zb ?_ (hv := by intro w hSw; exact ez2 (by omega))
         refine zo 14 (bs 23 32767) (v := .pointer (some ⟨g355, q * 4, none⟩)) zb ?_ (hv := by intro w hSw; exact ezi (k := q) Tryz.underlying41 (l := (show q < m + 1 by omega)) (f := (Nat.zero_add _).symm))
         refine zg 15 (bs 23 65535) g355 (q * 4) (rc ex.a) (H378.out.elem (f := MkE.cx) (i := 1) (by rfl) MkE.cx_len GX.out) Tryz.underlying27 zb ?_
         refine zx 16 (bs 23 131071) (.slice (some ⟨g363, 0, none⟩) (m + 1) cp364) zb ?_
         refine zx 17 (bs 23 262143) (.int .i64 ((q + 1 : Nat) : Int)) zb ?_
         refine zu 18 (bs 23 524287) (v := .int .i64 (q : Int)) zb ?_ (hv := by intro w hSw; exact ez2 (by omega))
         refine zu 19 (bs 23 1048575) (v := .pointer (some ⟨g363, q * 1, none⟩)) zb ?_ (hv := by intro w hSw; exact ezi (k := q) Tryz.underlying42 (l := (show q < m + 1 by omega)) (f := (Nat.zero_add _).symm))
         refine zf 20 (bs 23 2097151) g363 (q * 1) (.int .i64 ex.up) (H378.out.elem (f := MkE.cu) (i := 2) (by rfl) MkE.cu_len GX.out) zb ?_
         refine mC 21 (bs 23 4194303) (before_any 60000 _ _ ey.q ex.q ey.up ex.up _ (RV.Is.nin (RZ.out.dig D384.out) (Nat.le_trans BZ.out (by omega))) (RV.Is.nin (RX.out.dig D384.out) (Nat.le_trans BX.out (by omega))) (by decide)) ?_
         rintro e w403 ⟨rfl, hx⟩
         have H404 := zH (H384.out.step hx)
         have D404 := zH (show Dig w376.drew w403 from Dig.of_ext hx)
         have S406 := zH (show Ext w376 w403 from zb.trans hx)
         clear hx
         refine ⟨.bool false, by rw [show beforeV ey.q ey.up ex.q ex.up = false from CB.out], S406.out, ?_⟩
         try simp only [Act.put, zA, zB, zC]
         refine zx 22 (bs 23 8388607) (.bool false) S406.out ?_
         refine wpAnyH_done (by kernel_rfl) ?_ _
         have H408 := zH (show Hp w w403 [.blk X1 27 (rc ry), ro 27 4 (some ⟨g355, 0, none⟩) (m + 1) cp356 MkE.cx (Stb.ins ltK es ey), ro 3 1 (some ⟨g363, 0, none⟩) (m + 1) cp364 MkE.cu (Stb.ins ltK es ey), ro 71 4 (some ⟨ge, 0, none⟩) ((edgesOf rs).length) ce edC (edgesOf rs), .blk X50 53 [.int .i64 ax, .int .i64 ay], .blk Y51 53 [.int .i64 bx, .int .i64 bY], .blk X73 27 (rc r71), .blk Y74 27 (rc r72), .blk X344 27 (rc r338)] from by rw [Stb.ins_stop wkK HSRT.out HALL.out (by have h1 := HTQ.out; omega) (Or.inr ⟨q, rfl, HTQ.out, by rw [← HXE.out]; exact CB.out⟩)]; exact H404.out)
         have DD409 := zH ((D384.out.trans D404.out))
         have DD410 := zH ((((((((((((((((((((D35.out.trans D40.out).trans D53.out).trans D59.out).trans D63.out).trans D66.out).trans D76.out).trans D82.out).trans D86.out).trans D318.out).trans D326.out).trans D331.out).trans D339.out).trans D346.out).trans D350.out).trans D357.out).trans D365.out).trans D378.out).trans D384.out).trans D404.out))
         go_wp2_with fail
         go_roundg ((edgesOf rs).length - (i + 1))
         case measure => exact (by omega)
         case rel => exact ⟨i + 1, m + 1, Stb.ins ltK es ey, some ⟨g355, 0, none⟩, cp356, some ⟨g363, 0, none⟩, cp364, rfl, rfl, rfl, (by go_num), hlt, ⟨by rw [Stb.ins_len, HM.out.1], by have := HM.out.2; omega⟩, HINS.out, (fun g_ hg_ => by rw [Stb.ins_stop wkK HSRT.out HALL.out (by have h1 := HTQ.out; omega) (Or.inr ⟨q, rfl, HTQ.out, by rw [← HXE.out]; exact CB.out⟩)] at hg_; exact ((HOK2.out g_ hg_).dig DD409.out)), H408.out.take 4, DD410.out⟩
        have CB := zH hcb_
        clear hcb_
        go_upto_region 21 with fail
        refine zy ?_
        have H411 := zH (H378.out.step (Ext.refl w376).drew)
        have D411 := zH (Dig.of_ext (w := w376) zb)
        refine zx 0 (bs 23 1) (.int .i64 ((q + 1 : Nat) : Int)) zb ?_
        refine zu 1 (bs 23 3) (v := .bool true) zb ?_ (hv := by intro w hSw; exact ezg (e := (dec_t (by omega))))
        refine zx 2 (bs 23 7) (.bool true) zb ?_
        refine zx 3 (bs 23 15) (.slice (some ⟨g355, 0, none⟩) (m + 1) cp356) zb ?_
        refine zx 4 (bs 23 31) (.int .i64 ((q + 1 : Nat) : Int)) zb ?_
        refine zo 5 (bs 23 63) (v := .pointer (some ⟨g355, (q + 1) * 4, none⟩)) zb ?_ (hv := by intro w hSw; exact ezi (k := q + 1) Tryz.underlying41 (l := (show q + 1 < m + 1 by omega)) (f := (Nat.zero_add _).symm))
        refine zg 6 (bs 23 127) g355 ((q + 1) * 4) (rc ey.a) (H378.out.elem (f := MkE.cx) (i := 1) (by rfl) MkE.cx_len GY.out) Tryz.underlying27 zb ?_
        refine zx 7 (bs 23 255) (.slice (some ⟨g363, 0, none⟩) (m + 1) cp364) zb ?_
        refine zx 8 (bs 23 511) (.int .i64 ((q + 1 : Nat) : Int)) zb ?_
        refine zu 9 (bs 23 1023) (v := .pointer (some ⟨g363, (q + 1) * 1, none⟩)) zb ?_ (hv := by intro w hSw; exact ezi (k := q + 1) Tryz.underlying42 (l := (show q + 1 < m + 1 by omega)) (f := (Nat.zero_add _).symm))
        refine zf 10 (bs 23 2047) g363 ((q + 1) * 1) (.int .i64 ey.up) (H378.out.elem (f := MkE.cu) (i := 2) (by rfl) MkE.cu_len GY.out) zb ?_
        refine zx 11 (bs 23 4095) (.slice (some ⟨g355, 0, none⟩) (m + 1) cp356) zb ?_
        refine zx 12 (bs 23 8191) (.int .i64 ((q + 1 : Nat) : Int)) zb ?_
        refine zu 13 (bs 23 16383) (v := .int .i64 (q : Int)) zb ?_ (hv := by intro w hSw; exact ez2 (by omega))
        refine zo 14 (bs 23 32767) (v := .pointer (some ⟨g355, q * 4, none⟩)) zb ?_ (hv := by intro w hSw; exact ezi (k := q) Tryz.underlying41 (l := (show q < m + 1 by omega)) (f := (Nat.zero_add _).symm))
        refine zg 15 (bs 23 65535) g355 (q * 4) (rc ex.a) (H378.out.elem (f := MkE.cx) (i := 1) (by rfl) MkE.cx_len GX.out) Tryz.underlying27 zb ?_
        refine zx 16 (bs 23 131071) (.slice (some ⟨g363, 0, none⟩) (m + 1) cp364) zb ?_
        refine zx 17 (bs 23 262143) (.int .i64 ((q + 1 : Nat) : Int)) zb ?_
        refine zu 18 (bs 23 524287) (v := .int .i64 (q : Int)) zb ?_ (hv := by intro w hSw; exact ez2 (by omega))
        refine zu 19 (bs 23 1048575) (v := .pointer (some ⟨g363, q * 1, none⟩)) zb ?_ (hv := by intro w hSw; exact ezi (k := q) Tryz.underlying42 (l := (show q < m + 1 by omega)) (f := (Nat.zero_add _).symm))
        refine zf 20 (bs 23 2097151) g363 (q * 1) (.int .i64 ex.up) (H378.out.elem (f := MkE.cu) (i := 2) (by rfl) MkE.cu_len GX.out) zb ?_
        refine mC 21 (bs 23 4194303) (before_any 60000 _ _ ey.q ex.q ey.up ex.up _ (RV.Is.nin (RZ.out.dig D411.out) (Nat.le_trans BZ.out (by omega))) (RV.Is.nin (RX.out.dig D411.out) (Nat.le_trans BX.out (by omega))) (by decide)) ?_
        rintro e w430 ⟨rfl, hx⟩
        have H431 := zH (H411.out.step hx)
        have D431 := zH (show Dig w376.drew w430 from Dig.of_ext hx)
        have S433 := zH (show Ext w376 w430 from zb.trans hx)
        clear hx
        refine ⟨.bool true, by rw [show beforeV ey.q ey.up ex.q ex.up = true from CB.out], S433.out, ?_⟩
        try simp only [Act.put, zA, zB, zC]
        refine zx 22 (bs 23 8388607) (.bool true) S433.out ?_
        refine wpAnyH_done (by kernel_rfl) ?_ _
        go_upto_region 23 with fail
        refine zy ?_
        have H435 := zH (H431.out.step (Ext.refl w430).drew)
        have D435 := zH (Dig.of_ext (w := w430) zb)
        refine zx 0 (bs 11 1) (.slice (some ⟨g355, 0, none⟩) (m + 1) cp356) zb ?_
        refine zx 1 (bs 11 3) (.int .i64 ((q + 1 : Nat) : Int)) zb ?_
        refine zo 2 (bs 11 7) (v := .pointer (some ⟨g355, (q + 1) * 4, none⟩)) zb ?_ (hv := by intro w hSw; exact ezi (k := q + 1) Tryz.underlying41 (l := (show q + 1 < m + 1 by omega)) (f := (Nat.zero_add _).symm))
        refine zg 3 (bs 11 15) g355 ((q + 1) * 4) (rc ey.a) (H431.out.elem (f := MkE.cx) (i := 1) (by rfl) MkE.cx_len GY.out) Tryz.underlying27 zb ?_
        refine zx 4 (bs 11 31) (.slice (some ⟨g363, 0, none⟩) (m + 1) cp364) zb ?_
        refine zx 5 (bs 11 63) (.int .i64 ((q + 1 : Nat) : Int)) zb ?_
        refine zu 6 (bs 11 127) (v := .pointer (some ⟨g363, (q + 1) * 1, none⟩)) zb ?_ (hv := by intro w hSw; exact ezi (k := q + 1) Tryz.underlying42 (l := (show q + 1 < m + 1 by omega)) (f := (Nat.zero_add _).symm))
        refine zf 7 (bs 11 255) g363 ((q + 1) * 1) (.int .i64 ey.up) (H431.out.elem (f := MkE.cu) (i := 2) (by rfl) MkE.cu_len GY.out) zb ?_
        refine md_alloc (T := 27) (zs := [.bool false, .slice none 0 0, .bool false, .slice none 0 0]) (i := 8) (listed' := (bs 11 511)) (by rfl) (by kernel_rfl) (by rfl) (by go_simp) (by kernel_rfl) H435.out (by simp [NoUL]) ?_
        intro X443 w444 hh hx hge
        have H445 := zH (show Hp w w444 [.blk X1 27 (rc ry), ro 27 4 (some ⟨g355, 0, none⟩) (m + 1) cp356 MkE.cx (es.take (q + 1) ++ ey :: es.drop (q + 1)), ro 3 1 (some ⟨g363, 0, none⟩) (m + 1) cp364 MkE.cu (es.take (q + 1) ++ ey :: es.drop (q + 1)), ro 71 4 (some ⟨ge, 0, none⟩) ((edgesOf rs).length) ce edC (edgesOf rs), .blk X50 53 [.int .i64 ax, .int .i64 ay], .blk Y51 53 [.int .i64 bx, .int .i64 bY], .blk X73 27 (rc r71), .blk Y74 27 (rc r72), .blk X344 27 (rc r338), .blk X443 27 rz] from hh)
        have D445 := zH (show Dig w430.drew w444 from Dig.of_ext hx)
        have S448 := zH (show Ext w430 w444 from zb.trans hx)
        have G447 := zH (show w430.heap.size ≤ X443 from Nat.le_trans zb.size hge)
        clear hh hx hge
        refine ⟨S448.out, ?_⟩
        try simp only [Act.put, zA, zB, zC]
        refine md_st (i := 9) (listed' := (bs 11 1023)) (by rfl) (by kernel_rfl) (by rfl) (by kernel_rfl) _ _ _ (by rfl) H445.out (ix := 9) (by rfl) 0 [.bool ey.a.n, .slice ey.a.p ey.a.l ey.a.c, .bool ey.a.m, .slice ey.a.p2 ey.a.l2 ey.a.c2] (by rfl) (by rfl) (by simp) (by kernel_rfl) (by simp [Value.oneCell']) (by simp [NoUL]) ?_
        intro w449 hh hd ho
        have H450 := zH (show Hp w w449 [.blk X1 27 (rc ry), ro 27 4 (some ⟨g355, 0, none⟩) (m + 1) cp356 MkE.cx (es.take (q + 1) ++ ey :: es.drop (q + 1)), ro 3 1 (some ⟨g363, 0, none⟩) (m + 1) cp364 MkE.cu (es.take (q + 1) ++ ey :: es.drop (q + 1)), ro 71 4 (some ⟨ge, 0, none⟩) ((edgesOf rs).length) ce edC (edgesOf rs), .blk X50 53 [.int .i64 ax, .int .i64 ay], .blk Y51 53 [.int .i64 bx, .int .i64 bY], .blk X73 27 (rc r71), .blk Y74 27 (rc r72), .blk X344 27 (rc r338), .blk X443 27 (rc ey.a)] from hh)
        have D450 := zH (hd)
        have S452 := zH (show Ext w430 w449 from Own.ext ho S448.out G447.out)
        clear hh hd ho
        refine ⟨S452.out, ?_⟩
        (try simp only [Act.put])
        refine zx 10 (bs 11 2047) (.int .i64 ey.up) S452.out ?_
        refine wpAnyH_done (by kernel_rfl) ?_ _
        go_upto_region 24 with fail
        refine wp_region_lit ?_
        refine qV (.slice (some ⟨g355, 0, none⟩) (m + 1) cp356) ?_
        refine zq (.int .i64 ((q + 1 : Nat) : Int)) ?_
        refine qV (.slice (some ⟨g355, 0, none⟩) (m + 1) cp356) ?_
        refine zq (.int .i64 ((q + 1 : Nat) : Int)) ?_
        refine zp (w' := w449) (.int .i64 (q : Int)) (by exact ez2 (by omega)) ?_
        refine zp (w' := w449) (.pointer (some ⟨g355, q * 4, none⟩)) (by exact ezi (k := q) Tryz.underlying41 (l := (show q < m + 1 by omega)) (f := (Nat.zero_add _).symm)) ?_
        refine zd g355 (q * 4) (rc ex.a) (H450.out.elem (f := MkE.cx) (i := 1) (by rfl) MkE.cx_len GX.out) Tryz.underlying27 ?_
        refine zp (w' := w449) (.pointer (some ⟨g355, (q + 1) * 4, none⟩)) (by exact ezi (k := q + 1) Tryz.underlying41 (l := (show q + 1 < m + 1 by omega)) (f := (Nat.zero_add _).symm)) ?_
        refine mv_stElem (f := MkE.cx) (by rfl) _ _ _ (by rfl) H450.out (ix := 1) (by rfl) MkE.cx_len (q + 1) ex HLY.out [.bool ex.a.n, .slice ex.a.p ex.a.l ex.a.c, .bool ex.a.m, .slice ex.a.p2 ex.a.l2 ex.a.c2] (by rfl) ((q + 1) * 4) (by rfl) (by rfl) (by rfl) (by kernel_rfl) (by simp [Value.oneCell']) (by simp [NoUL]) ?_
        intro w462 hh hd ho
        have H463 := zH (show Hp w w462 [.blk X1 27 (rc ry), ro 27 4 (some ⟨g355, 0, none⟩) (m + 1) cp356 MkE.cx ((es.take (q + 1) ++ ey :: es.drop (q + 1)).set (q + 1) ex), ro 3 1 (some ⟨g363, 0, none⟩) (m + 1) cp364 MkE.cu (es.take (q + 1) ++ ey :: es.drop (q + 1)), ro 71 4 (some ⟨ge, 0, none⟩) ((edgesOf rs).length) ce edC (edgesOf rs), .blk X50 53 [.int .i64 ax, .int .i64 ay], .blk Y51 53 [.int .i64 bx, .int .i64 bY], .blk X73 27 (rc r71), .blk Y74 27 (rc r72), .blk X344 27 (rc r338), .blk X443 27 (rc ey.a)] from hh)
        have D463 := zH (hd)
        clear hh hd ho
        (try simp only [Act.put])
        go_upto_region 25 with fail
        refine wp_region_lit ?_
        refine qV (.slice (some ⟨g355, 0, none⟩) (m + 1) cp356) ?_
        refine zq (.int .i64 ((q + 1 : Nat) : Int)) ?_
        refine zp (w' := w462) (.int .i64 (q : Int)) (by exact ez2 (by omega)) ?_
        refine zd X443 (0) (rc ey.a) (H463.out.range (i := 9) (by rfl) 0 4) Tryz.underlying27 ?_
        refine zp (w' := w462) (.pointer (some ⟨g355, q * 4, none⟩)) (by exact ezi (k := q) Tryz.underlying41 (l := (show q < m + 1 by omega)) (f := (Nat.zero_add _).symm)) ?_
        refine mv_stElem (f := MkE.cx) (by rfl) _ _ _ (by rfl) H463.out (ix := 1) (by rfl) MkE.cx_len q ey (by rw [List.length_set]; exact HLX.out) [.bool ey.a.n, .slice ey.a.p ey.a.l ey.a.c, .bool ey.a.m, .slice ey.a.p2 ey.a.l2 ey.a.c2] (by rfl) (q * 4) (by rfl) (by rfl) (by rfl) (by kernel_rfl) (by simp [Value.oneCell']) (by simp [NoUL]) ?_
        intro w470 hh hd ho
        have H471 := zH (show Hp w w470 [.blk X1 27 (rc ry), ro 27 4 (some ⟨g355, 0, none⟩) (m + 1) cp356 MkE.cx (((es.take (q + 1) ++ ey :: es.drop (q + 1)).set (q + 1) ex).set q ey), ro 3 1 (some ⟨g363, 0, none⟩) (m + 1) cp364 MkE.cu (es.take (q + 1) ++ ey :: es.drop (q + 1)), ro 71 4 (some ⟨ge, 0, none⟩) ((edgesOf rs).length) ce edC (edgesOf rs), .blk X50 53 [.int .i64 ax, .int .i64 ay], .blk Y51 53 [.int .i64 bx, .int .i64 bY], .blk X73 27 (rc r71), .blk Y74 27 (rc r72), .blk X344 27 (rc r338), .blk X443 27 (rc ey.a)] from hh)
        have D471 := zH (hd)
        clear hh hd ho
        (try simp only [Act.put])
        go_upto_region 26 with fail
        refine wp_region_lit ?_
        refine qV (.slice (some ⟨g363, 0, none⟩) (m + 1) cp364) ?_
        refine zq (.int .i64 ((q + 1 : Nat) : Int)) ?_
        refine qV (.slice (some ⟨g363, 0, none⟩) (m + 1) cp364) ?_
        refine zq (.int .i64 ((q + 1 : Nat) : Int)) ?_
        refine zp (w' := w470) (.int .i64 (q : Int)) (by exact ez2 (by omega)) ?_
        refine zp (w' := w470) (.pointer (some ⟨g363, q * 1, none⟩)) (by exact ezi (k := q) Tryz.underlying42 (l := (show q < m + 1 by omega)) (f := (Nat.zero_add _).symm)) ?_
        refine ze g363 (q * 1) (.int .i64 ex.up) (H471.out.elem (f := MkE.cu) (i := 2) (by rfl) MkE.cu_len GX.out) ?_
        refine zp (w' := w470) (.pointer (some ⟨g363, (q + 1) * 1, none⟩)) (by exact ezi (k := q + 1) Tryz.underlying42 (l := (show q + 1 < m + 1 by omega)) (f := (Nat.zero_add _).symm)) ?_
        refine mv_stElem1 (f := MkE.cu) (by rfl) _ _ _ (by rfl) H471.out (ix := 2) (by rfl) MkE.cu_len (q + 1) ex HLY.out (.int .i64 ex.up) (by rfl) ((q + 1) * 1) (by rfl) (by rfl) (by rfl) (by kernel_rfl) (by simp [Value.cells]) (by simp [Value.oneCell']) (by simp [NoUL]) ?_
        intro w481 hh hd ho
        have H482 := zH (show Hp w w481 [.blk X1 27 (rc ry), ro 27 4 (some ⟨g355, 0, none⟩) (m + 1) cp356 MkE.cx (((es.take (q + 1) ++ ey :: es.drop (q + 1)).set (q + 1) ex).set q ey), ro 3 1 (some ⟨g363, 0, none⟩) (m + 1) cp364 MkE.cu ((es.take (q + 1) ++ ey :: es.drop (q + 1)).set (q + 1) ex), ro 71 4 (some ⟨ge, 0, none⟩) ((edgesOf rs).length) ce edC (edgesOf rs), .blk X50 53 [.int .i64 ax, .int .i64 ay], .blk Y51 53 [.int .i64 bx, .int .i64 bY], .blk X73 27 (rc r71), .blk Y74 27 (rc r72), .blk X344 27 (rc r338), .blk X443 27 (rc ey.a)] from hh)
        have D482 := zH (hd)
        clear hh hd ho
        (try simp only [Act.put])
        go_upto_region 27 with fail
        refine wp_region_lit ?_
        refine qV (.slice (some ⟨g363, 0, none⟩) (m + 1) cp364) ?_
        refine zq (.int .i64 ((q + 1 : Nat) : Int)) ?_
        refine zp (w' := w481) (.int .i64 (q : Int)) (by exact ez2 (by omega)) ?_
        refine zq (.int .i64 ey.up) ?_
        refine zp (w' := w481) (.pointer (some ⟨g363, q * 1, none⟩)) (by exact ezi (k := q) Tryz.underlying42 (l := (show q < m + 1 by omega)) (f := (Nat.zero_add _).symm)) ?_
        refine mv_stElem1 (f := MkE.cu) (by rfl) _ _ _ (by rfl) H482.out (ix := 2) (by rfl) MkE.cu_len q ey (by rw [List.length_set]; exact HLX.out) (.int .i64 ey.up) (by rfl) (q * 1) (by rfl) (by rfl) (by rfl) (by kernel_rfl) (by simp [Value.cells]) (by simp [Value.oneCell']) (by simp [NoUL]) ?_
        intro w490 hh hd ho
        have H491 := zH (show Hp w w490 [.blk X1 27 (rc ry), ro 27 4 (some ⟨g355, 0, none⟩) (m + 1) cp356 MkE.cx (((es.take (q + 1) ++ ey :: es.drop (q + 1)).set (q + 1) ex).set q ey), ro 3 1 (some ⟨g363, 0, none⟩) (m + 1) cp364 MkE.cu (((es.take (q + 1) ++ ey :: es.drop (q + 1)).set (q + 1) ex).set q ey), ro 71 4 (some ⟨ge, 0, none⟩) ((edgesOf rs).length) ce edC (edgesOf rs), .blk X50 53 [.int .i64 ax, .int .i64 ay], .blk Y51 53 [.int .i64 bx, .int .i64 bY], .blk X73 27 (rc r71), .blk Y74 27 (rc r72), .blk X344 27 (rc r338), .blk X443 27 (rc ey.a)] from hh)
        have D491 := zH (hd)
        clear hh hd ho
        (try simp only [Act.put])
        go_upto_region 22 with fail
        refine wp_region_lit ?_
        refine zq (.int .i64 ((q + 1 : Nat) : Int)) ?_
        refine zp (w' := w490) (.int .i64 (q : Int)) (by exact ez2 (by omega)) ?_
        refine zq (.int .i64 (q : Int)) ?_
        have H496 := zH (show Hp w w490 [.blk X1 27 (rc ry), ro 27 4 (some ⟨g355, 0, none⟩) (m + 1) cp356 MkE.cx (es.take q ++ ey :: es.drop q), ro 3 1 (some ⟨g363, 0, none⟩) (m + 1) cp364 MkE.cu (es.take q ++ ey :: es.drop q), ro 71 4 (some ⟨ge, 0, none⟩) ((edgesOf rs).length) ce edC (edgesOf rs), .blk X50 53 [.int .i64 ax, .int .i64 ay], .blk Y51 53 [.int .i64 bx, .int .i64 bY], .blk X73 27 (rc r71), .blk Y74 27 (rc r72), .blk X344 27 (rc r338), .blk X443 27 (rc ey.a)] from by rw [← GS.out]; exact H491.out)
        have DD497 := zH (((((((((D411.out.trans D431.out).trans D435.out).trans D445.out).trans D450.out).trans D463.out).trans D471.out).trans D482.out).trans D491.out))
        have DD498 := zH ((((((((((D378.out.trans D411.out).trans D431.out).trans D435.out).trans D445.out).trans D450.out).trans D463.out).trans D471.out).trans D482.out).trans D491.out))
        go_wp2_with fail
        go_roundg (m + 1 - (t + 1))
        case measure => exact (by have ob6 := (show t < m + 1 by have h1 := HTU.out; omega); omega)
        case rel => exact ⟨t + 1, q, rfl, (by go_num), (by have h1 := HTU.out; omega), (fun z_ hz_ => (GZ.out z_ hz_).elim (fun h_ => by rw [h_]; exact CB.out) (HALL.out z_)), (fun g_ hg_ => by rw [← GS.out] at hg_; exact (List.mem_or_eq_of_mem_set hg_).elim (fun h_ => (List.mem_or_eq_of_mem_set h_).elim (fun h_ => (HOK2.out g_ h_).dig DD497.out) (fun h_ => by rw [h_]; exact OX.out.dig DD497.out)) (fun h_ => by rw [h_]; exact OY.out.dig DD497.out)), H496.out.take 9, DD498.out⟩
       have HU0 := zH c379
       clear c379
       obtain rfl : u = 0 := by have h := HU0.out; omega
       go_upto_region 21 with fail
       refine zy ?_
       have H499 := zH (H378.out.step (Ext.refl w376).drew)
       have D499 := zH (Dig.of_ext (w := w376) zb)
       refine zx 0 (bs 23 1) (.int .i64 0) zb ?_
       refine zu 1 (bs 23 3) (v := .bool false) zb ?_ (hv := by intro w hSw; exact ezg (e := (dec_f (by omega))))
       refine zx 2 (bs 23 7) (.bool false) zb ?_
       refine zs 3 (bs 23 15) zb ?_
       refine zs 4 (bs 23 31) zb ?_
       refine zs 5 (bs 23 63) zb ?_
       refine zs 6 (bs 23 127) zb ?_
       refine zs 7 (bs 23 255) zb ?_
       refine zs 8 (bs 23 511) zb ?_
       refine zs 9 (bs 23 1023) zb ?_
       refine zs 10 (bs 23 2047) zb ?_
       refine zs 11 (bs 23 4095) zb ?_
       refine zs 12 (bs 23 8191) zb ?_
       refine zs 13 (bs 23 16383) zb ?_
       refine zs 14 (bs 23 32767) zb ?_
       refine zs 15 (bs 23 65535) zb ?_
       refine zs 16 (bs 23 131071) zb ?_
       refine zs 17 (bs 23 262143) zb ?_
       refine zs 18 (bs 23 524287) zb ?_
       refine zs 19 (bs 23 1048575) zb ?_
       refine zs 20 (bs 23 2097151) zb ?_
       refine zs 21 (bs 23 4194303) zb ?_
       refine zx 22 (bs 23 8388607) (.bool false) zb ?_
       refine wpAnyH_done (by kernel_rfl) ?_ _
       have H505 := zH (show Hp w w376.drew [.blk X1 27 (rc ry), ro 27 4 (some ⟨g355, 0, none⟩) (m + 1) cp356 MkE.cx (Stb.ins ltK es ey), ro 3 1 (some ⟨g363, 0, none⟩) (m + 1) cp364 MkE.cu (Stb.ins ltK es ey), ro 71 4 (some ⟨ge, 0, none⟩) ((edgesOf rs).length) ce edC (edgesOf rs), .blk X50 53 [.int .i64 ax, .int .i64 ay], .blk Y51 53 [.int .i64 bx, .int .i64 bY], .blk X73 27 (rc r71), .blk Y74 27 (rc r72), .blk X344 27 (rc r338)] from by rw [Stb.ins_stop wkK HSRT.out HALL.out (Nat.zero_le _) (Or.inl rfl)]; exact H499.out)
       have DD506 := zH (((((((((((((((((((D35.out.trans D40.out).trans D53.out).trans D59.out).trans D63.out).trans D66.out).trans D76.out).trans D82.out).trans D86.out).trans D318.out).trans D326.out).trans D331.out).trans D339.out).trans D346.out).trans D350.out).trans D357.out).trans D365.out).trans D378.out).trans D499.out))
       go_wp2_with fail
       go_roundg ((edgesOf rs).length - (i + 1))
       case measure => exact (by omega)
       case rel => exact ⟨i + 1, m + 1, Stb.ins ltK es ey, some ⟨g355, 0, none⟩, cp356, some ⟨g363, 0, none⟩, cp364, rfl, rfl, rfl, (by go_num), hlt, ⟨by rw [Stb.ins_len, HM.out.1], by have := HM.out.2; omega⟩, HINS.out, (fun g_ hg_ => by rw [Stb.ins_stop wkK HSRT.out HALL.out (Nat.zero_le _) (Or.inl rfl)] at hg_; exact ((HOK2.out g_ hg_).dig D499.out)), H505.out.take 4, DD506.out⟩
     have C4 := zH c323
     clear c323
     go_upto_region 14 with fail
     refine wp_region_lit ?_
     refine zd Y74 (0) (rc r72) (H318.out.range (i := 7) (by rfl) 0 4) Tryz.underlying27 ?_
     refine zd X1 (0) (rc ry) (H318.out.range (i := 0) (by rfl) 0 4) Tryz.underlying27 ?_
     have DD508 := zH ((DD317.out.trans D318.out))
     refine zc (less_any 60000 _ _ (((bY) : Int) : Rat) y _ (RV.Is.nin (R72.out.dig DD508.out) (Nat.le_trans B72.out (by omega))) (RV.In.nin (RV.In.mono (RY.out.dig H318.out.dig0) (by omega))) (by omega)) ?_
     rintro e w507 ⟨rfl, hx⟩
     have H509 := zH (H318.out.step hx)
     have D509 := zH (Dig.of_ext hx)
     clear hx
     refine ⟨.bool true, by rw [dec_t C3.out], ?_⟩
     try simp only [Act.put, zA, zB, zC]
     refine qV (.bool true) ?_
     refine zd X1 (0) (rc ry) (H509.out.range (i := 0) (by rfl) 0 4) Tryz.underlying27 ?_
     refine zd X73 (0) (rc r71) (H509.out.range (i := 6) (by rfl) 0 4) Tryz.underlying27 ?_
     have DD513 := zH ((DD508.out.trans D509.out))
     refine zc (less_any 60000 _ _ y (((ay) : Int) : Rat) _ (RV.In.nin (RV.In.mono (RY.out.dig H509.out.dig0) (by omega))) (RV.Is.nin (R71.out.dig DD513.out) (Nat.le_trans B71.out (by omega))) (by omega)) ?_
     rintro e w512 ⟨rfl, hx⟩
     have H514 := zH (H509.out.step hx)
     have D514 := zH (Dig.of_ext hx)
     clear hx
     refine ⟨.bool false, by rw [dec_f C4.out], ?_⟩
     try simp only [Act.put, zA, zB, zC]
     refine zq (.bool false) ?_
     go_upto_region 16 with fail
     refine wp_region_lit ?_
     refine zq (.int .i64 0) ?_
     refine zp (w' := w512) (.bool true) (by exact ezq (e := (dec_t (by omega)))) ?_
     have DD519 := zH (((((((((((D40.out.trans D53.out).trans D59.out).trans D63.out).trans D66.out).trans D76.out).trans D82.out).trans D86.out).trans D318.out).trans D509.out).trans D514.out))
     have DD520 := zH ((((((((((((D35.out.trans D40.out).trans D53.out).trans D59.out).trans D63.out).trans D66.out).trans D76.out).trans D82.out).trans D86.out).trans D318.out).trans D509.out).trans D514.out))
     go_wp2_with fail
     go_roundg ((edgesOf rs).length - (i + 1))
     case measure => exact (by omega)
     case rel => exact ⟨i + 1, m, es, A1, c1, A2, c2, rfl, rfl, rfl, (by go_num), hlt, ⟨HM.out.1, by have := HM.out.2; omega⟩, (by rw [HVL.out, crs_none HE.out (cross_no (a := (ax, ay)) (b := (bx, bY)) (fun h_ => C1.out h_.1) (fun h_ => C4.out h_.2))]), (fun g_ hg_ => (HOE.out g_ hg_).dig DD519.out), H514.out.take 4, DD520.out⟩
    have C3 := zH c322
    clear c322
    go_upto_region 14 with fail
    refine wp_region_lit ?_
    refine zd Y74 (0) (rc r72) (H318.out.range (i := 7) (by rfl) 0 4) Tryz.underlying27 ?_
    refine zd X1 (0) (rc ry) (H318.out.range (i := 0) (by rfl) 0 4) Tryz.underlying27 ?_
    have DD522 := zH ((DD317.out.trans D318.out))
    refine zc (less_any 60000 _ _ (((bY) : Int) : Rat) y _ (RV.Is.nin (R72.out.dig DD522.out) (Nat.le_trans B72.out (by omega))) (RV.In.nin (RV.In.mono (RY.out.dig H318.out.dig0) (by omega))) (by omega)) ?_
    rintro e w521 ⟨rfl, hx⟩
    have H523 := zH (H318.out.step hx)
    have D523 := zH (Dig.of_ext hx)
    clear hx
    refine ⟨.bool false, by rw [dec_f C3.out], ?_⟩
    try simp only [Act.put, zA, zB, zC]
    refine zq (.bool false) ?_
    refine zk ?_
    refine zk ?_
    refine zk ?_
    refine zq (.bool false) ?_
    go_upto_region 16 with fail
    refine wp_region_lit ?_
    refine zq (.int .i64 0) ?_
    refine zp (w' := w521) (.bool true) (by exact ezq (e := (dec_t (by omega)))) ?_
    have DD529 := zH ((((((((((D40.out.trans D53.out).trans D59.out).trans D63.out).trans D66.out).trans D76.out).trans D82.out).trans D86.out).trans D318.out).trans D523.out))
    have DD530 := zH (((((((((((D35.out.trans D40.out).trans D53.out).trans D59.out).trans D63.out).trans D66.out).trans D76.out).trans D82.out).trans D86.out).trans D318.out).trans D523.out))
    go_wp2_with fail
    go_roundg ((edgesOf rs).length - (i + 1))
    case measure => exact (by omega)
    case rel => exact ⟨i + 1, m, es, A1, c1, A2, c2, rfl, rfl, rfl, (by go_num), hlt, ⟨HM.out.1, by have := HM.out.2; omega⟩, (by rw [HVL.out, crs_none HE.out (cross_no (a := (ax, ay)) (b := (bx, bY)) (fun h_ => C1.out h_.1) (fun h_ => C3.out h_.1))]), (fun g_ hg_ => (HOE.out g_ hg_).dig DD529.out), H523.out.take 4, DD530.out⟩
   have HLT := zH c36
   clear c36
   have hlt := HLT.out
   have hki := HKI.out
   obtain rfl : i = (edgesOf rs).length := by omega
   have hge : ¬ ((edgesOf rs).length : Int) < ((edgesOf rs).length : Int) := by omega
   go_upto_region 28 with fail
   refine wp_region_lit ?_
   refine qV (.slice A1 m c1) ?_
   refine zq (.slice A2 m c2) ?_
   refine qV (.slice A1 m c1) ?_
   refine zq (.slice A2 m c2) ?_
   go_wp2_with fail
   go_ret2
   unfold CrossRet
   exact ⟨A1, c1, A2, c2, m, es, rfl, HM.out.1, H35.out.row (i := 1) (by rfl), H35.out.row (i := 2) (by rfl), HOE.out, (by rw [HVL.out, List.take_length, marksV_of]), H35.out.ext⟩
 have HV := zH c18
 clear c18
 go_upto_region 3 with fail
 refine wp_region_lit ?_
 refine qV (u) ?_
 refine zc (r16Valid_any _ rs _ (HU.out.ext H15.out.ext) HN.out HR.out) ?_
 rintro e w536 ⟨rfl, hx⟩
 have H537 := zH (H15.out.step hx)
 clear hx
 refine ⟨.bool false, by rw [Bool.eq_false_iff.2 HV.out], ?_⟩
 try simp only [Act.put, zA, zB, zC]
 refine zq (.bool true) ?_
 go_upto_region 4 with fail
 refine wp_region_lit ?_
 refine qV (.slice (some ⟨X9, 0, none⟩) 0 0) ?_
 refine zq (.slice (some ⟨X14, 0, none⟩) 0 0) ?_
 refine qV (.slice (some ⟨X9, 0, none⟩) 0 0) ?_
 refine zq (.slice (some ⟨X14, 0, none⟩) 0 0) ?_
 go_wp2_with fail
 go_ret2
 unfold CrossRet
 exact ⟨some ⟨X9, 0, none⟩, 0, some ⟨X14, 0, none⟩, 0, 0, [], rfl, rfl, H537.out.row (i := 1) (by rfl), H537.out.row (i := 2) (by rfl), (by simp), (by rw [marksV_of, edgesOf_f HV.out]; rfl), H537.out.ext⟩

set_option maxRecDepth 20000 in
set_option maxHeartbeats 4000000 in
theorem rsorted_any (L : Nat) (u : Value) (ps : List QQ) (w : World) (hu : SpansV L w u ps) (h1L : 1 ≤ L) (hL : L ≤ 60000) (hn : ps.length ≤ 20000) :
  Calls Tryz.prog 78 #[u] w fun e w' => ∃ v es, e = .returned v ∧ SpR L w' w.heap.size v es ∧ es.map SpE.vl = sortedV ps ∧ es.length ≤ ps.length ∧ Ext w w' := by
 have HU := zH hu
 have HL1 := zH h1L
 obtain ⟨Au, cu, rfl, _⟩ := hu
 obtain ⟨i0, hi, hz0, hz1, hz2⟩ := info_parts infoSp
 have HI := zH (And.intro hi (And.intro hz0 (And.intro hz1 hz2)))
 clear hi hz0 hz1 hz2
 go_enter Tryz.func78, Tryz.ntmps78
 go_wp2_with fail
 go_loopg [3, 4] ps.length (fun c v i wr => ∃ (k : Nat) (es : List SpE) (v2 : Value), k ≤ ps.length ∧ c = ps.length - k ∧ i = .int .i64 k ∧ v2 = v ∧ SpR L wr w.heap.size v2 es ∧ es.map SpE.vl = sortedV (ps.take k) ∧ es.length ≤ k ∧ Ext w wr)
 case atStart => exact ⟨0, [], _, Nat.zero_le _, rfl, rfl, rfl, ⟨RowN.empty w w.heap.size 51 8 (Nat.le_refl _), by simp⟩, rfl, Nat.le_refl _, (Ext.refl _).alloc _⟩
 case round =>
  obtain ⟨k, es, v, hk, rfl, rfl, rfl, hsp, hes, hek, hx⟩ := hrel
  have HSP := zH hsp
  have HES := zH (And.intro hes hek)
  have HX := zH hx
  clear hsp hes hx
  by_cases hlt : k < ps.length
  ·have hlt2 : (k : Int) < (ps.length : Int) := by omega
   obtain ⟨p, hp⟩ : ∃ p, ps[k]? = some p := ⟨_, List.getElem?_eq_getElem hlt⟩
   obtain ⟨g, off, c9, f, hv9, hr, hfa, hfb⟩ := (HU.out.ext HX.out).at hp
   injection hv9 with hv1 hv2 hv3
   subst hv1
   have HSM := zH (sorted_succ hp)
   have HR1 := zH (range_left (a := [.bool f.a.n, .slice f.a.p f.a.l f.a.c, .bool f.a.m, .slice f.a.p2 f.a.l2 f.a.c2]) (b := [.bool f.b.n, .slice f.b.p f.b.l f.b.c, .bool f.b.m, .slice f.b.p2 f.b.l2 f.b.c2]) hr)
   have HR2 := zH (range_right (a := [.bool f.a.n, .slice f.a.p f.a.l f.a.c, .bool f.a.m, .slice f.a.p2 f.a.l2 f.a.c2]) (b := [.bool f.b.n, .slice f.b.p f.b.l f.b.c, .bool f.b.m, .slice f.b.p2 f.b.l2 f.b.c2]) (n := 4) hr rfl)
   have HFA := zH hfa
   have HFB := zH hfb
   have HLT := zH hlt
   have HFAR := zH (show v.ownBlock ≠ some g from fun h => by have h1 := HSP.out.1.block g h; obtain ⟨g2, off2, c2, f2, hv2, hr2, _⟩ := HU.out.at hp; injection hv2 with k1 _ _; injection k1 with k1; injection k1 with k1; have h2 := range_lt (v := .bool f2.a.n) (j := 0) hr2 rfl; omega)
   clear hr hfa hfb hp hlt hv2 hv3
   go_upto_region 5 with fail
   refine wp_region_held_drew (S := fun x => Ext wr x) (by kernel_rfl) (Ext.refl _).drew (fun _ => ?_)
   refine zv 0 (bs 12 1) (Ext.refl wr).drew ?_
   refine zv 1 (bs 12 3) (Ext.refl wr).drew ?_
   refine zv 2 (bs 12 7) (Ext.refl wr).drew ?_
   refine mV 3 (bs 12 15) (Ext.refl wr).drew ?_
   refine zr 4 (bs 12 31) g (off + k * 8) [.bool f.a.n, .slice f.a.p f.a.l f.a.c, .bool f.a.m, .slice f.a.p2 f.a.l2 f.a.c2] (fun wX hwX => range_ext HR1.out hwX) Tryz.underlying27 (Ext.refl wr).drew ?_
   refine zv 5 (bs 12 63) (Ext.refl wr).drew ?_
   refine zv 6 (bs 12 127) (Ext.refl wr).drew ?_
   refine zv 7 (bs 12 255) (Ext.refl wr).drew ?_
   refine mV 8 (bs 12 511) (Ext.refl wr).drew ?_
   refine zr 9 (bs 12 1023) g (off + k * 8 + 4) [.bool f.b.n, .slice f.b.p f.b.l f.b.c, .bool f.b.m, .slice f.b.p2 f.b.l2 f.b.c2] (fun wX hwX => range_ext HR2.out hwX) Tryz.underlying27 (Ext.refl wr).drew ?_
   refine mC 10 (bs 12 2047) (less_any L _ _ p.1 p.2 _ (NIn.ofa (HFA.out.ext (Ext.refl _).drew)) (NIn.ofb' (HFB.out.ext (Ext.refl _).drew)) hL) ?_
   rintro e w5 ⟨rfl, hx⟩
   have HEw5 := zH (show Ext wr w5 from ((Ext.refl wr).drew).trans hx)
   clear hx
   refine ⟨_, rfl, HEw5.out, ?_⟩
   try simp only [Act.put, zA, zB, zC]
   have HEo := HEw5
   have HR15 := zH (range_ext HR1.out HEw5.out)
   have HR25 := zH (range_ext HR2.out HEw5.out)
   have HFA5 := zH (HFA.out.ext HEw5.out)
   have HFB5 := zH (HFB.out.ext HEw5.out)
   have HXw5 := zH (HX.out.trans HEw5.out)
   have HSP5 := zH (HSP.out.ext HEw5.out)
   clear HR1 HR2 HFA HFB HX HSP
   by_cases hpq : p.1 < p.2
   ·have hdd : decide (p.1 < p.2) = true := by simpa using hpq
    have hcont := HSM.out
    rw [if_pos hpq] at hcont
    have HCO := zH hcont
    clear hcont
    refine zv 11 (bs 12 4095) (show Ext wr w5 from HEo.out) ?_
    refine wpAnyH_done (by kernel_rfl) ?_ _
    clear hdd hpq HEo HEw5
    go_upto_region 6 with fail
    refine wp_region_held_drew (S := fun x => w5.grownBy x v.ownBlock) (by kernel_rfl) (grown_of_ext _ (Ext.refl _).drew) (fun _ => ?_)
    refine zv 0 (bs 17 1) (grown_of_ext _ (Ext.refl w5).drew) ?_
    refine zv 1 (bs 17 3) (grown_of_ext _ (Ext.refl w5).drew) ?_
    refine zv 2 (bs 17 7) (grown_of_ext _ (Ext.refl w5).drew) ?_
    refine zv 3 (bs 17 15) (grown_of_ext _ (Ext.refl w5).drew) ?_
    refine mV 4 (bs 17 31) (grown_of_ext _ (Ext.refl w5).drew) ?_
    refine zr 5 (bs 17 63) g (off + k * 8) [.bool f.a.n, .slice f.a.p f.a.l f.a.c, .bool f.a.m, .slice f.a.p2 f.a.l2 f.a.c2] (fun x hx => range_grown HR15.out hx HFAR.out) Tryz.underlying27 (grown_of_ext _ (Ext.refl w5).drew) ?_
    refine zv 7 (bs 17 191) (grown_of_ext _ (Ext.refl w5).drew) ?_
    refine zv 8 (bs 17 447) (grown_of_ext _ (Ext.refl w5).drew) ?_
    refine zv 9 (bs 17 959) (grown_of_ext _ (Ext.refl w5).drew) ?_
    refine mV 10 (bs 17 1983) (grown_of_ext _ (Ext.refl w5).drew) ?_
    refine zr 11 (bs 17 4031) g (off + k * 8 + 4) [.bool f.b.n, .slice f.b.p f.b.l f.b.c, .bool f.b.m, .slice f.b.p2 f.b.l2 f.b.c2] (fun x hx => range_grown HR25.out hx HFAR.out) Tryz.underlying27 (grown_of_ext _ (Ext.refl w5).drew) ?_
    refine mC 6 (bs 17 4095) (q03Norm (NIn.ofa (HFA5.out.ext (Ext.refl _).drew)) (by omega)) ?_
    rintro e w6 ⟨c1, rfl, hc1, hx⟩
    have HEw6 := zH (show Ext w5 w6 from ((Ext.refl w5).drew).trans hx)
    obtain ⟨ra, rfl, hra⟩ := hc1
    have HRA := zH hra
    clear hra
    clear hx
    refine ⟨_, rfl, (grown_of_ext _ HEw6.out), ?_⟩
    try simp only [Act.put, zA, zB, zC]
    refine mC 12 (bs 17 8191) (q03Norm (NIn.ofb' (HFB5.out.ext HEw6.out)) (by omega)) ?_
    rintro e w7 ⟨c2, rfl, hc2, hx⟩
    have HEw7 := zH (show Ext w5 w7 from (HEw6.out).trans hx)
    obtain ⟨rb, rfl, hrb⟩ := hc2
    have HRB := zH hrb
    have HRA7 := zH (HRA.out.ext hx)
    clear hrb HRA
    clear hx
    refine ⟨_, rfl, (grown_of_ext _ HEw7.out), ?_⟩
    try simp only [Act.put, zA, zB, zC]
    refine zv 13 (bs 17 16383) (grown_of_ext _ HEw7.out) ?_
    have hw7 := HSP5.out.ext HEw7.out
    have hbz := (HXw5.out.trans HEw7.out).size
    have hek3 : es.length ≤ 20000 := by have := HES.out.2; omega
    have hOK : SpE.Ok L w7 ⟨ra, rb, p.1, p.2⟩ := ⟨HRA7.out, HRB.out, (NIn.ofa HFA5.out).rl HL1.out, (NIn.ofb' HFB5.out).rl HL1.out⟩
    have HOK := zH hOK
    clear hOK
    have hAE : Ext w7 (w7.alloc (.cells #[.bool ra.n, .slice ra.p ra.l ra.c, .bool ra.m, .slice ra.p2 ra.l2 ra.c2, .bool rb.n, .slice rb.p rb.l rb.c, .bool rb.m, .slice rb.p2 rb.l2 rb.c2] 51)) := (Ext.refl _).alloc _
    refine mU 14 (bs 17 32767) (v := .slice (some ⟨w7.heap.size, 0, none⟩) 1 1) (w' := (w7.alloc (.cells #[.bool ra.n, .slice ra.p ra.l ra.c, .bool ra.m, .slice ra.p2 ra.l2 ra.c2, .bool rb.n, .slice rb.p rb.l rb.c, .bool rb.m, .slice rb.p2 rb.l2 rb.c2] 51))) (grown_of_ext _ ((HEw7.out).alloc _)) ?_
    try simp only [Act.put, zA, zB, zC]
    refine md_appendF (j := 15) (listed' := (bs 17 65535)) (by rfl) (by kernel_rfl) (by rfl) _ _ 22 (by rfl) w.heap.size 51 i0 _ 8 128 Tryz.underlying22 HI.out.1 HI.out.2.1 HI.out.2.2.1 HI.out.2.2.2 rfl (by decide) noUL_zsp _ es.length (spCells es) (by rfl) (hw7.ext hAE).1 ⟨w7.heap.size, 0, none⟩ 1 1 [.bool ra.n, .slice ra.p ra.l ra.c, .bool ra.m, .slice ra.p2 ra.l2 ra.c2, .bool rb.n, .slice rb.p rb.l rb.c, .bool rb.m, .slice rb.p2 rb.l2 rb.c2] (by rfl) rfl (new_cells _ [.bool ra.n, .slice ra.p ra.l ra.c, .bool ra.m, .slice ra.p2 ra.l2 ra.c2, .bool rb.n, .slice rb.p rb.l rb.c, .bool rb.m, .slice rb.p2 rb.l2 rb.c2] _) (by simp [Value.oneCell']) (SpE.noU ⟨ra, rb, p.1, p.2⟩) (by decide) (by unfold maxLen; omega) (by omega) (by have := hAE.size; omega) (by kernel_rfl) ?_
    intro gx cx w8 hf h2 h3 h4
    have HSN := zH ((hw7.ext hAE).snoc (e := ⟨ra, rb, p.1, p.2⟩) rfl (HOK.out.ext hAE) h2 h4)
    have HX8 := zH (((HXw5.out.trans HEw7.out).trans hAE).grown h3 (fun j hj => hw7.1.block j hj))
    have hS8 : w5.grownBy w8 v.ownBlock := ext_grown (HEw7.out.trans hAE) h3
    clear hw7 hbz hf h2 h3 h4 hAE
    refine ⟨hS8, ?_⟩
    try simp only [Act.put, zA, zB, zC]
    refine zv 16 (bs 17 131071) hS8 ?_
    refine wpAnyH_done (by kernel_rfl) ?_ _
    clear hS8 HR15 HR25 HFA5 HFB5 HFAR HRA7 HRB HOK HSP5 HXw5
    have HINS := zH (show (Stb.ins ltE es ⟨ra, rb, p.1, p.2⟩).map SpE.vl = sortedV (ps.take (k + 1)) by rw [HCO.out, ins_map SpE.vl (lt := ltE) (lt' := ltQ) (fun _ _ => rfl), HES.out.1]; rfl)
    have HSRT := zH (show Stb.Srt ltE es from srt_vl (by rw [HES.out.1]; exact sorted_srt _))
    have HEK := zH HES.out.2
    generalize (⟨ra, rb, p.1, p.2⟩ : SpE) = y at *
    obtain ⟨n, hn0⟩ : ∃ n, es.length = n := ⟨_, rfl⟩
    rw [hn0] at HSN HEK ⊢
    have HN := zH hn0
    have hn20 : n ≤ 20000 := by have := HEK.out; omega
    clear hn0 HCO HES HSM
    have wn : IntKind.i64.wrap (n : Int) = (n : Int) := by rw [IntKind.wrap_i64]; omega
    have e1 : ((n + 1 : Nat) : Int) - 1 = (n : Int) := by omega
    have e2 : (n : Int) + 1 - 1 = (n : Int) := by omega
    go_wp2_with fail
    go_loopg [5] n (fun c i wr => ∃ u : Nat, u ≤ n ∧ c = 0 + u ∧ i = .int .i64 u ∧ (∀ z, z ∈ es.drop u → ltE y z = true) ∧ SpR L wr w.heap.size (.slice (some ⟨gx, 0, none⟩) (n + 1) cx) (es.take u ++ y :: es.drop u) ∧ Ext w wr)
    case atStart => exact ⟨n, Nat.le_refl _, by omega, rfl, by intro z hz; rw [List.drop_of_length_le (by have := HN.out; omega)] at hz; simp at hz, by rw [List.take_of_length_le (by have := HN.out; omega), List.drop_of_length_le (by have := HN.out; omega)]; exact HSN.out, HX8.out⟩
    case round =>
     clear HSN HX8
     obtain ⟨u, hu, rfl, rfl, hall, hsp, hx⟩ := hrel
     have HALL := zH hall
     have HSP := zH hsp
     have HX := zH hx
     have HU := zH hu
     have hu20 : u ≤ 20000 := by omega
     have wu : IntKind.i64.wrap (u : Int) = (u : Int) := by rw [IntKind.wrap_i64]; omega
     have hrl : (es.take u ++ y :: es.drop u).length = n + 1 := by have := HN.out; simp; omega
     clear hall hsp hx
     by_cases hu0 : 0 < u
     ·obtain ⟨q, hq⟩ : ∃ q, q + 1 = u := ⟨u - 1, by omega⟩
      have hu0z : (0 : Int) < (u : Int) := by omega
      have e3 : (u : Int) - 1 = (q : Int) := by omega
      have wq : IntKind.i64.wrap (q : Int) = (q : Int) := by rw [IntKind.wrap_i64]; omega
      have hql : q < es.length := by have := HN.out; omega
      have gx1 : (es.take u ++ y :: es.drop u)[q]? = some es[q] := by
       rw [List.getElem?_append_left (by rw [List.length_take]; omega), List.getElem?_take, if_pos (by omega)]
       exact List.getElem?_eq_getElem hql
      have gy1 : (es.take u ++ y :: es.drop u)[u]? = some y := by
       rw [List.getElem?_append_right (by rw [List.length_take]; omega), List.length_take, show u - min u es.length = 0 by omega]
       rfl
      have HSTEP := zH (show swp (es.take u ++ y :: es.drop u) u q = es.take q ++ y :: es.drop q by
       have h := swps_left [] es [] y q hql
       simp only [List.nil_append, List.append_nil, List.length_nil, Nat.zero_add] at h
       rw [hq] at h
       exact h)
      have HQX := zH (show ∀ z, z ∈ es.drop q → z = es[q] ∨ z ∈ es.drop u by
       intro z hz
       rw [List.drop_eq_getElem_cons hql, hq] at hz
       simpa using hz)
      have HIN2 := zH (fun h => Stb.ins_stop wkE (y := y) HSRT.out HALL.out (by omega) (Or.inr ⟨q, hq, hql, h⟩))
      have HE := zH (swp_eq gy1 gx1)
      have HOKX := zH (HSP.out.2 es[q] (List.mem_of_getElem? gx1))
      have HOKY := zH (HSP.out.2 y (List.mem_of_getElem? gy1))
      have HRX := zH (HSP.out.read gx1)
      have HRY := zH (HSP.out.read gy1)
      have HLu := zH (List.getElem?_eq_some_iff.1 gy1).1
      have HLq := zH (List.getElem?_eq_some_iff.1 gx1).1
      have bu : (u : Int) < (n : Int) + 1 := by omega
      have bq : (q : Int) < (n : Int) + 1 := by omega
      generalize es[q] = x at *
      generalize hrow : es.take u ++ y :: es.drop u = row at *
      have HROW := zH hrow
      have HQ := zH hq
      clear gx1 gy1 hql hq hrow hu
      go_upto_region 8 with fail
      refine wp_region_held_drew (S := fun x => Ext wr x) (by kernel_rfl) (Ext.refl _).drew (fun _ => ?_)
      refine zv 0 (bs 16 1) (Ext.refl wr).drew ?_
      refine zv 1 (bs 16 3) (Ext.refl wr).drew ?_
      refine zv 2 (bs 16 7) (Ext.refl wr).drew ?_
      refine zv 3 (bs 16 15) (Ext.refl wr).drew ?_
      refine zv 4 (bs 16 31) (Ext.refl wr).drew ?_
      refine zv 5 (bs 16 63) (Ext.refl wr).drew ?_
      refine mV 6 (bs 16 127) (Ext.refl wr).drew ?_
      refine zr 7 (bs 16 255) gx (u * 8) [.bool y.a.n, .slice y.a.p y.a.l y.a.c, .bool y.a.m, .slice y.a.p2 y.a.l2 y.a.c2] (fun wX hwX => range_ext (range_left (a := [.bool y.a.n, .slice y.a.p y.a.l y.a.c, .bool y.a.m, .slice y.a.p2 y.a.l2 y.a.c2]) (b := [.bool y.b.n, .slice y.b.p y.b.l y.b.c, .bool y.b.m, .slice y.b.p2 y.b.l2 y.b.c2]) HRY.out) hwX) Tryz.underlying27 (Ext.refl wr).drew ?_
      refine zv 8 (bs 16 511) (Ext.refl wr).drew ?_
      refine zv 9 (bs 16 1023) (Ext.refl wr).drew ?_
      refine zv 10 (bs 16 2047) (Ext.refl wr).drew ?_
      refine zv 11 (bs 16 4095) (Ext.refl wr).drew ?_
      refine mV 12 (bs 16 8191) (Ext.refl wr).drew ?_
      refine zr 13 (bs 16 16383) gx (q * 8) [.bool x.a.n, .slice x.a.p x.a.l x.a.c, .bool x.a.m, .slice x.a.p2 x.a.l2 x.a.c2] (fun wX hwX => range_ext (range_left (a := [.bool x.a.n, .slice x.a.p x.a.l x.a.c, .bool x.a.m, .slice x.a.p2 x.a.l2 x.a.c2]) (b := [.bool x.b.n, .slice x.b.p x.b.l x.b.c, .bool x.b.m, .slice x.b.p2 x.b.l2 x.b.c2]) HRX.out) hwX) Tryz.underlying27 (Ext.refl wr).drew ?_
      refine mC 14 (bs 16 32767) (less_any L _ _ y.p x.p _ (NIn.ofa2 (HOKY.out.ext (Ext.refl _).drew)) (NIn.ofa2 (HOKX.out.ext (Ext.refl _).drew)) hL) ?_
      rintro e w5 ⟨rfl, hx⟩
      have HEw5 := zH (show Ext wr w5 from ((Ext.refl wr).drew).trans hx)
      clear hx
      refine ⟨_, rfl, HEw5.out, ?_⟩
      try simp only [Act.put, zA, zB, zC]
      have HX5 := zH (HX.out.trans HEw5.out)
      have HSP5 := zH (HSP.out.ext HEw5.out)
      have HRX5 := zH (range_ext HRX.out HEw5.out)
      have HRY5 := zH (range_ext HRY.out HEw5.out)
      have HOKX5 := zH (HOKX.out.ext HEw5.out)
      have HOKY5 := zH (HOKY.out.ext HEw5.out)
      clear HX HSP HRX HRY HOKX HOKY
      by_cases hlt : y.p < x.p
      ·have HLT2 := zH (show ltE y x = true from decide_eq_true hlt)
       have hdd : decide (y.p < x.p) = true := by simpa using hlt
       refine zv 15 (bs 16 65535) HEw5.out ?_
       refine wpAnyH_done (by kernel_rfl) ?_ _
       clear hdd hlt HEw5
       go_upto_region 10 with fail
       refine wp_region_lit ?_
       refine qV (.slice (some ⟨gx, 0, none⟩) (n + 1) cx) ?_
       refine zq (.int .i64 u) ?_
       refine zq (.pointer (some ⟨gx, u * 8, none⟩)) ?_
       refine wpList_if (by rfl) (wp_load_mid _ _ (by rfl) gx (u * 8) (by rfl) y.cells _ HRY5.out Tryz.underlying51 (by rfl) (by kernel_rfl) ?_)
       try simp only [Act.put, zA, zB, zC]
       have HFAR0 := zH (fun X hX => sp_far (X := X) HSP5.out hX)
       refine zp (w' := w5.alloc (.cells z8 51)) (.pointer (some ⟨w5.heap.size, 0, none⟩)) (by go_simp) ?_
       refine pO (y.cells).toArray (Blk.new w5 _ _) (by simp [SpE.len]) (by rw [show ((y.cells).toArray : Array Value).size = 8 by simp [SpE.len]]; kernel_rfl) (all_oneCell_toArray y.one) ?_
       (try simp only [Act.put])
       obtain ⟨xq1, xq2⟩ := new_var w5 51 z8 (y.cells).toArray (by simp [SpE.len])
       generalize (w5.alloc (.cells z8 51)).setCells w5.heap.size 0 ((y.cells).toArray : Array Value).toList = w6 at *
       have HFAR := zH (HFAR0.out w5.heap.size (Nat.le_refl _))
       generalize w5.heap.size = X6 at *
       have HEw6 := zH xq1
       have HBX6 := zH xq2
       clear xq1 xq2
       have HX6 := zH (HX5.out.trans HEw6.out)
       have HSP6 := zH (HSP5.out.ext HEw6.out)
       have HRX6 := zH (range_ext HRX5.out HEw6.out)
       have HOKX6 := zH (HOKX5.out.ext HEw6.out)
       have HOKY6 := zH (HOKY5.out.ext HEw6.out)
       clear HX5 HRX5 HRY5 HOKX5 HOKY5 HEw6
       go_upto_region 11 with fail
       refine wp_region_lit ?_
       refine qV (.slice (some ⟨gx, 0, none⟩) (n + 1) cx) ?_
       refine zq (.int .i64 u) ?_
       refine qV (.slice (some ⟨gx, 0, none⟩) (n + 1) cx) ?_
       refine zq (.int .i64 u) ?_
       refine qV (.int .i64 q) ?_
       refine zq (.pointer (some ⟨gx, q * 8, none⟩)) ?_
       refine wpList_if (by rfl) (wp_load_mid _ _ (by rfl) gx (q * 8) (by rfl) x.cells _ HRX6.out Tryz.underlying51 (by rfl) (by kernel_rfl) ?_)
       try simp only [Act.put, zA, zB, zC]
       refine zq (.pointer (some ⟨gx, u * 8, none⟩)) ?_
       obtain ⟨t1, t2, t3⟩ := HSP6.out.set HLu.out HOKX6.out
       obtain ⟨csr, hbr, hnr⟩ := HSP6.out.rowNoU
       have hgb : w.heap.size ≤ gx := HSP6.out.1.block gx (by simp [Value.ownBlock])
       have hne6 : X6 ≠ gx := fun h => HFAR.out (by rw [h]; simp [Value.ownBlock])
       refine wpList_if (by rfl) (wp_store_mid 51 _ _ (by rfl) gx (u * 8) x.cells.toArray (by rfl) (by rfl) t1 (by kernel_rfl) (all_oneCell_toArray x.one) ?_)
       (try simp only [Act.put])
       have HSP7 := zH t2
       have HX7 := zH (t3.ext HX6.out hgb)
       have HB7 := zH (HBX6.out.own t3 hne6)
       have HOKY7 := zH (HOKY6.out.map fun r q h => h.own hbr hnr t3)
       clear t1 t2 t3 hbr hnr HX6 HSP6 HRX6 HOKX6 HOKY6
       generalize World.setCells w6 gx (u * 8) _ = w7 at *
       go_upto_region 12 with fail
       refine wp_region_lit ?_
       refine qV (.slice (some ⟨gx, 0, none⟩) (n + 1) cx) ?_
       refine zq (.int .i64 u) ?_
       refine zq (.int .i64 q) ?_
       refine pL HB7.out Tryz.underlying51 (by kernel_rfl) ?_
       try simp only [Act.put, zA, zB, zC]
       refine zq (.pointer (some ⟨gx, q * 8, none⟩)) ?_
       obtain ⟨t1, t2, t3⟩ := HSP7.out.set (by rw [List.length_set]; exact HLq.out) HOKY7.out
       refine wpList_if (by rfl) (wp_store_mid 51 _ _ (by rfl) gx (q * 8) y.cells.toArray (by rfl) (by rfl) t1 (by kernel_rfl) (all_oneCell_toArray y.one) ?_)
       (try simp only [Act.put])
       have HSP9 := zH t2
       have HX9 := zH (t3.ext HX7.out hgb)
       clear t1 t2 t3 HX7 HSP7 HB7 HOKY7 hgb hne6
       generalize World.setCells w7 gx (q * 8) _ = w9 at *
       go_wp2_with fail
       go_roundg q
       case measure => have := HQ.out; omega
       case rel => exact ⟨q, by have := HQ.out; have := HU.out; omega, by omega, rfl, fun z hz => (HQX.out z hz).elim (fun h => by rw [h]; exact HLT2.out) (HALL.out z), by rw [← HSTEP.out, HE.out]; exact HSP9.out, HX9.out⟩
      have HLT2 := zH (show ltE y x = false from decide_eq_false hlt)
      have hdd : decide (y.p < x.p) = false := by simpa using hlt
      refine zv 15 (bs 16 65535) HEw5.out ?_
      refine wpAnyH_done (by kernel_rfl) ?_ _
      clear hdd hlt HEw5
      have HR := zH (show SpR L w5 w.heap.size (.slice (some ⟨gx, 0, none⟩) (n + 1) cx) (Stb.ins ltE es y) by rw [HIN2.out HLT2.out]; exact HSP5.out)
      have HXR := HX5
      go_wp2_with fail
      go_roundg (ps.length - (k + 1))
      case measure => have := HLT.out; omega
      case rel => exact ⟨k + 1, _, _, HLT.out, rfl, by go_num, rfl, HR.out, HINS.out, by rw [Stb.ins_len, HN.out]; have := HEK.out; omega, HXR.out⟩
     obtain rfl : u = 0 := by omega
     have HIN2 := zH (Stb.ins_stop wkE (y := y) HSRT.out HALL.out (Nat.zero_le _) (Or.inl rfl))
     go_upto_region 8 with fail
     refine wp_region_held_drew (S := fun x => Ext wr x) (by kernel_rfl) (Ext.refl _).drew (fun _ => ?_)
     refine zv 0 (bs 16 1) (Ext.refl wr).drew ?_
     refine zv 1 (bs 16 3) (Ext.refl wr).drew ?_
     refine zv 2 (bs 16 7) (Ext.refl wr).drew ?_
     refine zs 3 (bs 16 15) (Ext.refl wr).drew ?_
     refine zs 4 (bs 16 31) (Ext.refl wr).drew ?_
     refine zs 5 (bs 16 63) (Ext.refl wr).drew ?_
     refine zs 6 (bs 16 127) (Ext.refl wr).drew ?_
     refine zs 7 (bs 16 255) (Ext.refl wr).drew ?_
     refine zs 8 (bs 16 511) (Ext.refl wr).drew ?_
     refine zs 9 (bs 16 1023) (Ext.refl wr).drew ?_
     refine zs 10 (bs 16 2047) (Ext.refl wr).drew ?_
     refine zs 11 (bs 16 4095) (Ext.refl wr).drew ?_
     refine zs 12 (bs 16 8191) (Ext.refl wr).drew ?_
     refine zs 13 (bs 16 16383) (Ext.refl wr).drew ?_
     refine zs 14 (bs 16 32767) (Ext.refl wr).drew ?_
     refine zv 15 (bs 16 65535) (Ext.refl wr).drew ?_
     refine wpAnyH_done (by kernel_rfl) ?_ _
     have HR := zH (show SpR L wr.drew w.heap.size (.slice (some ⟨gx, 0, none⟩) (n + 1) cx) (Stb.ins ltE es y) by rw [HIN2.out]; exact HSP.out.ext (Ext.refl _).drew)
     have HXR := zH (HX.out.drew)
     go_wp2_with fail
     go_roundg (ps.length - (k + 1))
     case measure => have := HLT.out; omega
     case rel => exact ⟨k + 1, _, _, HLT.out, rfl, by go_num, rfl, HR.out, HINS.out, by rw [Stb.ins_len, HN.out]; have := HEK.out; omega, HXR.out⟩
   have hdd : decide (p.1 < p.2) = false := by simpa using hpq
   have hcont := HSM.out
   rw [if_neg hpq] at hcont
   have HCO := zH hcont
   clear hcont
   refine zv 11 (bs 12 4095) (show Ext wr w5 from HEo.out) ?_
   refine wpAnyH_done (by kernel_rfl) ?_ _
   clear hdd hpq HEo HEw5
   go_wp2_with fail
   go_roundg (ps.length - (k + 1))
   case measure => have := HLT.out; omega
   case rel => exact ⟨k + 1, es, _, HLT.out, rfl, by go_num, rfl, HSP5.out, by rw [HCO.out]; exact HES.out.1, by have := HES.out.2; omega, HXw5.out⟩
  obtain rfl : k = ps.length := by omega
  have hge : ¬ (ps.length : Int) < (ps.length : Int) := by omega
  have HR := zH (show es.map SpE.vl = sortedV ps by have h := HES.out.1; rwa [List.take_of_length_le (Nat.le_refl _)] at h)
  go_wp2_with fail
  go_ret
  exact ⟨_, rfl, es, HSP.out, HR.out, HES.out.2, HX.out⟩

set_option maxRecDepth 20000 in
set_option maxHeartbeats 4000000 in
theorem rmerge_any (L : Nat) (u : Value) (ps : List QQ) (w : World) (hu : SpansV L w u ps) (h1L : 1 ≤ L) (hL : L ≤ 60000) (hn : ps.length ≤ 20000) :
  Calls Tryz.prog 49 #[u] w fun e w' => ∃ v es, e = .returned v ∧ SpR L w' w.heap.size v es ∧ es.map SpE.vl = mergeV ps ∧ es.length ≤ ps.length ∧ Ext w w' := by
 have HC := zH (rsorted_any L u ps w hu h1L hL hn)
 obtain ⟨i0, hi, hz0, hz1, hz2⟩ := info_parts infoSp
 have HI := zH (And.intro hi (And.intro hz0 (And.intro hz1 hz2)))
 clear hi hz0 hz1 hz2 hu
 go_enter Tryz.func49, Tryz.ntmps49
 go_upto_region 2 with (go_at_call 78; refine HC.out.mono ?_; rintro e ws ⟨vs, ss, rfl, hss, hval, hsl, hXs⟩)
 obtain ⟨As, cs, rfl⟩ := row_slice hss.1
 have HSSB := zH (fun j hj => Nat.lt_of_lt_of_le (hss.lt j hj) (Nat.le_refl _))
 have HSS := zH (hss.ext ((Ext.refl ws).alloc (.cells #[] 51)))
 have HXS := zH (hXs.alloc (.cells #[] 51))
 have HOS := zH (show SpR L (ws.alloc (.cells #[] 51)) ws.heap.size (.slice (some ⟨ws.heap.size, 0, none⟩) 0 0) [] from ⟨RowN.empty ws ws.heap.size 51 8 (Nat.le_refl _), by simp⟩)
 have HB := zH hXs.size
 have HVAL := zH hval
 have hsn : ss.length ≤ 20000 := by omega
 have HSL := zH hsl
 clear hss hXs hval hsl HC
 go_wp2_with fail
 go_loopg [4, 5] ss.length (fun c v i wr => ∃ (k : Nat) (os : List SpE) (v2 : Value), k ≤ ss.length ∧ c = ss.length - k ∧ i = .int .i64 k ∧ v2 = v ∧ SpR L wr ws.heap.size v2 os ∧ os.map SpE.vl = ((sortedV ps).take k).foldl mstep [] ∧ os.length ≤ k ∧ SpR L wr w.heap.size (.slice As ss.length cs) ss ∧ Ext w wr ∧ ws.heap.size ≤ wr.heap.size)
 case atStart => exact ⟨0, [], _, Nat.zero_le _, rfl, rfl, rfl, HOS.out, by simp, Nat.le_refl _, HSS.out, HXS.out, by simp⟩
 case round =>
  clear HSS HOS HXS
  obtain ⟨k, os, v, hk, rfl, rfl, rfl, hos, hov, hok, hss, hx, hwz⟩ := hrel
  by_cases hlt : k < ss.length
  ·have hlt2 : (k : Int) < (ss.length : Int) := by omega
   obtain ⟨e, he⟩ : ∃ e, ss[k]? = some e := ⟨_, List.getElem?_eq_getElem hlt⟩
   have HSTEP := zH (show ((sortedV ps).take (k + 1)).foldl mstep [] = mstep (os.map SpE.vl) (e.p, e.q) by rw [hov, mstep_fold (p := (e.p, e.q)) (by rw [← HVAL.out, List.getElem?_map, he]; rfl)])
   have HOKE := zH (hss.2 e (List.mem_of_getElem? he))
   obtain ⟨gs, rfl⟩ : ∃ gs, As = some ⟨gs, 0, none⟩ := by
    rcases hss.form with ⟨hv, hn⟩ | ⟨g, cap, rest, hv, _⟩
    ·rw [hn] at hlt; simp at hlt
    injection hv with e1 _ _
    exact ⟨g, e1⟩
   have HRD := zH (hss.read he)
   have HOS := zH hos
   have HSS := zH hss
   have HOKN := zH hok
   have HX := zH hx
   have HLT := zH hlt
   have HWZ := zH hwz
   clear hos hov hss hx hok he hlt hwz
   rcases snoc_or os with rfl | ⟨os, l, rfl⟩
   ·obtain ⟨Ao, co, rfl⟩ := row_slice HOS.out.1
    have q1 : (0 : Int) - 1 = -1 := by omega
    go_upto_region 7 with fail
    refine wp_region_held_drew (S := fun x => Ext wr x) (by kernel_rfl) (Ext.refl _).drew (fun _ => ?_)
    refine zv 0 (bs 15 1) (Ext.refl wr).drew ?_
    refine zv 1 (bs 15 3) (Ext.refl wr).drew ?_
    refine zv 2 (bs 15 7) (Ext.refl wr).drew ?_
    refine zs 3 (bs 15 15) (Ext.refl wr).drew ?_
    refine zs 4 (bs 15 31) (Ext.refl wr).drew ?_
    refine zs 5 (bs 15 63) (Ext.refl wr).drew ?_
    refine zs 6 (bs 15 127) (Ext.refl wr).drew ?_
    refine zs 7 (bs 15 255) (Ext.refl wr).drew ?_
    refine zs 8 (bs 15 511) (Ext.refl wr).drew ?_
    refine zs 9 (bs 15 1023) (Ext.refl wr).drew ?_
    refine zs 10 (bs 15 2047) (Ext.refl wr).drew ?_
    refine zs 11 (bs 15 4095) (Ext.refl wr).drew ?_
    refine zs 12 (bs 15 8191) (Ext.refl wr).drew ?_
    refine zs 13 (bs 15 16383) (Ext.refl wr).drew ?_
    refine zv 14 (bs 15 32767) (Ext.refl wr).drew ?_
    refine wpAnyH_done (by kernel_rfl) ?_ _
    have HSTEP2 := zH (HSTEP.out.trans (mstep_nil _))
    have hok3 : ([] : List SpE).length ≤ 20000 := by simp
    skip
    have HE_ := zH (show Ext wr wr.drew from (Ext.refl _).drew)
    have HOSc := zH (HOS.out.ext HE_.out)
    have HSSc := zH (HSS.out.ext HE_.out)
    have HOKEc := zH (HOKE.out.ext HE_.out)
    have HRDc := zH (range_ext HRD.out HE_.out)
    have HXc := zH (HX.out.trans HE_.out)
    go_upto_region 8 with fail
    refine wp_region_lit ?_
    refine zp (w' := wr.drew) (.slice Ao 0 co) (by go_simp <;> with_reducible rfl) ?_
    refine zp (w' := wr.drew) (.slice (some ⟨gs, 0, none⟩) ss.length cs) (by go_simp <;> with_reducible rfl) ?_
    refine zp (w' := wr.drew) (.int .i64 k) (by go_simp <;> with_reducible rfl) ?_
    refine zp (w' := wr.drew) (.pointer (some ⟨gs, k * 8, none⟩)) (by go_simp <;> with_reducible rfl) ?_
    refine wpList_if (by rfl) (wp_load_mid _ _ (by rfl) gs (k * 8) (by rfl) [.bool e.a.n, .slice e.a.p e.a.l e.a.c, .bool e.a.m, .slice e.a.p2 e.a.l2 e.a.c2, .bool e.b.n, .slice e.b.p e.b.l e.b.c, .bool e.b.m, .slice e.b.p2 e.b.l2 e.b.c2] _ HRDc.out Tryz.underlying51 (by rfl) (by kernel_rfl) ?_)
    try simp only [Act.put, zA, zB, zC]
    have hbz := HOSc.out
    have hAE : Ext wr.drew (wr.drew.alloc (.cells #[.bool e.a.n, .slice e.a.p e.a.l e.a.c, .bool e.a.m, .slice e.a.p2 e.a.l2 e.a.c2, .bool e.b.n, .slice e.b.p e.b.l e.b.c, .bool e.b.m, .slice e.b.p2 e.b.l2 e.b.c2] 51)) := (Ext.refl _).alloc _
    refine zp (w' := (wr.drew.alloc (.cells #[.bool e.a.n, .slice e.a.p e.a.l e.a.c, .bool e.a.m, .slice e.a.p2 e.a.l2 e.a.c2, .bool e.b.n, .slice e.b.p e.b.l e.b.c, .bool e.b.m, .slice e.b.p2 e.b.l2 e.b.c2] 51))) (.slice (some ⟨wr.drew.heap.size, 0, none⟩) 1 1) (by go_simp) ?_
    refine wpList_if (by rfl) (wp_append_rowF _ _ 22 (by rfl) ws.heap.size 51 i0 _ 8 128 Tryz.underlying22 HI.out.1 HI.out.2.1 HI.out.2.2.1 HI.out.2.2.2 rfl (by decide) noUL_zsp _ 0 (spCells ([] : List SpE)) (by rfl) (HOSc.out.ext hAE).1 ⟨wr.drew.heap.size, 0, none⟩ 1 1 e.cells (by rfl) rfl (new_cells _ e.cells _) e.one e.noU (by decide) (by unfold maxLen; omega) (by omega) (Nat.le_trans HWZ.out (Nat.le_trans HE_.out.size hAE.size)) ?_)
    intro gx cx w8_ hf h2 h3 h4
    try simp only [Act.put, zA, zB, zC]
    have HSN := zH ((HOSc.out.ext hAE).snoc (es := ([] : List SpE)) (e := e) rfl (HOKEc.out.ext hAE) h2 h4)
    have HXn := zH ((HXc.out.trans hAE).grown h3 (fun j hj => Nat.le_trans HB.out (HOSc.out.1.block j hj)))
    have HSSn := zH ((HSSc.out.ext hAE).grown h3 (fun j hj hj2 => by have h7 := HOSc.out.1.block j hj2; have h8 := HSSB.out j hj; omega) h4)
    have HZn := zH (Nat.le_trans HWZ.out (Nat.le_trans HE_.out.size (Nat.le_trans hAE.size h3.size)))
    clear hf h2 h3 h4 hAE hbz
    refine zp (w' := w8_) (.slice (some ⟨gx, 0, none⟩) (0 + 1) cx) (by go_simp) ?_
    go_wp2_with fail
    go_roundg (ss.length - (k + 1))
    case measure => have := HLT.out; omega
    case rel => exact ⟨k + 1, ([] : List SpE) ++ [e], _, HLT.out, rfl, by go_num, rfl, HSN.out, by rw [HSTEP2.out]; simp [SpE.vl], by have := HOKN.out; simp at this ⊢ <;> omega, HSSn.out, HXn.out, HZn.out⟩
   have hvf : ∃ g6 c6, v = .slice (some ⟨g6, 0, none⟩) (os.length + 1) c6 := by
    rcases HOS.out.form with ⟨_, h⟩ | ⟨g6, c6, _, h, _⟩
    ·simp at h
    exact ⟨g6, c6, by simpa using h⟩
   obtain ⟨g6, c6, rfl⟩ := hvf
   obtain ⟨m, hm⟩ : ∃ m, os.length = m := ⟨_, rfl⟩
   rw [hm] at HOS ⊢
   have HM := zH hm
   have hm3 : m ≤ 20000 := by have h := HOKN.out; rw [List.length_append, HM.out] at h; omega
   have wm_ : IntKind.i64.wrap (m : Int) = (m : Int) := by rw [IntKind.wrap_i64]; omega
   have HOKL := zH (HOS.out.2 l (by simp))
   have HST := zH (HSTEP.out.trans (show mstep ((os ++ [l]).map SpE.vl) (e.p, e.q) = if l.q < e.p then os.map SpE.vl ++ [(l.p, l.q)] ++ [(e.p, e.q)] else if l.q < e.q then os.map SpE.vl ++ [(l.p, e.q)] else os.map SpE.vl ++ [(l.p, l.q)] by rw [List.map_append]; exact mstep_app _ _ _))
   have e1 : ((m + 1 : Nat) : Int) - 1 = (m : Int) := by omega
   have e2 : (m : Int) + 1 - 1 = (m : Int) := by omega
   have e3 : ¬ (m : Int) < 0 := by omega
   have e5 : (m : Int) < (m : Int) + 1 := by omega
   have RDE := zH (HOS.out.readEnd HM.out)
   clear hm
   go_upto_region 7 with fail
   refine wp_region_held_drew (S := fun x => Ext wr x) (by kernel_rfl) (Ext.refl _).drew (fun _ => ?_)
   refine zv 0 (bs 15 1) (Ext.refl wr).drew ?_
   refine zv 1 (bs 15 3) (Ext.refl wr).drew ?_
   refine zv 2 (bs 15 7) (Ext.refl wr).drew ?_
   refine zv 3 (bs 15 15) (Ext.refl wr).drew ?_
   refine zv 4 (bs 15 31) (Ext.refl wr).drew ?_
   refine zv 5 (bs 15 63) (Ext.refl wr).drew ?_
   refine mV 6 (bs 15 127) (Ext.refl wr).drew ?_
   refine zr 7 (bs 15 255) g6 (m * 8 + 4) [.bool l.b.n, .slice l.b.p l.b.l l.b.c, .bool l.b.m, .slice l.b.p2 l.b.l2 l.b.c2] (fun wX hwX => range_ext RDE.out hwX) Tryz.underlying27 (Ext.refl wr).drew ?_
   refine zv 8 (bs 15 511) (Ext.refl wr).drew ?_
   refine zv 9 (bs 15 1023) (Ext.refl wr).drew ?_
   refine zv 10 (bs 15 2047) (Ext.refl wr).drew ?_
   refine mV 11 (bs 15 4095) (Ext.refl wr).drew ?_
   refine zr 12 (bs 15 8191) gs (k * 8) [.bool e.a.n, .slice e.a.p e.a.l e.a.c, .bool e.a.m, .slice e.a.p2 e.a.l2 e.a.c2] (fun wX hwX => range_ext (range_left (a := [.bool e.a.n, .slice e.a.p e.a.l e.a.c, .bool e.a.m, .slice e.a.p2 e.a.l2 e.a.c2]) (b := [.bool e.b.n, .slice e.b.p e.b.l e.b.c, .bool e.b.m, .slice e.b.p2 e.b.l2 e.b.c2]) HRD.out) hwX) Tryz.underlying27 (Ext.refl wr).drew ?_
   refine mC 13 (bs 15 16383) (less_any L _ _ l.q e.p _ (NIn.ofb (HOKL.out.ext (Ext.refl _).drew)) (NIn.ofa2 (HOKE.out.ext (Ext.refl _).drew)) hL) ?_
   rintro e w9 ⟨rfl, hx⟩
   have HEw9 := zH (show Ext wr w9 from ((Ext.refl wr).drew).trans hx)
   clear hx
   refine ⟨_, rfl, HEw9.out, ?_⟩
   try simp only [Act.put, zA, zB, zC]
   by_cases c1 : l.q < e.p
   ·have hdd : decide (l.q < e.p) = true := by simpa using c1
    refine zv 14 (bs 15 32767) HEw9.out ?_
    refine wpAnyH_done (by kernel_rfl) ?_ _
    have HSTEP2 := zH (HST.out.trans (if_pos c1))
    clear c1 hdd
    have HE_ := zH (show Ext wr w9 from HEw9.out)
    have HOSc := zH (HOS.out.ext HE_.out)
    have HSSc := zH (HSS.out.ext HE_.out)
    have HOKEc := zH (HOKE.out.ext HE_.out)
    have HRDc := zH (range_ext HRD.out HE_.out)
    have HXc := zH (HX.out.trans HE_.out)
    go_upto_region 8 with fail
    refine wp_region_lit ?_
    refine qV (.slice (some ⟨g6, 0, none⟩) (m + 1) c6) ?_
    refine zq (.slice (some ⟨gs, 0, none⟩) ss.length cs) ?_
    refine qV (.int .i64 k) ?_
    refine zq (.pointer (some ⟨gs, k * 8, none⟩)) ?_
    refine wpList_if (by rfl) (wp_load_mid _ _ (by rfl) gs (k * 8) (by rfl) [.bool e.a.n, .slice e.a.p e.a.l e.a.c, .bool e.a.m, .slice e.a.p2 e.a.l2 e.a.c2, .bool e.b.n, .slice e.b.p e.b.l e.b.c, .bool e.b.m, .slice e.b.p2 e.b.l2 e.b.c2] _ HRDc.out Tryz.underlying51 (by rfl) (by kernel_rfl) ?_)
    try simp only [Act.put, zA, zB, zC]
    have hbz := HOSc.out
    have hAE : Ext w9 (w9.alloc (.cells #[.bool e.a.n, .slice e.a.p e.a.l e.a.c, .bool e.a.m, .slice e.a.p2 e.a.l2 e.a.c2, .bool e.b.n, .slice e.b.p e.b.l e.b.c, .bool e.b.m, .slice e.b.p2 e.b.l2 e.b.c2] 51)) := (Ext.refl _).alloc _
    refine zp (w' := (w9.alloc (.cells #[.bool e.a.n, .slice e.a.p e.a.l e.a.c, .bool e.a.m, .slice e.a.p2 e.a.l2 e.a.c2, .bool e.b.n, .slice e.b.p e.b.l e.b.c, .bool e.b.m, .slice e.b.p2 e.b.l2 e.b.c2] 51))) (.slice (some ⟨w9.heap.size, 0, none⟩) 1 1) (by go_simp) ?_
    refine wpList_if (by rfl) (wp_append_rowF _ _ 22 (by rfl) ws.heap.size 51 i0 _ 8 128 Tryz.underlying22 HI.out.1 HI.out.2.1 HI.out.2.2.1 HI.out.2.2.2 rfl (by decide) noUL_zsp _ (m + 1) (spCells (os ++ [l])) (by rfl) (by have h := (HOSc.out.ext hAE).1; rw [List.length_append, HM.out] at h; exact h) ⟨w9.heap.size, 0, none⟩ 1 1 e.cells (by rfl) rfl (new_cells _ e.cells _) e.one e.noU (by decide) (by unfold maxLen; omega) (by omega) (Nat.le_trans HWZ.out (Nat.le_trans HE_.out.size hAE.size)) ?_)
    intro gx cx w8_ hf h2 h3 h4
    try simp only [Act.put, zA, zB, zC]
    have HSN := zH ((HOSc.out.ext hAE).snoc (es := (os ++ [l])) (e := e) (by rw [List.length_append, HM.out]; rfl) (HOKEc.out.ext hAE) h2 h4)
    have HXn := zH ((HXc.out.trans hAE).grown h3 (fun j hj => Nat.le_trans HB.out (HOSc.out.1.block j hj)))
    have HSSn := zH ((HSSc.out.ext hAE).grown h3 (fun j hj hj2 => by have h7 := HOSc.out.1.block j hj2; have h8 := HSSB.out j hj; omega) h4)
    have HZn := zH (Nat.le_trans HWZ.out (Nat.le_trans HE_.out.size (Nat.le_trans hAE.size h3.size)))
    clear hf h2 h3 h4 hAE hbz
    refine zp (w' := w8_) (.slice (some ⟨gx, 0, none⟩) ((m + 1) + 1) cx) (by go_simp) ?_
    go_wp2_with fail
    go_roundg (ss.length - (k + 1))
    case measure => have := HLT.out; omega
    case rel => exact ⟨k + 1, (os ++ [l]) ++ [e], _, HLT.out, rfl, by go_num, rfl, HSN.out, by rw [HSTEP2.out]; simp [SpE.vl], by have := HOKN.out; simp at this ⊢ <;> omega, HSSn.out, HXn.out, HZn.out⟩
   have hdd : decide (l.q < e.p) = false := by simpa using c1
   refine zv 14 (bs 15 32767) HEw9.out ?_
   refine wpAnyH_done (by kernel_rfl) ?_ _
   have HST2 := zH (HST.out.trans (if_neg c1))
   clear c1 hdd
   go_upto_region 9 with fail
   have RDE9 := zH (range_ext RDE.out HEw9.out)
   have HRD9 := zH (range_ext HRD.out HEw9.out)
   have HOKL9 := zH (HOKL.out.ext HEw9.out)
   have HOKE9 := zH (HOKE.out.ext HEw9.out)
   refine wp_region_held_drew (S := fun x => Ext w9 x) (by kernel_rfl) (Ext.refl _).drew (fun _ => ?_)
   refine zv 0 (bs 11 1) (Ext.refl w9).drew ?_
   refine zv 1 (bs 11 3) (Ext.refl w9).drew ?_
   refine zv 2 (bs 11 7) (Ext.refl w9).drew ?_
   refine mV 3 (bs 11 15) (Ext.refl w9).drew ?_
   refine zr 4 (bs 11 31) g6 (m * 8 + 4) [.bool l.b.n, .slice l.b.p l.b.l l.b.c, .bool l.b.m, .slice l.b.p2 l.b.l2 l.b.c2] (fun wX hwX => range_ext RDE9.out hwX) Tryz.underlying27 (Ext.refl w9).drew ?_
   refine zv 5 (bs 11 63) (Ext.refl w9).drew ?_
   refine zv 6 (bs 11 127) (Ext.refl w9).drew ?_
   refine zv 7 (bs 11 255) (Ext.refl w9).drew ?_
   refine mV 8 (bs 11 511) (Ext.refl w9).drew ?_
   refine zr 9 (bs 11 1023) gs (k * 8 + 4) [.bool e.b.n, .slice e.b.p e.b.l e.b.c, .bool e.b.m, .slice e.b.p2 e.b.l2 e.b.c2] (fun wX hwX => range_ext (range_right (a := [.bool e.a.n, .slice e.a.p e.a.l e.a.c, .bool e.a.m, .slice e.a.p2 e.a.l2 e.a.c2]) (b := [.bool e.b.n, .slice e.b.p e.b.l e.b.c, .bool e.b.m, .slice e.b.p2 e.b.l2 e.b.c2]) (n := 4) HRD9.out rfl) hwX) Tryz.underlying27 (Ext.refl w9).drew ?_
   refine mC 10 (bs 11 2047) (less_any L _ _ l.q e.q _ (NIn.ofb (HOKL9.out.ext (Ext.refl _).drew)) (NIn.ofb (HOKE9.out.ext (Ext.refl _).drew)) hL) ?_
   rintro e wb ⟨rfl, hx⟩
   have HEwb := zH (show Ext w9 wb from ((Ext.refl w9).drew).trans hx)
   clear hx
   refine ⟨_, rfl, HEwb.out, ?_⟩
   try simp only [Act.put, zA, zB, zC]
   refine wpAnyH_done (by kernel_rfl) ?_ _
   have HE_ := zH (show Ext wr wb from HEw9.out.trans HEwb.out)
   have HOSc := zH (HOS.out.ext HE_.out)
   have HSSc := zH (HSS.out.ext HE_.out)
   have HOKEc := zH (HOKE.out.ext HE_.out)
   have HRDc := zH (range_ext HRD.out HE_.out)
   have HXc := zH (HX.out.trans HE_.out)
   by_cases c2 : l.q < e.q
   ·have hdd : decide (l.q < e.q) = true := by simpa using c2
    rw [hdd]
    have HSTEP2 := zH (HST2.out.trans (if_pos c2))
    clear c2
    go_upto_region 10 with fail
    refine wp_region_lit ?_
    refine qV (.slice (some ⟨g6, 0, none⟩) (m + 1) c6) ?_
    refine zq (.int .i64 m) ?_
    refine qV (.slice (some ⟨gs, 0, none⟩) ss.length cs) ?_
    refine zq (.int .i64 k) ?_
    refine qV (.pointer (some ⟨gs, k * 8, none⟩)) ?_
    refine zq (.pointer (some ⟨gs, k * 8 + 4, none⟩)) ?_
    refine wpList_if (by rfl) (wp_load_mid _ _ (by rfl) gs (k * 8 + 4) (by rfl) [.bool e.b.n, .slice e.b.p e.b.l e.b.c, .bool e.b.m, .slice e.b.p2 e.b.l2 e.b.c2] _ (range_right (a := [.bool e.a.n, .slice e.a.p e.a.l e.a.c, .bool e.a.m, .slice e.a.p2 e.a.l2 e.a.c2]) (b := [.bool e.b.n, .slice e.b.p e.b.l e.b.c, .bool e.b.m, .slice e.b.p2 e.b.l2 e.b.c2]) (n := 4) HRDc.out rfl) Tryz.underlying27 (by rfl) (by kernel_rfl) ?_)
    try simp only [Act.put, zA, zB, zC]
    refine qV (.pointer (some ⟨g6, m * 8, none⟩)) ?_
    refine zq (.pointer (some ⟨g6, m * 8 + 4, none⟩)) ?_
    obtain ⟨t1, t2, t3⟩ := HOSc.out.turn HM.out HOKEc.out
    obtain ⟨csr, hbr, hnr⟩ := HOSc.out.rowNoU
    refine wpList_if (by rfl) (wp_store_mid 27 _ _ (by rfl) g6 (m * 8 + 4) [.bool e.b.n, .slice e.b.p e.b.l e.b.c, .bool e.b.m, .slice e.b.p2 e.b.l2 e.b.c2].toArray (by rfl) (by rfl) t1 (by kernel_rfl) (all_oneCell_toArray (by simp [Value.oneCell'])) ?_)
    (try simp only [Act.put])
    have HSN := zH t2
    have hgb : w.heap.size ≤ g6 := Nat.le_trans HB.out (HOSc.out.1.block g6 (by simp [Value.ownBlock]))
    have HXn := zH (t3.ext HXc.out hgb)
    have HSSn := zH (HSSc.out.grown (row := some g6) t3 (fun j hj hj2 => by injection hj2 with hj2; have h7 := HOSc.out.1.block j (by simp [Value.ownBlock, hj2]); have h8 := HSSB.out j hj; omega) (fun r q h => h.own hbr hnr t3))
    have HZn := zH (Nat.le_trans HWZ.out (Nat.le_trans HE_.out.size t3.size))
    clear t1 t2 t3 hbr hnr hgb hdd
    generalize World.setCells wb g6 (m * 8 + 4) _ = wn at *
    go_wp2_with fail
    go_roundg (ss.length - (k + 1))
    case measure => have := HLT.out; omega
    case rel => exact ⟨k + 1, os ++ [⟨l.a, e.b, l.p, e.q⟩], _, HLT.out, rfl, by go_num, rfl, HSN.out, by rw [HSTEP2.out]; simp [SpE.vl], by have := HOKN.out; simp at this ⊢ <;> omega, HSSn.out, HXn.out, HZn.out⟩
   have hdd : decide (l.q < e.q) = false := by simpa using c2
   rw [hdd]
   have HSTEP2 := zH (HST2.out.trans (if_neg c2))
   clear c2
   go_wp2_with fail
   go_roundg (ss.length - (k + 1))
   case measure => have := HLT.out; omega
   case rel => exact ⟨k + 1, os ++ [l], _, HLT.out, rfl, by go_num, rfl, HOSc.out, by rw [HSTEP2.out, List.map_append]; rfl, by have := HOKN.out; omega, HSSc.out, HXc.out, Nat.le_trans HWZ.out HE_.out.size⟩
  obtain rfl : k = ss.length := by omega
  have hge2 : ¬ (ss.length : Int) < (ss.length : Int) := by omega
  have HR := zH (show os.map SpE.vl = mergeV ps by rw [hov, List.take_of_length_le (by rw [← HVAL.out, List.length_map]; exact Nat.le_refl _)]; rfl)
  have HOS := zH (SpR.mono hos HB.out)
  have HX2 := zH hx
  have HLE := zH (show os.length ≤ ps.length by have := HSL.out; omega)
  clear hos hov hok hss hx
  go_wp2_with fail
  go_ret
  exact ⟨_, rfl, os, HOS.out, HR.out, HLE.out, HX2.out⟩

set_option maxRecDepth 20000 in
set_option maxHeartbeats 4000000 in
theorem rspans_any (L : Nat) (u : Value) (rs : List Ring) (rule : Int) (ry : RV) (y : Rat) (w : World) (hu : RingsV w u rs) (hy : ry.In L w y) (h1L : 1 ≤ L) (hL : L ≤ 2000) (hn : rs.length ≤ 100000) (hr : ∀ r, r ∈ rs → r.length ≤ 100000) :
  Calls Tryz.prog 23 #[u, .int .i64 rule, .agg #[.bool ry.n, .slice ry.p ry.l ry.c, .bool ry.m, .slice ry.p2 ry.l2 ry.c2]] w fun e w' => ∃ v es, e = .returned v ∧ SpR (L + 8) w' w.heap.size v es ∧ es.map SpE.vl = spansV rule (marksV y rs) ∧ es.length ≤ 4096 ∧ Ext w w' := by
 have HU := zH hu
 have HN := zH hn
 have HR := zH hr
 have RY := zH hy
 clear hu hn hr hy
 go_enter Tryz.func23, Tryz.ntmps23
 have H0 := zH (Hp.start w)
 go_upto_region 0 with fail
 refine wp_region_lit ?_
 refine mv_alloc (T := 27) (zs := [.bool ry.n, .slice ry.p ry.l ry.c, .bool ry.m, .slice ry.p2 ry.l2 ry.c2]) (by rfl) (by go_simp) H0.out (by simp [NoUL]) ?_
 intro X1 w2 hh hx hge
 have H3 := zH (show Hp w w2 [.blk X1 27 (rc ry)] from hh)
 clear hh hx hge
 try simp only [Act.put, zA, zB, zC]
 refine zq (.slice none 0 0) ?_
 go_upto_region 1 with fail
 refine wp_region_lit ?_
 refine qV (u) ?_
 refine zd X1 (0) (rc ry) (H3.out.range (i := 0) (by rfl) 0 4) Tryz.underlying27 ?_
 refine zc (rcrossings_any L (u) rs ry y _ (HU.out.ext H3.out.ext) (RY.out.dig H3.out.dig0) h1L (by omega) HN.out HR.out) ?_
 rintro e w8 ⟨A19, c19, A29, c29, n_, ms9, rfl, rfl, hr1_, hr2_, hok_, hcv_, hx⟩
 have HVC9 := zH hcv_
 have HOC9 := zH hok_
 obtain ⟨Ax_, cx_, hv_, hA_⟩ := RowN.form hr1_
 obtain rfl : A19 = Ax_ := by injection hv_
 have HXA9 := zH hA_
 clear hv_ hA_ hcv_ hok_
 obtain ⟨Ay_, cy_, hv_, hA_⟩ := RowN.form hr2_
 obtain rfl : A29 = Ay_ := by injection hv_
 have HWA9 := zH hA_
 clear hv_ hA_
 have H10 := zH (show Hp w w8 [.blk X1 27 (rc ry), ro 27 4 A19 ms9.length c19 MkE.cx ms9, ro 3 1 A29 ms9.length c29 MkE.cu ms9] from H3.out.addRow2 hx hr1_ hr2_ (by decide))
 clear hr1_ hr2_
 have HML9 := zH (show ms9.length ≤ 4096 by have h_ := marksV_len y rs; rw [← HVC9.out, List.length_map] at h_; exact h_)
 clear hx
 refine zn ?_
 refine qV (.tuple #[.slice A19 ms9.length c19, .slice A29 ms9.length c29]) ?_
 refine zq (.slice A19 ms9.length c19) ?_
 refine qV (.slice A29 ms9.length c29) ?_
 refine zq (.slice A19 ms9.length c19) ?_
 refine zq (.slice A29 ms9.length c29) ?_
 go_upto_region 2 with fail
 refine wp_region_lit ?_
 refine zp (w' := w8.alloc (.cells #[] 51)) (.slice (some ⟨w8.heap.size, 0, none⟩) 0 0) (by go_simp) ?_
 have hh := H10.out.addEmpty 51 8
 have hd := Dig.of_ext ((Ext.refl w8).alloc (.cells #[] 51))
 generalize w8.alloc (.cells #[] 51) = w17 at hh hd ⊢
 generalize w8.heap.size = X18 at hh ⊢
 have H19 := zH (show Hp w w17 [.blk X1 27 (rc ry), ro 27 4 A19 ms9.length c19 MkE.cx ms9, ro 3 1 A29 ms9.length c29 MkE.cu ms9, ro 51 8 (some ⟨X18, 0, none⟩) 0 0 SpE.cells ([])] from hh)
 have D19 := zH (hd)
 clear hh hd
 refine zq (.slice (some ⟨X18, 0, none⟩) 0 0) ?_
 go_upto_region 3 with fail
 refine wp_region_lit ?_
 refine zq (.int .i64 0) ?_
 go_upto_region 4 with fail
 refine wp_region_lit ?_
 refine zq (.int .i64 0) ?_
 obtain ⟨qs, hqs⟩ : ∃ qs, qs = ms9.map MkE.vl := ⟨_, rfl⟩
 have HQS := zH hqs
 have hql : qs.length = ms9.length := by rw [hqs, List.length_map]
 have HQL := zH hql
 clear hqs hql
 go_wp2_with fail
 go_loopg [9, 10, 11] (ms9.length) (fun cq v24 v25 v26 wr => ∃ (k : Nat) (m : Nat) (es : List SpE) (A1 : Option Addr) (c1 : Nat) (s : Int), cq = ms9.length - k ∧ v24 = .slice A1 m c1 ∧ v25 = .int .i64 s ∧ v26 = .int .i64 (k : Int) ∧ (k ≤ ms9.length) ∧ (psum qs k = s) ∧ (-(k : Int) ≤ s ∧ s ≤ k) ∧ (m = es.length ∧ m ≤ k) ∧ (es.map SpE.vl = sel rule ((runs 0 qs).take k)) ∧ (∀ e, e ∈ es → e.Ok (L + 8) wr) ∧ Hp w wr [.blk X1 27 [.bool ry.n, .slice ry.p ry.l ry.c, .bool ry.m, .slice ry.p2 ry.l2 ry.c2], .row 27 4 (.slice A19 ms9.length c19) (ms9.length) (List.flatMap MkE.cx ms9), .row 3 1 (.slice A29 ms9.length c29) (ms9.length) (List.flatMap MkE.cu ms9), .row 51 8 (.slice A1 m c1) (m) (List.flatMap SpE.cells es)] ∧ Dig w17 wr)
 case atStart => exact ⟨0, 0, [], some ⟨X18, 0, none⟩, 0, 0, rfl, rfl, rfl, rfl, Nat.zero_le _, rfl, ⟨by decide, by decide⟩, ⟨rfl, Nat.le_refl _⟩, rfl, (by simp), H19.out, Dig.refl _⟩
 case round =>
  obtain ⟨k, m, es, A1, c1, s, rfl, rfl, rfl, rfl, q_HK, q_HPV, q_HSM, q_HM, q_HSEL, q_HOE, hh_, hd_⟩ := hrel
  generalize wr = w27 at *
  have HK := zH q_HK
  clear q_HK
  have HPV := zH q_HPV
  clear q_HPV
  have HSM := zH q_HSM
  clear q_HSM
  have HM := zH q_HM
  clear q_HM
  have HSEL := zH q_HSEL
  clear q_HSEL
  have HOE := zH q_HOE
  clear q_HOE
  have H29 := zH hh_
  have D29 := zH hd_
  clear hh_ hd_ H19
  by_cases c30 : k + 1 < ms9.length
  ·have HLT := zH c30
   clear c30
   have hlt := HLT.out
   have hml : ms9.length ≤ 4096 := HML9.out
   have hk0 : k < ms9.length := by omega
   have hm4 : m ≤ 4096 := by have := HM.out.2; omega
   obtain ⟨gxs, rfl⟩ := HXA9.out (by omega)
   obtain ⟨gws, rfl⟩ := HWA9.out (by omega)
   obtain ⟨e, he_⟩ : ∃ e, ms9[k]? = some e := ⟨_, List.getElem?_eq_getElem hk0⟩
   have HEe := zH he_
   have HOe := zH (HOC9.out e (List.mem_of_getElem? he_))
   have RAe := zH HOe.out.1
   have BAe := zH HOe.out.2.1
   have HSe := zH HOe.out.2.2
   clear he_
   obtain ⟨f, he_⟩ : ∃ f, ms9[k + 1]? = some f := ⟨_, List.getElem?_eq_getElem hlt⟩
   have HEf := zH he_
   have HOf := zH (HOC9.out f (List.mem_of_getElem? he_))
   have RAf := zH HOf.out.1
   have BAf := zH HOf.out.2.1
   have HSf := zH HOf.out.2.2
   clear he_
   have hqk : qs[k]? = some e.vl := by rw [HQS.out, List.getElem?_map, HEe.out]; rfl
   have HPS := zH (show psum qs (k + 1) = s + e.up from by rw [psum_succ hqk, HPV.out]; rfl)
   have HRG := zH (runs_get qs 0 k e.vl f.vl hqk (by rw [HQS.out, List.getElem?_map, HEf.out]; rfl))
   have HRN := zH (show 0 + psum qs (k + 1) = s + e.up by rw [HPS.out]; omega)
   have HS2 := zH (show -(k + 1 : Int) ≤ s + e.up ∧ s + e.up ≤ k + 1 by have h1 := HSM.out; have h2 := HSe.out; omega)
   clear hqk
   go_upto_region 5 with fail
   refine wp_region_lit ?_
   refine zq (.int .i64 (k : Int)) ?_
   refine zp (w' := w27) (.int .i64 ((k + 1 : Nat) : Int)) (by exact ez1 (by have ob3 := HS2.out.1; have ob4 := HS2.out.2; omega)) ?_
   refine qV (.slice (some ⟨gxs, 0, none⟩) ms9.length c19) ?_
   refine zq (.int .i64 ((ms9.length : Nat) : Int)) ?_
   refine zp (w' := w27) (.bool true) (by exact ezl (e := (dec_t (by have ob3 := HS2.out.1; have ob4 := HS2.out.2; omega)))) ?_
   go_upto_region 7 with fail
   refine wp_region_lit ?_
   refine qV (.int .i64 s) ?_
   refine zq (.slice (some ⟨gws, 0, none⟩) ms9.length c29) ?_
   refine zq (.int .i64 (k : Int)) ?_
   refine zp (w' := w27) (.pointer (some ⟨gws, k * 1, none⟩)) (by exact ezi (k := k) Tryz.underlying42 (l := hk0) (f := (Nat.zero_add _).symm)) ?_
   refine ze gws (k * 1) (.int .i64 e.up) (H29.out.elem (f := MkE.cu) (i := 2) (by rfl) MkE.cu_len HEe.out) ?_
   refine zp (w' := w27) (.int .i64 (s + e.up)) (by exact ez1 (by have ob3 := HS2.out.1; have ob4 := HS2.out.2; omega)) ?_
   refine zq (.int .i64 (s + e.up)) ?_
   rcases hcf : fillsV (s + e.up) rule with _ | _
   ·have CF := zH hcf
    clear hcf
    go_upto_region 8 with fail
    refine wp_region_lit ?_
    refine qV (.int .i64 (s + e.up)) ?_
    refine zq (.int .i64 rule) ?_
    refine zc (rfills_is (s + e.up) rule false _ CF.out (by have h_ := HS2.out; constructor <;> omega)) ?_
    rintro e w44 ⟨rfl, hx⟩
    have H45 := zH (H29.out.step hx)
    have D45 := zH (Dig.of_ext hx)
    clear hx
    refine zn ?_
    have DD47 := zH ((D29.out.trans D45.out))
    go_wp2_with fail
    go_roundg (ms9.length - (k + 1))
    case measure => exact (by have ob3 := HS2.out.1; have ob4 := HS2.out.2; omega)
    case rel => exact ⟨k + 1, m, es, A1, c1, s + e.up, rfl, rfl, rfl, (by go_num), hk0, HPS.out, (by have h_ := HS2.out; constructor <;> omega), ⟨HM.out.1, by have := HM.out.2; omega⟩, (by rw [HSEL.out, sel_take HRG.out, if_neg (by rw [HRN.out, CF.out]; decide), List.append_nil]), (fun g_ hg_ => (HOE.out g_ hg_).dig D45.out), H45.out, DD47.out⟩
   have CF := zH hcf
   clear hcf
   go_upto_region 8 with fail
   refine wp_region_lit ?_
   refine qV (.int .i64 (s + e.up)) ?_
   refine zq (.int .i64 rule) ?_
   refine zc (rfills_is (s + e.up) rule true _ CF.out (by have h_ := HS2.out; constructor <;> omega)) ?_
   rintro e w50 ⟨rfl, hx⟩
   have H51 := zH (H29.out.step hx)
   have D51 := zH (Dig.of_ext hx)
   clear hx
   refine zn ?_
   go_upto_region 9 with fail
   refine wp_region_held_drew (S := fun x => Fr (fun kz => Value.ownBlock (.slice A1 m c1) = some kz) w50 x) (by kernel_rfl) (Fr.of_ext zb) (fun _ => ?_)
   have H53 := zH (H51.out.step (Ext.refl w50).drew)
   have D53 := zH (Dig.of_ext (w := w50) zb)
   refine zx 0 (bs 14 1) (.slice A1 m c1) (Fr.of_ext zb) ?_
   refine zx 1 (bs 14 3) (.slice (some ⟨gxs, 0, none⟩) ms9.length c19) (Fr.of_ext zb) ?_
   refine zx 2 (bs 14 7) (.int .i64 (k : Int)) (Fr.of_ext zb) ?_
   refine zo 3 (bs 14 15) (v := .pointer (some ⟨gxs, k * 4, none⟩)) (Fr.of_ext zb) ?_ (hv := by intro w hSw; exact ezi (k := k) Tryz.underlying41 (l := hk0) (f := (Nat.zero_add _).symm))
   refine zr 4 (bs 14 31) gxs (k * 4) [.bool e.a.n, .slice e.a.p e.a.l e.a.c, .bool e.a.m, .slice e.a.p2 e.a.l2 e.a.c2] (fun x hx => Fr.range hx (show World.rangeAt w50 gxs (k * 4) [.bool e.a.n, .slice e.a.p e.a.l e.a.c, .bool e.a.m, .slice e.a.p2 e.a.l2 e.a.c2] from (H51.out.elem (f := MkE.cx) (i := 1) (by rfl) MkE.cx_len HEe.out)) (H51.out.offRow (i := 1) (j := 3) (by rfl) (by rfl) (by decide) (by rfl))) Tryz.underlying27 (Fr.of_ext zb) ?_
   refine zx 5 (bs 14 63) (.slice (some ⟨gxs, 0, none⟩) ms9.length c19) (Fr.of_ext zb) ?_
   refine zx 6 (bs 14 127) (.int .i64 (k : Int)) (Fr.of_ext zb) ?_
   refine zu 7 (bs 14 255) (v := .int .i64 ((k + 1 : Nat) : Int)) (Fr.of_ext zb) ?_ (hv := by intro w hSw; exact ez1 (by have ob3 := HS2.out.1; have ob4 := HS2.out.2; omega))
   refine zo 8 (bs 14 511) (v := .pointer (some ⟨gxs, (k + 1) * 4, none⟩)) (Fr.of_ext zb) ?_ (hv := by intro w hSw; exact ezi (k := k + 1) Tryz.underlying41 (l := hlt) (f := (Nat.zero_add _).symm))
   refine zr 9 (bs 14 1023) gxs ((k + 1) * 4) [.bool f.a.n, .slice f.a.p f.a.l f.a.c, .bool f.a.m, .slice f.a.p2 f.a.l2 f.a.c2] (fun x hx => Fr.range hx (show World.rangeAt w50 gxs ((k + 1) * 4) [.bool f.a.n, .slice f.a.p f.a.l f.a.c, .bool f.a.m, .slice f.a.p2 f.a.l2 f.a.c2] from (H51.out.elem (f := MkE.cx) (i := 1) (by rfl) MkE.cx_len HEf.out)) (H51.out.offRow (i := 1) (j := 3) (by rfl) (by rfl) (by decide) (by rfl))) Tryz.underlying27 (Fr.of_ext zb) ?_
   refine zx 10 (bs 14 2047) (.agg #[.bool e.a.n, .slice e.a.p e.a.l e.a.c, .bool e.a.m, .slice e.a.p2 e.a.l2 e.a.c2, .bool f.a.n, .slice f.a.p f.a.l f.a.c, .bool f.a.m, .slice f.a.p2 f.a.l2 f.a.c2]) (Fr.of_ext zb) ?_
   refine mU 11 (bs 14 4095) (v := .slice (some ⟨w50.drew.heap.size, 0, none⟩) 1 1) (w' := (w50.drew.alloc (.cells ([.bool e.a.n, .slice e.a.p e.a.l e.a.c, .bool e.a.m, .slice e.a.p2 e.a.l2 e.a.c2, .bool f.a.n, .slice f.a.p f.a.l f.a.c, .bool f.a.m, .slice f.a.p2 f.a.l2 f.a.c2] : List Value).toArray 51))) ((Fr.of_ext zb).trans (Fr.of_ext ((Ext.refl w50.drew).alloc _))) ?_
   try simp only [Act.put, zA, zB, zC]
   refine md_app (j := 12) (listed' := (bs 14 8191)) (by rfl) (by kernel_rfl) (by rfl) _ _ _ (by rfl) elSpan (by rfl) H53.out (ix := 3) (by rfl) 1 1 [.bool e.a.n, .slice e.a.p e.a.l e.a.c, .bool e.a.m, .slice e.a.p2 e.a.l2 e.a.c2, .bool f.a.n, .slice f.a.p f.a.l f.a.c, .bool f.a.m, .slice f.a.p2 f.a.l2 f.a.c2] (by rfl) rfl (by simp [Value.oneCell']) (by simp [NoUL]) (by decide) (by unfold maxLen; exact (by have ob3 := HS2.out.1; have ob4 := HS2.out.2; omega)) (by have ob3 := HS2.out.1; have ob4 := HS2.out.2; omega) (by kernel_rfl) ?_
   intro g65 cp66 w64 hf hh hd hg
   have Fg65 := zH hf
   clear hf
   rw [show List.flatMap SpE.cells es ++ [.bool e.a.n, .slice e.a.p e.a.l e.a.c, .bool e.a.m, .slice e.a.p2 e.a.l2 e.a.c2, .bool f.a.n, .slice f.a.p f.a.l f.a.c, .bool f.a.m, .slice f.a.p2 f.a.l2 f.a.c2] = List.flatMap SpE.cells (es ++ [(⟨e.a, f.a, e.q, f.q⟩ : SpE)]) from flat_snoc SpE.cells _ (⟨e.a, f.a, e.q, f.q⟩ : SpE)] at hh
   have H67 := zH (show Hp w w64 [.blk X1 27 (rc ry), ro 27 4 (some ⟨gxs, 0, none⟩) ms9.length c19 MkE.cx ms9, ro 3 1 (some ⟨gws, 0, none⟩) ms9.length c29 MkE.cu ms9, ro 51 8 (some ⟨g65, 0, none⟩) (m + 1) cp66 SpE.cells (es ++ [(⟨e.a, f.a, e.q, f.q⟩ : SpE)])] from hh)
   have D67 := zH (show Dig w50.drew w64 from hd)
   have S69 := zH (show Fr (fun kz => Value.ownBlock (.slice A1 m c1) = some kz) w50 w64 from Fr.trans_new ((Fr.of_ext zb).trans (Fr.of_ext ((Ext.refl _).alloc _))) hg (fun j hj => .inl hj))
   clear hh hd hg
   refine ⟨S69.out, ?_⟩
   try simp only [Act.put, zA, zB, zC]
   refine zx 13 (bs 14 16383) (.slice (some ⟨g65, 0, none⟩) (m + 1) cp66) S69.out ?_
   refine wpAnyH_done (by kernel_rfl) ?_ _
   have DD71 := zH (((D51.out.trans D53.out).trans D67.out))
   have DD72 := zH (((((D19.out.trans D29.out).trans D51.out).trans D53.out).trans D67.out))
   have HOKN := zH (show SpE.Ok (L + 8) w64 (⟨e.a, f.a, e.q, f.q⟩ : SpE) from ⟨(RAe.out.dig DD72.out), (RAf.out.dig DD72.out), BAe.out, BAf.out⟩)
   have DD73 := zH ((((D29.out.trans D51.out).trans D53.out).trans D67.out))
   go_wp2_with fail
   go_roundg (ms9.length - (k + 1))
   case measure => exact (by have ob3 := HS2.out.1; have ob4 := HS2.out.2; omega)
   case rel => exact ⟨k + 1, m + 1, es ++ [(⟨e.a, f.a, e.q, f.q⟩ : SpE)], some ⟨g65, 0, none⟩, cp66, s + e.up, rfl, rfl, rfl, (by go_num), hk0, HPS.out, (by have h_ := HS2.out; constructor <;> omega), ⟨by rw [List.length_append, ← HM.out.1]; rfl, by have := HM.out.2; omega⟩, (by rw [List.map_append, HSEL.out, sel_take HRG.out, if_pos (by rw [HRN.out]; exact CF.out)]; rfl), (fun g_ hg_ => (List.mem_append.1 hg_).elim (fun hg_ => (HOE.out g_ hg_).dig DD71.out) (fun hg_ => by rw [List.mem_singleton.1 hg_]; exact HOKN.out)), H67.out, DD73.out⟩
  have HLT := zH c30
  clear c30
  have hlt := HLT.out
  have hml : ms9.length ≤ 4096 := HML9.out
  have hk5 := HK.out
  have hm4 : m ≤ 4096 := by have := HM.out.2; omega
  have hme := HM.out.1
  subst hme
  go_upto_region 5 with fail
  refine wp_region_lit ?_
  refine zq (.int .i64 (k : Int)) ?_
  refine zp (w' := w27) (.int .i64 ((k + 1 : Nat) : Int)) (by exact ez1 (by omega)) ?_
  refine qV (.slice A19 ms9.length c19) ?_
  refine zq (.int .i64 ((ms9.length : Nat) : Int)) ?_
  refine zp (w' := w27) (.bool false) (by exact ezl (e := (dec_f (by have h_ := HLT.out; omega)))) ?_
  go_upto_region 10 with fail
  refine wp_region_lit ?_
  refine qV (.slice A1 es.length c1) ?_
  refine zc (rmerge_any (L + 8) (.slice A1 es.length c1) (List.map SpE.vl es) _ (SpR.reads ⟨H29.out.row (i := 3) (by rfl), HOE.out⟩) (by omega) (by omega) (by rw [List.length_map]; omega)) ?_
  rintro e w80 ⟨v_, es81, rfl, hv1_, hv2_, hv3_, hx⟩
  have VL81 := zH hv2_
  have LN81 := zH hv3_
  have OK81 := zH hv1_.2
  obtain ⟨A81, c81, rfl, hA_⟩ := RowN.form hv1_.1
  have HA81 := zH hA_
  clear hv2_ hv3_ hA_
  have H82 := zH (show Hp w w80 [.blk X1 27 (rc ry), ro 27 4 A19 ms9.length c19 MkE.cx ms9, ro 3 1 A29 ms9.length c29 MkE.cu ms9, ro 51 8 A1 es.length c1 SpE.cells es, ro 51 8 A81 es81.length c81 SpE.cells es81] from H29.out.addRow hx hv1_.1)
  clear hv1_
  clear hx
  refine zn ?_
  refine zq (.slice A81 es81.length c81) ?_
  go_wp2_with fail
  go_ret
  first | exact ⟨_, es81, rfl, SpR.base ⟨H82.out.row (i := 4) (by rfl), OK81.out⟩ (Nat.le_refl _), (by rw [VL81.out, HSEL.out, List.take_of_length_le (by rw [runs_len]; have h_ := HQL.out; omega), HQS.out, HVC9.out]; rfl), (Nat.le_trans LN81.out (by rw [List.length_map]; exact hm4)), H82.out.ext⟩ | exact ⟨_, rfl, es81, SpR.base ⟨H82.out.row (i := 4) (by rfl), OK81.out⟩ (Nat.le_refl _), (by rw [VL81.out, HSEL.out, List.take_of_length_le (by rw [runs_len]; have h_ := HQL.out; omega), HQS.out, HVC9.out]; rfl), (Nat.le_trans LN81.out (by rw [List.length_map]; exact hm4)), H82.out.ext⟩

def mtot (rs : List Ring) : Nat := (rs.map fun r => min r.length 1000).sum
def smPoly (rs : List Ring) : Bool := decide (rs.length ≤ 60) && decide (mtot rs ≤ 60)
theorem mtot_succ {rs : List Ring} {k : Nat} {r : Ring} (h : rs[k]? = some r) : mtot (rs.take (k + 1)) = mtot (rs.take k) + min r.length 1000 := by
  obtain ⟨hk, rfl⟩ := List.getElem?_eq_some_iff.1 h
  unfold mtot
  rw [List.take_succ_eq_append_getElem hk, List.map_append, List.sum_append]
  simp
theorem mtot_le (rs : List Ring) : mtot rs ≤ 1000 * rs.length := by
  induction rs with
  | nil => simp [mtot]
  | cons r rs ih =>
    unfold mtot at ih ⊢
    rw [List.map_cons, List.sum_cons, List.length_cons]
    have := Nat.min_le_right r.length 1000
    omega
theorem smPoly_out {rs : List Ring} (h : smPoly rs = true) : rs.length ≤ 60 ∧ mtot rs ≤ 60 := by
  unfold smPoly at h
  simpa using h
theorem wrap_add {n m : Nat} (h : n + m ≤ 4611686018427387904) : IntKind.i64.wrap ((n : Int) + (m : Int)) = ((n + m : Nat) : Int) := by
  rw [IntKind.wrap_i64]; omega
set_option maxRecDepth 20000 in
set_option maxHeartbeats 4000000 in
theorem smallPolygons_any (u : Value) (rs : List Ring) (w : World) (hu : RingsV w u rs) (hn : rs.length ≤ 9223372036854775807) :
  Calls Tryz.prog 17 #[u] w fun e w' => e = .returned (.bool (smPoly rs)) ∧ Ext w w' := by
 obtain ⟨A, cu, rfl, hA⟩ := hu
 have HA := zH hA
 have HN := zH hn
 clear hA
 go_enter Tryz.func17, Tryz.ntmps17
 go_wp2_with fail
 go_loopg [3, 7] rs.length (fun c s i wr => ∃ (k : Nat) (z : Int), k ≤ rs.length ∧ c = rs.length - k ∧ s = .int .i64 z ∧ i = .int .i64 k ∧ (rs.length ≤ 60 → z = (mtot (rs.take k) : Int)) ∧ Ext w wr)
 case atStart => exact ⟨0, 0, Nat.zero_le _, rfl, rfl, rfl, fun _ => rfl, Ext.refl _⟩
 case round =>
  obtain ⟨k, z, hk, rfl, rfl, rfl, hz0, hx⟩ := hrel
  have HX := zH hx
  have HZ := zH hz0
  clear hx hz0
  by_cases hlt : k < rs.length
  ·have hlt2 : (k : Int) < (rs.length : Int) := by omega
   obtain ⟨r, hr⟩ : ∃ r, rs[k]? = some r := ⟨_, List.getElem?_eq_getElem hlt⟩
   obtain ⟨g, off, rfl, hp⟩ := HA.out (by omega)
   obtain ⟨B, cb, h1, -⟩ := hp k r hr
   have h2 := HX.out.get h1
   have HW := zH (show rs.length ≤ 60 → IntKind.i64.wrap (z + min (r.length : Int) 1000) = (mtot (rs.take (k + 1)) : Int) by
    intro h60
    have hz := mtot_succ hr
    have hz2 : mtot (rs.take k) ≤ 1000 * rs.length := Nat.le_trans (mtot_le _) (Nat.mul_le_mul_left _ (by rw [List.length_take]; omega))
    have hz3 : min r.length 1000 ≤ 1000 := Nat.min_le_right ..
    have hm : min (r.length : Int) 1000 = ((min r.length 1000 : Nat) : Int) := by omega
    rw [HZ.out h60, hm, hz]
    exact wrap_add (by omega))
   have HLT := zH hlt
   clear hp h1 hr
   go_wp2_with fail
   go_roundg (rs.length - (k + 1))
   case measure => have := HLT.out; omega
   case rel => exact ⟨k + 1, _, HLT.out, rfl, rfl, by go_num, by intro h_; have h := HW.out h_; rw [IntKind.wrap_i64] at h; unfold wrap64; exact h, HX.out⟩
  obtain rfl : k = rs.length := by omega
  have hge : ¬ (rs.length : Int) < (rs.length : Int) := by omega
  rw [List.take_length] at *
  have hd : decide ((rs.length : Int) ≤ 60) = decide (rs.length ≤ 60) := decide_eq_decide.2 (by omega)
  have hd2 : decide ((mtot rs : Int) ≤ 60) = decide (mtot rs ≤ 60) := decide_eq_decide.2 (by omega)
  by_cases h1 : rs.length ≤ 60
  ·obtain rfl : z = (mtot rs : Int) := HZ.out h1
   have h1z : (rs.length : Int) ≤ 60 := by omega
   have HS := zH (show smPoly rs = decide (mtot rs ≤ 60) by unfold smPoly; simp [h1])
   have HD := zH hd2
   clear hd hd2
   go_wp2_with fail
   go_ret
   exact ⟨by rw [HS.out, ← HD.out]; rfl, HX.out⟩
  have h1z : ¬ (rs.length : Int) ≤ 60 := by omega
  have HS := zH (show smPoly rs = false by unfold smPoly; simp [h1])
  clear hd hd2
  go_wp2_with fail
  go_ret
  exact ⟨by rw [HS.out]; rfl, HX.out⟩
end Go.Proofs.YtaeeeailoiioaabGreat
