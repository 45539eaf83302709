/- Contracts that the claim stands on: XRCross to XWindL. -/
import Derived.Test.YtmgibncehlpfkaaGreatM7
namespace Go.Proofs.YtmgibncehlpfkaaGreat
open Go.RowKit
attribute [local go_sem ↓] Go.wp_at_zero Go.wp_at_succ run_max_ii run_min_ii
theorem wkK : Stb.Wk ltK := wkQ' fun e : MkE => e.vl
theorem srt_mk {es : List MkE} (h : Stb.Srt ltM (es.map MkE.vl)) : Stb.Srt ltK es := by
  unfold Stb.Srt at h ⊢
  rw [List.pairwise_map] at h
  exact h
theorem edgesOf_len (rs : List Ring) : (edgesOf rs).length ≤ 4096 := by
  unfold edgesOf
  refine Nat.le_trans (edgesV_len _) ?_
  split
  · rename_i h; exact okR_tot h
  decide
theorem edgesOf_ok (rs : List Ring) : ∀ e, e ∈ edgesOf rs → okE e := by
  unfold edgesOf
  split
  · rename_i h; exact edges_ok h
  intro e he; simp [edgesV] at he
theorem marksV_of (y : Rat) (rs : List Ring) : marksV y rs = Stb.stab ltM ((edgesOf rs).filterMap (crossV y)) := rfl
theorem crs_some {y : Rat} {l : List Edge} {i : Nat} {e : Edge} {z : QI} (h : l[i]? = some e) (hc : crossV y e = some z) : Stb.stab ltM ((l.take (i + 1)).filterMap (crossV y)) = Stb.ins ltM (Stb.stab ltM ((l.take i).filterMap (crossV y))) z := by
  rw [List.take_add_one, h, List.filterMap_append, show (some e).toList = [e] from rfl, List.filterMap_cons, hc, List.filterMap_nil, Stb.stab_snoc]
theorem crs_none {y : Rat} {l : List Edge} {i : Nat} {e : Edge} (h : l[i]? = some e) (hc : crossV y e = none) : Stb.stab ltM ((l.take (i + 1)).filterMap (crossV y)) = Stb.stab ltM ((l.take i).filterMap (crossV y)) := by
  rw [List.take_add_one, h, List.filterMap_append, show (some e).toList = [e] from rfl, List.filterMap_cons, hc, List.filterMap_nil, List.append_nil]
theorem ins_at {α : Type} {es : List α} {y : α} {q : Nat} (hq : q < es.length) : (es.take (q + 1) ++ y :: es.drop (q + 1))[q]? = some es[q] ∧ (es.take (q + 1) ++ y :: es.drop (q + 1))[q + 1]? = some y ∧
  ((es.take (q + 1) ++ y :: es.drop (q + 1)).set (q + 1) es[q]).set q y = es.take q ++ y :: es.drop q ∧ ∀ z, z ∈ es.drop q → z = es[q] ∨ z ∈ es.drop (q + 1) := by
 have g1 : (es.take (q + 1) ++ y :: es.drop (q + 1))[q]? = some es[q] := by
  rw [List.getElem?_append_left (by rw [List.length_take]; omega), List.getElem?_take, if_pos (by omega)]
  exact List.getElem?_eq_getElem hq
 have g2 : (es.take (q + 1) ++ y :: es.drop (q + 1))[q + 1]? = some y := by
  rw [List.getElem?_append_right (by rw [List.length_take]; omega), List.length_take, show q + 1 - min (q + 1) es.length = 0 by omega]
  rfl
 refine ⟨g1, g2, ?_, fun z hz => ?_⟩
 ·rw [← swp_eq g2 g1]
  have h := swps_left [] es [] y q hq
  simp only [List.nil_append, List.append_nil, List.length_nil, Nat.zero_add] at h
  exact h
 rw [List.drop_eq_getElem_cons hq] at hz
 exact List.mem_cons.1 hz
set_option maxRecDepth 20000 in
set_option maxHeartbeats 4000000 in
theorem rcrossings_any (L : Nat) (u : Value) (rs : List Ring) (ry : RV) (y : Rat) (w : World) (hu : RingsV w u rs) (hy : ry.In L w y) (h1L : 1 ≤ L) (hL : L ≤ 2000) (hn : rs.length ≤ 100000) (hr : ∀ r, r ∈ rs → r.length ≤ 100000) :
  Calls Tryz.prog 21 #[u, .agg #[.bool ry.n, .slice ry.p ry.l ry.c, .bool ry.m, .slice ry.p2 ry.l2 ry.c2]] w (CrossRet L rs y w) := by
 have HU := zH hu
 have HN := zH hn
 have HR := zH hr
 have RY := zH hy
 clear hu hn hr hy
 go_enter Tryz.func21, Tryz.ntmps21
 have H0 := zH (Hp.start w)
 go_upto_region 0 with fail
 refine wp_region_lit ?_
 refine mv_alloc (T := 27) (zs := [.bool ry.n, .slice ry.p ry.l ry.c, .bool ry.m, .slice ry.p2 ry.l2 ry.c2]) (by rfl) (by go_simp) H0.out (by simp [NoUL]) ?_
 intro X1 w2 hh hx hge
 have H3 := zH (show Hp w w2 [.blk X1 27 (rc ry)] from hh)
 clear hh hx hge
 try simp only [Act.put, zA, zB, zC]
 refine qV (.slice none 0 0) ?_
 refine zq (.slice none 0 0) ?_
 go_upto_region 1 with fail
 refine wp_region_lit ?_
 refine zp (w' := w2.alloc (.cells #[] 27)) (.slice (some ⟨w2.heap.size, 0, none⟩) 0 0) (by go_simp) ?_
 have hh := H3.out.addEmpty 27 4
 have hd := Dig.of_ext ((Ext.refl w2).alloc (.cells #[] 27))
 generalize w2.alloc (.cells #[] 27) = w8 at hh hd ⊢
 generalize w2.heap.size = X9 at hh ⊢
 have H10 := zH (show Hp w w8 [.blk X1 27 (rc ry), ro 27 4 (some ⟨X9, 0, none⟩) 0 0 MkE.cx ([])] from hh)
 clear hh hd
 refine zq (.slice (some ⟨X9, 0, none⟩) 0 0) ?_
 go_upto_region 2 with fail
 refine wp_region_lit ?_
 refine zp (w' := w8.alloc (.cells #[] 3)) (.slice (some ⟨w8.heap.size, 0, none⟩) 0 0) (by go_simp) ?_
 have hh := H10.out.addEmpty 3 1
 have hd := Dig.of_ext ((Ext.refl w8).alloc (.cells #[] 3))
 generalize w8.alloc (.cells #[] 3) = w13 at hh hd ⊢
 generalize w8.heap.size = X14 at hh ⊢
 have H15 := zH (show Hp w w13 [.blk X1 27 (rc ry), ro 27 4 (some ⟨X9, 0, none⟩) 0 0 MkE.cx ([]), ro 3 1 (some ⟨X14, 0, none⟩) 0 0 MkE.cu ([])] from hh)
 clear hh hd
 refine zq (.slice (some ⟨X14, 0, none⟩) 0 0) ?_
 by_cases c18 : okR rs = true
 ·have HV := zH c18
  clear c18
  go_upto_region 3 with fail
  refine wp_region_lit ?_
  refine qV (u) ?_
  refine zc (r16Valid_any _ rs _ (HU.out.ext H15.out.ext) HN.out HR.out) ?_
  rintro e w20 ⟨rfl, hx⟩
  have H21 := zH (H15.out.step hx)
  clear hx
  refine ⟨.bool true, by rw [HV.out], ?_⟩
  try simp only [Act.put, zA, zB, zC]
  refine zq (.bool false) ?_
  go_upto_region 5 with fail
  refine wp_region_lit ?_
  refine qV (u) ?_
  refine zc (redges_any u rs _ (HU.out.ext H21.out.ext) HN.out HR.out) ?_
  rintro e w25 ⟨Ae, nE_, ce, rfl, rfl, hrow_, hx⟩
  obtain ⟨Ae2_, ce2_, hv_, hA_⟩ := RowN.form hrow_
  obtain rfl : Ae = Ae2_ := by injection hv_
  have HAE := zH hA_
  clear hA_ hv_
  have H26 := zH (show Hp w w25 [.blk X1 27 (rc ry), ro 27 4 (some ⟨X9, 0, none⟩) 0 0 MkE.cx ([]), ro 3 1 (some ⟨X14, 0, none⟩) 0 0 MkE.cu ([]), ro 80 4 Ae ((edgesOf rs).length) ce edC (edgesOf rs)] from H21.out.addRow hx hrow_)
  clear hrow_
  clear hx
  refine zn ?_
  refine zq (.slice Ae ((edgesOf rs).length) ce) ?_
  have HEL := zH (edgesOf_len rs)
  go_upto_region 6 with fail
  refine wp_region_lit ?_
  refine zq (.int .i64 0) ?_
  go_wp2_with fail
  go_loopg [6, 7, 9] ((edgesOf rs).length) (fun cq v30 v31 v32 wr => ∃ (i : Nat) (m : Nat) (es : List MkE) (A1 : Option Addr) (c1 : Nat) (A2 : Option Addr) (c2 : Nat), cq = ((edgesOf rs).length) - i ∧ v30 = .slice A1 m c1 ∧ v31 = .slice A2 m c2 ∧ v32 = .int .i64 (i : Int) ∧ (i ≤ (edgesOf rs).length) ∧ (m = es.length ∧ m ≤ i) ∧ (es.map MkE.vl = Stb.stab ltM (((edgesOf rs).take i).filterMap (crossV y))) ∧ (∀ e, e ∈ es → e.Ok (L + 8) wr) ∧ Hp w wr [.blk X1 27 [.bool ry.n, .slice ry.p ry.l ry.c, .bool ry.m, .slice ry.p2 ry.l2 ry.c2], .row 27 4 (.slice A1 m c1) (m) (List.flatMap MkE.cx es), .row 3 1 (.slice A2 m c2) (m) (List.flatMap MkE.cu es), .row 80 4 (.slice Ae ((edgesOf rs).length) ce) ((edgesOf rs).length) (List.flatMap edC (edgesOf rs))] ∧ Dig w25 wr)
  case atStart => exact ⟨0, 0, [], some ⟨X9, 0, none⟩, 0, some ⟨X14, 0, none⟩, 0, rfl, rfl, rfl, rfl, Nat.zero_le _, ⟨rfl, Nat.le_refl _⟩, rfl, (by simp), H26.out, Dig.refl _⟩
  case round =>
   obtain ⟨i, m, es, A1, c1, A2, c2, rfl, rfl, rfl, rfl, q_HKI, q_HM, q_HVL, q_HOE, hh_, hd_⟩ := hrel
   generalize wr = w33 at *
   have HKI := zH q_HKI
   clear q_HKI
   have HM := zH q_HM
   clear q_HM
   have HVL := zH q_HVL
   clear q_HVL
   have HOE := zH q_HOE
   clear q_HOE
   have H35 := zH hh_
   have D35 := zH hd_
   clear hh_ hd_ H26
   by_cases c36 : i < (edgesOf rs).length
   ·have HLT := zH c36
    clear c36
    have hlt := HLT.out
    have hlt2 : (i : Int) < ((edgesOf rs).length : Int) := by omega
    have hi4 : i < 4096 := by have h_ := HEL.out; omega
    obtain ⟨ge, rfl⟩ := HAE.out (by omega)
    obtain ⟨⟨⟨ax, ay⟩, ⟨bx, bY⟩⟩, he_⟩ : ∃ e, (edgesOf rs)[i]? = some e := ⟨_, List.getElem?_eq_getElem hlt⟩
    have HE := zH he_
    have HKE := zH (edgesOf_ok rs _ (List.mem_of_getElem? he_))
    have HOA := zH HKE.out.1
    have HOB := zH HKE.out.2
    clear he_
    dsimp only at HOA HOB
    have HPT := zH (show (-1048576 ≤ ay ∧ ay ≤ 1048576) ∧ (-1048576 ≤ bY ∧ bY ≤ 1048576) by have h1 := HOA.out; have h2 := HOB.out; unfold okPt at h1 h2; simp only [Bool.and_eq_true, decide_eq_true_eq] at h1 h2; omega)
    have hv37 := HPT.out
    have hv38 := HEL.out
    have hv39 := HM.out.2
    go_upto_region 9 with fail
    refine zy ?_
    have H40 := zH (H35.out.step (Ext.refl w33).drew)
    have D40 := zH (Dig.of_ext (w := w33) zb)
    refine zx 0 (bs 14 1) (.slice (some ⟨ge, 0, none⟩) ((edgesOf rs).length) ce) zb ?_
    refine zx 1 (bs 14 3) (.int .i64 (i : Int)) zb ?_
    refine zu 2 (bs 14 7) (v := .pointer (some ⟨ge, i * 4, none⟩)) zb ?_ (hv := by intro w hSw; exact ezi (k := i) Tryz.underlying78 (l := hlt) (f := (Nat.zero_add _).symm))
    refine mX 3 (bs 14 15) (.pointer (some ⟨ge, i * 4, none⟩)) zb ?_
    refine zg 4 (bs 14 31) ge (i * 4) [.int .i64 ax, .int .i64 ay] (range_part (H35.out.elem (f := edC) (i := 3) (by rfl) edC_len HE.out) 0 2) Tryz.underlying45 zb ?_
    refine zx 5 (bs 14 63) (.slice (some ⟨ge, 0, none⟩) ((edgesOf rs).length) ce) zb ?_
    refine zx 6 (bs 14 127) (.int .i64 (i : Int)) zb ?_
    refine zu 7 (bs 14 255) (v := .pointer (some ⟨ge, i * 4, none⟩)) zb ?_ (hv := by intro w hSw; exact ezi (k := i) Tryz.underlying78 (l := hlt) (f := (Nat.zero_add _).symm))
    refine mX 8 (bs 14 511) (.pointer (some ⟨ge, i * 4 + 2, none⟩)) zb ?_
    refine zg 9 (bs 14 1023) ge (i * 4 + 2) [.int .i64 bx, .int .i64 bY] (range_part (H35.out.elem (f := edC) (i := 3) (by rfl) edC_len HE.out) 2 2) Tryz.underlying45 zb ?_
    refine md_alloc2 (i := 10) (j := 11) (T := 45) (U := 45) (zs := [.int .i64 0, .int .i64 0]) (us := [.int .i64 0, .int .i64 0]) (li := (bs 14 2047)) (lj := (bs 14 3071)) (lij := (bs 14 4095)) (by rfl) (by rfl) (by kernel_rfl) (by kernel_rfl) (by kernel_rfl) (by kernel_rfl) (by kernel_rfl) (by kernel_rfl) (by kernel_rfl) (by rfl) (by rfl) (by decide) (by intro r_ x_; go_simp) (by intro r_ x_; go_simp) (fun x y h1 h2 => h1.trans h2) zb H40.out (by simp [NoUL]) (by simp [NoUL]) ?_
    intro X50 Y51 w52 hh hx hg1 hg2 hs
    have H53 := zH (show Hp w w52 [.blk X1 27 (rc ry), ro 27 4 A1 m c1 MkE.cx es, ro 3 1 A2 m c2 MkE.cu es, ro 80 4 (some ⟨ge, 0, none⟩) ((edgesOf rs).length) ce edC (edgesOf rs), .blk X50 45 [.int .i64 0, .int .i64 0], .blk Y51 45 [.int .i64 0, .int .i64 0]] from hh)
    have D53 := zH (show Dig w33.drew w52 from Dig.of_ext hx)
    have S55 := zH (show Ext w33 w52 from hs)
    have G56 := zH (show w33.heap.size ≤ X50 from Nat.le_trans zb.size hg1)
    have G57 := zH (show w33.heap.size ≤ Y51 from Nat.le_trans zb.size hg2)
    clear hh hx hg1 hg2 hs
    try simp only [Act.put, zA, zB, zC]
    refine md_st (i := 12) (listed' := (bs 14 8191)) (by rfl) (by kernel_rfl) (by rfl) (by kernel_rfl) _ _ _ (by rfl) H53.out (ix := 4) (by rfl) 0 [.int .i64 ax, .int .i64 ay] (by rfl) (by rfl) (by simp) (by kernel_rfl) (by simp [Value.oneCell']) (by simp [NoUL]) ?_
    intro w58 hh hd ho
    have H59 := zH (show Hp w w58 [.blk X1 27 (rc ry), ro 27 4 A1 m c1 MkE.cx es, ro 3 1 A2 m c2 MkE.cu es, ro 80 4 (some ⟨ge, 0, none⟩) ((edgesOf rs).length) ce edC (edgesOf rs), .blk X50 45 [.int .i64 ax, .int .i64 ay], .blk Y51 45 [.int .i64 0, .int .i64 0]] from hh)
    have D59 := zH (hd)
    have S61 := zH (show Ext w33 w58 from Own.ext ho S55.out G56.out)
    clear hh hd ho
    refine ⟨S61.out, ?_⟩
    (try simp only [Act.put])
    refine md_st (i := 13) (listed' := (bs 14 16383)) (by rfl) (by kernel_rfl) (by rfl) (by kernel_rfl) _ _ _ (by rfl) H59.out (ix := 5) (by rfl) 0 [.int .i64 bx, .int .i64 bY] (by rfl) (by rfl) (by simp) (by kernel_rfl) (by simp [Value.oneCell']) (by simp [NoUL]) ?_
    intro w62 hh hd ho
    have H63 := zH (show Hp w w62 [.blk X1 27 (rc ry), ro 27 4 A1 m c1 MkE.cx es, ro 3 1 A2 m c2 MkE.cu es, ro 80 4 (some ⟨ge, 0, none⟩) ((edgesOf rs).length) ce edC (edgesOf rs), .blk X50 45 [.int .i64 ax, .int .i64 ay], .blk Y51 45 [.int .i64 bx, .int .i64 bY]] from hh)
    have D63 := zH (hd)
    have S65 := zH (show Ext w33 w62 from Own.ext ho S61.out G57.out)
    clear hh hd ho
    refine ⟨S65.out, ?_⟩
    (try simp only [Act.put])
    refine wpAnyH_done (by kernel_rfl) ?_ _
    go_upto_region 10 with fail
    refine zy ?_
    have H66 := zH (H63.out.step (Ext.refl w62).drew)
    have D66 := zH (Dig.of_ext (w := w62) zb)
    refine zx 0 (bs 10 1) (.pointer (some ⟨X50, 1, none⟩)) zb ?_
    refine zf 1 (bs 10 3) X50 1 (.int .i64 ay) (H63.out.range (i := 4) (by rfl) 1 1) zb ?_
    refine zx 3 (bs 10 11) (.pointer (some ⟨Y51, 1, none⟩)) zb ?_
    refine zf 4 (bs 10 27) Y51 1 (.int .i64 bY) (H63.out.range (i := 5) (by rfl) 1 1) zb ?_
    refine tuple2 (f := 2) 2 5 6 7 47 50 12 13 27 z4 (fun v w => ∃ c, v = .agg c ∧ NIs w c (((ay) : Int) : Rat)) (fun v w => ∃ c, v = .agg c ∧ NIs w c (((bY) : Int) : Rat)) rfl rfl rfl rfl (by decide) (by decide) (by kernel_rfl) (fun _ hx => zb.trans hx) (fun _ _ _ h e => by obtain ⟨c, h1, h2⟩ := h; exact ⟨c, h1, h2.ext e⟩) (fun _ _ _ h e => by obtain ⟨c, h1, h2⟩ := h; exact ⟨c, h1, h2.ext e⟩) ?ht70c1 ?ht70c2 ?ht70c3 ?ht70c4 ?ht70e _ _ _ _ (by kernel_rfl) rfl
    case ht70c1 =>
     intro v1 v2 v3 v4 w1 K hxq hSw hK
     try simp only [Act.put, zA, zB, zC]
     rw [if_pos (by rfl)]
     refine wp_call_op (by go_simp) (q03From ay _ (by omega) (by omega)) ?_
     rintro e w' ⟨c_, rfl, hc_, hx⟩
     refine ⟨_, rfl, ?_⟩
     have hk := hK.out _ _ ⟨c_, rfl, hc_⟩ hx
     try simp only [Act.put, zA, zB, zC]
     simp only [Act.put, zA, zB, zC] at hk
     exact hk
    case ht70c2 =>
     intro v1 v2 v3 v4 w1 K hxq hSw hK
     try simp only [Act.put, zA, zB, zC]
     rw [if_pos (by rfl)]
     refine wp_call_op (by go_simp) (q03From bY _ (by omega) (by omega)) ?_
     rintro e w' ⟨c_, rfl, hc_, hx⟩
     refine ⟨_, rfl, ?_⟩
     have hk := hK.out _ _ ⟨c_, rfl, hc_⟩ hx
     try simp only [Act.put, zA, zB, zC]
     simp only [Act.put, zA, zB, zC] at hk
     exact hk
    case ht70c3 =>
     intro v1 v2 v3 v4 w1 K hxq hSw hK
     try simp only [Act.put, zA, zB, zC]
     go_simp
     have hk := hK.out
     simp only [Act.put, zA, zB, zC] at hk
     exact hk
    case ht70c4 =>
     intro v1 v2 v3 v4 w1 K hxq hSw hK
     try simp only [Act.put, zA, zB, zC]
     go_simp
     have hk := hK.out
     simp only [Act.put, zA, zB, zC] at hk
     exact hk
    case ht70e =>
    intro v1_ v2_ X73 Y74 w75 hx hSw xp1 xp2 xb1 xb2 xz1 xz2 n12
    have hh := H66.out.add2 hx xb1 xb2 xz1 xz2 n12 (by simp [NoUL]) (by simp [NoUL])
    have H76 := zH (show Hp w w75 [.blk X1 27 (rc ry), ro 27 4 A1 m c1 MkE.cx es, ro 3 1 A2 m c2 MkE.cu es, ro 80 4 (some ⟨ge, 0, none⟩) ((edgesOf rs).length) ce edC (edgesOf rs), .blk X50 45 [.int .i64 ax, .int .i64 ay], .blk Y51 45 [.int .i64 bx, .int .i64 bY], .blk X73 27 rz, .blk Y74 27 rz] from hh)
    have D76 := zH (show Dig w62.drew w75 from Dig.of_ext hx)
    have S78 := zH (show Ext w62 w75 from zb.trans hx)
    have G79 := zH (show w62.heap.size ≤ X73 from Nat.le_trans zb.size xz1)
    have G80 := zH (show w62.heap.size ≤ Y74 from Nat.le_trans zb.size xz2)
    obtain ⟨c_, rfl, hc_⟩ := xp1
    obtain ⟨r71, rfl, hr_⟩ := hc_
    have R71 := zH hr_
    have B71 := zH (rl_i64 ay (by omega) (by omega))
    clear hr_
    obtain ⟨c_, rfl, hc_⟩ := xp2
    obtain ⟨r72, rfl, hr_⟩ := hc_
    have R72 := zH hr_
    have B72 := zH (rl_i64 bY (by omega) (by omega))
    clear hr_
    clear hh hx hSw xb1 xb2 xz1 xz2 n12
    (try simp only [zA, zB, zC])
    refine md_st (i := 8) (listed' := (bs 10 511)) (by rfl) (by kernel_rfl) (by rfl) (by kernel_rfl) _ _ _ (by rfl) H76.out (ix := 6) (by rfl) 0 [.bool r71.n, .slice r71.p r71.l r71.c, .bool r71.m, .slice r71.p2 r71.l2 r71.c2] (by rfl) (by rfl) (by simp) (by kernel_rfl) (by simp [Value.oneCell']) (by simp [NoUL]) ?_
    intro w81 hh hd ho
    have H82 := zH (show Hp w w81 [.blk X1 27 (rc ry), ro 27 4 A1 m c1 MkE.cx es, ro 3 1 A2 m c2 MkE.cu es, ro 80 4 (some ⟨ge, 0, none⟩) ((edgesOf rs).length) ce edC (edgesOf rs), .blk X50 45 [.int .i64 ax, .int .i64 ay], .blk Y51 45 [.int .i64 bx, .int .i64 bY], .blk X73 27 (rc r71), .blk Y74 27 rz] from hh)
    have D82 := zH (hd)
    have S84 := zH (show Ext w62 w81 from Own.ext ho S78.out G79.out)
    clear hh hd ho
    refine ⟨S84.out, ?_⟩
    (try simp only [Act.put])
    refine md_st (i := 9) (listed' := (bs 10 1023)) (by rfl) (by kernel_rfl) (by rfl) (by kernel_rfl) _ _ _ (by rfl) H82.out (ix := 7) (by rfl) 0 [.bool r72.n, .slice r72.p r72.l r72.c, .bool r72.m, .slice r72.p2 r72.l2 r72.c2] (by rfl) (by rfl) (by simp) (by kernel_rfl) (by simp [Value.oneCell']) (by simp [NoUL]) ?_
    intro w85 hh hd ho
    have H86 := zH (show Hp w w85 [.blk X1 27 (rc ry), ro 27 4 A1 m c1 MkE.cx es, ro 3 1 A2 m c2 MkE.cu es, ro 80 4 (some ⟨ge, 0, none⟩) ((edgesOf rs).length) ce edC (edgesOf rs), .blk X50 45 [.int .i64 ax, .int .i64 ay], .blk Y51 45 [.int .i64 bx, .int .i64 bY], .blk X73 27 (rc r71), .blk Y74 27 (rc r72)] from hh)
    have D86 := zH (hd)
    have S88 := zH (show Ext w62 w85 from Own.ext ho S84.out G80.out)
    clear hh hd ho
    refine ⟨S88.out, ?_⟩
    (try simp only [Act.put])
    refine wpAnyH_done (by kernel_rfl) ?_ _
    go_upto_region 11 with fail
    refine wp_region_lit ?_
    refine zq (.int .i64 0) ?_
    by_cases c90 : ((ay : Int) : Rat) < y
    ·have C1 := zH c90
     clear c90
     by_cases c91 : y < ((bY : Int) : Rat)
     ·have C2 := zH c91
      clear c91
      go_upto_region 12 with fail
      refine wp_region_lit ?_
      refine zd X73 (0) (rc r71) (H86.out.range (i := 6) (by rfl) 0 4) Tryz.underlying27 ?_
      refine zd X1 (0) (rc ry) (H86.out.range (i := 0) (by rfl) 0 4) Tryz.underlying27 ?_
      have DD93 := zH ((D82.out.trans D86.out))
      refine zc (less_any 60000 _ _ (((ay) : Int) : Rat) y _ (RV.Is.nin (R71.out.dig DD93.out) (Nat.le_trans B71.out (by omega))) (RV.In.nin (RV.In.mono (RY.out.dig H86.out.dig0) (by omega))) (by omega)) ?_
      rintro e w92 ⟨rfl, hx⟩
      have H94 := zH (H86.out.step hx)
      have D94 := zH (Dig.of_ext hx)
      clear hx
      refine ⟨.bool true, by rw [dec_t C1.out], ?_⟩
      try simp only [Act.put, zA, zB, zC]
      refine qV (.bool true) ?_
      refine zd X1 (0) (rc ry) (H94.out.range (i := 0) (by rfl) 0 4) Tryz.underlying27 ?_
      refine zd Y74 (0) (rc r72) (H94.out.range (i := 7) (by rfl) 0 4) Tryz.underlying27 ?_
      have DD98 := zH ((DD93.out.trans D94.out))
      refine zc (less_any 60000 _ _ y (((bY) : Int) : Rat) _ (RV.In.nin (RV.In.mono (RY.out.dig H94.out.dig0) (by omega))) (RV.Is.nin (R72.out.dig DD98.out) (Nat.le_trans B72.out (by omega))) (by omega)) ?_
      rintro e w97 ⟨rfl, hx⟩
      have H99 := zH (H94.out.step hx)
      have D99 := zH (Dig.of_ext hx)
      clear hx
      refine ⟨.bool true, by rw [dec_t C2.out], ?_⟩
      try simp only [Act.put, zA, zB, zC]
      refine zq (.bool true) ?_
      go_upto_region 13 with fail
      refine wp_region_lit ?_
      refine zq (.int .i64 1) ?_
      go_upto_region 14 with fail
      refine wp_region_lit ?_
      refine zd Y74 (0) (rc r72) (H99.out.range (i := 7) (by rfl) 0 4) Tryz.underlying27 ?_
      refine zd X1 (0) (rc ry) (H99.out.range (i := 0) (by rfl) 0 4) Tryz.underlying27 ?_
      have DD104 := zH ((DD98.out.trans D99.out))
      refine zc (less_any 60000 _ _ (((bY) : Int) : Rat) y _ (RV.Is.nin (R72.out.dig DD104.out) (Nat.le_trans B72.out (by omega))) (RV.In.nin (RV.In.mono (RY.out.dig H99.out.dig0) (by omega))) (by omega)) ?_
      rintro e w103 ⟨rfl, hx⟩
      have H105 := zH (H99.out.step hx)
      have D105 := zH (Dig.of_ext hx)
      clear hx
      refine ⟨.bool false, by rw [dec_f (fun h_ => absurd h_ (Rat.not_lt.2 (Rat.le_of_lt C2.out)))], ?_⟩
      try simp only [Act.put, zA, zB, zC]
      refine zq (.bool false) ?_
      refine zk ?_
      refine zk ?_
      refine zk ?_
      refine zq (.bool false) ?_
      go_upto_region 16 with fail
      refine wp_region_lit ?_
      refine zq (.int .i64 1) ?_
      refine zp (w' := w103) (.bool false) (by exact ezq (e := (dec_f (by omega)))) ?_
      go_upto_region 17 with fail
      refine wp_region_lit ?_
      refine zd X50 (0) [.int .i64 ax, .int .i64 ay] (H105.out.range (i := 4) (by rfl) 0 2) Tryz.underlying45 ?_
      refine zd Y51 (0) [.int .i64 bx, .int .i64 bY] (H105.out.range (i := 5) (by rfl) 0 2) Tryz.underlying45 ?_
      refine zd X1 (0) (rc ry) (H105.out.range (i := 0) (by rfl) 0 4) Tryz.underlying27 ?_
      refine zc (rxat_any L ax ay bx bY ry y _ (RY.out.dig H105.out.dig0) h1L hL HOA.out HOB.out (xat_pre (.inl ⟨C1.out, C2.out⟩)).1 (xat_pre (.inl ⟨C1.out, C2.out⟩)).2.1 (xat_pre (.inl ⟨C1.out, C2.out⟩)).2.2) ?_
      rintro e w111 ⟨r112, rfl, hr_, hx⟩
      have H113 := zH (H105.out.step hx)
      have D113 := zH (Dig.of_ext hx)
      have R112 := zH hr_
      have B112 := zH (rl_xat (ax := ax) (bx := bx) HOA.out HOB.out RY.out.rl)
      clear hr_
      clear hx
      refine zn ?_
      refine qV (.tuple #[.agg #[.bool r112.n, .slice r112.p r112.l r112.c, .bool r112.m, .slice r112.p2 r112.l2 r112.c2], .bool true]) ?_
      refine zq (.agg #[.bool r112.n, .slice r112.p r112.l r112.c, .bool r112.m, .slice r112.p2 r112.l2 r112.c2]) ?_
      refine zq (.bool true) ?_
      refine mv_alloc (T := 27) (zs := [.bool false, .slice none 0 0, .bool false, .slice none 0 0]) (by rfl) (by go_simp) H113.out (by simp [NoUL]) ?_
      intro X118 w119 hh hx hge
      have H120 := zH (show Hp w w119 [.blk X1 27 (rc ry), ro 27 4 A1 m c1 MkE.cx es, ro 3 1 A2 m c2 MkE.cu es, ro 80 4 (some ⟨ge, 0, none⟩) ((edgesOf rs).length) ce edC (edgesOf rs), .blk X50 45 [.int .i64 ax, .int .i64 ay], .blk Y51 45 [.int .i64 bx, .int .i64 bY], .blk X73 27 (rc r71), .blk Y74 27 (rc r72), .blk X118 27 rz] from hh)
      have D120 := zH (Dig.of_ext hx)
      clear hh hx hge
      try simp only [Act.put, zA, zB, zC]
      refine mv_st (by rfl) _ _ _ (by rfl) H120.out (ix := 8) (by rfl) 0 [.bool r112.n, .slice r112.p r112.l r112.c, .bool r112.m, .slice r112.p2 r112.l2 r112.c2] (by rfl) (by rfl) (by simp) (by kernel_rfl) (by simp [Value.oneCell']) (by simp [NoUL]) ?_
      intro w123 hh hd ho
      have H124 := zH (show Hp w w123 [.blk X1 27 (rc ry), ro 27 4 A1 m c1 MkE.cx es, ro 3 1 A2 m c2 MkE.cu es, ro 80 4 (some ⟨ge, 0, none⟩) ((edgesOf rs).length) ce edC (edgesOf rs), .blk X50 45 [.int .i64 ax, .int .i64 ay], .blk Y51 45 [.int .i64 bx, .int .i64 bY], .blk X73 27 (rc r71), .blk Y74 27 (rc r72), .blk X118 27 (rc r112)] from hh)
      have D124 := zH (hd)
      clear hh hd ho
      (try simp only [Act.put])
      refine zq (.bool true) ?_
      go_upto_region 18 with fail
      refine wp_region_lit ?_
      refine qV (.slice A1 m c1) ?_
      refine zd X118 (0) (rc r112) (H124.out.range (i := 8) (by rfl) 0 4) Tryz.underlying27 ?_
      refine zp (w' := (w123.alloc (.cells ([.bool r112.n, .slice r112.p r112.l r112.c, .bool r112.m, .slice r112.p2 r112.l2 r112.c2] : List Value).toArray 27))) (.slice (some ⟨w123.heap.size, 0, none⟩) 1 1) (by go_simp) ?_
      refine mv_app (by rfl) _ _ _ (by rfl) elRat (by rfl) H124.out (ix := 1) (by rfl) 1 1 [.bool r112.n, .slice r112.p r112.l r112.c, .bool r112.m, .slice r112.p2 r112.l2 r112.c2] (by rfl) rfl (by simp [Value.oneCell']) (by simp [NoUL]) (by decide) (by unfold maxLen; exact (by omega)) (by omega) ?_
      intro g129 cp130 w128 hf hh hd hg
      have Fg129 := zH hf
      clear hf
      rw [show List.flatMap MkE.cx es ++ [.bool r112.n, .slice r112.p r112.l r112.c, .bool r112.m, .slice r112.p2 r112.l2 r112.c2] = _ from flat_snoc MkE.cx _ (⟨r112, (xatV ax ay bx bY y), 1⟩ : MkE)] at hh
      have H131 := zH (show Hp w w128 [.blk X1 27 (rc ry), ro 27 4 (some ⟨g129, 0, none⟩) (m + 1) cp130 MkE.cx (es ++ [(⟨r112, (xatV ax ay bx bY y), 1⟩ : MkE)]), ro 3 1 A2 m c2 MkE.cu es, ro 80 4 (some ⟨ge, 0, none⟩) ((edgesOf rs).length) ce edC (edgesOf rs), .blk X50 45 [.int .i64 ax, .int .i64 ay], .blk Y51 45 [.int .i64 bx, .int .i64 bY], .blk X73 27 (rc r71), .blk Y74 27 (rc r72), .blk X118 27 (rc r112)] from hh)
      have D131 := zH (hd)
      clear hh hd hg
      try simp only [Act.put, zA, zB, zC]
      refine zq (.slice (some ⟨g129, 0, none⟩) (m + 1) cp130) ?_
      go_upto_region 19 with fail
      refine wp_region_lit ?_
      refine qV (.slice A2 m c2) ?_
      refine zq (.int .i64 1) ?_
      refine zp (w' := (w128.alloc (.cells ([.int .i64 1] : List Value).toArray 3))) (.slice (some ⟨w128.heap.size, 0, none⟩) 1 1) (by go_simp) ?_
      refine mv_app (by rfl) _ _ _ (by rfl) elInt (by rfl) H131.out (ix := 2) (by rfl) 1 1 [.int .i64 1] (by rfl) rfl (by simp [Value.oneCell']) (by simp [NoUL]) (by decide) (by unfold maxLen; exact (by omega)) (by omega) ?_
      intro g137 cp138 w136 hf hh hd hg
      have Fg137 := zH hf
      clear hf
      rw [show List.flatMap MkE.cu es ++ [.int .i64 1] = _ from flat_snoc MkE.cu _ (⟨r112, (xatV ax ay bx bY y), 1⟩ : MkE)] at hh
      have H139 := zH (show Hp w w136 [.blk X1 27 (rc ry), ro 27 4 (some ⟨g129, 0, none⟩) (m + 1) cp130 MkE.cx (es ++ [(⟨r112, (xatV ax ay bx bY y), 1⟩ : MkE)]), ro 3 1 (some ⟨g137, 0, none⟩) (m + 1) cp138 MkE.cu (es ++ [(⟨r112, (xatV ax ay bx bY y), 1⟩ : MkE)]), ro 80 4 (some ⟨ge, 0, none⟩) ((edgesOf rs).length) ce edC (edgesOf rs), .blk X50 45 [.int .i64 ax, .int .i64 ay], .blk Y51 45 [.int .i64 bx, .int .i64 bY], .blk X73 27 (rc r71), .blk Y74 27 (rc r72), .blk X118 27 (rc r112)] from hh)
      have D139 := zH (hd)
      clear hh hd hg
      try simp only [Act.put, zA, zB, zC]
      refine zq (.slice (some ⟨g137, 0, none⟩) (m + 1) cp138) ?_
      obtain ⟨ey, hey_⟩ : ∃ ey : MkE, ey = (⟨r112, (xatV ax ay bx bY y), 1⟩ : MkE) := ⟨_, rfl⟩
      have HZ := zH hey_
      have H142 := zH (show Hp w w136 [.blk X1 27 (rc ry), ro 27 4 (some ⟨g129, 0, none⟩) (m + 1) cp130 MkE.cx (es.take m ++ ey :: es.drop m), ro 3 1 (some ⟨g137, 0, none⟩) (m + 1) cp138 MkE.cu (es.take m ++ ey :: es.drop m), ro 80 4 (some ⟨ge, 0, none⟩) ((edgesOf rs).length) ce edC (edgesOf rs), .blk X50 45 [.int .i64 ax, .int .i64 ay], .blk Y51 45 [.int .i64 bx, .int .i64 bY], .blk X73 27 (rc r71), .blk Y74 27 (rc r72), .blk X118 27 (rc r112)] from by rw [show es.take m ++ ey :: es.drop m = es ++ [(⟨r112, (xatV ax ay bx bY y), 1⟩ : MkE)] by rw [List.take_of_length_le (by have := HM.out.1; omega), List.drop_of_length_le (by have := HM.out.1; omega), HZ.out]]; exact H139.out)
      have DD143 := zH ((((D120.out.trans D124.out).trans D131.out).trans D139.out))
      have HOY := zH (show ey.Ok (L + 8) w136 from by rw [HZ.out]; exact ⟨(R112.out.dig DD143.out), (show Nm.rl (xatV ax ay bx bY y) ≤ L + 8 by have q_ := B112.out; omega), (show (-1 : Int) ≤ 1 by decide), (show 1 ≤ (1 : Int) by decide)⟩)
      have HVY := zH (show ey.vl = (xatV ax ay bx bY y, 1) from by rw [HZ.out]; rfl)
      have HINS := zH (show (Stb.ins ltK es ey).map MkE.vl = Stb.stab ltM (((edgesOf rs).take (i + 1)).filterMap (crossV y)) by rw [crs_some HE.out (cross_up (a := (ax, ay)) (b := (bx, bY)) ⟨C1.out, C2.out⟩), ← HVL.out, ← HVY.out]; exact ins_map MkE.vl (fun _ _ => rfl) es ey)
      have HSRT := zH (show Stb.Srt ltK es from srt_mk (by rw [HVL.out]; exact Stb.stab_srt wkM _))
      go_upto_region 20 with fail
      refine wp_region_lit ?_
      refine qV (.slice (some ⟨g129, 0, none⟩) (m + 1) cp130) ?_
      refine zq (.int .i64 ((m + 1 : Nat) : Int)) ?_
      refine zp (w' := w136) (.int .i64 (m : Int)) (by exact ez2 (by omega)) ?_
      refine zq (.int .i64 (m : Int)) ?_
      have DD148 := zH ((((((((((((((((D40.out.trans D53.out).trans D59.out).trans D63.out).trans D66.out).trans D76.out).trans D82.out).trans D86.out).trans D94.out).trans D99.out).trans D105.out).trans D113.out).trans D120.out).trans D124.out).trans D131.out).trans D139.out))
      go_wp2_with fail
      go_loopg [17] (m + 1) (fun cq v149 wr => ∃ (t : Nat) (u : Nat), cq = (m + 1) - t ∧ v149 = .int .i64 (u : Int) ∧ (t + u = m) ∧ (∀ z, z ∈ es.drop u → ltK ey z = true) ∧ (∀ e, e ∈ es.take u ++ ey :: es.drop u → e.Ok (L + 8) wr) ∧ Hp w wr [.blk X1 27 [.bool ry.n, .slice ry.p ry.l ry.c, .bool ry.m, .slice ry.p2 ry.l2 ry.c2], .row 27 4 (.slice (some ⟨g129, 0, none⟩) (m + 1) cp130) (m + 1) (List.flatMap MkE.cx (es.take u ++ ey :: es.drop u)), .row 3 1 (.slice (some ⟨g137, 0, none⟩) (m + 1) cp138) (m + 1) (List.flatMap MkE.cu (es.take u ++ ey :: es.drop u)), .row 80 4 (.slice (some ⟨ge, 0, none⟩) ((edgesOf rs).length) ce) ((edgesOf rs).length) (List.flatMap edC (edgesOf rs)), .blk X50 45 [.int .i64 ax, .int .i64 ay], .blk Y51 45 [.int .i64 bx, .int .i64 bY], .blk X73 27 [.bool r71.n, .slice r71.p r71.l r71.c, .bool r71.m, .slice r71.p2 r71.l2 r71.c2], .blk Y74 27 [.bool r72.n, .slice r72.p r72.l r72.c, .bool r72.m, .slice r72.p2 r72.l2 r72.c2], .blk X118 27 [.bool r112.n, .slice r112.p r112.l r112.c, .bool r112.m, .slice r112.p2 r112.l2 r112.c2]] ∧ Dig w136 wr)
      case atStart => exact ⟨0, m, rfl, rfl, Nat.zero_add _, (fun z_ hz_ => by rw [List.drop_of_length_le (by have := HM.out.1; omega)] at hz_; simp at hz_), (fun g_ hg_ => by rw [List.take_of_length_le (by have := HM.out.1; omega), List.drop_of_length_le (by have := HM.out.1; omega)] at hg_; exact (List.mem_append.1 hg_).elim (fun hg_ => (HOE.out g_ hg_).dig DD148.out) (fun hg_ => by rw [List.mem_singleton.1 hg_]; exact HOY.out)), H142.out, Dig.refl _⟩
      case round =>
       obtain ⟨t, u, rfl, rfl, q_HTU, q_HALL, q_HOK2, hh_, hd_⟩ := hrel
       generalize wr = w150 at *
       have HTU := zH q_HTU
       clear q_HTU
       have HALL := zH q_HALL
       clear q_HALL
       have HOK2 := zH q_HOK2
       clear q_HOK2
       have H152 := zH hh_
       have D152 := zH hd_
       clear hh_ hd_ H142
       by_cases c153 : 0 < u
       ·have HU0 := zH c153
        clear c153
        have hu0 := HU0.out
        obtain ⟨q, rfl⟩ : ∃ q, u = q + 1 := ⟨u - 1, by omega⟩
        have HTQ := zH (show q < es.length by have h1 := HTU.out; have h2 := HM.out.1; omega)
        have hqm : q < m := by have h1 := HTU.out; omega
        obtain ⟨gx_, gy_, gs_, gz_⟩ := ins_at (y := ey) HTQ.out
        obtain ⟨ex, hex_⟩ : ∃ ex, ex = es[q]'HTQ.out := ⟨_, rfl⟩
        rw [← hex_] at gx_ gs_ gz_
        have HXE := zH hex_
        have GX := zH gx_
        have GY := zH gy_
        have GS := zH gs_
        have GZ := zH gz_
        have HLX := zH (List.getElem?_eq_some_iff.1 gx_).1
        have HLY := zH (List.getElem?_eq_some_iff.1 gy_).1
        clear gx_ gy_ gs_ gz_ hex_
        have OX := zH (HOK2.out ex (List.mem_of_getElem? GX.out))
        have OY := zH (HOK2.out ey (List.mem_of_getElem? GY.out))
        have RX := zH OX.out.1
        have RZ := zH OY.out.1
        have BX := zH OX.out.2.1
        have BZ := zH OY.out.2.1
        have HXS := zH OX.out.2.2
        have HYS := zH OY.out.2.2
        have hv154 := HEL.out
        have hv155 := HM.out.2
        have hv156 := HXS.out
        have hv157 := HYS.out
        rcases hcb_ : ltK ey ex with _ | _
        ·have CB := zH hcb_
         clear hcb_
         go_upto_region 21 with fail
         refine zy ?_
         have H158 := zH (H152.out.step (Ext.refl w150).drew)
         have D158 := zH (Dig.of_ext (w := w150) zb)
         refine zx 0 (bs 23 1) (.int .i64 ((q + 1 : Nat) : Int)) zb ?_
         refine zu 1 (bs 23 3) (v := .bool true) zb ?_ (hv := by intro w hSw; exact ezg (e := (dec_t (by omega))))
         refine zx 2 (bs 23 7) (.bool true) zb ?_
         refine zx 3 (bs 23 15) (.slice (some ⟨g129, 0, none⟩) (m + 1) cp130) zb ?_
         refine zx 4 (bs 23 31) (.int .i64 ((q + 1 : Nat) : Int)) zb ?_
         refine zo 5 (bs 23 63) (v := .pointer (some ⟨g129, (q + 1) * 4, none⟩)) zb ?_ (hv := by intro w hSw; exact ezi (k := q + 1) Tryz.underlying47 (l := (show q + 1 < m + 1 by omega)) (f := (Nat.zero_add _).symm))
         refine zg 6 (bs 23 127) g129 ((q + 1) * 4) (rc ey.a) (H152.out.elem (f := MkE.cx) (i := 1) (by rfl) MkE.cx_len GY.out) Tryz.underlying27 zb ?_
         refine zx 7 (bs 23 255) (.slice (some ⟨g137, 0, none⟩) (m + 1) cp138) zb ?_
         refine zx 8 (bs 23 511) (.int .i64 ((q + 1 : Nat) : Int)) zb ?_
         refine zu 9 (bs 23 1023) (v := .pointer (some ⟨g137, (q + 1) * 1, none⟩)) zb ?_ (hv := by intro w hSw; exact ezi (k := q + 1) Tryz.underlying32 (l := (show q + 1 < m + 1 by omega)) (f := (Nat.zero_add _).symm))
         refine zf 10 (bs 23 2047) g137 ((q + 1) * 1) (.int .i64 ey.up) (H152.out.elem (f := MkE.cu) (i := 2) (by rfl) MkE.cu_len GY.out) zb ?_
         refine zx 11 (bs 23 4095) (.slice (some ⟨g129, 0, none⟩) (m + 1) cp130) zb ?_
         refine zx 12 (bs 23 8191) (.int .i64 ((q + 1 : Nat) : Int)) zb ?_
         refine zu 13 (bs 23 16383) (v := .int .i64 (q : Int)) zb ?_ (hv := by intro w hSw; exact ez2 (by omega))
         refine zo 14 (bs 23 32767) (v := .pointer (some ⟨g129, q * 4, none⟩)) zb ?_ (hv := by intro w hSw; exact ezi (k := q) Tryz.underlying47 (l := (show q < m + 1 by omega)) (f := (Nat.zero_add _).symm))
         refine zg 15 (bs 23 65535) g129 (q * 4) (rc ex.a) (H152.out.elem (f := MkE.cx) (i := 1) (by rfl) MkE.cx_len GX.out) Tryz.underlying27 zb ?_
         refine zx 16 (bs 23 131071) (.slice (some ⟨g137, 0, none⟩) (m + 1) cp138) zb ?_
         refine zx 17 (bs 23 262143) (.int .i64 ((q + 1 : Nat) : Int)) zb ?_
         refine zu 18 (bs 23 524287) (v := .int .i64 (q : Int)) zb ?_ (hv := by intro w hSw; exact ez2 (by omega))
         refine zu 19 (bs 23 1048575) (v := .pointer (some ⟨g137, q * 1, none⟩)) zb ?_ (hv := by intro w hSw; exact ezi (k := q) Tryz.underlying32 (l := (show q < m + 1 by omega)) (f := (Nat.zero_add _).symm))
         refine zf 20 (bs 23 2097151) g137 (q * 1) (.int .i64 ex.up) (H152.out.elem (f := MkE.cu) (i := 2) (by rfl) MkE.cu_len GX.out) zb ?_
         refine mC 21 (bs 23 4194303) (before_any 60000 _ _ ey.q ex.q ey.up ex.up _ (RV.Is.nin (RZ.out.dig D158.out) (Nat.le_trans BZ.out (by omega))) (RV.Is.nin (RX.out.dig D158.out) (Nat.le_trans BX.out (by omega))) (by decide)) ?_
         rintro e w177 ⟨rfl, hx⟩
         have H178 := zH (H158.out.step hx)
         have D178 := zH (show Dig w150.drew w177 from Dig.of_ext hx)
         have S180 := zH (show Ext w150 w177 from zb.trans hx)
         clear hx
         refine ⟨.bool false, by rw [show beforeV ey.q ey.up ex.q ex.up = false from CB.out], S180.out, ?_⟩
         try simp only [Act.put, zA, zB, zC]
         refine zx 22 (bs 23 8388607) (.bool false) S180.out ?_
         refine wpAnyH_done (by kernel_rfl) ?_ _
         have H182 := zH (show Hp w w177 [.blk X1 27 (rc ry), ro 27 4 (some ⟨g129, 0, none⟩) (m + 1) cp130 MkE.cx (Stb.ins ltK es ey), ro 3 1 (some ⟨g137, 0, none⟩) (m + 1) cp138 MkE.cu (Stb.ins ltK es ey), ro 80 4 (some ⟨ge, 0, none⟩) ((edgesOf rs).length) ce edC (edgesOf rs), .blk X50 45 [.int .i64 ax, .int .i64 ay], .blk Y51 45 [.int .i64 bx, .int .i64 bY], .blk X73 27 (rc r71), .blk Y74 27 (rc r72), .blk X118 27 (rc r112)] from by rw [Stb.ins_stop wkK HSRT.out HALL.out (by have h1 := HTQ.out; omega) (Or.inr ⟨q, rfl, HTQ.out, by rw [← HXE.out]; exact CB.out⟩)]; exact H178.out)
         have DD183 := zH ((D158.out.trans D178.out))
         have DD184 := zH ((((((((((((((((((((D35.out.trans D40.out).trans D53.out).trans D59.out).trans D63.out).trans D66.out).trans D76.out).trans D82.out).trans D86.out).trans D94.out).trans D99.out).trans D105.out).trans D113.out).trans D120.out).trans D124.out).trans D131.out).trans D139.out).trans D152.out).trans D158.out).trans D178.out))
         go_wp2_with fail
         go_roundg ((edgesOf rs).length - (i + 1))
         case measure => exact (by omega)
         case rel => exact ⟨i + 1, m + 1, Stb.ins ltK es ey, some ⟨g129, 0, none⟩, cp130, some ⟨g137, 0, none⟩, cp138, rfl, rfl, rfl, (by go_num), hlt, ⟨by rw [Stb.ins_len, HM.out.1], by have := HM.out.2; omega⟩, HINS.out, (fun g_ hg_ => by rw [Stb.ins_stop wkK HSRT.out HALL.out (by have h1 := HTQ.out; omega) (Or.inr ⟨q, rfl, HTQ.out, by rw [← HXE.out]; exact CB.out⟩)] at hg_; exact ((HOK2.out g_ hg_).dig DD183.out)), H182.out.take 4, DD184.out⟩
        have CB := zH hcb_
        clear hcb_
        go_upto_region 21 with fail
        refine zy ?_
        have H185 := zH (H152.out.step (Ext.refl w150).drew)
        have D185 := zH (Dig.of_ext (w := w150) zb)
        refine zx 0 (bs 23 1) (.int .i64 ((q + 1 : Nat) : Int)) zb ?_
        refine zu 1 (bs 23 3) (v := .bool true) zb ?_ (hv := by intro w hSw; exact ezg (e := (dec_t (by omega))))
        refine zx 2 (bs 23 7) (.bool true) zb ?_
        refine zx 3 (bs 23 15) (.slice (some ⟨g129, 0, none⟩) (m + 1) cp130) zb ?_
        refine zx 4 (bs 23 31) (.int .i64 ((q + 1 : Nat) : Int)) zb ?_
        refine zo 5 (bs 23 63) (v := .pointer (some ⟨g129, (q + 1) * 4, none⟩)) zb ?_ (hv := by intro w hSw; exact ezi (k := q + 1) Tryz.underlying47 (l := (show q + 1 < m + 1 by omega)) (f := (Nat.zero_add _).symm))
        refine zg 6 (bs 23 127) g129 ((q + 1) * 4) (rc ey.a) (H152.out.elem (f := MkE.cx) (i := 1) (by rfl) MkE.cx_len GY.out) Tryz.underlying27 zb ?_
        refine zx 7 (bs 23 255) (.slice (some ⟨g137, 0, none⟩) (m + 1) cp138) zb ?_
        refine zx 8 (bs 23 511) (.int .i64 ((q + 1 : Nat) : Int)) zb ?_
        refine zu 9 (bs 23 1023) (v := .pointer (some ⟨g137, (q + 1) * 1, none⟩)) zb ?_ (hv := by intro w hSw; exact ezi (k := q + 1) Tryz.underlying32 (l := (show q + 1 < m + 1 by omega)) (f := (Nat.zero_add _).symm))
        refine zf 10 (bs 23 2047) g137 ((q + 1) * 1) (.int .i64 ey.up) (H152.out.elem (f := MkE.cu) (i := 2) (by rfl) MkE.cu_len GY.out) zb ?_
        refine zx 11 (bs 23 4095) (.slice (some ⟨g129, 0, none⟩) (m + 1) cp130) zb ?_
        refine zx 12 (bs 23 8191) (.int .i64 ((q + 1 : Nat) : Int)) zb ?_
        refine zu 13 (bs 23 16383) (v := .int .i64 (q : Int)) zb ?_ (hv := by intro w hSw; exact ez2 (by omega))
        refine zo 14 (bs 23 32767) (v := .pointer (some ⟨g129, q * 4, none⟩)) zb ?_ (hv := by intro w hSw; exact ezi (k := q) Tryz.underlying47 (l := (show q < m + 1 by omega)) (f := (Nat.zero_add _).symm))
        refine zg 15 (bs 23 65535) g129 (q * 4) (rc ex.a) (H152.out.elem (f := MkE.cx) (i := 1) (by rfl) MkE.cx_len GX.out) Tryz.underlying27 zb ?_
        refine zx 16 (bs 23 131071) (.slice (some ⟨g137, 0, none⟩) (m + 1) cp138) zb ?_
        refine zx 17 (bs 23 262143) (.int .i64 ((q + 1 : Nat) : Int)) zb ?_
        refine zu 18 (bs 23 524287) (v := .int .i64 (q : Int)) zb ?_ (hv := by intro w hSw; exact ez2 (by omega))
        refine zu 19 (bs 23 1048575) (v := .pointer (some ⟨g137, q * 1, none⟩)) zb ?_ (hv := by intro w hSw; exact ezi (k := q) Tryz.underlying32 (l := (show q < m + 1 by omega)) (f := (Nat.zero_add _).symm))
        refine zf 20 (bs 23 2097151) g137 (q * 1) (.int .i64 ex.up) (H152.out.elem (f := MkE.cu) (i := 2) (by rfl) MkE.cu_len GX.out) zb ?_
        refine mC 21 (bs 23 4194303) (before_any 60000 _ _ ey.q ex.q ey.up ex.up _ (RV.Is.nin (RZ.out.dig D185.out) (Nat.le_trans BZ.out (by omega))) (RV.Is.nin (RX.out.dig D185.out) (Nat.le_trans BX.out (by omega))) (by decide)) ?_
        rintro e w204 ⟨rfl, hx⟩
        have H205 := zH (H185.out.step hx)
        have D205 := zH (show Dig w150.drew w204 from Dig.of_ext hx)
        have S207 := zH (show Ext w150 w204 from zb.trans hx)
        clear hx
        refine ⟨.bool true, by rw [show beforeV ey.q ey.up ex.q ex.up = true from CB.out], S207.out, ?_⟩
        try simp only [Act.put, zA, zB, zC]
        refine zx 22 (bs 23 8388607) (.bool true) S207.out ?_
        refine wpAnyH_done (by kernel_rfl) ?_ _
        go_upto_region 23 with fail
        refine zy ?_
        have H209 := zH (H205.out.step (Ext.refl w204).drew)
        have D209 := zH (Dig.of_ext (w := w204) zb)
        refine zx 0 (bs 11 1) (.slice (some ⟨g129, 0, none⟩) (m + 1) cp130) zb ?_
        refine zx 1 (bs 11 3) (.int .i64 ((q + 1 : Nat) : Int)) zb ?_
        refine zo 2 (bs 11 7) (v := .pointer (some ⟨g129, (q + 1) * 4, none⟩)) zb ?_ (hv := by intro w hSw; exact ezi (k := q + 1) Tryz.underlying47 (l := (show q + 1 < m + 1 by omega)) (f := (Nat.zero_add _).symm))
        refine zg 3 (bs 11 15) g129 ((q + 1) * 4) (rc ey.a) (H205.out.elem (f := MkE.cx) (i := 1) (by rfl) MkE.cx_len GY.out) Tryz.underlying27 zb ?_
        refine zx 4 (bs 11 31) (.slice (some ⟨g137, 0, none⟩) (m + 1) cp138) zb ?_
        refine zx 5 (bs 11 63) (.int .i64 ((q + 1 : Nat) : Int)) zb ?_
        refine zu 6 (bs 11 127) (v := .pointer (some ⟨g137, (q + 1) * 1, none⟩)) zb ?_ (hv := by intro w hSw; exact ezi (k := q + 1) Tryz.underlying32 (l := (show q + 1 < m + 1 by omega)) (f := (Nat.zero_add _).symm))
        refine zf 7 (bs 11 255) g137 ((q + 1) * 1) (.int .i64 ey.up) (H205.out.elem (f := MkE.cu) (i := 2) (by rfl) MkE.cu_len GY.out) zb ?_
        refine md_alloc (T := 27) (zs := [.bool false, .slice none 0 0, .bool false, .slice none 0 0]) (i := 8) (listed' := (bs 11 511)) (by rfl) (by kernel_rfl) (by rfl) (by go_simp) (by kernel_rfl) H209.out (by simp [NoUL]) ?_
        intro X217 w218 hh hx hge
        have H219 := zH (show Hp w w218 [.blk X1 27 (rc ry), ro 27 4 (some ⟨g129, 0, none⟩) (m + 1) cp130 MkE.cx (es.take (q + 1) ++ ey :: es.drop (q + 1)), ro 3 1 (some ⟨g137, 0, none⟩) (m + 1) cp138 MkE.cu (es.take (q + 1) ++ ey :: es.drop (q + 1)), ro 80 4 (some ⟨ge, 0, none⟩) ((edgesOf rs).length) ce edC (edgesOf rs), .blk X50 45 [.int .i64 ax, .int .i64 ay], .blk Y51 45 [.int .i64 bx, .int .i64 bY], .blk X73 27 (rc r71), .blk Y74 27 (rc r72), .blk X118 27 (rc r112), .blk X217 27 rz] from hh)
        have D219 := zH (show Dig w204.drew w218 from Dig.of_ext hx)
        have S222 := zH (show Ext w204 w218 from zb.trans hx)
        have G221 := zH (show w204.heap.size ≤ X217 from Nat.le_trans zb.size hge)
        clear hh hx hge
        refine ⟨S222.out, ?_⟩
        try simp only [Act.put, zA, zB, zC]
        refine md_st (i := 9) (listed' := (bs 11 1023)) (by rfl) (by kernel_rfl) (by rfl) (by kernel_rfl) _ _ _ (by rfl) H219.out (ix := 9) (by rfl) 0 [.bool ey.a.n, .slice ey.a.p ey.a.l ey.a.c, .bool ey.a.m, .slice ey.a.p2 ey.a.l2 ey.a.c2] (by rfl) (by rfl) (by simp) (by kernel_rfl) (by simp [Value.oneCell']) (by simp [NoUL]) ?_
        intro w223 hh hd ho
        have H224 := zH (show Hp w w223 [.blk X1 27 (rc ry), ro 27 4 (some ⟨g129, 0, none⟩) (m + 1) cp130 MkE.cx (es.take (q + 1) ++ ey :: es.drop (q + 1)), ro 3 1 (some ⟨g137, 0, none⟩) (m + 1) cp138 MkE.cu (es.take (q + 1) ++ ey :: es.drop (q + 1)), ro 80 4 (some ⟨ge, 0, none⟩) ((edgesOf rs).length) ce edC (edgesOf rs), .blk X50 45 [.int .i64 ax, .int .i64 ay], .blk Y51 45 [.int .i64 bx, .int .i64 bY], .blk X73 27 (rc r71), .blk Y74 27 (rc r72), .blk X118 27 (rc r112), .blk X217 27 (rc ey.a)] from hh)
        have D224 := zH (hd)
        have S226 := zH (show Ext w204 w223 from Own.ext ho S222.out G221.out)
        clear hh hd ho
        refine ⟨S226.out, ?_⟩
        (try simp only [Act.put])
        refine zx 10 (bs 11 2047) (.int .i64 ey.up) S226.out ?_
        refine wpAnyH_done (by kernel_rfl) ?_ _
        go_upto_region 24 with fail
        refine wp_region_lit ?_
        refine qV (.slice (some ⟨g129, 0, none⟩) (m + 1) cp130) ?_
        refine zq (.int .i64 ((q + 1 : Nat) : Int)) ?_
        refine qV (.slice (some ⟨g129, 0, none⟩) (m + 1) cp130) ?_
        refine zq (.int .i64 ((q + 1 : Nat) : Int)) ?_
        refine zp (w' := w223) (.int .i64 (q : Int)) (by exact ez2 (by omega)) ?_
        refine zp (w' := w223) (.pointer (some ⟨g129, q * 4, none⟩)) (by exact ezi (k := q) Tryz.underlying47 (l := (show q < m + 1 by omega)) (f := (Nat.zero_add _).symm)) ?_
        refine zd g129 (q * 4) (rc ex.a) (H224.out.elem (f := MkE.cx) (i := 1) (by rfl) MkE.cx_len GX.out) Tryz.underlying27 ?_
        refine zp (w' := w223) (.pointer (some ⟨g129, (q + 1) * 4, none⟩)) (by exact ezi (k := q + 1) Tryz.underlying47 (l := (show q + 1 < m + 1 by omega)) (f := (Nat.zero_add _).symm)) ?_
        refine mv_stElem (f := MkE.cx) (by rfl) _ _ _ (by rfl) H224.out (ix := 1) (by rfl) MkE.cx_len (q + 1) ex HLY.out [.bool ex.a.n, .slice ex.a.p ex.a.l ex.a.c, .bool ex.a.m, .slice ex.a.p2 ex.a.l2 ex.a.c2] (by rfl) ((q + 1) * 4) (by rfl) (by rfl) (by rfl) (by kernel_rfl) (by simp [Value.oneCell']) (by simp [NoUL]) ?_
        intro w236 hh hd ho
        have H237 := zH (show Hp w w236 [.blk X1 27 (rc ry), ro 27 4 (some ⟨g129, 0, none⟩) (m + 1) cp130 MkE.cx ((es.take (q + 1) ++ ey :: es.drop (q + 1)).set (q + 1) ex), ro 3 1 (some ⟨g137, 0, none⟩) (m + 1) cp138 MkE.cu (es.take (q + 1) ++ ey :: es.drop (q + 1)), ro 80 4 (some ⟨ge, 0, none⟩) ((edgesOf rs).length) ce edC (edgesOf rs), .blk X50 45 [.int .i64 ax, .int .i64 ay], .blk Y51 45 [.int .i64 bx, .int .i64 bY], .blk X73 27 (rc r71), .blk Y74 27 (rc r72), .blk X118 27 (rc r112), .blk X217 27 (rc ey.a)] from hh)
        have D237 := zH (hd)
        clear hh hd ho
        (try simp only [Act.put])
        go_upto_region 25 with fail
        refine wp_region_lit ?_
        refine qV (.slice (some ⟨g129, 0, none⟩) (m + 1) cp130) ?_
        refine zq (.int .i64 ((q + 1 : Nat) : Int)) ?_
        refine zp (w' := w236) (.int .i64 (q : Int)) (by exact ez2 (by omega)) ?_
        refine zd X217 (0) (rc ey.a) (H237.out.range (i := 9) (by rfl) 0 4) Tryz.underlying27 ?_
        refine zp (w' := w236) (.pointer (some ⟨g129, q * 4, none⟩)) (by exact ezi (k := q) Tryz.underlying47 (l := (show q < m + 1 by omega)) (f := (Nat.zero_add _).symm)) ?_
        refine mv_stElem (f := MkE.cx) (by rfl) _ _ _ (by rfl) H237.out (ix := 1) (by rfl) MkE.cx_len q ey (by rw [List.length_set]; exact HLX.out) [.bool ey.a.n, .slice ey.a.p ey.a.l ey.a.c, .bool ey.a.m, .slice ey.a.p2 ey.a.l2 ey.a.c2] (by rfl) (q * 4) (by rfl) (by rfl) (by rfl) (by kernel_rfl) (by simp [Value.oneCell']) (by simp [NoUL]) ?_
        intro w244 hh hd ho
        have H245 := zH (show Hp w w244 [.blk X1 27 (rc ry), ro 27 4 (some ⟨g129, 0, none⟩) (m + 1) cp130 MkE.cx (((es.take (q + 1) ++ ey :: es.drop (q + 1)).set (q + 1) ex).set q ey), ro 3 1 (some ⟨g137, 0, none⟩) (m + 1) cp138 MkE.cu (es.take (q + 1) ++ ey :: es.drop (q + 1)), ro 80 4 (some ⟨ge, 0, none⟩) ((edgesOf rs).length) ce edC (edgesOf rs), .blk X50 45 [.int .i64 ax, .int .i64 ay], .blk Y51 45 [.int .i64 bx, .int .i64 bY], .blk X73 27 (rc r71), .blk Y74 27 (rc r72), .blk X118 27 (rc r112), .blk X217 27 (rc ey.a)] from hh)
        have D245 := zH (hd)
        clear hh hd ho
        (try simp only [Act.put])
        go_upto_region 26 with fail
        refine wp_region_lit ?_
        refine qV (.slice (some ⟨g137, 0, none⟩) (m + 1) cp138) ?_
        refine zq (.int .i64 ((q + 1 : Nat) : Int)) ?_
        refine qV (.slice (some ⟨g137, 0, none⟩) (m + 1) cp138) ?_
        refine zq (.int .i64 ((q + 1 : Nat) : Int)) ?_
        refine zp (w' := w244) (.int .i64 (q : Int)) (by exact ez2 (by omega)) ?_
        refine zp (w' := w244) (.pointer (some ⟨g137, q * 1, none⟩)) (by exact ezi (k := q) Tryz.underlying32 (l := (show q < m + 1 by omega)) (f := (Nat.zero_add _).symm)) ?_
        refine ze g137 (q * 1) (.int .i64 ex.up) (H245.out.elem (f := MkE.cu) (i := 2) (by rfl) MkE.cu_len GX.out) ?_
        refine zp (w' := w244) (.pointer (some ⟨g137, (q + 1) * 1, none⟩)) (by exact ezi (k := q + 1) Tryz.underlying32 (l := (show q + 1 < m + 1 by omega)) (f := (Nat.zero_add _).symm)) ?_
        refine mv_stElem1 (f := MkE.cu) (by rfl) _ _ _ (by rfl) H245.out (ix := 2) (by rfl) MkE.cu_len (q + 1) ex HLY.out (.int .i64 ex.up) (by rfl) ((q + 1) * 1) (by rfl) (by rfl) (by rfl) (by kernel_rfl) (by simp [Value.cells]) (by simp [Value.oneCell']) (by simp [NoUL]) ?_
        intro w255 hh hd ho
        have H256 := zH (show Hp w w255 [.blk X1 27 (rc ry), ro 27 4 (some ⟨g129, 0, none⟩) (m + 1) cp130 MkE.cx (((es.take (q + 1) ++ ey :: es.drop (q + 1)).set (q + 1) ex).set q ey), ro 3 1 (some ⟨g137, 0, none⟩) (m + 1) cp138 MkE.cu ((es.take (q + 1) ++ ey :: es.drop (q + 1)).set (q + 1) ex), ro 80 4 (some ⟨ge, 0, none⟩) ((edgesOf rs).length) ce edC (edgesOf rs), .blk X50 45 [.int .i64 ax, .int .i64 ay], .blk Y51 45 [.int .i64 bx, .int .i64 bY], .blk X73 27 (rc r71), .blk Y74 27 (rc r72), .blk X118 27 (rc r112), .blk X217 27 (rc ey.a)] from hh)
        have D256 := zH (hd)
        clear hh hd ho
        (try simp only [Act.put])
        go_upto_region 27 with fail
        refine wp_region_lit ?_
        refine qV (.slice (some ⟨g137, 0, none⟩) (m + 1) cp138) ?_
        refine zq (.int .i64 ((q + 1 : Nat) : Int)) ?_
        refine zp (w' := w255) (.int .i64 (q : Int)) (by exact ez2 (by omega)) ?_
        refine zq (.int .i64 ey.up) ?_
        refine zp (w' := w255) (.pointer (some ⟨g137, q * 1, none⟩)) (by exact ezi (k := q) Tryz.underlying32 (l := (show q < m + 1 by omega)) (f := (Nat.zero_add _).symm)) ?_
        refine mv_stElem1 (f := MkE.cu) (by rfl) _ _ _ (by rfl) H256.out (ix := 2) (by rfl) MkE.cu_len q ey (by rw [List.length_set]; exact HLX.out) (.int .i64 ey.up) (by rfl) (q * 1) (by rfl) (by rfl) (by rfl) (by kernel_rfl) (by simp [Value.cells]) (by simp [Value.oneCell']) (by simp [NoUL]) ?_
        intro w264 hh hd ho
        have H265 := zH (show Hp w w264 [.blk X1 27 (rc ry), ro 27 4 (some ⟨g129, 0, none⟩) (m + 1) cp130 MkE.cx (((es.take (q + 1) ++ ey :: es.drop (q + 1)).set (q + 1) ex).set q ey), ro 3 1 (some ⟨g137, 0, none⟩) (m + 1) cp138 MkE.cu (((es.take (q + 1) ++ ey :: es.drop (q + 1)).set (q + 1) ex).set q ey), ro 80 4 (some ⟨ge, 0, none⟩) ((edgesOf rs).length) ce edC (edgesOf rs), .blk X50 45 [.int .i64 ax, .int .i64 ay], .blk Y51 45 [.int .i64 bx, .int .i64 bY], .blk X73 27 (rc r71), .blk Y74 27 (rc r72), .blk X118 27 (rc r112), .blk X217 27 (rc ey.a)] from hh)
        have D265 := zH (hd)
        clear hh hd ho
        (try simp only [Act.put])
        go_upto_region 22 with fail
        refine wp_region_lit ?_
        refine zq (.int .i64 ((q + 1 : Nat) : Int)) ?_
        refine zp (w' := w264) (.int .i64 (q : Int)) (by exact ez2 (by omega)) ?_
        refine zq (.int .i64 (q : Int)) ?_
        have H270 := zH (show Hp w w264 [.blk X1 27 (rc ry), ro 27 4 (some ⟨g129, 0, none⟩) (m + 1) cp130 MkE.cx (es.take q ++ ey :: es.drop q), ro 3 1 (some ⟨g137, 0, none⟩) (m + 1) cp138 MkE.cu (es.take q ++ ey :: es.drop q), ro 80 4 (some ⟨ge, 0, none⟩) ((edgesOf rs).length) ce edC (edgesOf rs), .blk X50 45 [.int .i64 ax, .int .i64 ay], .blk Y51 45 [.int .i64 bx, .int .i64 bY], .blk X73 27 (rc r71), .blk Y74 27 (rc r72), .blk X118 27 (rc r112), .blk X217 27 (rc ey.a)] from by rw [← GS.out]; exact H265.out)
        have DD271 := zH (((((((((D185.out.trans D205.out).trans D209.out).trans D219.out).trans D224.out).trans D237.out).trans D245.out).trans D256.out).trans D265.out))
        have DD272 := zH ((((((((((D152.out.trans D185.out).trans D205.out).trans D209.out).trans D219.out).trans D224.out).trans D237.out).trans D245.out).trans D256.out).trans D265.out))
        go_wp2_with fail
        go_roundg (m + 1 - (t + 1))
        case measure => exact (by have ob6 := (show t < m + 1 by have h1 := HTU.out; omega); omega)
        case rel => exact ⟨t + 1, q, rfl, (by go_num), (by have h1 := HTU.out; omega), (fun z_ hz_ => (GZ.out z_ hz_).elim (fun h_ => by rw [h_]; exact CB.out) (HALL.out z_)), (fun g_ hg_ => by rw [← GS.out] at hg_; exact (List.mem_or_eq_of_mem_set hg_).elim (fun h_ => (List.mem_or_eq_of_mem_set h_).elim (fun h_ => (HOK2.out g_ h_).dig DD271.out) (fun h_ => by rw [h_]; exact OX.out.dig DD271.out)) (fun h_ => by rw [h_]; exact OY.out.dig DD271.out)), H270.out.take 9, DD272.out⟩
       have HU0 := zH c153
       clear c153
       obtain rfl : u = 0 := by have h := HU0.out; omega
       go_upto_region 21 with fail
       refine zy ?_
       have H273 := zH (H152.out.step (Ext.refl w150).drew)
       have D273 := zH (Dig.of_ext (w := w150) zb)
       refine zx 0 (bs 23 1) (.int .i64 0) zb ?_
       refine zu 1 (bs 23 3) (v := .bool false) zb ?_ (hv := by intro w hSw; exact ezg (e := (dec_f (by omega))))
       refine zx 2 (bs 23 7) (.bool false) zb ?_
       refine zs 3 (bs 23 15) zb ?_
       refine zs 4 (bs 23 31) zb ?_
       refine zs 5 (bs 23 63) zb ?_
       refine zs 6 (bs 23 127) zb ?_
       refine zs 7 (bs 23 255) zb ?_
       refine zs 8 (bs 23 511) zb ?_
       refine zs 9 (bs 23 1023) zb ?_
       refine zs 10 (bs 23 2047) zb ?_
       refine zs 11 (bs 23 4095) zb ?_
       refine zs 12 (bs 23 8191) zb ?_
       refine zs 13 (bs 23 16383) zb ?_
       refine zs 14 (bs 23 32767) zb ?_
       refine zs 15 (bs 23 65535) zb ?_
       refine zs 16 (bs 23 131071) zb ?_
       refine zs 17 (bs 23 262143) zb ?_
       refine zs 18 (bs 23 524287) zb ?_
       refine zs 19 (bs 23 1048575) zb ?_
       refine zs 20 (bs 23 2097151) zb ?_
       refine zs 21 (bs 23 4194303) zb ?_
       refine zx 22 (bs 23 8388607) (.bool false) zb ?_
       refine wpAnyH_done (by kernel_rfl) ?_ _
       have H279 := zH (show Hp w w150.drew [.blk X1 27 (rc ry), ro 27 4 (some ⟨g129, 0, none⟩) (m + 1) cp130 MkE.cx (Stb.ins ltK es ey), ro 3 1 (some ⟨g137, 0, none⟩) (m + 1) cp138 MkE.cu (Stb.ins ltK es ey), ro 80 4 (some ⟨ge, 0, none⟩) ((edgesOf rs).length) ce edC (edgesOf rs), .blk X50 45 [.int .i64 ax, .int .i64 ay], .blk Y51 45 [.int .i64 bx, .int .i64 bY], .blk X73 27 (rc r71), .blk Y74 27 (rc r72), .blk X118 27 (rc r112)] from by rw [Stb.ins_stop wkK HSRT.out HALL.out (Nat.zero_le _) (Or.inl rfl)]; exact H273.out)
       have DD280 := zH (((((((((((((((((((D35.out.trans D40.out).trans D53.out).trans D59.out).trans D63.out).trans D66.out).trans D76.out).trans D82.out).trans D86.out).trans D94.out).trans D99.out).trans D105.out).trans D113.out).trans D120.out).trans D124.out).trans D131.out).trans D139.out).trans D152.out).trans D273.out))
       go_wp2_with fail
       go_roundg ((edgesOf rs).length - (i + 1))
       case measure => exact (by omega)
       case rel => exact ⟨i + 1, m + 1, Stb.ins ltK es ey, some ⟨g129, 0, none⟩, cp130, some ⟨g137, 0, none⟩, cp138, rfl, rfl, rfl, (by go_num), hlt, ⟨by rw [Stb.ins_len, HM.out.1], by have := HM.out.2; omega⟩, HINS.out, (fun g_ hg_ => by rw [Stb.ins_stop wkK HSRT.out HALL.out (Nat.zero_le _) (Or.inl rfl)] at hg_; exact ((HOK2.out g_ hg_).dig D273.out)), H279.out.take 4, DD280.out⟩
     have C2 := zH c91
     clear c91
     go_upto_region 12 with fail
     refine wp_region_lit ?_
     refine zd X73 (0) (rc r71) (H86.out.range (i := 6) (by rfl) 0 4) Tryz.underlying27 ?_
     refine zd X1 (0) (rc ry) (H86.out.range (i := 0) (by rfl) 0 4) Tryz.underlying27 ?_
     have DD282 := zH ((D82.out.trans D86.out))
     refine zc (less_any 60000 _ _ (((ay) : Int) : Rat) y _ (RV.Is.nin (R71.out.dig DD282.out) (Nat.le_trans B71.out (by omega))) (RV.In.nin (RV.In.mono (RY.out.dig H86.out.dig0) (by omega))) (by omega)) ?_
     rintro e w281 ⟨rfl, hx⟩
     have H283 := zH (H86.out.step hx)
     have D283 := zH (Dig.of_ext hx)
     clear hx
     refine ⟨.bool true, by rw [dec_t C1.out], ?_⟩
     try simp only [Act.put, zA, zB, zC]
     refine qV (.bool true) ?_
     refine zd X1 (0) (rc ry) (H283.out.range (i := 0) (by rfl) 0 4) Tryz.underlying27 ?_
     refine zd Y74 (0) (rc r72) (H283.out.range (i := 7) (by rfl) 0 4) Tryz.underlying27 ?_
     have DD287 := zH ((DD282.out.trans D283.out))
     refine zc (less_any 60000 _ _ y (((bY) : Int) : Rat) _ (RV.In.nin (RV.In.mono (RY.out.dig H283.out.dig0) (by omega))) (RV.Is.nin (R72.out.dig DD287.out) (Nat.le_trans B72.out (by omega))) (by omega)) ?_
     rintro e w286 ⟨rfl, hx⟩
     have H288 := zH (H283.out.step hx)
     have D288 := zH (Dig.of_ext hx)
     clear hx
     refine ⟨.bool false, by rw [dec_f C2.out], ?_⟩
     try simp only [Act.put, zA, zB, zC]
     refine zq (.bool false) ?_
     by_cases c291 : ((bY : Int) : Rat) < y
     ·have C3 := zH c291
      clear c291
      go_upto_region 14 with fail
      refine wp_region_lit ?_
      refine zd Y74 (0) (rc r72) (H288.out.range (i := 7) (by rfl) 0 4) Tryz.underlying27 ?_
      refine zd X1 (0) (rc ry) (H288.out.range (i := 0) (by rfl) 0 4) Tryz.underlying27 ?_
      have DD293 := zH ((DD287.out.trans D288.out))
      refine zc (less_any 60000 _ _ (((bY) : Int) : Rat) y _ (RV.Is.nin (R72.out.dig DD293.out) (Nat.le_trans B72.out (by omega))) (RV.In.nin (RV.In.mono (RY.out.dig H288.out.dig0) (by omega))) (by omega)) ?_
      rintro e w292 ⟨rfl, hx⟩
      have H294 := zH (H288.out.step hx)
      have D294 := zH (Dig.of_ext hx)
      clear hx
      refine ⟨.bool true, by rw [dec_t C3.out], ?_⟩
      try simp only [Act.put, zA, zB, zC]
      refine qV (.bool true) ?_
      refine zd X1 (0) (rc ry) (H294.out.range (i := 0) (by rfl) 0 4) Tryz.underlying27 ?_
      refine zd X73 (0) (rc r71) (H294.out.range (i := 6) (by rfl) 0 4) Tryz.underlying27 ?_
      have DD298 := zH ((DD293.out.trans D294.out))
      refine zc (less_any 60000 _ _ y (((ay) : Int) : Rat) _ (RV.In.nin (RV.In.mono (RY.out.dig H294.out.dig0) (by omega))) (RV.Is.nin (R71.out.dig DD298.out) (Nat.le_trans B71.out (by omega))) (by omega)) ?_
      rintro e w297 ⟨rfl, hx⟩
      have H299 := zH (H294.out.step hx)
      have D299 := zH (Dig.of_ext hx)
      clear hx
      refine ⟨.bool false, by rw [dec_f (fun h_ => absurd h_ (Rat.not_lt.2 (Rat.le_of_lt C1.out)))], ?_⟩
      try simp only [Act.put, zA, zB, zC]
      refine zq (.bool false) ?_
      go_upto_region 16 with fail
      refine wp_region_lit ?_
      refine zq (.int .i64 0) ?_
      refine zp (w' := w297) (.bool true) (by exact ezq (e := (dec_t (by omega)))) ?_
      have DD304 := zH ((((((((((((D40.out.trans D53.out).trans D59.out).trans D63.out).trans D66.out).trans D76.out).trans D82.out).trans D86.out).trans D283.out).trans D288.out).trans D294.out).trans D299.out))
      have DD305 := zH (((((((((((((D35.out.trans D40.out).trans D53.out).trans D59.out).trans D63.out).trans D66.out).trans D76.out).trans D82.out).trans D86.out).trans D283.out).trans D288.out).trans D294.out).trans D299.out))
      go_wp2_with fail
      go_roundg ((edgesOf rs).length - (i + 1))
      case measure => exact (by omega)
      case rel => exact ⟨i + 1, m, es, A1, c1, A2, c2, rfl, rfl, rfl, (by go_num), hlt, ⟨HM.out.1, by have := HM.out.2; omega⟩, (by rw [HVL.out, crs_none HE.out (cross_no (a := (ax, ay)) (b := (bx, bY)) (fun h_ => C2.out h_.2) (fun h_ => absurd h_.2 (Rat.not_lt.2 (Rat.le_of_lt C1.out))))]), (fun g_ hg_ => (HOE.out g_ hg_).dig DD304.out), H299.out.take 4, DD305.out⟩
     have C3 := zH c291
     clear c291
     go_upto_region 14 with fail
     refine wp_region_lit ?_
     refine zd Y74 (0) (rc r72) (H288.out.range (i := 7) (by rfl) 0 4) Tryz.underlying27 ?_
     refine zd X1 (0) (rc ry) (H288.out.range (i := 0) (by rfl) 0 4) Tryz.underlying27 ?_
     have DD307 := zH ((DD287.out.trans D288.out))
     refine zc (less_any 60000 _ _ (((bY) : Int) : Rat) y _ (RV.Is.nin (R72.out.dig DD307.out) (Nat.le_trans B72.out (by omega))) (RV.In.nin (RV.In.mono (RY.out.dig H288.out.dig0) (by omega))) (by omega)) ?_
     rintro e w306 ⟨rfl, hx⟩
     have H308 := zH (H288.out.step hx)
     have D308 := zH (Dig.of_ext hx)
     clear hx
     refine ⟨.bool false, by rw [dec_f C3.out], ?_⟩
     try simp only [Act.put, zA, zB, zC]
     refine zq (.bool false) ?_
     refine zk ?_
     refine zk ?_
     refine zk ?_
     refine zq (.bool false) ?_
     go_upto_region 16 with fail
     refine wp_region_lit ?_
     refine zq (.int .i64 0) ?_
     refine zp (w' := w306) (.bool true) (by exact ezq (e := (dec_t (by omega)))) ?_
     have DD314 := zH (((((((((((D40.out.trans D53.out).trans D59.out).trans D63.out).trans D66.out).trans D76.out).trans D82.out).trans D86.out).trans D283.out).trans D288.out).trans D308.out))
     have DD315 := zH ((((((((((((D35.out.trans D40.out).trans D53.out).trans D59.out).trans D63.out).trans D66.out).trans D76.out).trans D82.out).trans D86.out).trans D283.out).trans D288.out).trans D308.out))
     go_wp2_with fail
     go_roundg ((edgesOf rs).length - (i + 1))
     case measure => exact (by omega)
     case rel => exact ⟨i + 1, m, es, A1, c1, A2, c2, rfl, rfl, rfl, (by go_num), hlt, ⟨HM.out.1, by have := HM.out.2; omega⟩, (by rw [HVL.out, crs_none HE.out (cross_no (a := (ax, ay)) (b := (bx, bY)) (fun h_ => C2.out h_.2) (fun h_ => C3.out h_.1))]), (fun g_ hg_ => (HOE.out g_ hg_).dig DD314.out), H308.out.take 4, DD315.out⟩
    have C1 := zH c90
    clear c90
    go_upto_region 12 with fail
    refine wp_region_lit ?_
    refine zd X73 (0) (rc r71) (H86.out.range (i := 6) (by rfl) 0 4) Tryz.underlying27 ?_
    refine zd X1 (0) (rc ry) (H86.out.range (i := 0) (by rfl) 0 4) Tryz.underlying27 ?_
    have DD317 := zH ((D82.out.trans D86.out))
    refine zc (less_any 60000 _ _ (((ay) : Int) : Rat) y _ (RV.Is.nin (R71.out.dig DD317.out) (Nat.le_trans B71.out (by omega))) (RV.In.nin (RV.In.mono (RY.out.dig H86.out.dig0) (by omega))) (by omega)) ?_
    rintro e w316 ⟨rfl, hx⟩
    have H318 := zH (H86.out.step hx)
    have D318 := zH (Dig.of_ext hx)
    clear hx
    refine ⟨.bool false, by rw [dec_f C1.out], ?_⟩
    try simp only [Act.put, zA, zB, zC]
    refine zq (.bool false) ?_
    refine zk ?_
    refine zk ?_
    refine zk ?_
    refine zq (.bool false) ?_
    by_cases c322 : ((bY : Int) : Rat) < y
    ·have C3 := zH c322
     clear c322
     by_cases c323 : y < ((ay : Int) : Rat)
     ·have C4 := zH c323
      clear c323
      go_upto_region 14 with fail
      refine wp_region_lit ?_
      refine zd Y74 (0) (rc r72) (H318.out.range (i := 7) (by rfl) 0 4) Tryz.underlying27 ?_
      refine zd X1 (0) (rc ry) (H318.out.range (i := 0) (by rfl) 0 4) Tryz.underlying27 ?_
      have DD325 := zH ((DD317.out.trans D318.out))
      refine zc (less_any 60000 _ _ (((bY) : Int) : Rat) y _ (RV.Is.nin (R72.out.dig DD325.out) (Nat.le_trans B72.out (by omega))) (RV.In.nin (RV.In.mono (RY.out.dig H318.out.dig0) (by omega))) (by omega)) ?_
      rintro e w324 ⟨rfl, hx⟩
      have H326 := zH (H318.out.step hx)
      have D326 := zH (Dig.of_ext hx)
      clear hx
      refine ⟨.bool true, by rw [dec_t C3.out], ?_⟩
      try simp only [Act.put, zA, zB, zC]
      refine qV (.bool true) ?_
      refine zd X1 (0) (rc ry) (H326.out.range (i := 0) (by rfl) 0 4) Tryz.underlying27 ?_
      refine zd X73 (0) (rc r71) (H326.out.range (i := 6) (by rfl) 0 4) Tryz.underlying27 ?_
      have DD330 := zH ((DD325.out.trans D326.out))
      refine zc (less_any 60000 _ _ y (((ay) : Int) : Rat) _ (RV.In.nin (RV.In.mono (RY.out.dig H326.out.dig0) (by omega))) (RV.Is.nin (R71.out.dig DD330.out) (Nat.le_trans B71.out (by omega))) (by omega)) ?_
      rintro e w329 ⟨rfl, hx⟩
      have H331 := zH (H326.out.step hx)
      have D331 := zH (Dig.of_ext hx)
      clear hx
      refine ⟨.bool true, by rw [dec_t C4.out], ?_⟩
      try simp only [Act.put, zA, zB, zC]
      refine zq (.bool true) ?_
      go_upto_region 15 with fail
      refine wp_region_lit ?_
      refine zq (.int .i64 (-1)) ?_
      go_upto_region 16 with fail
      refine wp_region_lit ?_
      refine zq (.int .i64 (-1)) ?_
      refine zp (w' := w329) (.bool false) (by exact ezq (e := (dec_f (by omega)))) ?_
      go_upto_region 17 with fail
      refine wp_region_lit ?_
      refine zd X50 (0) [.int .i64 ax, .int .i64 ay] (H331.out.range (i := 4) (by rfl) 0 2) Tryz.underlying45 ?_
      refine zd Y51 (0) [.int .i64 bx, .int .i64 bY] (H331.out.range (i := 5) (by rfl) 0 2) Tryz.underlying45 ?_
      refine zd X1 (0) (rc ry) (H331.out.range (i := 0) (by rfl) 0 4) Tryz.underlying27 ?_
      refine zc (rxat_any L ax ay bx bY ry y _ (RY.out.dig H331.out.dig0) h1L hL HOA.out HOB.out (xat_pre (.inr ⟨C3.out, C4.out⟩)).1 (xat_pre (.inr ⟨C3.out, C4.out⟩)).2.1 (xat_pre (.inr ⟨C3.out, C4.out⟩)).2.2) ?_
      rintro e w337 ⟨r338, rfl, hr_, hx⟩
      have H339 := zH (H331.out.step hx)
      have D339 := zH (Dig.of_ext hx)
      have R338 := zH hr_
      have B338 := zH (rl_xat (ax := ax) (bx := bx) HOA.out HOB.out RY.out.rl)
      clear hr_
      clear hx
      refine zn ?_
      refine qV (.tuple #[.agg #[.bool r338.n, .slice r338.p r338.l r338.c, .bool r338.m, .slice r338.p2 r338.l2 r338.c2], .bool true]) ?_
      refine zq (.agg #[.bool r338.n, .slice r338.p r338.l r338.c, .bool r338.m, .slice r338.p2 r338.l2 r338.c2]) ?_
      refine zq (.bool true) ?_
      refine mv_alloc (T := 27) (zs := [.bool false, .slice none 0 0, .bool false, .slice none 0 0]) (by rfl) (by go_simp) H339.out (by simp [NoUL]) ?_
      intro X344 w345 hh hx hge
      have H346 := zH (show Hp w w345 [.blk X1 27 (rc ry), ro 27 4 A1 m c1 MkE.cx es, ro 3 1 A2 m c2 MkE.cu es, ro 80 4 (some ⟨ge, 0, none⟩) ((edgesOf rs).length) ce edC (edgesOf rs), .blk X50 45 [.int .i64 ax, .int .i64 ay], .blk Y51 45 [.int .i64 bx, .int .i64 bY], .blk X73 27 (rc r71), .blk Y74 27 (rc r72), .blk X344 27 rz] from hh)
      have D346 := zH (Dig.of_ext hx)
      clear hh hx hge
      try simp only [Act.put, zA, zB, zC]
      refine mv_st (by rfl) _ _ _ (by rfl) H346.out (ix := 8) (by rfl) 0 [.bool r338.n, .slice r338.p r338.l r338.c, .bool r338.m, .slice r338.p2 r338.l2 r338.c2] (by rfl) (by rfl) (by simp) (by kernel_rfl) (by simp [Value.oneCell']) (by simp [NoUL]) ?_
      intro w349 hh hd ho
      have H350 := zH (show Hp w w349 [.blk X1 27 (rc ry), ro 27 4 A1 m c1 MkE.cx es, ro 3 1 A2 m c2 MkE.cu es, ro 80 4 (some ⟨ge, 0, none⟩) ((edgesOf rs).length) ce edC (edgesOf rs), .blk X50 45 [.int .i64 ax, .int .i64 ay], .blk Y51 45 [.int .i64 bx, .int .i64 bY], .blk X73 27 (rc r71), .blk Y74 27 (rc r72), .blk X344 27 (rc r338)] from hh)
      have D350 := zH (hd)
      clear hh hd ho
      (try simp only [Act.put])
      refine zq (.bool true) ?_
      go_upto_region 18 with fail
      refine wp_region_lit ?_
      refine qV (.slice A1 m c1) ?_
      refine zd X344 (0) (rc r338) (H350.out.range (i := 8) (by rfl) 0 4) Tryz.underlying27 ?_
      refine zp (w' := (w349.alloc (.cells ([.bool r338.n, .slice r338.p r338.l r338.c, .bool r338.m, .slice r338.p2 r338.l2 r338.c2] : List Value).toArray 27))) (.slice (some ⟨w349.heap.size, 0, none⟩) 1 1) (by go_simp) ?_
      refine mv_app (by rfl) _ _ _ (by rfl) elRat (by rfl) H350.out (ix := 1) (by rfl) 1 1 [.bool r338.n, .slice r338.p r338.l r338.c, .bool r338.m, .slice r338.p2 r338.l2 r338.c2] (by rfl) rfl (by simp [Value.oneCell']) (by simp [NoUL]) (by decide) (by unfold maxLen; exact (by omega)) (by omega) ?_
      intro g355 cp356 w354 hf hh hd hg
      have Fg355 := zH hf
      clear hf
      rw [show List.flatMap MkE.cx es ++ [.bool r338.n, .slice r338.p r338.l r338.c, .bool r338.m, .slice r338.p2 r338.l2 r338.c2] = _ from flat_snoc MkE.cx _ (⟨r338, (xatV ax ay bx bY y), (-1)⟩ : MkE)] at hh
      have H357 := zH (show Hp w w354 [.blk X1 27 (rc ry), ro 27 4 (some ⟨g355, 0, none⟩) (m + 1) cp356 MkE.cx (es ++ [(⟨r338, (xatV ax ay bx bY y), (-1)⟩ : MkE)]), ro 3 1 A2 m c2 MkE.cu es, ro 80 4 (some ⟨ge, 0, none⟩) ((edgesOf rs).length) ce edC (edgesOf rs), .blk X50 45 [.int .i64 ax, .int .i64 ay], .blk Y51 45 [.int .i64 bx, .int .i64 bY], .blk X73 27 (rc r71), .blk Y74 27 (rc r72), .blk X344 27 (rc r338)] from hh)
      have D357 := zH (hd)
      clear hh hd hg
      try simp only [Act.put, zA, zB, zC]
      refine zq (.slice (some ⟨g355, 0, none⟩) (m + 1) cp356) ?_
      go_upto_region 19 with fail
      refine wp_region_lit ?_
      refine qV (.slice A2 m c2) ?_
      refine zq (.int .i64 (-1)) ?_
      refine zp (w' := (w354.alloc (.cells ([.int .i64 (-1)] : List Value).toArray 3))) (.slice (some ⟨w354.heap.size, 0, none⟩) 1 1) (by go_simp) ?_
      refine mv_app (by rfl) _ _ _ (by rfl) elInt (by rfl) H357.out (ix := 2) (by rfl) 1 1 [.int .i64 (-1)] (by rfl) rfl (by simp [Value.oneCell']) (by simp [NoUL]) (by decide) (by unfold maxLen; exact (by omega)) (by omega) ?_
      intro g363 cp364 w362 hf hh hd hg
      have Fg363 := zH hf
      clear hf
      rw [show List.flatMap MkE.cu es ++ [.int .i64 (-1)] = _ from flat_snoc MkE.cu _ (⟨r338, (xatV ax ay bx bY y), (-1)⟩ : MkE)] at hh
      have H365 := zH (show Hp w w362 [.blk X1 27 (rc ry), ro 27 4 (some ⟨g355, 0, none⟩) (m + 1) cp356 MkE.cx (es ++ [(⟨r338, (xatV ax ay bx bY y), (-1)⟩ : MkE)]), ro 3 1 (some ⟨g363, 0, none⟩) (m + 1) cp364 MkE.cu (es ++ [(⟨r338, (xatV ax ay bx bY y), (-1)⟩ : MkE)]), ro 80 4 (some ⟨ge, 0, none⟩) ((edgesOf rs).length) ce edC (edgesOf rs), .blk X50 45 [.int .i64 ax, .int .i64 ay], .blk Y51 45 [.int .i64 bx, .int .i64 bY], .blk X73 27 (rc r71), .blk Y74 27 (rc r72), .blk X344 27 (rc r338)] from hh)
      have D365 := zH (hd)
      clear hh hd hg
      try simp only [Act.put, zA, zB, zC]
      refine zq (.slice (some ⟨g363, 0, none⟩) (m + 1) cp364) ?_
      obtain ⟨ey, hey_⟩ : ∃ ey : MkE, ey = (⟨r338, (xatV ax ay bx bY y), (-1)⟩ : MkE) := ⟨_, rfl⟩
      have HZ := zH hey_
      have H368 := zH (show Hp w w362 [.blk X1 27 (rc ry), ro 27 4 (some ⟨g355, 0, none⟩) (m + 1) cp356 MkE.cx (es.take m ++ ey :: es.drop m), ro 3 1 (some ⟨g363, 0, none⟩) (m + 1) cp364 MkE.cu (es.take m ++ ey :: es.drop m), ro 80 4 (some ⟨ge, 0, none⟩) ((edgesOf rs).length) ce edC (edgesOf rs), .blk X50 45 [.int .i64 ax, .int .i64 ay], .blk Y51 45 [.int .i64 bx, .int .i64 bY], .blk X73 27 (rc r71), .blk Y74 27 (rc r72), .blk X344 27 (rc r338)] from by rw [show es.take m ++ ey :: es.drop m = es ++ [(⟨r338, (xatV ax ay bx bY y), (-1)⟩ : MkE)] by rw [List.take_of_length_le (by have := HM.out.1; omega), List.drop_of_length_le (by have := HM.out.1; omega), HZ.out]]; exact H365.out)
      have DD369 := zH ((((D346.out.trans D350.out).trans D357.out).trans D365.out))
      have HOY := zH (show ey.Ok (L + 8) w362 from by rw [HZ.out]; exact ⟨(R338.out.dig DD369.out), (show Nm.rl (xatV ax ay bx bY y) ≤ L + 8 by have q_ := B338.out; omega), (show (-1 : Int) ≤ (-1) by decide), (show (-1) ≤ (1 : Int) by decide)⟩)
      have HVY := zH (show ey.vl = (xatV ax ay bx bY y, (-1)) from by rw [HZ.out]; rfl)
      have HINS := zH (show (Stb.ins ltK es ey).map MkE.vl = Stb.stab ltM (((edgesOf rs).take (i + 1)).filterMap (crossV y)) by rw [crs_some HE.out (cross_down (a := (ax, ay)) (b := (bx, bY)) ⟨C3.out, C4.out⟩), ← HVL.out, ← HVY.out]; exact ins_map MkE.vl (fun _ _ => rfl) es ey)
      have HSRT := zH (show Stb.Srt ltK es from srt_mk (by rw [HVL.out]; exact Stb.stab_srt wkM _))
      go_upto_region 20 with fail
      refine wp_region_lit ?_
      refine qV (.slice (some ⟨g355, 0, none⟩) (m + 1) cp356) ?_
      refine zq (.int .i64 ((m + 1 : Nat) : Int)) ?_
      refine zp (w' := w362) (.int .i64 (m : Int)) (by exact ez2 (by omega)) ?_
      refine zq (.int .i64 (m : Int)) ?_
      have DD374 := zH ((((((((((((((((D40.out.trans D53.out).trans D59.out).trans D63.out).trans D66.out).trans D76.out).trans D82.out).trans D86.out).trans D318.out).trans D326.out).trans D331.out).trans D339.out).trans D346.out).trans D350.out).trans D357.out).trans D365.out))
      go_wp2_with fail
      go_loopg [17] (m + 1) (fun cq v375 wr => ∃ (t : Nat) (u : Nat), cq = (m + 1) - t ∧ v375 = .int .i64 (u : Int) ∧ (t + u = m) ∧ (∀ z, z ∈ es.drop u → ltK ey z = true) ∧ (∀ e, e ∈ es.take u ++ ey :: es.drop u → e.Ok (L + 8) wr) ∧ Hp w wr [.blk X1 27 [.bool ry.n, .slice ry.p ry.l ry.c, .bool ry.m, .slice ry.p2 ry.l2 ry.c2], .row 27 4 (.slice (some ⟨g355, 0, none⟩) (m + 1) cp356) (m + 1) (List.flatMap MkE.cx (es.take u ++ ey :: es.drop u)), .row 3 1 (.slice (some ⟨g363, 0, none⟩) (m + 1) cp364) (m + 1) (List.flatMap MkE.cu (es.take u ++ ey :: es.drop u)), .row 80 4 (.slice (some ⟨ge, 0, none⟩) ((edgesOf rs).length) ce) ((edgesOf rs).length) (List.flatMap edC (edgesOf rs)), .blk X50 45 [.int .i64 ax, .int .i64 ay], .blk Y51 45 [.int .i64 bx, .int .i64 bY], .blk X73 27 [.bool r71.n, .slice r71.p r71.l r71.c, .bool r71.m, .slice r71.p2 r71.l2 r71.c2], .blk Y74 27 [.bool r72.n, .slice r72.p r72.l r72.c, .bool r72.m, .slice r72.p2 r72.l2 r72.c2], .blk X344 27 [.bool r338.n, .slice r338.p r338.l r338.c, .bool r338.m, .slice r338.p2 r338.l2 r338.c2]] ∧ Dig w362 wr)
      case atStart => exact ⟨0, m, rfl, rfl, Nat.zero_add _, (fun z_ hz_ => by rw [List.drop_of_length_le (by have := HM.out.1; omega)] at hz_; simp at hz_), (fun g_ hg_ => by rw [List.take_of_length_le (by have := HM.out.1; omega), List.drop_of_length_le (by have := HM.out.1; omega)] at hg_; exact (List.mem_append.1 hg_).elim (fun hg_ => (HOE.out g_ hg_).dig DD374.out) (fun hg_ => by rw [List.mem_singleton.1 hg_]; exact HOY.out)), H368.out, Dig.refl _⟩
      case round =>
       obtain ⟨t, u, rfl, rfl, q_HTU, q_HALL, q_HOK2, hh_, hd_⟩ := hrel
       generalize wr = w376 at *
       have HTU := zH q_HTU
       clear q_HTU
       have HALL := zH q_HALL
       clear q_HALL
       have HOK2 := zH q_HOK2
       clear q_HOK2
       have H378 := zH hh_
       have D378 := zH hd_
       clear hh_ hd_ H368
       by_cases c379 : 0 < u
       ·have HU0 := zH c379
        clear c379
        have hu0 := HU0.out
        obtain ⟨q, rfl⟩ : ∃ q, u = q + 1 := ⟨u - 1, by omega⟩
        have HTQ := zH (show q < es.length by have h1 := HTU.out; have h2 := HM.out.1; omega)
        have hqm : q < m := by have h1 := HTU.out; omega
        obtain ⟨gx_, gy_, gs_, gz_⟩ := ins_at (y := ey) HTQ.out
        obtain ⟨ex, hex_⟩ : ∃ ex, ex = es[q]'HTQ.out := ⟨_, rfl⟩
        rw [← hex_] at gx_ gs_ gz_
        have HXE := zH hex_
        have GX := zH gx_
        have GY := zH gy_
        have GS := zH gs_
        have GZ := zH gz_
        have HLX := zH (List.getElem?_eq_some_iff.1 gx_).1
        have HLY := zH (List.getElem?_eq_some_iff.1 gy_).1
        clear gx_ gy_ gs_ gz_ hex_
        have OX := zH (HOK2.out ex (List.mem_of_getElem? GX.out))
        have OY := zH (HOK2.out ey (List.mem_of_getElem? GY.out))
        have RX := zH OX.out.1
        have RZ := zH OY.out.1
        have BX := zH OX.out.2.1
        have BZ := zH OY.out.2.1
        have HXS := zH OX.out.2.2
        have HYS := zH OY.out.2.2
        have hv380 := HEL.out
        have hv381 := HM.out.2
        have hv382 := HXS.out
        have hv383 := HYS.out
        rcases hcb_ : ltK ey ex with _ | _
        ·have CB := zH hcb_
         clear hcb_
         go_upto_region 21 with fail
         refine zy ?_
         have H384 := zH (H378.out.step (Ext.refl w376).drew)
         have D384 := zH (Dig.of_ext (w := w376) zb)
         refine zx 0 (bs 23 1) (.int .i64 ((q + 1 : Nat) : Int)) zb ?_
         refine zu 1 (bs 23 3) (v := .bool true) zb ?_ (hv := by intro w hSw; exact ezg (e := (dec_t (by omega))))
         refine zx 2 (bs 23 7) (.bool true) zb ?_
         refine zx 3 (bs 23 15) (.slice (some ⟨g355, 0, none⟩) (m + 1) cp356) zb ?_
         refine zx 4 (bs 23 31) (.int .i64 ((q + 1 : Nat) : Int)) zb ?_
         refine zo 5 (bs 23 63) (v := .pointer (some ⟨g355, (q + 1) * 4, none⟩)) zb ?_ (hv := by intro w hSw; exact ezi (k := q + 1) Tryz.underlying47 (l := (show q + 1 < m + 1 by omega)) (f := (Nat.zero_add _).symm))
         refine zg 6 (bs 23 127) g355 ((q + 1) * 4) (rc ey.a) (H378.out.elem (f := MkE.cx) (i := 1) (by rfl) MkE.cx_len GY.out) Tryz.underlying27 zb ?_
         refine zx 7 (bs 23 255) (.slice (some ⟨g363, 0, none⟩) (m + 1) cp364) zb ?_
         refine zx 8 (bs 23 511) (.int .i64 ((q + 1 : Nat) : Int)) zb ?_
         refine zu 9 (bs 23 1023) (v := .pointer (some ⟨g363, (q + 1) * 1, none⟩)) zb ?_ (hv := by intro w hSw; exact ezi (k := q + 1) Tryz.underlying32 (l := (show q + 1 < m + 1 by omega)) (f := (Nat.zero_add _).symm))
         refine zf 10 (bs 23 2047) g363 ((q + 1) * 1) (.int .i64 ey.up) (H378.out.elem (f := MkE.cu) (i := 2) (by rfl) MkE.cu_len GY.out) zb ?_
         refine zx 11 (bs 23 4095) (.slice (some ⟨g355, 0, none⟩) (m + 1) cp356) zb ?_
         refine zx 12 (bs 23 8191) (.int .i64 ((q + 1 : Nat) : Int)) zb ?_
         refine zu 13 (bs 23 16383) (v := .int .i64 (q : Int)) zb ?_ (hv := by intro w hSw; exact ez2 (by omega))
         refine zo 14 (bs 23 32767) (v := .pointer (some ⟨g355, q * 4, none⟩)) zb ?_ (hv := by intro w hSw; exact ezi (k := q) Tryz.underlying47 (l := (show q < m + 1 by omega)) (f := (Nat.zero_add _).symm))
         refine zg 15 (bs 23 65535) g355 (q * 4) (rc ex.a) (H378.out.elem (f := MkE.cx) (i := 1) (by rfl) MkE.cx_len GX.out) Tryz.underlying27 zb ?_
         refine zx 16 (bs 23 131071) (.slice (some ⟨g363, 0, none⟩) (m + 1) cp364) zb ?_
         refine zx 17 (bs 23 262143) (.int .i64 ((q + 1 : Nat) : Int)) zb ?_
         refine zu 18 (bs 23 524287) (v := .int .i64 (q : Int)) zb ?_ (hv := by intro w hSw; exact ez2 (by omega))
         refine zu 19 (bs 23 1048575) (v := .pointer (some ⟨g363, q * 1, none⟩)) zb ?_ (hv := by intro w hSw; exact ezi (k := q) Tryz.underlying32 (l := (show q < m + 1 by omega)) (f := (Nat.zero_add _).symm))
         refine zf 20 (bs 23 2097151) g363 (q * 1) (.int .i64 ex.up) (H378.out.elem (f := MkE.cu) (i := 2) (by rfl) MkE.cu_len GX.out) zb ?_
         refine mC 21 (bs 23 4194303) (before_any 60000 _ _ ey.q ex.q ey.up ex.up _ (RV.Is.nin (RZ.out.dig D384.out) (Nat.le_trans BZ.out (by omega))) (RV.Is.nin (RX.out.dig D384.out) (Nat.le_trans BX.out (by omega))) (by decide)) ?_
         rintro e w403 ⟨rfl, hx⟩
         have H404 := zH (H384.out.step hx)
         have D404 := zH (show Dig w376.drew w403 from Dig.of_ext hx)
         have S406 := zH (show Ext w376 w403 from zb.trans hx)
         clear hx
         refine ⟨.bool false, by rw [show beforeV ey.q ey.up ex.q ex.up = false from CB.out], S406.out, ?_⟩
         try simp only [Act.put, zA, zB, zC]
         refine zx 22 (bs 23 8388607) (.bool false) S406.out ?_
         refine wpAnyH_done (by kernel_rfl) ?_ _
         have H408 := zH (show Hp w w403 [.blk X1 27 (rc ry), ro 27 4 (some ⟨g355, 0, none⟩) (m + 1) cp356 MkE.cx (Stb.ins ltK es ey), ro 3 1 (some ⟨g363, 0, none⟩) (m + 1) cp364 MkE.cu (Stb.ins ltK es ey), ro 80 4 (some ⟨ge, 0, none⟩) ((edgesOf rs).length) ce edC (edgesOf rs), .blk X50 45 [.int .i64 ax, .int .i64 ay], .blk Y51 45 [.int .i64 bx, .int .i64 bY], .blk X73 27 (rc r71), .blk Y74 27 (rc r72), .blk X344 27 (rc r338)] from by rw [Stb.ins_stop wkK HSRT.out HALL.out (by have h1 := HTQ.out; omega) (Or.inr ⟨q, rfl, HTQ.out, by rw [← HXE.out]; exact CB.out⟩)]; exact H404.out)
         have DD409 := zH ((D384.out.trans D404.out))
         have DD410 := zH ((((((((((((((((((((D35.out.trans D40.out).trans D53.out).trans D59.out).trans D63.out).trans D66.out).trans D76.out).trans D82.out).trans D86.out).trans D318.out).trans D326.out).trans D331.out).trans D339.out).trans D346.out).trans D350.out).trans D357.out).trans D365.out).trans D378.out).trans D384.out).trans D404.out))
         go_wp2_with fail
         go_roundg ((edgesOf rs).length - (i + 1))
         case measure => exact (by omega)
         case rel => exact ⟨i + 1, m + 1, Stb.ins ltK es ey, some ⟨g355, 0, none⟩, cp356, some ⟨g363, 0, none⟩, cp364, rfl, rfl, rfl, (by go_num), hlt, ⟨by rw [Stb.ins_len, HM.out.1], by have := HM.out.2; omega⟩, HINS.out, (fun g_ hg_ => by rw [Stb.ins_stop wkK HSRT.out HALL.out (by have h1 := HTQ.out; omega) (Or.inr ⟨q, rfl, HTQ.out, by rw [← HXE.out]; exact CB.out⟩)] at hg_; exact ((HOK2.out g_ hg_).dig DD409.out)), H408.out.take 4, DD410.out⟩
        have CB := zH hcb_
        clear hcb_
        go_upto_region 21 with fail
        refine zy ?_
        have H411 := zH (H378.out.step (Ext.refl w376).drew)
        have D411 := zH (Dig.of_ext (w := w376) zb)
        refine zx 0 (bs 23 1) (.int .i64 ((q + 1 : Nat) : Int)) zb ?_
        refine zu 1 (bs 23 3) (v := .bool true) zb ?_ (hv := by intro w hSw; exact ezg (e := (dec_t (by omega))))
        refine zx 2 (bs 23 7) (.bool true) zb ?_
        refine zx 3 (bs 23 15) (.slice (some ⟨g355, 0, none⟩) (m + 1) cp356) zb ?_
        refine zx 4 (bs 23 31) (.int .i64 ((q + 1 : Nat) : Int)) zb ?_
        refine zo 5 (bs 23 63) (v := .pointer (some ⟨g355, (q + 1) * 4, none⟩)) zb ?_ (hv := by intro w hSw; exact ezi (k := q + 1) Tryz.underlying47 (l := (show q + 1 < m + 1 by omega)) (f := (Nat.zero_add _).symm))
        refine zg 6 (bs 23 127) g355 ((q + 1) * 4) (rc ey.a) (H378.out.elem (f := MkE.cx) (i := 1) (by rfl) MkE.cx_len GY.out) Tryz.underlying27 zb ?_
        refine zx 7 (bs 23 255) (.slice (some ⟨g363, 0, none⟩) (m + 1) cp364) zb ?_
        refine zx 8 (bs 23 511) (.int .i64 ((q + 1 : Nat) : Int)) zb ?_
        refine zu 9 (bs 23 1023) (v := .pointer (some ⟨g363, (q + 1) * 1, none⟩)) zb ?_ (hv := by intro w hSw; exact ezi (k := q + 1) Tryz.underlying32 (l := (show q + 1 < m + 1 by omega)) (f := (Nat.zero_add _).symm))
        refine zf 10 (bs 23 2047) g363 ((q + 1) * 1) (.int .i64 ey.up) (H378.out.elem (f := MkE.cu) (i := 2) (by rfl) MkE.cu_len GY.out) zb ?_
        refine zx 11 (bs 23 4095) (.slice (some ⟨g355, 0, none⟩) (m + 1) cp356) zb ?_
        refine zx 12 (bs 23 8191) (.int .i64 ((q + 1 : Nat) : Int)) zb ?_
        refine zu 13 (bs 23 16383) (v := .int .i64 (q : Int)) zb ?_ (hv := by intro w hSw; exact ez2 (by omega))
        refine zo 14 (bs 23 32767) (v := .pointer (some ⟨g355, q * 4, none⟩)) zb ?_ (hv := by intro w hSw; exact ezi (k := q) Tryz.underlying47 (l := (show q < m + 1 by omega)) (f := (Nat.zero_add _).symm))
        refine zg 15 (bs 23 65535) g355 (q * 4) (rc ex.a) (H378.out.elem (f := MkE.cx) (i := 1) (by rfl) MkE.cx_len GX.out) Tryz.underlying27 zb ?_
        refine zx 16 (bs 23 131071) (.slice (some ⟨g363, 0, none⟩) (m + 1) cp364) zb ?_
        refine zx 17 (bs 23 262143) (.int .i64 ((q + 1 : Nat) : Int)) zb ?_
        refine zu 18 (bs 23 524287) (v := .int .i64 (q : Int)) zb ?_ (hv := by intro w hSw; exact ez2 (by omega))
        refine zu 19 (bs 23 1048575) (v := .pointer (some ⟨g363, q * 1, none⟩)) zb ?_ (hv := by intro w hSw; exact ezi (k := q) Tryz.underlying32 (l := (show q < m + 1 by omega)) (f := (Nat.zero_add _).symm))
        refine zf 20 (bs 23 2097151) g363 (q * 1) (.int .i64 ex.up) (H378.out.elem (f := MkE.cu) (i := 2) (by rfl) MkE.cu_len GX.out) zb ?_
        refine mC 21 (bs 23 4194303) (before_any 60000 _ _ ey.q ex.q ey.up ex.up _ (RV.Is.nin (RZ.out.dig D411.out) (Nat.le_trans BZ.out (by omega))) (RV.Is.nin (RX.out.dig D411.out) (Nat.le_trans BX.out (by omega))) (by decide)) ?_
        rintro e w430 ⟨rfl, hx⟩
        have H431 := zH (H411.out.step hx)
        have D431 := zH (show Dig w376.drew w430 from Dig.of_ext hx)
        have S433 := zH (show Ext w376 w430 from zb.trans hx)
        clear hx
        refine ⟨.bool true, by rw [show beforeV ey.q ey.up ex.q ex.up = true from CB.out], S433.out, ?_⟩
        try simp only [Act.put, zA, zB, zC]
        refine zx 22 (bs 23 8388607) (.bool true) S433.out ?_
        refine wpAnyH_done (by kernel_rfl) ?_ _
        go_upto_region 23 with fail
        refine zy ?_
        have H435 := zH (H431.out.step (Ext.refl w430).drew)
        have D435 := zH (Dig.of_ext (w := w430) zb)
        refine zx 0 (bs 11 1) (.slice (some ⟨g355, 0, none⟩) (m + 1) cp356) zb ?_
        refine zx 1 (bs 11 3) (.int .i64 ((q + 1 : Nat) : Int)) zb ?_
        refine zo 2 (bs 11 7) (v := .pointer (some ⟨g355, (q + 1) * 4, none⟩)) zb ?_ (hv := by intro w hSw; exact ezi (k := q + 1) Tryz.underlying47 (l := (show q + 1 < m + 1 by omega)) (f := (Nat.zero_add _).symm))
        refine zg 3 (bs 11 15) g355 ((q + 1) * 4) (rc ey.a) (H431.out.elem (f := MkE.cx) (i := 1) (by rfl) MkE.cx_len GY.out) Tryz.underlying27 zb ?_
        refine zx 4 (bs 11 31) (.slice (some ⟨g363, 0, none⟩) (m + 1) cp364) zb ?_
        refine zx 5 (bs 11 63) (.int .i64 ((q + 1 : Nat) : Int)) zb ?_
        refine zu 6 (bs 11 127) (v := .pointer (some ⟨g363, (q + 1) * 1, none⟩)) zb ?_ (hv := by intro w hSw; exact ezi (k := q + 1) Tryz.underlying32 (l := (show q + 1 < m + 1 by omega)) (f := (Nat.zero_add _).symm))
        refine zf 7 (bs 11 255) g363 ((q + 1) * 1) (.int .i64 ey.up) (H431.out.elem (f := MkE.cu) (i := 2) (by rfl) MkE.cu_len GY.out) zb ?_
        refine md_alloc (T := 27) (zs := [.bool false, .slice none 0 0, .bool false, .slice none 0 0]) (i := 8) (listed' := (bs 11 511)) (by rfl) (by kernel_rfl) (by rfl) (by go_simp) (by kernel_rfl) H435.out (by simp [NoUL]) ?_
        intro X443 w444 hh hx hge
        have H445 := zH (show Hp w w444 [.blk X1 27 (rc ry), ro 27 4 (some ⟨g355, 0, none⟩) (m + 1) cp356 MkE.cx (es.take (q + 1) ++ ey :: es.drop (q + 1)), ro 3 1 (some ⟨g363, 0, none⟩) (m + 1) cp364 MkE.cu (es.take (q + 1) ++ ey :: es.drop (q + 1)), ro 80 4 (some ⟨ge, 0, none⟩) ((edgesOf rs).length) ce edC (edgesOf rs), .blk X50 45 [.int .i64 ax, .int .i64 ay], .blk Y51 45 [.int .i64 bx, .int .i64 bY], .blk X73 27 (rc r71), .blk Y74 27 (rc r72), .blk X344 27 (rc r338), .blk X443 27 rz] from hh)
        have D445 := zH (show Dig w430.drew w444 from Dig.of_ext hx)
        have S448 := zH (show Ext w430 w444 from zb.trans hx)
        have G447 := zH (show w430.heap.size ≤ X443 from Nat.le_trans zb.size hge)
        clear hh hx hge
        refine ⟨S448.out, ?_⟩
        try simp only [Act.put, zA, zB, zC]
        refine md_st (i := 9) (listed' := (bs 11 1023)) (by rfl) (by kernel_rfl) (by rfl) (by kernel_rfl) _ _ _ (by rfl) H445.out (ix := 9) (by rfl) 0 [.bool ey.a.n, .slice ey.a.p ey.a.l ey.a.c, .bool ey.a.m, .slice ey.a.p2 ey.a.l2 ey.a.c2] (by rfl) (by rfl) (by simp) (by kernel_rfl) (by simp [Value.oneCell']) (by simp [NoUL]) ?_
        intro w449 hh hd ho
        have H450 := zH (show Hp w w449 [.blk X1 27 (rc ry), ro 27 4 (some ⟨g355, 0, none⟩) (m + 1) cp356 MkE.cx (es.take (q + 1) ++ ey :: es.drop (q + 1)), ro 3 1 (some ⟨g363, 0, none⟩) (m + 1) cp364 MkE.cu (es.take (q + 1) ++ ey :: es.drop (q + 1)), ro 80 4 (some ⟨ge, 0, none⟩) ((edgesOf rs).length) ce edC (edgesOf rs), .blk X50 45 [.int .i64 ax, .int .i64 ay], .blk Y51 45 [.int .i64 bx, .int .i64 bY], .blk X73 27 (rc r71), .blk Y74 27 (rc r72), .blk X344 27 (rc r338), .blk X443 27 (rc ey.a)] from hh)
        have D450 := zH (hd)
        have S452 := zH (show Ext w430 w449 from Own.ext ho S448.out G447.out)
        clear hh hd ho
        refine ⟨S452.out, ?_⟩
        (try simp only [Act.put])
        refine zx 10 (bs 11 2047) (.int .i64 ey.up) S452.out ?_
        refine wpAnyH_done (by kernel_rfl) ?_ _
        go_upto_region 24 with fail
        refine wp_region_lit ?_
        refine qV (.slice (some ⟨g355, 0, none⟩) (m + 1) cp356) ?_
        refine zq (.int .i64 ((q + 1 : Nat) : Int)) ?_
        refine qV (.slice (some ⟨g355, 0, none⟩) (m + 1) cp356) ?_
        refine zq (.int .i64 ((q + 1 : Nat) : Int)) ?_
        refine zp (w' := w449) (.int .i64 (q : Int)) (by exact ez2 (by omega)) ?_
        refine zp (w' := w449) (.pointer (some ⟨g355, q * 4, none⟩)) (by exact ezi (k := q) Tryz.underlying47 (l := (show q < m + 1 by omega)) (f := (Nat.zero_add _).symm)) ?_
        refine zd g355 (q * 4) (rc ex.a) (H450.out.elem (f := MkE.cx) (i := 1) (by rfl) MkE.cx_len GX.out) Tryz.underlying27 ?_
        refine zp (w' := w449) (.pointer (some ⟨g355, (q + 1) * 4, none⟩)) (by exact ezi (k := q + 1) Tryz.underlying47 (l := (show q + 1 < m + 1 by omega)) (f := (Nat.zero_add _).symm)) ?_
        refine mv_stElem (f := MkE.cx) (by rfl) _ _ _ (by rfl) H450.out (ix := 1) (by rfl) MkE.cx_len (q + 1) ex HLY.out [.bool ex.a.n, .slice ex.a.p ex.a.l ex.a.c, .bool ex.a.m, .slice ex.a.p2 ex.a.l2 ex.a.c2] (by rfl) ((q + 1) * 4) (by rfl) (by rfl) (by rfl) (by kernel_rfl) (by simp [Value.oneCell']) (by simp [NoUL]) ?_
        intro w462 hh hd ho
        have H463 := zH (show Hp w w462 [.blk X1 27 (rc ry), ro 27 4 (some ⟨g355, 0, none⟩) (m + 1) cp356 MkE.cx ((es.take (q + 1) ++ ey :: es.drop (q + 1)).set (q + 1) ex), ro 3 1 (some ⟨g363, 0, none⟩) (m + 1) cp364 MkE.cu (es.take (q + 1) ++ ey :: es.drop (q + 1)), ro 80 4 (some ⟨ge, 0, none⟩) ((edgesOf rs).length) ce edC (edgesOf rs), .blk X50 45 [.int .i64 ax, .int .i64 ay], .blk Y51 45 [.int .i64 bx, .int .i64 bY], .blk X73 27 (rc r71), .blk Y74 27 (rc r72), .blk X344 27 (rc r338), .blk X443 27 (rc ey.a)] from hh)
        have D463 := zH (hd)
        clear hh hd ho
        (try simp only [Act.put])
        go_upto_region 25 with fail
        refine wp_region_lit ?_
        refine qV (.slice (some ⟨g355, 0, none⟩) (m + 1) cp356) ?_
        refine zq (.int .i64 ((q + 1 : Nat) : Int)) ?_
        refine zp (w' := w462) (.int .i64 (q : Int)) (by exact ez2 (by omega)) ?_
        refine zd X443 (0) (rc ey.a) (H463.out.range (i := 9) (by rfl) 0 4) Tryz.underlying27 ?_
        refine zp (w' := w462) (.pointer (some ⟨g355, q * 4, none⟩)) (by exact ezi (k := q) Tryz.underlying47 (l := (show q < m + 1 by omega)) (f := (Nat.zero_add _).symm)) ?_
        refine mv_stElem (f := MkE.cx) (by rfl) _ _ _ (by rfl) H463.out (ix := 1) (by rfl) MkE.cx_len q ey (by rw [List.length_set]; exact HLX.out) [.bool ey.a.n, .slice ey.a.p ey.a.l ey.a.c, .bool ey.a.m, .slice ey.a.p2 ey.a.l2 ey.a.c2] (by rfl) (q * 4) (by rfl) (by rfl) (by rfl) (by kernel_rfl) (by simp [Value.oneCell']) (by simp [NoUL]) ?_
        intro w470 hh hd ho
        have H471 := zH (show Hp w w470 [.blk X1 27 (rc ry), ro 27 4 (some ⟨g355, 0, none⟩) (m + 1) cp356 MkE.cx (((es.take (q + 1) ++ ey :: es.drop (q + 1)).set (q + 1) ex).set q ey), ro 3 1 (some ⟨g363, 0, none⟩) (m + 1) cp364 MkE.cu (es.take (q + 1) ++ ey :: es.drop (q + 1)), ro 80 4 (some ⟨ge, 0, none⟩) ((edgesOf rs).length) ce edC (edgesOf rs), .blk X50 45 [.int .i64 ax, .int .i64 ay], .blk Y51 45 [.int .i64 bx, .int .i64 bY], .blk X73 27 (rc r71), .blk Y74 27 (rc r72), .blk X344 27 (rc r338), .blk X443 27 (rc ey.a)] from hh)
        have D471 := zH (hd)
        clear hh hd ho
        (try simp only [Act.put])
        go_upto_region 26 with fail
        refine wp_region_lit ?_
        refine qV (.slice (some ⟨g363, 0, none⟩) (m + 1) cp364) ?_
        refine zq (.int .i64 ((q + 1 : Nat) : Int)) ?_
        refine qV (.slice (some ⟨g363, 0, none⟩) (m + 1) cp364) ?_
        refine zq (.int .i64 ((q + 1 : Nat) : Int)) ?_
        refine zp (w' := w470) (.int .i64 (q : Int)) (by exact ez2 (by omega)) ?_
        refine zp (w' := w470) (.pointer (some ⟨g363, q * 1, none⟩)) (by exact ezi (k := q) Tryz.underlying32 (l := (show q < m + 1 by omega)) (f := (Nat.zero_add _).symm)) ?_
        refine ze g363 (q * 1) (.int .i64 ex.up) (H471.out.elem (f := MkE.cu) (i := 2) (by rfl) MkE.cu_len GX.out) ?_
        refine zp (w' := w470) (.pointer (some ⟨g363, (q + 1) * 1, none⟩)) (by exact ezi (k := q + 1) Tryz.underlying32 (l := (show q + 1 < m + 1 by omega)) (f := (Nat.zero_add _).symm)) ?_
        refine mv_stElem1 (f := MkE.cu) (by rfl) _ _ _ (by rfl) H471.out (ix := 2) (by rfl) MkE.cu_len (q + 1) ex HLY.out (.int .i64 ex.up) (by rfl) ((q + 1) * 1) (by rfl) (by rfl) (by rfl) (by kernel_rfl) (by simp [Value.cells]) (by simp [Value.oneCell']) (by simp [NoUL]) ?_
        intro w481 hh hd ho
        have H482 := zH (show Hp w w481 [.blk X1 27 (rc ry), ro 27 4 (some ⟨g355, 0, none⟩) (m + 1) cp356 MkE.cx (((es.take (q + 1) ++ ey :: es.drop (q + 1)).set (q + 1) ex).set q ey), ro 3 1 (some ⟨g363, 0, none⟩) (m + 1) cp364 MkE.cu ((es.take (q + 1) ++ ey :: es.drop (q + 1)).set (q + 1) ex), ro 80 4 (some ⟨ge, 0, none⟩) ((edgesOf rs).length) ce edC (edgesOf rs), .blk X50 45 [.int .i64 ax, .int .i64 ay], .blk Y51 45 [.int .i64 bx, .int .i64 bY], .blk X73 27 (rc r71), .blk Y74 27 (rc r72), .blk X344 27 (rc r338), .blk X443 27 (rc ey.a)] from hh)
        have D482 := zH (hd)
        clear hh hd ho
        (try simp only [Act.put])
        go_upto_region 27 with fail
        refine wp_region_lit ?_
        refine qV (.slice (some ⟨g363, 0, none⟩) (m + 1) cp364) ?_
        refine zq (.int .i64 ((q + 1 : Nat) : Int)) ?_
        refine zp (w' := w481) (.int .i64 (q : Int)) (by exact ez2 (by omega)) ?_
        refine zq (.int .i64 ey.up) ?_
        refine zp (w' := w481) (.pointer (some ⟨g363, q * 1, none⟩)) (by exact ezi (k := q) Tryz.underlying32 (l := (show q < m + 1 by omega)) (f := (Nat.zero_add _).symm)) ?_
        refine mv_stElem1 (f := MkE.cu) (by rfl) _ _ _ (by rfl) H482.out (ix := 2) (by rfl) MkE.cu_len q ey (by rw [List.length_set]; exact HLX.out) (.int .i64 ey.up) (by rfl) (q * 1) (by rfl) (by rfl) (by rfl) (by kernel_rfl) (by simp [Value.cells]) (by simp [Value.oneCell']) (by simp [NoUL]) ?_
        intro w490 hh hd ho
        have H491 := zH (show Hp w w490 [.blk X1 27 (rc ry), ro 27 4 (some ⟨g355, 0, none⟩) (m + 1) cp356 MkE.cx (((es.take (q + 1) ++ ey :: es.drop (q + 1)).set (q + 1) ex).set q ey), ro 3 1 (some ⟨g363, 0, none⟩) (m + 1) cp364 MkE.cu (((es.take (q + 1) ++ ey :: es.drop (q + 1)).set (q + 1) ex).set q ey), ro 80 4 (some ⟨ge, 0, none⟩) ((edgesOf rs).length) ce edC (edgesOf rs), .blk X50 45 [.int .i64 ax, .int .i64 ay], .blk Y51 45 [.int .i64 bx, .int .i64 bY], .blk X73 27 (rc r71), .blk Y74 27 (rc r72), .blk X344 27 (rc r338), .blk X443 27 (rc ey.a)] from hh)
        have D491 := zH (hd)
        clear hh hd ho
        (try simp only [Act.put])
        go_upto_region 22 with fail
        refine wp_region_lit ?_
        refine zq (.int .i64 ((q + 1 : Nat) : Int)) ?_
        refine zp (w' := w490) (.int .i64 (q : Int)) (by exact ez2 (by omega)) ?_
        refine zq (.int .i64 (q : Int)) ?_
        have H496 := zH (show Hp w w490 [.blk X1 27 (rc ry), ro 27 4 (some ⟨g355, 0, none⟩) (m + 1) cp356 MkE.cx (es.take q ++ ey :: es.drop q), ro 3 1 (some ⟨g363, 0, none⟩) (m + 1) cp364 MkE.cu (es.take q ++ ey :: es.drop q), ro 80 4 (some ⟨ge, 0, none⟩) ((edgesOf rs).length) ce edC (edgesOf rs), .blk X50 45 [.int .i64 ax, .int .i64 ay], .blk Y51 45 [.int .i64 bx, .int .i64 bY], .blk X73 27 (rc r71), .blk Y74 27 (rc r72), .blk X344 27 (rc r338), .blk X443 27 (rc ey.a)] from by rw [← GS.out]; exact H491.out)
        have DD497 := zH (((((((((D411.out.trans D431.out).trans D435.out).trans D445.out).trans D450.out).trans D463.out).trans D471.out).trans D482.out).trans D491.out))
        have DD498 := zH ((((((((((D378.out.trans D411.out).trans D431.out).trans D435.out).trans D445.out).trans D450.out).trans D463.out).trans D471.out).trans D482.out).trans D491.out))
        go_wp2_with fail
        go_roundg (m + 1 - (t + 1))
        case measure => exact (by have ob6 := (show t < m + 1 by have h1 := HTU.out; omega); omega)
        case rel => exact ⟨t + 1, q, rfl, (by go_num), (by have h1 := HTU.out; omega), (fun z_ hz_ => (GZ.out z_ hz_).elim (fun h_ => by rw [h_]; exact CB.out) (HALL.out z_)), (fun g_ hg_ => by rw [← GS.out] at hg_; exact (List.mem_or_eq_of_mem_set hg_).elim (fun h_ => (List.mem_or_eq_of_mem_set h_).elim (fun h_ => (HOK2.out g_ h_).dig DD497.out) (fun h_ => by rw [h_]; exact OX.out.dig DD497.out)) (fun h_ => by rw [h_]; exact OY.out.dig DD497.out)), H496.out.take 9, DD498.out⟩
       have HU0 := zH c379
       clear c379
       obtain rfl : u = 0 := by have h := HU0.out; omega
       go_upto_region 21 with fail
       refine zy ?_
       have H499 := zH (H378.out.step (Ext.refl w376).drew)
       have D499 := zH (Dig.of_ext (w := w376) zb)
       refine zx 0 (bs 23 1) (.int .i64 0) zb ?_
       refine zu 1 (bs 23 3) (v := .bool false) zb ?_ (hv := by intro w hSw; exact ezg (e := (dec_f (by omega))))
       refine zx 2 (bs 23 7) (.bool false) zb ?_
       refine zs 3 (bs 23 15) zb ?_
       refine zs 4 (bs 23 31) zb ?_
       refine zs 5 (bs 23 63) zb ?_
       refine zs 6 (bs 23 127) zb ?_
       refine zs 7 (bs 23 255) zb ?_
       refine zs 8 (bs 23 511) zb ?_
       refine zs 9 (bs 23 1023) zb ?_
       refine zs 10 (bs 23 2047) zb ?_
       refine zs 11 (bs 23 4095) zb ?_
       refine zs 12 (bs 23 8191) zb ?_
       refine zs 13 (bs 23 16383) zb ?_
       refine zs 14 (bs 23 32767) zb ?_
       refine zs 15 (bs 23 65535) zb ?_
       refine zs 16 (bs 23 131071) zb ?_
       refine zs 17 (bs 23 262143) zb ?_
       refine zs 18 (bs 23 524287) zb ?_
       refine zs 19 (bs 23 1048575) zb ?_
       refine zs 20 (bs 23 2097151) zb ?_
       refine zs 21 (bs 23 4194303) zb ?_
       refine zx 22 (bs 23 8388607) (.bool false) zb ?_
       refine wpAnyH_done (by kernel_rfl) ?_ _
       have H505 := zH (show Hp w w376.drew [.blk X1 27 (rc ry), ro 27 4 (some ⟨g355, 0, none⟩) (m + 1) cp356 MkE.cx (Stb.ins ltK es ey), ro 3 1 (some ⟨g363, 0, none⟩) (m + 1) cp364 MkE.cu (Stb.ins ltK es ey), ro 80 4 (some ⟨ge, 0, none⟩) ((edgesOf rs).length) ce edC (edgesOf rs), .blk X50 45 [.int .i64 ax, .int .i64 ay], .blk Y51 45 [.int .i64 bx, .int .i64 bY], .blk X73 27 (rc r71), .blk Y74 27 (rc r72), .blk X344 27 (rc r338)] from by rw [Stb.ins_stop wkK HSRT.out HALL.out (Nat.zero_le _) (Or.inl rfl)]; exact H499.out)
       have DD506 := zH (((((((((((((((((((D35.out.trans D40.out).trans D53.out).trans D59.out).trans D63.out).trans D66.out).trans D76.out).trans D82.out).trans D86.out).trans D318.out).trans D326.out).trans D331.out).trans D339.out).trans D346.out).trans D350.out).trans D357.out).trans D365.out).trans D378.out).trans D499.out))
       go_wp2_with fail
       go_roundg ((edgesOf rs).length - (i + 1))
       case measure => exact (by omega)
       case rel => exact ⟨i + 1, m + 1, Stb.ins ltK es ey, some ⟨g355, 0, none⟩, cp356, some ⟨g363, 0, none⟩, cp364, rfl, rfl, rfl, (by go_num), hlt, ⟨by rw [Stb.ins_len, HM.out.1], by have := HM.out.2; omega⟩, HINS.out, (fun g_ hg_ => by rw [Stb.ins_stop wkK HSRT.out HALL.out (Nat.zero_le _) (Or.inl rfl)] at hg_; exact ((HOK2.out g_ hg_).dig D499.out)), H505.out.take 4, DD506.out⟩
     have C4 := zH c323
     clear c323
     go_upto_region 14 with fail
     refine wp_region_lit ?_
     refine zd Y74 (0) (rc r72) (H318.out.range (i := 7) (by rfl) 0 4) Tryz.underlying27 ?_
     refine zd X1 (0) (rc ry) (H318.out.range (i := 0) (by rfl) 0 4) Tryz.underlying27 ?_
     have DD508 := zH ((DD317.out.trans D318.out))
     refine zc (less_any 60000 _ _ (((bY) : Int) : Rat) y _ (RV.Is.nin (R72.out.dig DD508.out) (Nat.le_trans B72.out (by omega))) (RV.In.nin (RV.In.mono (RY.out.dig H318.out.dig0) (by omega))) (by omega)) ?_
     rintro e w507 ⟨rfl, hx⟩
     have H509 := zH (H318.out.step hx)
     have D509 := zH (Dig.of_ext hx)
     clear hx
     refine ⟨.bool true, by rw [dec_t C3.out], ?_⟩
     try simp only [Act.put, zA, zB, zC]
     refine qV (.bool true) ?_
     refine zd X1 (0) (rc ry) (H509.out.range (i := 0) (by rfl) 0 4) Tryz.underlying27 ?_
     refine zd X73 (0) (rc r71) (H509.out.range (i := 6) (by rfl) 0 4) Tryz.underlying27 ?_
     have DD513 := zH ((DD508.out.trans D509.out))
     refine zc (less_any 60000 _ _ y (((ay) : Int) : Rat) _ (RV.In.nin (RV.In.mono (RY.out.dig H509.out.dig0) (by omega))) (RV.Is.nin (R71.out.dig DD513.out) (Nat.le_trans B71.out (by omega))) (by omega)) ?_
     rintro e w512 ⟨rfl, hx⟩
     have H514 := zH (H509.out.step hx)
     have D514 := zH (Dig.of_ext hx)
     clear hx
     refine ⟨.bool false, by rw [dec_f C4.out], ?_⟩
     try simp only [Act.put, zA, zB, zC]
     refine zq (.bool false) ?_
     go_upto_region 16 with fail
     refine wp_region_lit ?_
     refine zq (.int .i64 0) ?_
     refine zp (w' := w512) (.bool true) (by exact ezq (e := (dec_t (by omega)))) ?_
     have DD519 := zH (((((((((((D40.out.trans D53.out).trans D59.out).trans D63.out).trans D66.out).trans D76.out).trans D82.out).trans D86.out).trans D318.out).trans D509.out).trans D514.out))
     have DD520 := zH ((((((((((((D35.out.trans D40.out).trans D53.out).trans D59.out).trans D63.out).trans D66.out).trans D76.out).trans D82.out).trans D86.out).trans D318.out).trans D509.out).trans D514.out))
     go_wp2_with fail
     go_roundg ((edgesOf rs).length - (i + 1))
     case measure => exact (by omega)
     case rel => exact ⟨i + 1, m, es, A1, c1, A2, c2, rfl, rfl, rfl, (by go_num), hlt, ⟨HM.out.1, by have := HM.out.2; omega⟩, (by rw [HVL.out, crs_none HE.out (cross_no (a := (ax, ay)) (b := (bx, bY)) (fun h_ => C1.out h_.1) (fun h_ => C4.out h_.2))]), (fun g_ hg_ => (HOE.out g_ hg_).dig DD519.out), H514.out.take 4, DD520.out⟩
    have C3 := zH c322
    clear c322
    go_upto_region 14 with fail
    refine wp_region_lit ?_
    refine zd Y74 (0) (rc r72) (H318.out.range (i := 7) (by rfl) 0 4) Tryz.underlying27 ?_
    refine zd X1 (0) (rc ry) (H318.out.range (i := 0) (by rfl) 0 4) Tryz.underlying27 ?_
    have DD522 := zH ((DD317.out.trans D318.out))
    refine zc (less_any 60000 _ _ (((bY) : Int) : Rat) y _ (RV.Is.nin (R72.out.dig DD522.out) (Nat.le_trans B72.out (by omega))) (RV.In.nin (RV.In.mono (RY.out.dig H318.out.dig0) (by omega))) (by omega)) ?_
    rintro e w521 ⟨rfl, hx⟩
    have H523 := zH (H318.out.step hx)
    have D523 := zH (Dig.of_ext hx)
    clear hx
    refine ⟨.bool false, by rw [dec_f C3.out], ?_⟩
    try simp only [Act.put, zA, zB, zC]
    refine zq (.bool false) ?_
    refine zk ?_
    refine zk ?_
    refine zk ?_
    refine zq (.bool false) ?_
    go_upto_region 16 with fail
    refine wp_region_lit ?_
    refine zq (.int .i64 0) ?_
    refine zp (w' := w521) (.bool true) (by exact ezq (e := (dec_t (by omega)))) ?_
    have DD529 := zH ((((((((((D40.out.trans D53.out).trans D59.out).trans D63.out).trans D66.out).trans D76.out).trans D82.out).trans D86.out).trans D318.out).trans D523.out))
    have DD530 := zH (((((((((((D35.out.trans D40.out).trans D53.out).trans D59.out).trans D63.out).trans D66.out).trans D76.out).trans D82.out).trans D86.out).trans D318.out).trans D523.out))
    go_wp2_with fail
    go_roundg ((edgesOf rs).length - (i + 1))
    case measure => exact (by omega)
    case rel => exact ⟨i + 1, m, es, A1, c1, A2, c2, rfl, rfl, rfl, (by go_num), hlt, ⟨HM.out.1, by have := HM.out.2; omega⟩, (by rw [HVL.out, crs_none HE.out (cross_no (a := (ax, ay)) (b := (bx, bY)) (fun h_ => C1.out h_.1) (fun h_ => C3.out h_.1))]), (fun g_ hg_ => (HOE.out g_ hg_).dig DD529.out), H523.out.take 4, DD530.out⟩
   have HLT := zH c36
   clear c36
   have hlt := HLT.out
   have hki := HKI.out
   obtain rfl : i = (edgesOf rs).length := by omega
   have hge : ¬ ((edgesOf rs).length : Int) < ((edgesOf rs).length : Int) := by omega
   go_upto_region 28 with fail
   refine wp_region_lit ?_
   refine qV (.slice A1 m c1) ?_
   refine zq (.slice A2 m c2) ?_
   refine qV (.slice A1 m c1) ?_
   refine zq (.slice A2 m c2) ?_
   go_wp2_with fail
   go_ret2
   unfold CrossRet
   exact ⟨A1, c1, A2, c2, m, es, rfl, HM.out.1, H35.out.row (i := 1) (by rfl), H35.out.row (i := 2) (by rfl), HOE.out, (by rw [HVL.out, List.take_length, marksV_of]), H35.out.ext⟩
 have HV := zH c18
 clear c18
 go_upto_region 3 with fail
 refine wp_region_lit ?_
 refine qV (u) ?_
 refine zc (r16Valid_any _ rs _ (HU.out.ext H15.out.ext) HN.out HR.out) ?_
 rintro e w536 ⟨rfl, hx⟩
 have H537 := zH (H15.out.step hx)
 clear hx
 refine ⟨.bool false, by rw [Bool.eq_false_iff.2 HV.out], ?_⟩
 try simp only [Act.put, zA, zB, zC]
 refine zq (.bool true) ?_
 go_upto_region 4 with fail
 refine wp_region_lit ?_
 refine qV (.slice (some ⟨X9, 0, none⟩) 0 0) ?_
 refine zq (.slice (some ⟨X14, 0, none⟩) 0 0) ?_
 refine qV (.slice (some ⟨X9, 0, none⟩) 0 0) ?_
 refine zq (.slice (some ⟨X14, 0, none⟩) 0 0) ?_
 go_wp2_with fail
 go_ret2
 unfold CrossRet
 exact ⟨some ⟨X9, 0, none⟩, 0, some ⟨X14, 0, none⟩, 0, 0, [], rfl, rfl, H537.out.row (i := 1) (by rfl), H537.out.row (i := 2) (by rfl), (by simp), (by rw [marksV_of, edgesOf_f HV.out]; rfl), H537.out.ext⟩
end Go.Proofs.YtmgibncehlpfkaaGreat

namespace Go.Proofs.YtmgibncehlpfkaaGreat
open Go.RowKit

structure LvE where
  a : RV
  b : RV
  p : Rat
  q : Rat
  n : Int
def LvE.cs (e : LvE) : List Value := [.bool e.a.n, .slice e.a.p e.a.l e.a.c, .bool e.a.m, .slice e.a.p2 e.a.l2 e.a.c2, .bool e.b.n, .slice e.b.p e.b.l e.b.c, .bool e.b.m, .slice e.b.p2 e.b.l2 e.b.c2]
def LvE.cn (e : LvE) : List Value := [.int .i64 e.n]
theorem LvE.cs_len (e : LvE) : e.cs.length = 8 := rfl
theorem LvE.cn_len (e : LvE) : e.cn.length = 1 := rfl
def LvE.vl (e : LvE) : QQ × Int := ((e.p, e.q), e.n)
def LvE.sp (e : LvE) : SpE := ⟨e.a, e.b, e.p, e.q⟩
def LvE.Ok (L : Nat) (w : World) (e : LvE) : Prop := e.a.Is w e.p ∧ e.b.Is w e.q ∧ Nm.rl e.p ≤ L ∧ Nm.rl e.q ≤ L ∧ -100000 ≤ e.n ∧ e.n ≤ 100000
theorem LvE.Ok.dig {L : Nat} {w w' : World} {e : LvE} (h : e.Ok L w) (d : Dig w w') : e.Ok L w' := ⟨h.1.dig d, h.2.1.dig d, h.2.2⟩
theorem lv_sp (es : List LvE) : es.flatMap LvE.cs = (es.map LvE.sp).flatMap SpE.cells := by
  induction es with
  | nil => rfl
  | cons e es ih => rw [List.flatMap_cons, List.map_cons, List.flatMap_cons, ih]; rfl
theorem lvstep_skip {out : List (QQ × Int)} {r : QQ × Int} (h : r.2 = 0 ∨ ¬ r.1.1 < r.1.2) : lvstep out r = out := if_pos h
theorem lvstep_nil {r : QQ × Int} (h : ¬ (r.2 = 0 ∨ ¬ r.1.1 < r.1.2)) : lvstep [] r = [(r.1, -r.2)] := by unfold lvstep; rw [if_neg h]; rfl
theorem lvstep_grow {out : List (QQ × Int)} {l r : QQ × Int} (h : ¬ (r.2 = 0 ∨ ¬ r.1.1 < r.1.2)) (h2 : l.2 = -r.2 ∧ l.1.2 = r.1.1) : lvstep (out ++ [l]) r = out ++ [((l.1.1, r.1.2), l.2)] := by
  unfold lvstep
  rw [if_neg h]
  simp [h2]
theorem lvstep_more {out : List (QQ × Int)} {l r : QQ × Int} (h : ¬ (r.2 = 0 ∨ ¬ r.1.1 < r.1.2)) (h2 : ¬ (l.2 = -r.2 ∧ l.1.2 = r.1.1)) : lvstep (out ++ [l]) r = out ++ [l] ++ [(r.1, -r.2)] := by
  unfold lvstep
  rw [if_neg h]
  simp only [List.getLast?_append, List.getLast?_singleton, Option.some_or]
  rw [if_neg h2]
end Go.Proofs.YtmgibncehlpfkaaGreat

namespace Go.Proofs.YtmgibncehlpfkaaGreat
open Go.RowKit
attribute [local go_sem ↓] Go.wp_at_zero Go.wp_at_succ run_max_ii run_min_ii
def LevRet (L : Nat) (rs : List Ring) (y : Rat) (w : World) (e : Ending) (w' : World) : Prop :=
  ∃ (A1 : Option Addr) (c1 : Nat) (A2 : Option Addr) (c2 : Nat) (n : Nat) (es : List LvE), e = .returned (.tuple #[.slice A1 n c1, .slice A2 n c2]) ∧ n = List.length es ∧ RowN w' w.heap.size 39 8 (.slice A1 n c1) n (List.flatMap LvE.cs es) ∧ RowN w' w.heap.size 3 1 (.slice A2 n c2) n (List.flatMap LvE.cn es) ∧
      (∀ e, e ∈ es → e.Ok (L + 8) w') ∧ es.map LvE.vl = levelsV (marksV y rs) ∧ n ≤ 4096 ∧ Ext w w'
theorem lv_take {qs : List QI} {k : Nat} {r : QQ × Int} (h : (runs 0 qs)[k]? = some r) : ((runs 0 qs).take (k + 1)).foldl lvstep [] = lvstep (((runs 0 qs).take k).foldl lvstep []) r := by
  rw [List.take_add_one, h, List.foldl_append]
  rfl
theorem lv_cnset {es : List LvE} {l z : LvE} (h : z.n = l.n) : List.flatMap LvE.cn (es ++ [l]) = List.flatMap LvE.cn (es ++ [z]) := by
  rw [List.flatMap_append, List.flatMap_append]
  unfold LvE.cn
  simp [h]
theorem lv_snoc (es : List LvE) : es = [] ∨ ∃ es0 l, es = es0 ++ [l] := by
  rcases List.eq_nil_or_concat es with h | ⟨a, b, h⟩
  · exact .inl h
  exact .inr ⟨a, b, by rw [h, List.concat_eq_append]⟩
theorem lv_setlast (es : List LvE) (l z : LvE) : (es ++ [l]).set es.length z = es ++ [z] := by simp
set_option maxRecDepth 20000 in
set_option maxHeartbeats 4000000 in
theorem rlevels_any (L : Nat) (u : Value) (rs : List Ring) (ry : RV) (y : Rat) (w : World) (hu : RingsV w u rs) (hy : ry.In L w y) (h1L : 1 ≤ L) (hL : L ≤ 2000) (hn : rs.length ≤ 100000) (hr : ∀ r, r ∈ rs → r.length ≤ 100000) :
  Calls Tryz.prog 8 #[u, .agg #[.bool ry.n, .slice ry.p ry.l ry.c, .bool ry.m, .slice ry.p2 ry.l2 ry.c2]] w (LevRet L rs y w) := by
 have HU := zH hu
 have HN := zH hn
 have HR := zH hr
 have RY := zH hy
 clear hu hn hr hy
 go_enter Tryz.func8, Tryz.ntmps8
 have H0 := zH (Hp.start w)
 go_upto_region 0 with fail
 refine wp_region_lit ?_
 refine mv_alloc (T := 27) (zs := [.bool ry.n, .slice ry.p ry.l ry.c, .bool ry.m, .slice ry.p2 ry.l2 ry.c2]) (by rfl) (by go_simp) H0.out (by simp [NoUL]) ?_
 intro X1 w2 hh hx hge
 have H3 := zH (show Hp w w2 [.blk X1 27 (rc ry)] from hh)
 clear hh hx hge
 try simp only [Act.put, zA, zB, zC]
 refine qV (.slice none 0 0) ?_
 refine zq (.slice none 0 0) ?_
 go_upto_region 1 with fail
 refine wp_region_lit ?_
 refine qV (u) ?_
 refine zd X1 (0) (rc ry) (H3.out.range (i := 0) (by rfl) 0 4) Tryz.underlying27 ?_
 refine zc (rcrossings_any L (u) rs ry y _ (HU.out.ext H3.out.ext) (RY.out.dig H3.out.dig0) h1L (by omega) HN.out HR.out) ?_
 rintro e w9 ⟨A110, c110, A210, c210, n_, ms10, rfl, rfl, hr1_, hr2_, hok_, hcv_, hx⟩
 have HVC10 := zH hcv_
 have HOC10 := zH hok_
 obtain ⟨Ax_, cx_, hv_, hA_⟩ := RowN.form hr1_
 obtain rfl : A110 = Ax_ := by injection hv_
 have HXA10 := zH hA_
 clear hv_ hA_ hcv_ hok_
 obtain ⟨Ay_, cy_, hv_, hA_⟩ := RowN.form hr2_
 obtain rfl : A210 = Ay_ := by injection hv_
 have HWA10 := zH hA_
 clear hv_ hA_
 have H11 := zH (show Hp w w9 [.blk X1 27 (rc ry), ro 27 4 A110 ms10.length c110 MkE.cx ms10, ro 3 1 A210 ms10.length c210 MkE.cu ms10] from H3.out.addRow2 hx hr1_ hr2_ (by decide))
 clear hr1_ hr2_
 have HML10 := zH (show ms10.length ≤ 4096 by have h_ := marksV_len y rs; rw [← HVC10.out, List.length_map] at h_; exact h_)
 clear hx
 refine zn ?_
 refine qV (.tuple #[.slice A110 ms10.length c110, .slice A210 ms10.length c210]) ?_
 refine zq (.slice A110 ms10.length c110) ?_
 refine qV (.slice A210 ms10.length c210) ?_
 refine zq (.slice A110 ms10.length c110) ?_
 refine zq (.slice A210 ms10.length c210) ?_
 go_upto_region 2 with fail
 refine wp_region_lit ?_
 refine zp (w' := w9.alloc (.cells #[] 39)) (.slice (some ⟨w9.heap.size, 0, none⟩) 0 0) (by go_simp) ?_
 have hh := H11.out.addEmpty 39 8
 have hd := Dig.of_ext ((Ext.refl w9).alloc (.cells #[] 39))
 generalize w9.alloc (.cells #[] 39) = w18 at hh hd ⊢
 generalize w9.heap.size = X19 at hh ⊢
 have H20 := zH (show Hp w w18 [.blk X1 27 (rc ry), ro 27 4 A110 ms10.length c110 MkE.cx ms10, ro 3 1 A210 ms10.length c210 MkE.cu ms10, ro 39 8 (some ⟨X19, 0, none⟩) 0 0 LvE.cs ([])] from hh)
 have D20 := zH (hd)
 clear hh hd
 refine zq (.slice (some ⟨X19, 0, none⟩) 0 0) ?_
 go_upto_region 3 with fail
 refine wp_region_lit ?_
 refine zp (w' := w18.alloc (.cells #[] 3)) (.slice (some ⟨w18.heap.size, 0, none⟩) 0 0) (by go_simp) ?_
 have hh := H20.out.addEmpty 3 1
 have hd := Dig.of_ext ((Ext.refl w18).alloc (.cells #[] 3))
 generalize w18.alloc (.cells #[] 3) = w23 at hh hd ⊢
 generalize w18.heap.size = X24 at hh ⊢
 have H25 := zH (show Hp w w23 [.blk X1 27 (rc ry), ro 27 4 A110 ms10.length c110 MkE.cx ms10, ro 3 1 A210 ms10.length c210 MkE.cu ms10, ro 39 8 (some ⟨X19, 0, none⟩) 0 0 LvE.cs ([]), ro 3 1 (some ⟨X24, 0, none⟩) 0 0 LvE.cn ([])] from hh)
 have D25 := zH (hd)
 clear hh hd
 refine zq (.slice (some ⟨X24, 0, none⟩) 0 0) ?_
 go_upto_region 4 with fail
 refine wp_region_lit ?_
 refine zq (.int .i64 0) ?_
 go_upto_region 5 with fail
 refine wp_region_lit ?_
 refine zq (.int .i64 0) ?_
 obtain ⟨qs, hqs⟩ : ∃ qs, qs = ms10.map MkE.vl := ⟨_, rfl⟩
 have HQS := zH hqs
 have HQL := zH (show qs.length = ms10.length by rw [hqs, List.length_map])
 clear hqs
 go_wp2_with fail
 go_loopg [8, 9, 10, 11] (ms10.length) (fun cq v30 v31 v32 v33 wr => ∃ (k : Nat) (m : Nat) (es : List LvE) (A1 : Option Addr) (c1 : Nat) (A2 : Option Addr) (c2 : Nat) (s : Int), cq = ms10.length - k ∧ v30 = .slice A1 m c1 ∧ v31 = .slice A2 m c2 ∧ v32 = .int .i64 s ∧ v33 = .int .i64 (k : Int) ∧ (k ≤ ms10.length) ∧ (-(psum qs k) = s) ∧ (-(k : Int) ≤ s ∧ s ≤ k) ∧ (m = es.length ∧ m ≤ k) ∧ (es.map LvE.vl = ((runs 0 qs).take k).foldl lvstep []) ∧ (∀ e, e ∈ es → e.Ok (L + 8) wr) ∧ Hp w wr [.blk X1 27 [.bool ry.n, .slice ry.p ry.l ry.c, .bool ry.m, .slice ry.p2 ry.l2 ry.c2], .row 27 4 (.slice A110 ms10.length c110) (ms10.length) (List.flatMap MkE.cx ms10), .row 3 1 (.slice A210 ms10.length c210) (ms10.length) (List.flatMap MkE.cu ms10), .row 39 8 (.slice A1 m c1) (m) (List.flatMap LvE.cs es), .row 3 1 (.slice A2 m c2) (m) (List.flatMap LvE.cn es)] ∧ Dig w23 wr)
 case atStart => exact ⟨0, 0, [], some ⟨X19, 0, none⟩, 0, some ⟨X24, 0, none⟩, 0, 0, rfl, rfl, rfl, rfl, rfl, Nat.zero_le _, rfl, ⟨by decide, by decide⟩, ⟨rfl, Nat.le_refl _⟩, rfl, (by simp), H25.out, Dig.refl _⟩
 case round =>
  obtain ⟨k, m, es, A1, c1, A2, c2, s, rfl, rfl, rfl, rfl, rfl, q_HK, q_HPV, q_HSM, q_HM, q_HLV, q_HOE, hh_, hd_⟩ := hrel
  generalize wr = w34 at *
  have HK := zH q_HK
  clear q_HK
  have HPV := zH q_HPV
  clear q_HPV
  have HSM := zH q_HSM
  clear q_HSM
  have HM := zH q_HM
  clear q_HM
  have HLV := zH q_HLV
  clear q_HLV
  have HOE := zH q_HOE
  clear q_HOE
  have H36 := zH hh_
  have D36 := zH hd_
  clear hh_ hd_ H25
  by_cases c37 : k + 1 < ms10.length
  ·have HLT := zH c37
   clear c37
   have hlt := HLT.out
   have hml : ms10.length ≤ 4096 := HML10.out
   have hk0 : k < ms10.length := by omega
   have hm4 : m ≤ 4096 := by have := HM.out.2; omega
   obtain ⟨gxs, rfl⟩ := HXA10.out (by omega)
   obtain ⟨gws, rfl⟩ := HWA10.out (by omega)
   obtain ⟨e, he_⟩ : ∃ e, ms10[k]? = some e := ⟨_, List.getElem?_eq_getElem hk0⟩
   have HEe := zH he_
   have HOe := zH (HOC10.out e (List.mem_of_getElem? he_))
   have RAe := zH HOe.out.1
   have BAe := zH HOe.out.2.1
   have HSe := zH HOe.out.2.2
   clear he_
   obtain ⟨f, he_⟩ : ∃ f, ms10[k + 1]? = some f := ⟨_, List.getElem?_eq_getElem hlt⟩
   have HEf := zH he_
   have HOf := zH (HOC10.out f (List.mem_of_getElem? he_))
   have RAf := zH HOf.out.1
   have BAf := zH HOf.out.2.1
   have HSf := zH HOf.out.2.2
   clear he_
   have hqk : qs[k]? = some e.vl := by rw [HQS.out, List.getElem?_map, HEe.out]; rfl
   have HPS := zH (psum_succ hqk)
   have HPN := zH (show -(psum qs (k + 1)) = s - e.up from by rw [HPS.out, ← HPV.out]; show -(psum qs k + e.up) = _; omega)
   have HRG := zH (runs_get qs 0 k e.vl f.vl hqk (by rw [HQS.out, List.getElem?_map, HEf.out]; rfl))
   have HRN := zH (show -(0 + psum qs (k + 1)) = s - e.up by rw [← HPN.out]; omega)
   have HS2 := zH (show -(k + 1 : Int) ≤ s - e.up ∧ s - e.up ≤ k + 1 by have h1 := HSM.out; have h2 := HSe.out; omega)
   clear hqk
   have hv38 := HS2.out.1
   have hv39 := HS2.out.2
   go_upto_region 6 with fail
   refine wp_region_lit ?_
   refine zq (.int .i64 (k : Int)) ?_
   refine zp (w' := w34) (.int .i64 ((k + 1 : Nat) : Int)) (by exact ez1 (by omega)) ?_
   refine qV (.slice (some ⟨gxs, 0, none⟩) ms10.length c110) ?_
   refine zq (.int .i64 ((ms10.length : Nat) : Int)) ?_
   refine zp (w' := w34) (.bool true) (by exact ezl (e := (dec_t (by omega)))) ?_
   go_upto_region 8 with fail
   refine wp_region_lit ?_
   refine qV (.int .i64 s) ?_
   refine zq (.slice (some ⟨gws, 0, none⟩) ms10.length c210) ?_
   refine zq (.int .i64 (k : Int)) ?_
   refine zp (w' := w34) (.pointer (some ⟨gws, k * 1, none⟩)) (by exact ezi (k := k) Tryz.underlying32 (l := hk0) (f := (Nat.zero_add _).symm)) ?_
   refine ze gws (k * 1) (.int .i64 e.up) (H36.out.elem (f := MkE.cu) (i := 2) (by rfl) MkE.cu_len HEe.out) ?_
   refine zp (w' := w34) (.int .i64 (s - e.up)) (by exact ez2 (by omega)) ?_
   refine zq (.int .i64 (s - e.up)) ?_
   by_cases c51 : s - e.up = 0
   ·have C0 := zH c51
    clear c51
    go_upto_region 9 with fail
    refine zy ?_
    have H52 := zH (H36.out.step (Ext.refl w34).drew)
    have D52 := zH (Dig.of_ext (w := w34) zb)
    refine zx 0 (bs 15 1) (.int .i64 (s - e.up)) zb ?_
    refine zu 1 (bs 15 3) (v := .bool true) zb ?_ (hv := by intro w hSw; exact ezq (e := (dec_t C0.out)))
    refine zx 2 (bs 15 7) (.bool true) zb ?_
    refine zs 3 (bs 15 15) zb ?_
    refine zs 4 (bs 15 31) zb ?_
    refine zs 5 (bs 15 63) zb ?_
    refine zs 6 (bs 15 127) zb ?_
    refine zs 7 (bs 15 255) zb ?_
    refine zs 8 (bs 15 511) zb ?_
    refine zs 9 (bs 15 1023) zb ?_
    refine zs 10 (bs 15 2047) zb ?_
    refine zs 11 (bs 15 4095) zb ?_
    refine zs 12 (bs 15 8191) zb ?_
    refine zs 13 (bs 15 16383) zb ?_
    refine zx 14 (bs 15 32767) (.bool true) zb ?_
    refine wpAnyH_done (by kernel_rfl) ?_ _
    have DD58 := zH ((D36.out.trans D52.out))
    go_wp2_with fail
    go_roundg (ms10.length - (k + 1))
    case measure => exact (by omega)
    case rel => exact ⟨k + 1, m, es, A1, c1, A2, c2, s - e.up, rfl, rfl, rfl, rfl, (by go_num), hk0, HPN.out, (by have h_ := HS2.out; constructor <;> omega), ⟨HM.out.1, by have := HM.out.2; omega⟩, (by rw [lv_take HRG.out, lvstep_skip (.inl (show 0 + psum qs (k + 1) = 0 by have h1 := HRN.out; have h2 := C0.out; omega))]; exact HLV.out), (fun g_ hg_ => (HOE.out g_ hg_).dig D52.out), H52.out, DD58.out⟩
   have C0 := zH c51
   clear c51
   by_cases c59 : e.q < f.q
   ·have C1 := zH c59
    clear c59
    go_upto_region 9 with fail
    refine zy ?_
    have H60 := zH (H36.out.step (Ext.refl w34).drew)
    have D60 := zH (Dig.of_ext (w := w34) zb)
    refine zx 0 (bs 15 1) (.int .i64 (s - e.up)) zb ?_
    refine zu 1 (bs 15 3) (v := .bool false) zb ?_ (hv := by intro w hSw; exact ezq (e := (dec_f C0.out)))
    refine zx 2 (bs 15 7) (.bool false) zb ?_
    refine zx 3 (bs 15 15) (.slice (some ⟨gxs, 0, none⟩) ms10.length c110) zb ?_
    refine zx 4 (bs 15 31) (.int .i64 (k : Int)) zb ?_
    refine zo 5 (bs 15 63) (v := .pointer (some ⟨gxs, k * 4, none⟩)) zb ?_ (hv := by intro w hSw; exact ezi (k := k) Tryz.underlying47 (l := hk0) (f := (Nat.zero_add _).symm))
    refine zg 6 (bs 15 127) gxs (k * 4) (rc e.a) (H36.out.elem (f := MkE.cx) (i := 1) (by rfl) MkE.cx_len HEe.out) Tryz.underlying27 zb ?_
    refine zx 7 (bs 15 255) (.slice (some ⟨gxs, 0, none⟩) ms10.length c110) zb ?_
    refine zx 8 (bs 15 511) (.int .i64 (k : Int)) zb ?_
    refine zu 9 (bs 15 1023) (v := .int .i64 ((k + 1 : Nat) : Int)) zb ?_ (hv := by intro w hSw; exact ez1 (by omega))
    refine zo 10 (bs 15 2047) (v := .pointer (some ⟨gxs, (k + 1) * 4, none⟩)) zb ?_ (hv := by intro w hSw; exact ezi (k := k + 1) Tryz.underlying47 (l := hlt) (f := (Nat.zero_add _).symm))
    refine zg 11 (bs 15 4095) gxs ((k + 1) * 4) (rc f.a) (H36.out.elem (f := MkE.cx) (i := 1) (by rfl) MkE.cx_len HEf.out) Tryz.underlying27 zb ?_
    have DD73 := zH ((((D20.out.trans D25.out).trans D36.out).trans D60.out))
    refine mC 12 (bs 15 8191) (less_any 60000 _ _ e.q f.q _ (RV.Is.nin (RAe.out.dig DD73.out) (Nat.le_trans BAe.out (by omega))) (RV.Is.nin (RAf.out.dig DD73.out) (Nat.le_trans BAf.out (by omega))) (by omega)) ?_
    rintro e w72 ⟨rfl, hx⟩
    have H74 := zH (H60.out.step hx)
    have D74 := zH (show Dig w34.drew w72 from Dig.of_ext hx)
    have S76 := zH (show Ext w34 w72 from zb.trans hx)
    clear hx
    refine ⟨.bool true, by rw [dec_t C1.out], S76.out, ?_⟩
    try simp only [Act.put, zA, zB, zC]
    refine zx 13 (bs 15 16383) (.bool false) S76.out ?_
    refine zx 14 (bs 15 32767) (.bool false) S76.out ?_
    refine wpAnyH_done (by kernel_rfl) ?_ _
    have HNS := zH (show ¬ (((e.vl.1, f.vl.1), 0 + psum qs (k + 1)).2 = 0 ∨ ¬ ((e.vl.1, f.vl.1), 0 + psum qs (k + 1)).1.1 < ((e.vl.1, f.vl.1), 0 + psum qs (k + 1)).1.2) from fun h_ => h_.elim (fun h_ => by have h1 := HRN.out; have h2 := C0.out; have h3 : 0 + psum qs (k + 1) = 0 := h_; omega) (fun h_ => h_ C1.out))
    rcases lv_snoc es with rfl | ⟨es0, l, rfl⟩
    ·obtain rfl : m = 0 := HM.out.1
     go_upto_region 10 with fail
     refine wp_region_lit ?_
     refine qV (.slice A1 0 c1) ?_
     refine zq (.int .i64 0) ?_
     refine zp (w' := w72) (.int .i64 (-1)) (by exact ez2 (by omega)) ?_
     refine zq (.int .i64 (-1)) ?_
     go_upto_region 11 with fail
     refine zy ?_
     have H83 := zH (H74.out.step (Ext.refl w72).drew)
     have D83 := zH (Dig.of_ext (w := w72) zb)
     refine zx 0 (bs 23 1) (.int .i64 (-1)) zb ?_
     refine zu 1 (bs 23 3) (v := .bool false) zb ?_ (hv := by intro w hSw; exact ezo (e := (dec_f (by omega))))
     refine zx 2 (bs 23 7) (.bool false) zb ?_
     refine zs 3 (bs 23 15) zb ?_
     refine zs 4 (bs 23 31) zb ?_
     refine zs 5 (bs 23 63) zb ?_
     refine zs 6 (bs 23 127) zb ?_
     refine zs 7 (bs 23 255) zb ?_
     refine zs 8 (bs 23 511) zb ?_
     refine zx 9 (bs 23 1023) (.bool false) zb ?_
     refine zx 10 (bs 23 2047) (.bool false) zb ?_
     refine zs 11 (bs 23 4095) zb ?_
     refine zs 12 (bs 23 8191) zb ?_
     refine zs 13 (bs 23 16383) zb ?_
     refine zs 14 (bs 23 32767) zb ?_
     refine zs 15 (bs 23 65535) zb ?_
     refine zs 16 (bs 23 131071) zb ?_
     refine zs 17 (bs 23 262143) zb ?_
     refine zs 18 (bs 23 524287) zb ?_
     refine zs 19 (bs 23 1048575) zb ?_
     refine zs 20 (bs 23 2097151) zb ?_
     refine zs 21 (bs 23 4194303) zb ?_
     refine zx 22 (bs 23 8388607) (.bool false) zb ?_
     refine wpAnyH_done (by kernel_rfl) ?_ _
     go_upto_region 13 with fail
     refine wp_region_held_drew (S := fun x => Fr (fun kz => Value.ownBlock (.slice A1 0 c1) = some kz) w72.drew x) (by kernel_rfl) (Fr.of_ext zb) (fun _ => ?_)
     have H91 := zH (H83.out.step (Ext.refl w72.drew).drew)
     have D91 := zH (show Dig w72.drew w72.drew.drew from Dig.of_ext (Ext.refl w72.drew).drew)
     refine zx 0 (bs 14 1) (.slice A1 0 c1) (Fr.of_ext zb) ?_
     refine zx 1 (bs 14 3) (.slice (some ⟨gxs, 0, none⟩) ms10.length c110) (Fr.of_ext zb) ?_
     refine zx 2 (bs 14 7) (.int .i64 (k : Int)) (Fr.of_ext zb) ?_
     refine zo 3 (bs 14 15) (v := .pointer (some ⟨gxs, k * 4, none⟩)) (Fr.of_ext zb) ?_ (hv := by intro w hSw; exact ezi (k := k) Tryz.underlying47 (l := hk0) (f := (Nat.zero_add _).symm))
     refine zr 4 (bs 14 31) gxs (k * 4) [.bool e.a.n, .slice e.a.p e.a.l e.a.c, .bool e.a.m, .slice e.a.p2 e.a.l2 e.a.c2] (fun x hx => Fr.range hx (show World.rangeAt w72.drew gxs (k * 4) [.bool e.a.n, .slice e.a.p e.a.l e.a.c, .bool e.a.m, .slice e.a.p2 e.a.l2 e.a.c2] from (H83.out.elem (f := MkE.cx) (i := 1) (by rfl) MkE.cx_len HEe.out)) (H83.out.offRow (i := 1) (j := 3) (by rfl) (by rfl) (by decide) (by rfl))) Tryz.underlying27 (Fr.of_ext zb) ?_
     refine zx 5 (bs 14 63) (.slice (some ⟨gxs, 0, none⟩) ms10.length c110) (Fr.of_ext zb) ?_
     refine zx 6 (bs 14 127) (.int .i64 (k : Int)) (Fr.of_ext zb) ?_
     refine zu 7 (bs 14 255) (v := .int .i64 ((k + 1 : Nat) : Int)) (Fr.of_ext zb) ?_ (hv := by intro w hSw; exact ez1 (by omega))
     refine zo 8 (bs 14 511) (v := .pointer (some ⟨gxs, (k + 1) * 4, none⟩)) (Fr.of_ext zb) ?_ (hv := by intro w hSw; exact ezi (k := k + 1) Tryz.underlying47 (l := hlt) (f := (Nat.zero_add _).symm))
     refine zr 9 (bs 14 1023) gxs ((k + 1) * 4) [.bool f.a.n, .slice f.a.p f.a.l f.a.c, .bool f.a.m, .slice f.a.p2 f.a.l2 f.a.c2] (fun x hx => Fr.range hx (show World.rangeAt w72.drew gxs ((k + 1) * 4) [.bool f.a.n, .slice f.a.p f.a.l f.a.c, .bool f.a.m, .slice f.a.p2 f.a.l2 f.a.c2] from (H83.out.elem (f := MkE.cx) (i := 1) (by rfl) MkE.cx_len HEf.out)) (H83.out.offRow (i := 1) (j := 3) (by rfl) (by rfl) (by decide) (by rfl))) Tryz.underlying27 (Fr.of_ext zb) ?_
     refine zx 10 (bs 14 2047) (.agg #[.bool e.a.n, .slice e.a.p e.a.l e.a.c, .bool e.a.m, .slice e.a.p2 e.a.l2 e.a.c2, .bool f.a.n, .slice f.a.p f.a.l f.a.c, .bool f.a.m, .slice f.a.p2 f.a.l2 f.a.c2]) (Fr.of_ext zb) ?_
     refine mU 11 (bs 14 4095) (v := .slice (some ⟨w72.drew.drew.heap.size, 0, none⟩) 1 1) (w' := (w72.drew.drew.alloc (.cells ([.bool e.a.n, .slice e.a.p e.a.l e.a.c, .bool e.a.m, .slice e.a.p2 e.a.l2 e.a.c2, .bool f.a.n, .slice f.a.p f.a.l f.a.c, .bool f.a.m, .slice f.a.p2 f.a.l2 f.a.c2] : List Value).toArray 39))) ((Fr.of_ext zb).trans (Fr.of_ext ((Ext.refl w72.drew.drew).alloc _))) ?_
     try simp only [Act.put, zA, zB, zC]
     refine md_app (j := 12) (listed' := (bs 14 8191)) (by rfl) (by kernel_rfl) (by rfl) _ _ _ (by rfl) elSpan (by rfl) H91.out (ix := 3) (by rfl) 1 1 [.bool e.a.n, .slice e.a.p e.a.l e.a.c, .bool e.a.m, .slice e.a.p2 e.a.l2 e.a.c2, .bool f.a.n, .slice f.a.p f.a.l f.a.c, .bool f.a.m, .slice f.a.p2 f.a.l2 f.a.c2] (by rfl) rfl (by simp [Value.oneCell']) (by simp [NoUL]) (by decide) (by unfold maxLen; exact (by omega)) (by omega) (by kernel_rfl) ?_
     intro g103 cp104 w102 hf hh hd hg
     have Fg103 := zH hf
     clear hf
     rw [show List.flatMap LvE.cs ([]) ++ [.bool e.a.n, .slice e.a.p e.a.l e.a.c, .bool e.a.m, .slice e.a.p2 e.a.l2 e.a.c2, .bool f.a.n, .slice f.a.p f.a.l f.a.c, .bool f.a.m, .slice f.a.p2 f.a.l2 f.a.c2] = _ from flat_snoc LvE.cs _ (⟨e.a, f.a, e.q, f.q, s - e.up⟩ : LvE)] at hh
     have H105 := zH (show Hp w w102 [.blk X1 27 (rc ry), ro 27 4 (some ⟨gxs, 0, none⟩) ms10.length c110 MkE.cx ms10, ro 3 1 (some ⟨gws, 0, none⟩) ms10.length c210 MkE.cu ms10, ro 39 8 (some ⟨g103, 0, none⟩) 1 cp104 LvE.cs (([]) ++ [(⟨e.a, f.a, e.q, f.q, s - e.up⟩ : LvE)]), ro 3 1 A2 0 c2 LvE.cn ([])] from hh)
     have D105 := zH (show Dig w72.drew.drew w102 from hd)
     have S107 := zH (show Fr (fun kz => Value.ownBlock (.slice A1 0 c1) = some kz) w72.drew w102 from Fr.trans_new ((Fr.of_ext zb).trans (Fr.of_ext ((Ext.refl _).alloc _))) hg (fun j hj => .inl hj))
     clear hh hd hg
     refine ⟨S107.out, ?_⟩
     try simp only [Act.put, zA, zB, zC]
     refine zx 13 (bs 14 16383) (.slice (some ⟨g103, 0, none⟩) 1 cp104) S107.out ?_
     refine wpAnyH_done (by kernel_rfl) ?_ _
     go_upto_region 14 with fail
     refine wp_region_lit ?_
     refine qV (.slice A2 0 c2) ?_
     refine zq (.int .i64 (s - e.up)) ?_
     refine zp (w' := (w102.alloc (.cells ([.int .i64 (s - e.up)] : List Value).toArray 3))) (.slice (some ⟨w102.heap.size, 0, none⟩) 1 1) (by go_simp) ?_
     refine mv_app (by rfl) _ _ _ (by rfl) elInt (by rfl) H105.out (ix := 4) (by rfl) 1 1 [.int .i64 (s - e.up)] (by rfl) rfl (by simp [Value.oneCell']) (by simp [NoUL]) (by decide) (by unfold maxLen; exact (by omega)) (by omega) ?_
     intro g112 cp113 w111 hf hh hd hg
     have Fg112 := zH hf
     clear hf
     rw [show List.flatMap LvE.cn ([]) ++ [.int .i64 (s - e.up)] = _ from flat_snoc LvE.cn _ (⟨e.a, f.a, e.q, f.q, s - e.up⟩ : LvE)] at hh
     have H114 := zH (show Hp w w111 [.blk X1 27 (rc ry), ro 27 4 (some ⟨gxs, 0, none⟩) ms10.length c110 MkE.cx ms10, ro 3 1 (some ⟨gws, 0, none⟩) ms10.length c210 MkE.cu ms10, ro 39 8 (some ⟨g103, 0, none⟩) 1 cp104 LvE.cs (([]) ++ [(⟨e.a, f.a, e.q, f.q, s - e.up⟩ : LvE)]), ro 3 1 (some ⟨g112, 0, none⟩) 1 cp113 LvE.cn (([]) ++ [(⟨e.a, f.a, e.q, f.q, s - e.up⟩ : LvE)])] from hh)
     have D114 := zH (hd)
     clear hh hd hg
     try simp only [Act.put, zA, zB, zC]
     refine zq (.slice (some ⟨g112, 0, none⟩) 1 cp113) ?_
     have DD117 := zH ((((((D60.out.trans D74.out).trans D83.out).trans D91.out).trans D105.out).trans D114.out))
     have DD118 := zH ((((((DD73.out.trans D74.out).trans D83.out).trans D91.out).trans D105.out).trans D114.out))
     have HOKN := zH (show LvE.Ok (L + 8) w111 (⟨e.a, f.a, e.q, f.q, s - e.up⟩ : LvE) from ⟨(RAe.out.dig DD118.out), (RAf.out.dig DD118.out), BAe.out, BAf.out, (by have h_ := HS2.out; show -100000 ≤ s - e.up; omega), (by have h_ := HS2.out; show s - e.up ≤ 100000; omega)⟩)
     have DD119 := zH (((((((D36.out.trans D60.out).trans D74.out).trans D83.out).trans D91.out).trans D105.out).trans D114.out))
     go_wp2_with fail
     go_roundg (ms10.length - (k + 1))
     case measure => exact (by omega)
     case rel => exact ⟨k + 1, 1, [] ++ [(⟨e.a, f.a, e.q, f.q, s - e.up⟩ : LvE)], some ⟨g103, 0, none⟩, cp104, some ⟨g112, 0, none⟩, cp113, s - e.up, rfl, rfl, rfl, rfl, (by go_num), hk0, HPN.out, (by have h_ := HS2.out; constructor <;> omega), ⟨by simp, by have := HM.out.2; omega⟩, (by rw [lv_take HRG.out, ← HLV.out]; refine Eq.trans ?_ (lvstep_nil HNS.out).symm; show [((e.q, f.q), s - e.up)] = [((e.q, f.q), -(0 + psum qs (k + 1)))]; rw [HRN.out]), (fun g_ hg_ => (List.mem_append.1 hg_).elim (fun hg_ => (HOE.out g_ hg_).dig DD117.out) (fun hg_ => by rw [List.mem_singleton.1 hg_]; exact HOKN.out)), H114.out, DD119.out⟩
    obtain rfl : m = es0.length + 1 := by have h_ := HM.out.1; simpa using h_
    have hml2 := HM.out.2
    obtain ⟨Ax_, cx_, hv_, hA_⟩ := RowN.form (H74.out.row (i := 3) (by rfl))
    injection hv_ with e1_ e2_ e3_
    subst e1_ e3_
    obtain ⟨gs, rfl⟩ := hA_ (by omega)
    clear e2_
    obtain ⟨Ax_, cx_, hv_, hA_⟩ := RowN.form (H74.out.row (i := 4) (by rfl))
    injection hv_ with e1_ e2_ e3_
    subst e1_ e3_
    obtain ⟨gn, rfl⟩ := hA_ (by omega)
    clear e2_
    have HOl := zH (HOE.out l (by simp))
    have RAl := zH HOl.out.1
    have RBl := zH HOl.out.2.1
    have BAl := zH HOl.out.2.2.1
    have BBl := zH HOl.out.2.2.2.1
    have HEl := zH (show (es0 ++ [l])[es0.length]? = some l by simp)
    go_upto_region 10 with fail
    refine wp_region_lit ?_
    refine qV (.slice (some ⟨gs, 0, none⟩) (es0.length + 1) c1) ?_
    refine zq (.int .i64 ((es0.length + 1 : Nat) : Int)) ?_
    refine zp (w' := w72) (.int .i64 ((es0.length : Nat) : Int)) (by exact ez2 (by omega)) ?_
    refine zq (.int .i64 ((es0.length : Nat) : Int)) ?_
    by_cases c124 : l.n = s - e.up
    ·have CA := zH c124
     clear c124
     by_cases c125 : l.q = e.q
     ·have CB := zH c125
      clear c125
      have CL := zH (And.intro CA.out CB.out)
      go_upto_region 11 with fail
      refine zy ?_
      have H126 := zH (H74.out.step (Ext.refl w72).drew)
      have D126 := zH (Dig.of_ext (w := w72) zb)
      refine zx 0 (bs 23 1) (.int .i64 ((es0.length : Nat) : Int)) zb ?_
      refine zu 1 (bs 23 3) (v := .bool true) zb ?_ (hv := by intro w hSw; exact ezo (e := (dec_t (by omega))))
      refine zx 2 (bs 23 7) (.bool true) zb ?_
      refine zx 3 (bs 23 15) (.slice (some ⟨gn, 0, none⟩) (es0.length + 1) c2) zb ?_
      refine zx 4 (bs 23 31) (.int .i64 ((es0.length : Nat) : Int)) zb ?_
      refine zu 5 (bs 23 63) (v := .pointer (some ⟨gn, es0.length * 1, none⟩)) zb ?_ (hv := by intro w hSw; exact ezi (k := es0.length) Tryz.underlying32 (l := (by omega)) (f := (Nat.zero_add _).symm))
      refine zf 6 (bs 23 127) gn (es0.length * 1) (.int .i64 l.n) (H74.out.elem (f := LvE.cn) (i := 4) (by rfl) LvE.cn_len HEl.out) zb ?_
      refine zx 7 (bs 23 255) (.int .i64 (s - e.up)) zb ?_
      refine zu 8 (bs 23 511) (v := .bool true) zb ?_ (hv := by intro w hSw; exact ezq (e := (dec_t CA.out)))
      refine zx 9 (bs 23 1023) (.bool true) zb ?_
      refine zx 10 (bs 23 2047) (.bool true) zb ?_
      refine zx 11 (bs 23 4095) (.slice (some ⟨gs, 0, none⟩) (es0.length + 1) c1) zb ?_
      refine zx 12 (bs 23 8191) (.int .i64 ((es0.length : Nat) : Int)) zb ?_
      refine zu 13 (bs 23 16383) (v := .pointer (some ⟨gs, es0.length * 8, none⟩)) zb ?_ (hv := by intro w hSw; exact ezi (k := es0.length) Tryz.underlying31 (l := (by omega)) (f := (Nat.zero_add _).symm))
      refine mX 14 (bs 23 32767) (.pointer (some ⟨gs, es0.length * 8 + 4, none⟩)) zb ?_
      refine zg 15 (bs 23 65535) gs (es0.length * 8 + 4) (rc l.b) (range_part (H74.out.elem (f := LvE.cs) (i := 3) (by rfl) LvE.cs_len HEl.out) 4 4) Tryz.underlying27 zb ?_
      refine zx 16 (bs 23 131071) (.slice (some ⟨gxs, 0, none⟩) ms10.length c110) zb ?_
      refine zx 17 (bs 23 262143) (.int .i64 (k : Int)) zb ?_
      refine zo 18 (bs 23 524287) (v := .pointer (some ⟨gxs, k * 4, none⟩)) zb ?_ (hv := by intro w hSw; exact ezi (k := k) Tryz.underlying47 (l := hk0) (f := (Nat.zero_add _).symm))
      refine zg 19 (bs 23 1048575) gxs (k * 4) (rc e.a) (H74.out.elem (f := MkE.cx) (i := 1) (by rfl) MkE.cx_len HEe.out) Tryz.underlying27 zb ?_
      have DD146 := zH (((D60.out.trans D74.out).trans D126.out))
      have DD147 := zH (((DD73.out.trans D74.out).trans D126.out))
      refine mC 20 (bs 23 2097151) (q03Cmp (L := 60000) (RV.Is.nin (RBl.out.dig DD146.out) (Nat.le_trans BBl.out (by omega))) (RV.Is.nin (RAe.out.dig DD147.out) (Nat.le_trans BAe.out (by omega))) (by omega)) ?_
      rintro e w145 ⟨rfl, hx⟩
      have H148 := zH (H126.out.step hx)
      have D148 := zH (show Dig w72.drew w145 from Dig.of_ext hx)
      have S150 := zH (show Ext w72 w145 from zb.trans hx)
      clear hx
      refine zm S150.out ?_
      refine zu 21 (bs 23 4194303) (v := .bool true) S150.out ?_ (hv := by intro w hSw; exact ezq (e := (dec_t (rcmp_eq_i.2 CB.out))))
      refine zx 22 (bs 23 8388607) (.bool true) S150.out ?_
      refine wpAnyH_done (by kernel_rfl) ?_ _
      go_upto_region 12 with fail
      refine wp_region_lit ?_
      refine qV (.slice (some ⟨gs, 0, none⟩) (es0.length + 1) c1) ?_
      refine zq (.int .i64 ((es0.length : Nat) : Int)) ?_
      refine qV (.slice (some ⟨gxs, 0, none⟩) ms10.length c110) ?_
      refine zq (.int .i64 (k : Int)) ?_
      refine zp (w' := w145) (.int .i64 ((k + 1 : Nat) : Int)) (by exact ez1 (by omega)) ?_
      refine zp (w' := w145) (.pointer (some ⟨gxs, (k + 1) * 4, none⟩)) (by exact ezi (k := k + 1) Tryz.underlying47 (l := hlt) (f := (Nat.zero_add _).symm)) ?_
      refine zd gxs ((k + 1) * 4) (rc f.a) (H148.out.elem (f := MkE.cx) (i := 1) (by rfl) MkE.cx_len HEf.out) Tryz.underlying27 ?_
      refine zp (w' := w145) (.pointer (some ⟨gs, es0.length * 8, none⟩)) (by exact ezi (k := es0.length) Tryz.underlying31 (l := (by omega)) (f := (Nat.zero_add _).symm)) ?_
      refine zq (.pointer (some ⟨gs, es0.length * 8 + 4, none⟩)) ?_
      refine mv_stPart (f := LvE.cs) (by rfl) _ _ _ (by rfl) H148.out (ix := 3) (by rfl) LvE.cs_len es0.length l (⟨l.a, f.a, l.p, f.q, l.n⟩ : LvE) HEl.out 4 [.bool f.a.n, .slice f.a.p f.a.l f.a.c, .bool f.a.m, .slice f.a.p2 f.a.l2 f.a.c2] (by simp) (by rfl) (es0.length * 8 + 4) (by rfl) (by rfl) (by rfl) (by kernel_rfl) (by simp [Value.oneCell']) (by simp [NoUL]) ?_
      intro w162 hh hd ho
      have H163 := zH (show Hp w w162 [.blk X1 27 (rc ry), ro 27 4 (some ⟨gxs, 0, none⟩) ms10.length c110 MkE.cx ms10, ro 3 1 (some ⟨gws, 0, none⟩) ms10.length c210 MkE.cu ms10, ro 39 8 (some ⟨gs, 0, none⟩) (es0.length + 1) c1 LvE.cs ((es0 ++ [l]).set es0.length (⟨l.a, f.a, l.p, f.q, l.n⟩ : LvE)), ro 3 1 (some ⟨gn, 0, none⟩) (es0.length + 1) c2 LvE.cn (es0 ++ [l])] from hh)
      have D163 := zH (hd)
      clear hh hd ho
      (try simp only [Act.put])
      have H165 := zH (show Hp w w162 [.blk X1 27 (rc ry), ro 27 4 (some ⟨gxs, 0, none⟩) ms10.length c110 MkE.cx ms10, ro 3 1 (some ⟨gws, 0, none⟩) ms10.length c210 MkE.cu ms10, ro 39 8 (some ⟨gs, 0, none⟩) (es0.length + 1) c1 LvE.cs (es0 ++ [(⟨l.a, f.a, l.p, f.q, l.n⟩ : LvE)]), ro 3 1 (some ⟨gn, 0, none⟩) (es0.length + 1) c2 LvE.cn (es0 ++ [(⟨l.a, f.a, l.p, f.q, l.n⟩ : LvE)])] from by have h_ : Hp w w162 [.blk X1 27 [.bool ry.n, .slice ry.p ry.l ry.c, .bool ry.m, .slice ry.p2 ry.l2 ry.c2], .row 27 4 (.slice (some ⟨gxs, 0, none⟩) ms10.length c110) (ms10.length) (List.flatMap MkE.cx ms10), .row 3 1 (.slice (some ⟨gws, 0, none⟩) ms10.length c210) (ms10.length) (List.flatMap MkE.cu ms10), .row 39 8 (.slice (some ⟨gs, 0, none⟩) (es0.length + 1) c1) (es0.length + 1) (List.flatMap LvE.cs ((es0 ++ [l]).set es0.length (⟨l.a, f.a, l.p, f.q, l.n⟩ : LvE))), .row 3 1 (.slice (some ⟨gn, 0, none⟩) (es0.length + 1) c2) (es0.length + 1) (List.flatMap LvE.cn (es0 ++ [l]))] := H163.out; rw [lv_setlast, lv_cnset (l := l) (z := (⟨l.a, f.a, l.p, f.q, l.n⟩ : LvE)) rfl] at h_; exact h_)
      have DD166 := zH (((DD146.out.trans D148.out).trans D163.out))
      have DD167 := zH (((DD147.out.trans D148.out).trans D163.out))
      have HOKN := zH (show LvE.Ok (L + 8) w162 (⟨l.a, f.a, l.p, f.q, l.n⟩ : LvE) from ⟨(RAl.out.dig DD166.out), (RAf.out.dig DD167.out), BAl.out, BAf.out, HOl.out.2.2.2.2.1, HOl.out.2.2.2.2.2⟩)
      have DD168 := zH ((((((D36.out.trans D60.out).trans D74.out).trans D126.out).trans D148.out).trans D163.out))
      go_wp2_with fail
      go_roundg (ms10.length - (k + 1))
      case measure => exact (by omega)
      case rel => exact ⟨k + 1, es0.length + 1, es0 ++ [(⟨l.a, f.a, l.p, f.q, l.n⟩ : LvE)], some ⟨gs, 0, none⟩, c1, some ⟨gn, 0, none⟩, c2, s - e.up, rfl, rfl, rfl, rfl, (by go_num), hk0, HPN.out, (by have h_ := HS2.out; constructor <;> omega), ⟨by simp, by have := HM.out.2; omega⟩, (by rw [lv_take HRG.out, ← HLV.out, List.map_append, List.map_append]; exact (lvstep_grow (l := l.vl) (r := ((e.vl.1, f.vl.1), 0 + psum qs (k + 1))) HNS.out ⟨CL.out.1.trans HRN.out.symm, CL.out.2⟩).symm), (fun g_ hg_ => (List.mem_append.1 hg_).elim (fun hg_ => (HOE.out g_ (List.mem_append.2 (.inl hg_))).dig DD166.out) (fun hg_ => by rw [List.mem_singleton.1 hg_]; exact HOKN.out)), H165.out, DD168.out⟩
     have CB := zH c125
     clear c125
     have CL := zH (show ¬ (l.n = s - e.up ∧ l.q = e.q) from fun h_ => CB.out h_.2)
     go_upto_region 11 with fail
     refine zy ?_
     have H169 := zH (H74.out.step (Ext.refl w72).drew)
     have D169 := zH (Dig.of_ext (w := w72) zb)
     refine zx 0 (bs 23 1) (.int .i64 ((es0.length : Nat) : Int)) zb ?_
     refine zu 1 (bs 23 3) (v := .bool true) zb ?_ (hv := by intro w hSw; exact ezo (e := (dec_t (by omega))))
     refine zx 2 (bs 23 7) (.bool true) zb ?_
     refine zx 3 (bs 23 15) (.slice (some ⟨gn, 0, none⟩) (es0.length + 1) c2) zb ?_
     refine zx 4 (bs 23 31) (.int .i64 ((es0.length : Nat) : Int)) zb ?_
     refine zu 5 (bs 23 63) (v := .pointer (some ⟨gn, es0.length * 1, none⟩)) zb ?_ (hv := by intro w hSw; exact ezi (k := es0.length) Tryz.underlying32 (l := (by omega)) (f := (Nat.zero_add _).symm))
     refine zf 6 (bs 23 127) gn (es0.length * 1) (.int .i64 l.n) (H74.out.elem (f := LvE.cn) (i := 4) (by rfl) LvE.cn_len HEl.out) zb ?_
     refine zx 7 (bs 23 255) (.int .i64 (s - e.up)) zb ?_
     refine zu 8 (bs 23 511) (v := .bool true) zb ?_ (hv := by intro w hSw; exact ezq (e := (dec_t CA.out)))
     refine zx 9 (bs 23 1023) (.bool true) zb ?_
     refine zx 10 (bs 23 2047) (.bool true) zb ?_
     refine zx 11 (bs 23 4095) (.slice (some ⟨gs, 0, none⟩) (es0.length + 1) c1) zb ?_
     refine zx 12 (bs 23 8191) (.int .i64 ((es0.length : Nat) : Int)) zb ?_
     refine zu 13 (bs 23 16383) (v := .pointer (some ⟨gs, es0.length * 8, none⟩)) zb ?_ (hv := by intro w hSw; exact ezi (k := es0.length) Tryz.underlying31 (l := (by omega)) (f := (Nat.zero_add _).symm))
     refine mX 14 (bs 23 32767) (.pointer (some ⟨gs, es0.length * 8 + 4, none⟩)) zb ?_
     refine zg 15 (bs 23 65535) gs (es0.length * 8 + 4) (rc l.b) (range_part (H74.out.elem (f := LvE.cs) (i := 3) (by rfl) LvE.cs_len HEl.out) 4 4) Tryz.underlying27 zb ?_
     refine zx 16 (bs 23 131071) (.slice (some ⟨gxs, 0, none⟩) ms10.length c110) zb ?_
     refine zx 17 (bs 23 262143) (.int .i64 (k : Int)) zb ?_
     refine zo 18 (bs 23 524287) (v := .pointer (some ⟨gxs, k * 4, none⟩)) zb ?_ (hv := by intro w hSw; exact ezi (k := k) Tryz.underlying47 (l := hk0) (f := (Nat.zero_add _).symm))
     refine zg 19 (bs 23 1048575) gxs (k * 4) (rc e.a) (H74.out.elem (f := MkE.cx) (i := 1) (by rfl) MkE.cx_len HEe.out) Tryz.underlying27 zb ?_
     have DD189 := zH (((D60.out.trans D74.out).trans D169.out))
     have DD190 := zH (((DD73.out.trans D74.out).trans D169.out))
     refine mC 20 (bs 23 2097151) (q03Cmp (L := 60000) (RV.Is.nin (RBl.out.dig DD189.out) (Nat.le_trans BBl.out (by omega))) (RV.Is.nin (RAe.out.dig DD190.out) (Nat.le_trans BAe.out (by omega))) (by omega)) ?_
     rintro e w188 ⟨rfl, hx⟩
     have H191 := zH (H169.out.step hx)
     have D191 := zH (show Dig w72.drew w188 from Dig.of_ext hx)
     have S193 := zH (show Ext w72 w188 from zb.trans hx)
     clear hx
     refine zm S193.out ?_
     refine zu 21 (bs 23 4194303) (v := .bool false) S193.out ?_ (hv := by intro w hSw; exact ezq (e := (dec_f (fun hh => CB.out (rcmp_eq_i.1 hh)))))
     refine zx 22 (bs 23 8388607) (.bool false) S193.out ?_
     refine wpAnyH_done (by kernel_rfl) ?_ _
     go_upto_region 13 with fail
     refine wp_region_held_drew (S := fun x => Fr (fun kz => Value.ownBlock (.slice (some ⟨gs, 0, none⟩) (es0.length + 1) c1) = some kz) w188 x) (by kernel_rfl) (Fr.of_ext zb) (fun _ => ?_)
     have H196 := zH (H191.out.step (Ext.refl w188).drew)
     have D196 := zH (Dig.of_ext (w := w188) zb)
     refine zx 0 (bs 14 1) (.slice (some ⟨gs, 0, none⟩) (es0.length + 1) c1) (Fr.of_ext zb) ?_
     refine zx 1 (bs 14 3) (.slice (some ⟨gxs, 0, none⟩) ms10.length c110) (Fr.of_ext zb) ?_
     refine zx 2 (bs 14 7) (.int .i64 (k : Int)) (Fr.of_ext zb) ?_
     refine zo 3 (bs 14 15) (v := .pointer (some ⟨gxs, k * 4, none⟩)) (Fr.of_ext zb) ?_ (hv := by intro w hSw; exact ezi (k := k) Tryz.underlying47 (l := hk0) (f := (Nat.zero_add _).symm))
     refine zr 4 (bs 14 31) gxs (k * 4) [.bool e.a.n, .slice e.a.p e.a.l e.a.c, .bool e.a.m, .slice e.a.p2 e.a.l2 e.a.c2] (fun x hx => Fr.range hx (show World.rangeAt w188 gxs (k * 4) [.bool e.a.n, .slice e.a.p e.a.l e.a.c, .bool e.a.m, .slice e.a.p2 e.a.l2 e.a.c2] from (H191.out.elem (f := MkE.cx) (i := 1) (by rfl) MkE.cx_len HEe.out)) (H191.out.offRow (i := 1) (j := 3) (by rfl) (by rfl) (by decide) (by rfl))) Tryz.underlying27 (Fr.of_ext zb) ?_
     refine zx 5 (bs 14 63) (.slice (some ⟨gxs, 0, none⟩) ms10.length c110) (Fr.of_ext zb) ?_
     refine zx 6 (bs 14 127) (.int .i64 (k : Int)) (Fr.of_ext zb) ?_
     refine zu 7 (bs 14 255) (v := .int .i64 ((k + 1 : Nat) : Int)) (Fr.of_ext zb) ?_ (hv := by intro w hSw; exact ez1 (by omega))
     refine zo 8 (bs 14 511) (v := .pointer (some ⟨gxs, (k + 1) * 4, none⟩)) (Fr.of_ext zb) ?_ (hv := by intro w hSw; exact ezi (k := k + 1) Tryz.underlying47 (l := hlt) (f := (Nat.zero_add _).symm))
     refine zr 9 (bs 14 1023) gxs ((k + 1) * 4) [.bool f.a.n, .slice f.a.p f.a.l f.a.c, .bool f.a.m, .slice f.a.p2 f.a.l2 f.a.c2] (fun x hx => Fr.range hx (show World.rangeAt w188 gxs ((k + 1) * 4) [.bool f.a.n, .slice f.a.p f.a.l f.a.c, .bool f.a.m, .slice f.a.p2 f.a.l2 f.a.c2] from (H191.out.elem (f := MkE.cx) (i := 1) (by rfl) MkE.cx_len HEf.out)) (H191.out.offRow (i := 1) (j := 3) (by rfl) (by rfl) (by decide) (by rfl))) Tryz.underlying27 (Fr.of_ext zb) ?_
     refine zx 10 (bs 14 2047) (.agg #[.bool e.a.n, .slice e.a.p e.a.l e.a.c, .bool e.a.m, .slice e.a.p2 e.a.l2 e.a.c2, .bool f.a.n, .slice f.a.p f.a.l f.a.c, .bool f.a.m, .slice f.a.p2 f.a.l2 f.a.c2]) (Fr.of_ext zb) ?_
     refine mU 11 (bs 14 4095) (v := .slice (some ⟨w188.drew.heap.size, 0, none⟩) 1 1) (w' := (w188.drew.alloc (.cells ([.bool e.a.n, .slice e.a.p e.a.l e.a.c, .bool e.a.m, .slice e.a.p2 e.a.l2 e.a.c2, .bool f.a.n, .slice f.a.p f.a.l f.a.c, .bool f.a.m, .slice f.a.p2 f.a.l2 f.a.c2] : List Value).toArray 39))) ((Fr.of_ext zb).trans (Fr.of_ext ((Ext.refl w188.drew).alloc _))) ?_
     try simp only [Act.put, zA, zB, zC]
     refine md_app (j := 12) (listed' := (bs 14 8191)) (by rfl) (by kernel_rfl) (by rfl) _ _ _ (by rfl) elSpan (by rfl) H196.out (ix := 3) (by rfl) 1 1 [.bool e.a.n, .slice e.a.p e.a.l e.a.c, .bool e.a.m, .slice e.a.p2 e.a.l2 e.a.c2, .bool f.a.n, .slice f.a.p f.a.l f.a.c, .bool f.a.m, .slice f.a.p2 f.a.l2 f.a.c2] (by rfl) rfl (by simp [Value.oneCell']) (by simp [NoUL]) (by decide) (by unfold maxLen; exact (by omega)) (by omega) (by kernel_rfl) ?_
     intro g208 cp209 w207 hf hh hd hg
     have Fg208 := zH hf
     clear hf
     rw [show List.flatMap LvE.cs (es0 ++ [l]) ++ [.bool e.a.n, .slice e.a.p e.a.l e.a.c, .bool e.a.m, .slice e.a.p2 e.a.l2 e.a.c2, .bool f.a.n, .slice f.a.p f.a.l f.a.c, .bool f.a.m, .slice f.a.p2 f.a.l2 f.a.c2] = _ from flat_snoc LvE.cs _ (⟨e.a, f.a, e.q, f.q, s - e.up⟩ : LvE)] at hh
     have H210 := zH (show Hp w w207 [.blk X1 27 (rc ry), ro 27 4 (some ⟨gxs, 0, none⟩) ms10.length c110 MkE.cx ms10, ro 3 1 (some ⟨gws, 0, none⟩) ms10.length c210 MkE.cu ms10, ro 39 8 (some ⟨g208, 0, none⟩) (es0.length + 2) cp209 LvE.cs ((es0 ++ [l]) ++ [(⟨e.a, f.a, e.q, f.q, s - e.up⟩ : LvE)]), ro 3 1 (some ⟨gn, 0, none⟩) (es0.length + 1) c2 LvE.cn (es0 ++ [l])] from hh)
     have D210 := zH (show Dig w188.drew w207 from hd)
     have S212 := zH (show Fr (fun kz => Value.ownBlock (.slice (some ⟨gs, 0, none⟩) (es0.length + 1) c1) = some kz) w188 w207 from Fr.trans_new ((Fr.of_ext zb).trans (Fr.of_ext ((Ext.refl _).alloc _))) hg (fun j hj => .inl hj))
     clear hh hd hg
     refine ⟨S212.out, ?_⟩
     try simp only [Act.put, zA, zB, zC]
     refine zx 13 (bs 14 16383) (.slice (some ⟨g208, 0, none⟩) (es0.length + 2) cp209) S212.out ?_
     refine wpAnyH_done (by kernel_rfl) ?_ _
     go_upto_region 14 with fail
     refine wp_region_lit ?_
     refine qV (.slice (some ⟨gn, 0, none⟩) (es0.length + 1) c2) ?_
     refine zq (.int .i64 (s - e.up)) ?_
     refine zp (w' := (w207.alloc (.cells ([.int .i64 (s - e.up)] : List Value).toArray 3))) (.slice (some ⟨w207.heap.size, 0, none⟩) 1 1) (by go_simp) ?_
     refine mv_app (by rfl) _ _ _ (by rfl) elInt (by rfl) H210.out (ix := 4) (by rfl) 1 1 [.int .i64 (s - e.up)] (by rfl) rfl (by simp [Value.oneCell']) (by simp [NoUL]) (by decide) (by unfold maxLen; exact (by omega)) (by omega) ?_
     intro g217 cp218 w216 hf hh hd hg
     have Fg217 := zH hf
     clear hf
     rw [show List.flatMap LvE.cn (es0 ++ [l]) ++ [.int .i64 (s - e.up)] = _ from flat_snoc LvE.cn _ (⟨e.a, f.a, e.q, f.q, s - e.up⟩ : LvE)] at hh
     have H219 := zH (show Hp w w216 [.blk X1 27 (rc ry), ro 27 4 (some ⟨gxs, 0, none⟩) ms10.length c110 MkE.cx ms10, ro 3 1 (some ⟨gws, 0, none⟩) ms10.length c210 MkE.cu ms10, ro 39 8 (some ⟨g208, 0, none⟩) (es0.length + 2) cp209 LvE.cs ((es0 ++ [l]) ++ [(⟨e.a, f.a, e.q, f.q, s - e.up⟩ : LvE)]), ro 3 1 (some ⟨g217, 0, none⟩) (es0.length + 2) cp218 LvE.cn ((es0 ++ [l]) ++ [(⟨e.a, f.a, e.q, f.q, s - e.up⟩ : LvE)])] from hh)
     have D219 := zH (hd)
     clear hh hd hg
     try simp only [Act.put, zA, zB, zC]
     refine zq (.slice (some ⟨g217, 0, none⟩) (es0.length + 2) cp218) ?_
     have DD222 := zH (((((DD189.out.trans D191.out).trans D196.out).trans D210.out).trans D219.out))
     have DD223 := zH (((((DD190.out.trans D191.out).trans D196.out).trans D210.out).trans D219.out))
     have HOKN := zH (show LvE.Ok (L + 8) w216 (⟨e.a, f.a, e.q, f.q, s - e.up⟩ : LvE) from ⟨(RAe.out.dig DD223.out), (RAf.out.dig DD223.out), BAe.out, BAf.out, (by have h_ := HS2.out; show -100000 ≤ s - e.up; omega), (by have h_ := HS2.out; show s - e.up ≤ 100000; omega)⟩)
     have DD224 := zH ((((((((D36.out.trans D60.out).trans D74.out).trans D169.out).trans D191.out).trans D196.out).trans D210.out).trans D219.out))
     go_wp2_with fail
     go_roundg (ms10.length - (k + 1))
     case measure => exact (by omega)
     case rel => exact ⟨k + 1, es0.length + 2, (es0 ++ [l]) ++ [(⟨e.a, f.a, e.q, f.q, s - e.up⟩ : LvE)], some ⟨g208, 0, none⟩, cp209, some ⟨g217, 0, none⟩, cp218, s - e.up, rfl, rfl, rfl, rfl, (by go_num), hk0, HPN.out, (by have h_ := HS2.out; constructor <;> omega), ⟨by simp, by have := HM.out.2; omega⟩, (by rw [lv_take HRG.out, ← HLV.out, List.map_append, List.map_append]; refine Eq.trans ?_ (lvstep_more HNS.out (fun h_ => CL.out ⟨h_.1.trans HRN.out, h_.2⟩)).symm; show _ ++ [l.vl] ++ [((e.q, f.q), s - e.up)] = _ ++ [l.vl] ++ [((e.q, f.q), -(0 + psum qs (k + 1)))]; rw [HRN.out]), (fun g_ hg_ => (List.mem_append.1 hg_).elim (fun hg_ => (HOE.out g_ hg_).dig DD222.out) (fun hg_ => by rw [List.mem_singleton.1 hg_]; exact HOKN.out)), H219.out, DD224.out⟩
    have CA := zH c124
    clear c124
    have CL := zH (show ¬ (l.n = s - e.up ∧ l.q = e.q) from fun h_ => CA.out h_.1)
    go_upto_region 11 with fail
    refine zy ?_
    have H225 := zH (H74.out.step (Ext.refl w72).drew)
    have D225 := zH (Dig.of_ext (w := w72) zb)
    refine zx 0 (bs 23 1) (.int .i64 ((es0.length : Nat) : Int)) zb ?_
    refine zu 1 (bs 23 3) (v := .bool true) zb ?_ (hv := by intro w hSw; exact ezo (e := (dec_t (by omega))))
    refine zx 2 (bs 23 7) (.bool true) zb ?_
    refine zx 3 (bs 23 15) (.slice (some ⟨gn, 0, none⟩) (es0.length + 1) c2) zb ?_
    refine zx 4 (bs 23 31) (.int .i64 ((es0.length : Nat) : Int)) zb ?_
    refine zu 5 (bs 23 63) (v := .pointer (some ⟨gn, es0.length * 1, none⟩)) zb ?_ (hv := by intro w hSw; exact ezi (k := es0.length) Tryz.underlying32 (l := (by omega)) (f := (Nat.zero_add _).symm))
    refine zf 6 (bs 23 127) gn (es0.length * 1) (.int .i64 l.n) (H74.out.elem (f := LvE.cn) (i := 4) (by rfl) LvE.cn_len HEl.out) zb ?_
    refine zx 7 (bs 23 255) (.int .i64 (s - e.up)) zb ?_
    refine zu 8 (bs 23 511) (v := .bool false) zb ?_ (hv := by intro w hSw; exact ezq (e := (dec_f CA.out)))
    refine zx 9 (bs 23 1023) (.bool false) zb ?_
    refine zx 10 (bs 23 2047) (.bool false) zb ?_
    refine zs 11 (bs 23 4095) zb ?_
    refine zs 12 (bs 23 8191) zb ?_
    refine zs 13 (bs 23 16383) zb ?_
    refine zs 14 (bs 23 32767) zb ?_
    refine zs 15 (bs 23 65535) zb ?_
    refine zs 16 (bs 23 131071) zb ?_
    refine zs 17 (bs 23 262143) zb ?_
    refine zs 18 (bs 23 524287) zb ?_
    refine zs 19 (bs 23 1048575) zb ?_
    refine zs 20 (bs 23 2097151) zb ?_
    refine zs 21 (bs 23 4194303) zb ?_
    refine zx 22 (bs 23 8388607) (.bool false) zb ?_
    refine wpAnyH_done (by kernel_rfl) ?_ _
    go_upto_region 13 with fail
    refine wp_region_held_drew (S := fun x => Fr (fun kz => Value.ownBlock (.slice (some ⟨gs, 0, none⟩) (es0.length + 1) c1) = some kz) w72.drew x) (by kernel_rfl) (Fr.of_ext zb) (fun _ => ?_)
    have H238 := zH (H225.out.step (Ext.refl w72.drew).drew)
    have D238 := zH (show Dig w72.drew w72.drew.drew from Dig.of_ext (Ext.refl w72.drew).drew)
    refine zx 0 (bs 14 1) (.slice (some ⟨gs, 0, none⟩) (es0.length + 1) c1) (Fr.of_ext zb) ?_
    refine zx 1 (bs 14 3) (.slice (some ⟨gxs, 0, none⟩) ms10.length c110) (Fr.of_ext zb) ?_
    refine zx 2 (bs 14 7) (.int .i64 (k : Int)) (Fr.of_ext zb) ?_
    refine zo 3 (bs 14 15) (v := .pointer (some ⟨gxs, k * 4, none⟩)) (Fr.of_ext zb) ?_ (hv := by intro w hSw; exact ezi (k := k) Tryz.underlying47 (l := hk0) (f := (Nat.zero_add _).symm))
    refine zr 4 (bs 14 31) gxs (k * 4) [.bool e.a.n, .slice e.a.p e.a.l e.a.c, .bool e.a.m, .slice e.a.p2 e.a.l2 e.a.c2] (fun x hx => Fr.range hx (show World.rangeAt w72.drew gxs (k * 4) [.bool e.a.n, .slice e.a.p e.a.l e.a.c, .bool e.a.m, .slice e.a.p2 e.a.l2 e.a.c2] from (H225.out.elem (f := MkE.cx) (i := 1) (by rfl) MkE.cx_len HEe.out)) (H225.out.offRow (i := 1) (j := 3) (by rfl) (by rfl) (by decide) (by rfl))) Tryz.underlying27 (Fr.of_ext zb) ?_
    refine zx 5 (bs 14 63) (.slice (some ⟨gxs, 0, none⟩) ms10.length c110) (Fr.of_ext zb) ?_
    refine zx 6 (bs 14 127) (.int .i64 (k : Int)) (Fr.of_ext zb) ?_
    refine zu 7 (bs 14 255) (v := .int .i64 ((k + 1 : Nat) : Int)) (Fr.of_ext zb) ?_ (hv := by intro w hSw; exact ez1 (by omega))
    refine zo 8 (bs 14 511) (v := .pointer (some ⟨gxs, (k + 1) * 4, none⟩)) (Fr.of_ext zb) ?_ (hv := by intro w hSw; exact ezi (k := k + 1) Tryz.underlying47 (l := hlt) (f := (Nat.zero_add _).symm))
    refine zr 9 (bs 14 1023) gxs ((k + 1) * 4) [.bool f.a.n, .slice f.a.p f.a.l f.a.c, .bool f.a.m, .slice f.a.p2 f.a.l2 f.a.c2] (fun x hx => Fr.range hx (show World.rangeAt w72.drew gxs ((k + 1) * 4) [.bool f.a.n, .slice f.a.p f.a.l f.a.c, .bool f.a.m, .slice f.a.p2 f.a.l2 f.a.c2] from (H225.out.elem (f := MkE.cx) (i := 1) (by rfl) MkE.cx_len HEf.out)) (H225.out.offRow (i := 1) (j := 3) (by rfl) (by rfl) (by decide) (by rfl))) Tryz.underlying27 (Fr.of_ext zb) ?_
    refine zx 10 (bs 14 2047) (.agg #[.bool e.a.n, .slice e.a.p e.a.l e.a.c, .bool e.a.m, .slice e.a.p2 e.a.l2 e.a.c2, .bool f.a.n, .slice f.a.p f.a.l f.a.c, .bool f.a.m, .slice f.a.p2 f.a.l2 f.a.c2]) (Fr.of_ext zb) ?_
    refine mU 11 (bs 14 4095) (v := .slice (some ⟨w72.drew.drew.heap.size, 0, none⟩) 1 1) (w' := (w72.drew.drew.alloc (.cells ([.bool e.a.n, .slice e.a.p e.a.l e.a.c, .bool e.a.m, .slice e.a.p2 e.a.l2 e.a.c2, .bool f.a.n, .slice f.a.p f.a.l f.a.c, .bool f.a.m, .slice f.a.p2 f.a.l2 f.a.c2] : List Value).toArray 39))) ((Fr.of_ext zb).trans (Fr.of_ext ((Ext.refl w72.drew.drew).alloc _))) ?_
    try simp only [Act.put, zA, zB, zC]
    refine md_app (j := 12) (listed' := (bs 14 8191)) (by rfl) (by kernel_rfl) (by rfl) _ _ _ (by rfl) elSpan (by rfl) H238.out (ix := 3) (by rfl) 1 1 [.bool e.a.n, .slice e.a.p e.a.l e.a.c, .bool e.a.m, .slice e.a.p2 e.a.l2 e.a.c2, .bool f.a.n, .slice f.a.p f.a.l f.a.c, .bool f.a.m, .slice f.a.p2 f.a.l2 f.a.c2] (by rfl) rfl (by simp [Value.oneCell']) (by simp [NoUL]) (by decide) (by unfold maxLen; exact (by omega)) (by omega) (by kernel_rfl) ?_
    intro g250 cp251 w249 hf hh hd hg
    have Fg250 := zH hf
    clear hf
    rw [show List.flatMap LvE.cs (es0 ++ [l]) ++ [.bool e.a.n, .slice e.a.p e.a.l e.a.c, .bool e.a.m, .slice e.a.p2 e.a.l2 e.a.c2, .bool f.a.n, .slice f.a.p f.a.l f.a.c, .bool f.a.m, .slice f.a.p2 f.a.l2 f.a.c2] = _ from flat_snoc LvE.cs _ (⟨e.a, f.a, e.q, f.q, s - e.up⟩ : LvE)] at hh
    have H252 := zH (show Hp w w249 [.blk X1 27 (rc ry), ro 27 4 (some ⟨gxs, 0, none⟩) ms10.length c110 MkE.cx ms10, ro 3 1 (some ⟨gws, 0, none⟩) ms10.length c210 MkE.cu ms10, ro 39 8 (some ⟨g250, 0, none⟩) (es0.length + 2) cp251 LvE.cs ((es0 ++ [l]) ++ [(⟨e.a, f.a, e.q, f.q, s - e.up⟩ : LvE)]), ro 3 1 (some ⟨gn, 0, none⟩) (es0.length + 1) c2 LvE.cn (es0 ++ [l])] from hh)
    have D252 := zH (show Dig w72.drew.drew w249 from hd)
    have S254 := zH (show Fr (fun kz => Value.ownBlock (.slice (some ⟨gs, 0, none⟩) (es0.length + 1) c1) = some kz) w72.drew w249 from Fr.trans_new ((Fr.of_ext zb).trans (Fr.of_ext ((Ext.refl _).alloc _))) hg (fun j hj => .inl hj))
    clear hh hd hg
    refine ⟨S254.out, ?_⟩
    try simp only [Act.put, zA, zB, zC]
    refine zx 13 (bs 14 16383) (.slice (some ⟨g250, 0, none⟩) (es0.length + 2) cp251) S254.out ?_
    refine wpAnyH_done (by kernel_rfl) ?_ _
    go_upto_region 14 with fail
    refine wp_region_lit ?_
    refine qV (.slice (some ⟨gn, 0, none⟩) (es0.length + 1) c2) ?_
    refine zq (.int .i64 (s - e.up)) ?_
    refine zp (w' := (w249.alloc (.cells ([.int .i64 (s - e.up)] : List Value).toArray 3))) (.slice (some ⟨w249.heap.size, 0, none⟩) 1 1) (by go_simp) ?_
    refine mv_app (by rfl) _ _ _ (by rfl) elInt (by rfl) H252.out (ix := 4) (by rfl) 1 1 [.int .i64 (s - e.up)] (by rfl) rfl (by simp [Value.oneCell']) (by simp [NoUL]) (by decide) (by unfold maxLen; exact (by omega)) (by omega) ?_
    intro g259 cp260 w258 hf hh hd hg
    have Fg259 := zH hf
    clear hf
    rw [show List.flatMap LvE.cn (es0 ++ [l]) ++ [.int .i64 (s - e.up)] = _ from flat_snoc LvE.cn _ (⟨e.a, f.a, e.q, f.q, s - e.up⟩ : LvE)] at hh
    have H261 := zH (show Hp w w258 [.blk X1 27 (rc ry), ro 27 4 (some ⟨gxs, 0, none⟩) ms10.length c110 MkE.cx ms10, ro 3 1 (some ⟨gws, 0, none⟩) ms10.length c210 MkE.cu ms10, ro 39 8 (some ⟨g250, 0, none⟩) (es0.length + 2) cp251 LvE.cs ((es0 ++ [l]) ++ [(⟨e.a, f.a, e.q, f.q, s - e.up⟩ : LvE)]), ro 3 1 (some ⟨g259, 0, none⟩) (es0.length + 2) cp260 LvE.cn ((es0 ++ [l]) ++ [(⟨e.a, f.a, e.q, f.q, s - e.up⟩ : LvE)])] from hh)
    have D261 := zH (hd)
    clear hh hd hg
    try simp only [Act.put, zA, zB, zC]
    refine zq (.slice (some ⟨g259, 0, none⟩) (es0.length + 2) cp260) ?_
    have DD264 := zH ((((((D60.out.trans D74.out).trans D225.out).trans D238.out).trans D252.out).trans D261.out))
    have DD265 := zH ((((((DD73.out.trans D74.out).trans D225.out).trans D238.out).trans D252.out).trans D261.out))
    have HOKN := zH (show LvE.Ok (L + 8) w258 (⟨e.a, f.a, e.q, f.q, s - e.up⟩ : LvE) from ⟨(RAe.out.dig DD265.out), (RAf.out.dig DD265.out), BAe.out, BAf.out, (by have h_ := HS2.out; show -100000 ≤ s - e.up; omega), (by have h_ := HS2.out; show s - e.up ≤ 100000; omega)⟩)
    have DD266 := zH (((((((D36.out.trans D60.out).trans D74.out).trans D225.out).trans D238.out).trans D252.out).trans D261.out))
    go_wp2_with fail
    go_roundg (ms10.length - (k + 1))
    case measure => exact (by omega)
    case rel => exact ⟨k + 1, es0.length + 2, (es0 ++ [l]) ++ [(⟨e.a, f.a, e.q, f.q, s - e.up⟩ : LvE)], some ⟨g250, 0, none⟩, cp251, some ⟨g259, 0, none⟩, cp260, s - e.up, rfl, rfl, rfl, rfl, (by go_num), hk0, HPN.out, (by have h_ := HS2.out; constructor <;> omega), ⟨by simp, by have := HM.out.2; omega⟩, (by rw [lv_take HRG.out, ← HLV.out, List.map_append, List.map_append]; refine Eq.trans ?_ (lvstep_more HNS.out (fun h_ => CL.out ⟨h_.1.trans HRN.out, h_.2⟩)).symm; show _ ++ [l.vl] ++ [((e.q, f.q), s - e.up)] = _ ++ [l.vl] ++ [((e.q, f.q), -(0 + psum qs (k + 1)))]; rw [HRN.out]), (fun g_ hg_ => (List.mem_append.1 hg_).elim (fun hg_ => (HOE.out g_ hg_).dig DD264.out) (fun hg_ => by rw [List.mem_singleton.1 hg_]; exact HOKN.out)), H261.out, DD266.out⟩
   have C1 := zH c59
   clear c59
   go_upto_region 9 with fail
   refine zy ?_
   have H267 := zH (H36.out.step (Ext.refl w34).drew)
   have D267 := zH (Dig.of_ext (w := w34) zb)
   refine zx 0 (bs 15 1) (.int .i64 (s - e.up)) zb ?_
   refine zu 1 (bs 15 3) (v := .bool false) zb ?_ (hv := by intro w hSw; exact ezq (e := (dec_f C0.out)))
   refine zx 2 (bs 15 7) (.bool false) zb ?_
   refine zx 3 (bs 15 15) (.slice (some ⟨gxs, 0, none⟩) ms10.length c110) zb ?_
   refine zx 4 (bs 15 31) (.int .i64 (k : Int)) zb ?_
   refine zo 5 (bs 15 63) (v := .pointer (some ⟨gxs, k * 4, none⟩)) zb ?_ (hv := by intro w hSw; exact ezi (k := k) Tryz.underlying47 (l := hk0) (f := (Nat.zero_add _).symm))
   refine zg 6 (bs 15 127) gxs (k * 4) (rc e.a) (H36.out.elem (f := MkE.cx) (i := 1) (by rfl) MkE.cx_len HEe.out) Tryz.underlying27 zb ?_
   refine zx 7 (bs 15 255) (.slice (some ⟨gxs, 0, none⟩) ms10.length c110) zb ?_
   refine zx 8 (bs 15 511) (.int .i64 (k : Int)) zb ?_
   refine zu 9 (bs 15 1023) (v := .int .i64 ((k + 1 : Nat) : Int)) zb ?_ (hv := by intro w hSw; exact ez1 (by omega))
   refine zo 10 (bs 15 2047) (v := .pointer (some ⟨gxs, (k + 1) * 4, none⟩)) zb ?_ (hv := by intro w hSw; exact ezi (k := k + 1) Tryz.underlying47 (l := hlt) (f := (Nat.zero_add _).symm))
   refine zg 11 (bs 15 4095) gxs ((k + 1) * 4) (rc f.a) (H36.out.elem (f := MkE.cx) (i := 1) (by rfl) MkE.cx_len HEf.out) Tryz.underlying27 zb ?_
   have DD280 := zH ((((D20.out.trans D25.out).trans D36.out).trans D267.out))
   refine mC 12 (bs 15 8191) (less_any 60000 _ _ e.q f.q _ (RV.Is.nin (RAe.out.dig DD280.out) (Nat.le_trans BAe.out (by omega))) (RV.Is.nin (RAf.out.dig DD280.out) (Nat.le_trans BAf.out (by omega))) (by omega)) ?_
   rintro e w279 ⟨rfl, hx⟩
   have H281 := zH (H267.out.step hx)
   have D281 := zH (show Dig w34.drew w279 from Dig.of_ext hx)
   have S283 := zH (show Ext w34 w279 from zb.trans hx)
   clear hx
   refine ⟨.bool false, by rw [dec_f C1.out], S283.out, ?_⟩
   try simp only [Act.put, zA, zB, zC]
   refine zx 13 (bs 15 16383) (.bool true) S283.out ?_
   refine zx 14 (bs 15 32767) (.bool true) S283.out ?_
   refine wpAnyH_done (by kernel_rfl) ?_ _
   have DD286 := zH ((D267.out.trans D281.out))
   have DD287 := zH (((D36.out.trans D267.out).trans D281.out))
   go_wp2_with fail
   go_roundg (ms10.length - (k + 1))
   case measure => exact (by omega)
   case rel => exact ⟨k + 1, m, es, A1, c1, A2, c2, s - e.up, rfl, rfl, rfl, rfl, (by go_num), hk0, HPN.out, (by have h_ := HS2.out; constructor <;> omega), ⟨HM.out.1, by have := HM.out.2; omega⟩, (by rw [lv_take HRG.out, lvstep_skip (.inr C1.out)]; exact HLV.out), (fun g_ hg_ => (HOE.out g_ hg_).dig DD286.out), H281.out, DD287.out⟩
  have HLT := zH c37
  clear c37
  have hlt := HLT.out
  have hml : ms10.length ≤ 4096 := HML10.out
  have hk5 := HK.out
  have hm4 : m ≤ 4096 := by have := HM.out.2; omega
  go_upto_region 6 with fail
  refine wp_region_lit ?_
  refine zq (.int .i64 (k : Int)) ?_
  refine zp (w' := w34) (.int .i64 ((k + 1 : Nat) : Int)) (by exact ez1 (by omega)) ?_
  refine qV (.slice A110 ms10.length c110) ?_
  refine zq (.int .i64 ((ms10.length : Nat) : Int)) ?_
  refine zp (w' := w34) (.bool false) (by exact ezl (e := (dec_f (by have h_ := HLT.out; omega)))) ?_
  go_upto_region 15 with fail
  refine wp_region_lit ?_
  refine qV (.slice A1 m c1) ?_
  refine zq (.slice A2 m c2) ?_
  refine qV (.slice A1 m c1) ?_
  refine zq (.slice A2 m c2) ?_
  go_wp2_with fail
  go_ret2
  unfold LevRet
  exact ⟨A1, c1, A2, c2, m, es, rfl, HM.out.1, H36.out.row (i := 3) (by rfl), H36.out.row (i := 4) (by rfl), HOE.out, (by rw [HLV.out, List.take_of_length_le (by rw [runs_len]; have h_ := HQL.out; omega), HQS.out, HVC10.out]; rfl), hm4, H36.out.ext⟩





end Go.Proofs.YtmgibncehlpfkaaGreat

namespace Go.Proofs.YtmgibncehlpfkaaGreat



theorem marks_sorted (y : Rat) (rs : List Ring) : (marksV y rs).Pairwise fun a b => a.1 ≤ b.1 := by
  have h := Stb.stab_srt wkM (crossesV y (if okR rs = true then rs else []))
  unfold Stb.Srt at h
  unfold marksV
  refine h.imp fun {a b} k => ?_
  have k2 : ¬ ltM b a = true := by rw [k]; decide
  rw [ltM_iff] at k2
  grind
end Go.Proofs.YtmgibncehlpfkaaGreat
