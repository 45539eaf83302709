/- Contracts that the claim stands on: XRCross to XSmPoly. -/
import Derived.Test.YtaeeeailoiioaabGreatM7
namespace Go.Proofs.YtaeeeailoiioaabGreat
open Go.RowKit
attribute [local go_sem ↓] Go.wp_at_zero Go.wp_at_succ run_max_ii run_min_ii
theorem wkK : Stb.Wk ltK := wkQ' fun e : MkE => e.vl
theorem srt_mk {es : List MkE} (h : Stb.Srt ltM (es.map MkE.vl)) : Stb.Srt ltK es := by
  unfold Stb.Srt at h ⊢
  rw [List.pairwise_map] at h
  exact h
theorem edgesOf_len (rs : List Ring) : (edgesOf rs).length ≤ 4096 := by
  unfold edgesOf
  refine Nat.le_trans (edgesV_len _) ?_
  split
  · rename_i h; exact okR_tot h
  · decide
theorem edgesOf_ok (rs : List Ring) : ∀ e, e ∈ edgesOf rs → okE e := by
  unfold edgesOf
  split
  · rename_i h; exact edges_ok h
  · intro e he; simp [edgesV] at he
theorem marksV_of (y : Rat) (rs : List Ring) : marksV y rs = Stb.stab ltM ((edgesOf rs).filterMap (crossV y)) := rfl
theorem crs_some {y : Rat} {l : List Edge} {i : Nat} {e : Edge} {z : QI} (h : l[i]? = some e) (hc : crossV y e = some z) : Stb.stab ltM ((l.take (i + 1)).filterMap (crossV y)) = Stb.ins ltM (Stb.stab ltM ((l.take i).filterMap (crossV y))) z := by
  rw [List.take_succ, h, List.filterMap_append, show (some e).toList = [e] from rfl, List.filterMap_cons, hc, List.filterMap_nil, Stb.stab_snoc]
theorem crs_none {y : Rat} {l : List Edge} {i : Nat} {e : Edge} (h : l[i]? = some e) (hc : crossV y e = none) : Stb.stab ltM ((l.take (i + 1)).filterMap (crossV y)) = Stb.stab ltM ((l.take i).filterMap (crossV y)) := by
  rw [List.take_succ, h, List.filterMap_append, show (some e).toList = [e] from rfl, List.filterMap_cons, hc, List.filterMap_nil, List.append_nil]
theorem ins_at {α : Type} {es : List α} {y : α} {q : Nat} (hq : q < es.length) : (es.take (q + 1) ++ y :: es.drop (q + 1))[q]? = some es[q] ∧ (es.take (q + 1) ++ y :: es.drop (q + 1))[q + 1]? = some y ∧
    ((es.take (q + 1) ++ y :: es.drop (q + 1)).set (q + 1) es[q]).set q y = es.take q ++ y :: es.drop q ∧ ∀ z, z ∈ es.drop q → z = es[q] ∨ z ∈ es.drop (q + 1) := by
  have g1 : (es.take (q + 1) ++ y :: es.drop (q + 1))[q]? = some es[q] := by
    rw [List.getElem?_append_left (by rw [List.length_take]; omega), List.getElem?_take, if_pos (by omega)]
    exact List.getElem?_eq_getElem hq
  have g2 : (es.take (q + 1) ++ y :: es.drop (q + 1))[q + 1]? = some y := by
    rw [List.getElem?_append_right (by rw [List.length_take]; omega), List.length_take, show q + 1 - min (q + 1) es.length = 0 by omega]
    rfl
  refine ⟨g1, g2, ?_, fun z hz => ?_⟩
  · rw [← swp_eq g2 g1]
    have h := swps_left [] es [] y q hq
    simp only [List.nil_append, List.append_nil, List.length_nil, Nat.zero_add] at h
    exact h
  · rw [List.drop_eq_getElem_cons hq] at hz
    exact List.mem_cons.1 hz
set_option maxRecDepth 20000 in
set_option maxHeartbeats 4000000 in
theorem rcrossings_any (L : Nat) (u : Value) (rs : List Ring) (ry : RV) (y : Rat) (w : World) (hu : RingsV w u rs) (hy : ry.In L w y) (h1L : 1 ≤ L) (hL : L ≤ 2000) (hn : rs.length ≤ 100000) (hr : ∀ r, r ∈ rs → r.length ≤ 100000) :
  Calls Tryz.prog 19 #[u, .agg #[.bool ry.n, .slice ry.p ry.l ry.c, .bool ry.m, .slice ry.p2 ry.l2 ry.c2]] w (CrossRet L rs y w) := by
 have HU := zH hu
 have HN := zH hn
 have HR := zH hr
 have RY := zH hy
 clear hu hn hr hy
 go_enter Tryz.func19, Tryz.ntmps19
 have H0 := zH (Hp.start w)
 go_upto_region 0 with fail
 refine wp_region_lit ?_
 refine mv_alloc (T := 27) (zs := [.bool ry.n, .slice ry.p ry.l ry.c, .bool ry.m, .slice ry.p2 ry.l2 ry.c2]) (by rfl) (by go_simp) H0.out (by simp [NoUL]) ?_
 intro X1 w2 hh hx hge
 have H3 := zH (show Hp w w2 [.blk X1 27 [.bool ry.n, .slice ry.p ry.l ry.c, .bool ry.m, .slice ry.p2 ry.l2 ry.c2]] from hh)
 clear hh hx hge
 try simp only [Act.put, zA, zB, zC]
 refine qV (.slice none 0 0) ?_
 refine qV (.slice none 0 0) ?_
 try simp only [Act.put, zA, zB, zC]
 go_upto_region 1 with fail
 refine wp_region_lit ?_
 refine mv_val (v := .slice (some ⟨w2.heap.size, 0, none⟩) 0 0) (w' := w2.alloc (.cells #[] 27)) (by rfl) (by go_simp) ?_
 try simp only [Act.put, zA, zB, zC]
 have hh := H3.out.addEmpty 27 4
 have hd := Dig.of_ext ((Ext.refl w2).alloc (.cells #[] 27))
 generalize w2.alloc (.cells #[] 27) = w8 at hh hd ⊢
 generalize w2.heap.size = X9 at hh ⊢
 have H10 := zH (show Hp w w8 [.blk X1 27 [.bool ry.n, .slice ry.p ry.l ry.c, .bool ry.m, .slice ry.p2 ry.l2 ry.c2], .row 27 4 (.slice (some ⟨X9, 0, none⟩) 0 0) (0) (List.flatMap MkE.cx ([]))] from hh)
 clear hh hd
 refine qV (.slice (some ⟨X9, 0, none⟩) 0 0) ?_
 try simp only [Act.put, zA, zB, zC]
 go_upto_region 2 with fail
 refine wp_region_lit ?_
 refine mv_val (v := .slice (some ⟨w8.heap.size, 0, none⟩) 0 0) (w' := w8.alloc (.cells #[] 3)) (by rfl) (by go_simp) ?_
 try simp only [Act.put, zA, zB, zC]
 have hh := H10.out.addEmpty 3 1
 have hd := Dig.of_ext ((Ext.refl w8).alloc (.cells #[] 3))
 generalize w8.alloc (.cells #[] 3) = w13 at hh hd ⊢
 generalize w8.heap.size = X14 at hh ⊢
 have H15 := zH (show Hp w w13 [.blk X1 27 [.bool ry.n, .slice ry.p ry.l ry.c, .bool ry.m, .slice ry.p2 ry.l2 ry.c2], .row 27 4 (.slice (some ⟨X9, 0, none⟩) 0 0) (0) (List.flatMap MkE.cx ([])), .row 3 1 (.slice (some ⟨X14, 0, none⟩) 0 0) (0) (List.flatMap MkE.cu ([]))] from hh)
 clear hh hd
 refine qV (.slice (some ⟨X14, 0, none⟩) 0 0) ?_
 try simp only [Act.put, zA, zB, zC]
 by_cases c18 : okR rs = true
 ·have HV := zH c18
  clear c18
  go_upto_region 3 with fail
  refine wp_region_lit ?_
  refine qV (u) ?_
  refine mv_call (by rfl) (by go_simp) (r16Valid_any _ rs _ (HU.out.ext H15.out.ext) HN.out HR.out) ?_
  rintro e w20 ⟨rfl, hx⟩
  have H21 := zH (H15.out.step hx)
  clear hx
  refine ⟨.bool true, by rw [HV.out], ?_⟩
  try simp only [Act.put, zA, zB, zC]
  refine qV (.bool false) ?_
  try simp only [Act.put, zA, zB, zC]
  go_upto_region 5 with fail
  refine wp_region_lit ?_
  refine qV (u) ?_
  refine mv_call (by rfl) (by go_simp) (redges_any u rs _ (HU.out.ext H21.out.ext) HN.out HR.out) ?_
  rintro e w25 ⟨Ae, nE_, ce, rfl, rfl, hrow_, hx⟩
  obtain ⟨Ae2_, ce2_, hv_, hA_⟩ := RowN.form hrow_
  obtain rfl : Ae = Ae2_ := by injection hv_
  have HAE := zH hA_
  clear hA_ hv_
  have H26 := zH (show Hp w w25 [.blk X1 27 [.bool ry.n, .slice ry.p ry.l ry.c, .bool ry.m, .slice ry.p2 ry.l2 ry.c2], .row 27 4 (.slice (some ⟨X9, 0, none⟩) 0 0) (0) (List.flatMap MkE.cx ([])), .row 3 1 (.slice (some ⟨X14, 0, none⟩) 0 0) (0) (List.flatMap MkE.cu ([])), .row 71 4 (.slice Ae ((edgesOf rs).length) ce) ((edgesOf rs).length) (List.flatMap edC (edgesOf rs))] from H21.out.addRow hx hrow_)
  clear hrow_
  clear hx
  refine ⟨_, rfl, ?_⟩
  try simp only [Act.put, zA, zB, zC]
  refine qV (.slice Ae ((edgesOf rs).length) ce) ?_
  try simp only [Act.put, zA, zB, zC]
  have HEL := zH (edgesOf_len rs)
  go_upto_region 6 with fail
  refine wp_region_lit ?_
  refine qV (.int .i64 0) ?_
  try simp only [Act.put, zA, zB, zC]
  go_wp2_with fail
  go_loopg [6, 7, 9] ((edgesOf rs).length) (fun cq v30 v31 v32 wr => ∃ (i : Nat) (m : Nat) (es : List MkE) (A1 : Option Addr) (c1 : Nat) (A2 : Option Addr) (c2 : Nat), cq = ((edgesOf rs).length) - i ∧ v30 = .slice A1 m c1 ∧ v31 = .slice A2 m c2 ∧ v32 = .int .i64 (i : Int) ∧ (i ≤ (edgesOf rs).length) ∧ (m = es.length ∧ m ≤ i) ∧ (es.map MkE.vl = Stb.stab ltM (((edgesOf rs).take i).filterMap (crossV y))) ∧ (∀ e, e ∈ es → e.Ok (L + 8) wr) ∧ Hp w wr [.blk X1 27 [.bool ry.n, .slice ry.p ry.l ry.c, .bool ry.m, .slice ry.p2 ry.l2 ry.c2], .row 27 4 (.slice A1 m c1) (m) (List.flatMap MkE.cx es), .row 3 1 (.slice A2 m c2) (m) (List.flatMap MkE.cu es), .row 71 4 (.slice Ae ((edgesOf rs).length) ce) ((edgesOf rs).length) (List.flatMap edC (edgesOf rs))] ∧ Dig w25 wr)
  case atStart => exact ⟨0, 0, [], some ⟨X9, 0, none⟩, 0, some ⟨X14, 0, none⟩, 0, rfl, rfl, rfl, rfl, Nat.zero_le _, ⟨rfl, Nat.le_refl _⟩, rfl, (by simp), H26.out, Dig.refl _⟩
  case round =>
   obtain ⟨i, m, es, A1, c1, A2, c2, rfl, rfl, rfl, rfl, q_HKI, q_HM, q_HVL, q_HOE, hh_, hd_⟩ := hrel
   generalize wr = w33 at *
   have HKI := zH q_HKI
   clear q_HKI
   have HM := zH q_HM
   clear q_HM
   have HVL := zH q_HVL
   clear q_HVL
   have HOE := zH q_HOE
   clear q_HOE
   have H35 := zH hh_
   have D35 := zH hd_
   clear hh_ hd_ H26
   by_cases c36 : i < (edgesOf rs).length
   ·have HLT := zH c36
    clear c36
    have hlt := HLT.out
    have hlt2 : (i : Int) < ((edgesOf rs).length : Int) := by omega
    have hi4 : i < 4096 := by have h_ := HEL.out; omega
    obtain ⟨ge, rfl⟩ := HAE.out (by omega)
    obtain ⟨⟨⟨ax, ay⟩, ⟨bx, bY⟩⟩, he_⟩ : ∃ e, (edgesOf rs)[i]? = some e := ⟨_, List.getElem?_eq_getElem hlt⟩
    have HE := zH he_
    have HKE := zH (edgesOf_ok rs _ (List.mem_of_getElem? he_))
    have HOA := zH HKE.out.1
    have HOB := zH HKE.out.2
    clear he_
    dsimp only at HOA HOB
    have HPT := zH (show (-1048576 ≤ ay ∧ ay ≤ 1048576) ∧ (-1048576 ≤ bY ∧ bY ≤ 1048576) by have h1 := HOA.out; have h2 := HOB.out; unfold okPt at h1 h2; simp only [Bool.and_eq_true, decide_eq_true_eq] at h1 h2; omega)
    go_upto_region 9 with fail
    refine wp_region_held_drew (S := fun x => Ext w33 x) (by kernel_rfl) (Ext.refl _).drew (fun _ => ?_)
    have H37 := zH (H35.out.step (Ext.refl w33).drew)
    have D37 := zH (show Dig w33 w33.drew from Dig.of_ext (Ext.refl w33).drew)
    refine mW 0 (bs 14 1) (v := .slice (some ⟨ge, 0, none⟩) ((edgesOf rs).length) ce) (Ext.refl _).drew ?hv39 ?rv39
    case hv39 => (intro w hSw; go_simp <;> with_reducible rfl)
    try simp only [Act.put, zA, zB, zC]
    refine mW 1 (bs 14 3) (v := .int .i64 (i : Int)) (Ext.refl _).drew ?hv40 ?rv40
    case hv40 => (intro w hSw; go_simp <;> with_reducible rfl)
    try simp only [Act.put, zA, zB, zC]
    refine mW 2 (bs 14 7) (v := .pointer (some ⟨ge, i * 4, none⟩)) (Ext.refl _).drew ?hv41 ?rv41
    case hv41 => (intro w hSw; exact ev_index (k := i) (by rfl) Tryz.underlying69 (by kernel_rfl) (by rfl) (by rfl) (by omega) hlt (Nat.zero_add _).symm)
    try simp only [Act.put, zA, zB, zC]
    refine mW 3 (bs 14 15) (v := .pointer (some ⟨ge, i * 4, none⟩)) (Ext.refl _).drew ?hv42 ?rv42
    case hv42 => (intro w hSw; go_simp <;> with_reducible rfl)
    refine mR 4 (bs 14 31) ge (i * 4) [.int .i64 ax, .int .i64 ay] (fun x hx => range_ext (show World.rangeAt w33 ge (i * 4) [.int .i64 ax, .int .i64 ay] from (range_part (H35.out.elem (f := edC) (i := 3) (by rfl) edC_len HE.out) 0 2)) hx) Tryz.underlying53 (Ext.refl _).drew ?_
    try simp only [Act.put, zA, zB, zC]
    refine mW 5 (bs 14 63) (v := .slice (some ⟨ge, 0, none⟩) ((edgesOf rs).length) ce) (Ext.refl _).drew ?hv43 ?rv43
    case hv43 => (intro w hSw; go_simp <;> with_reducible rfl)
    try simp only [Act.put, zA, zB, zC]
    refine mW 6 (bs 14 127) (v := .int .i64 (i : Int)) (Ext.refl _).drew ?hv44 ?rv44
    case hv44 => (intro w hSw; go_simp <;> with_reducible rfl)
    try simp only [Act.put, zA, zB, zC]
    refine mW 7 (bs 14 255) (v := .pointer (some ⟨ge, i * 4, none⟩)) (Ext.refl _).drew ?hv45 ?rv45
    case hv45 => (intro w hSw; exact ev_index (k := i) (by rfl) Tryz.underlying69 (by kernel_rfl) (by rfl) (by rfl) (by omega) hlt (Nat.zero_add _).symm)
    try simp only [Act.put, zA, zB, zC]
    refine mW 8 (bs 14 511) (v := .pointer (some ⟨ge, i * 4 + 2, none⟩)) (Ext.refl _).drew ?hv46 ?rv46
    case hv46 => (intro w hSw; go_simp <;> with_reducible rfl)
    refine mR 9 (bs 14 1023) ge (i * 4 + 2) [.int .i64 bx, .int .i64 bY] (fun x hx => range_ext (show World.rangeAt w33 ge (i * 4 + 2) [.int .i64 bx, .int .i64 bY] from (range_part (H35.out.elem (f := edC) (i := 3) (by rfl) edC_len HE.out) 2 2)) hx) Tryz.underlying53 (Ext.refl _).drew ?_
    try simp only [Act.put, zA, zB, zC]
    refine md_alloc2 (i := 10) (j := 11) (T := 53) (U := 53) (zs := [.int .i64 0, .int .i64 0]) (us := [.int .i64 0, .int .i64 0]) (li := (bs 14 2047)) (lj := (bs 14 3071)) (lij := (bs 14 4095)) (by rfl) (by rfl) (by kernel_rfl) (by kernel_rfl) (by kernel_rfl) (by kernel_rfl) (by kernel_rfl) (by kernel_rfl) (by kernel_rfl) (by rfl) (by rfl) (by decide) (by intro r_ x_; go_simp) (by intro r_ x_; go_simp) (fun x y h1 h2 => h1.trans h2) (Ext.refl _).drew H37.out (by simp [NoUL]) (by simp [NoUL]) ?_
    intro X47 Y48 w49 hh hx hg1 hg2 hs
    have H50 := zH (show Hp w w49 [.blk X1 27 [.bool ry.n, .slice ry.p ry.l ry.c, .bool ry.m, .slice ry.p2 ry.l2 ry.c2], .row 27 4 (.slice A1 m c1) (m) (List.flatMap MkE.cx es), .row 3 1 (.slice A2 m c2) (m) (List.flatMap MkE.cu es), .row 71 4 (.slice (some ⟨ge, 0, none⟩) ((edgesOf rs).length) ce) ((edgesOf rs).length) (List.flatMap edC (edgesOf rs)), .blk X47 53 [.int .i64 0, .int .i64 0], .blk Y48 53 [.int .i64 0, .int .i64 0]] from hh)
    have D50 := zH (show Dig w33.drew w49 from Dig.of_ext hx)
    have S52 := zH (show Ext w33 w49 from hs)
    have G53 := zH (show w33.heap.size ≤ X47 from Nat.le_trans (Ext.refl _).drew.size hg1)
    have G54 := zH (show w33.heap.size ≤ Y48 from Nat.le_trans (Ext.refl _).drew.size hg2)
    clear hh hx hg1 hg2 hs
    try simp only [Act.put, zA, zB, zC]
    refine md_st (i := 12) (listed' := (bs 14 8191)) (by rfl) (by kernel_rfl) (by rfl) (by kernel_rfl) _ _ _ (by rfl) H50.out (ix := 4) (by rfl) 0 [.int .i64 ax, .int .i64 ay] (by rfl) (by rfl) (by simp) (by kernel_rfl) (by simp [Value.oneCell']) (by simp [NoUL]) ?_
    intro w55 hh hd ho
    have H56 := zH (show Hp w w55 [.blk X1 27 [.bool ry.n, .slice ry.p ry.l ry.c, .bool ry.m, .slice ry.p2 ry.l2 ry.c2], .row 27 4 (.slice A1 m c1) (m) (List.flatMap MkE.cx es), .row 3 1 (.slice A2 m c2) (m) (List.flatMap MkE.cu es), .row 71 4 (.slice (some ⟨ge, 0, none⟩) ((edgesOf rs).length) ce) ((edgesOf rs).length) (List.flatMap edC (edgesOf rs)), .blk X47 53 [.int .i64 ax, .int .i64 ay], .blk Y48 53 [.int .i64 0, .int .i64 0]] from hh)
    have D56 := zH (show Dig w49 w55 from hd)
    have S58 := zH (show Ext w33 w55 from Own.ext ho S52.out G53.out)
    clear hh hd ho
    refine ⟨S58.out, ?_⟩
    (try simp only [Act.put])
    refine md_st (i := 13) (listed' := (bs 14 16383)) (by rfl) (by kernel_rfl) (by rfl) (by kernel_rfl) _ _ _ (by rfl) H56.out (ix := 5) (by rfl) 0 [.int .i64 bx, .int .i64 bY] (by rfl) (by rfl) (by simp) (by kernel_rfl) (by simp [Value.oneCell']) (by simp [NoUL]) ?_
    intro w59 hh hd ho
    have H60 := zH (show Hp w w59 [.blk X1 27 [.bool ry.n, .slice ry.p ry.l ry.c, .bool ry.m, .slice ry.p2 ry.l2 ry.c2], .row 27 4 (.slice A1 m c1) (m) (List.flatMap MkE.cx es), .row 3 1 (.slice A2 m c2) (m) (List.flatMap MkE.cu es), .row 71 4 (.slice (some ⟨ge, 0, none⟩) ((edgesOf rs).length) ce) ((edgesOf rs).length) (List.flatMap edC (edgesOf rs)), .blk X47 53 [.int .i64 ax, .int .i64 ay], .blk Y48 53 [.int .i64 bx, .int .i64 bY]] from hh)
    have D60 := zH (show Dig w55 w59 from hd)
    have S62 := zH (show Ext w33 w59 from Own.ext ho S58.out G54.out)
    clear hh hd ho
    refine ⟨S62.out, ?_⟩
    (try simp only [Act.put])
    refine wpAnyH_done (by kernel_rfl) ?_ _
    go_upto_region 10 with fail
    refine wp_region_held_drew (S := fun x => Ext w59 x) (by kernel_rfl) (Ext.refl _).drew (fun _ => ?_)
    have H63 := zH (H60.out.step (Ext.refl w59).drew)
    have D63 := zH (show Dig w59 w59.drew from Dig.of_ext (Ext.refl w59).drew)
    refine mW 0 (bs 10 1) (v := .pointer (some ⟨X47, 1, none⟩)) (Ext.refl _).drew ?hv65 ?rv65
    case hv65 => (intro w hSw; go_simp <;> with_reducible rfl)
    try simp only [Act.put, zA, zB, zC]
    refine md_ld1 (g := X47) (o := 1) (v := .int .i64 ay) (i := 1) (listed' := (bs 10 3)) (by rfl) (by kernel_rfl) (by kernel_rfl) (by kernel_rfl) (by intro _ _ _ h; exact h) (by rfl) (fun x hx => Ext.get hx (show World.cell? w59 ⟨X47, 1, none⟩ = some (.int .i64 ay) from cell_of_range (H60.out.range (i := 4) (by rfl) 1 1))) (by intro x hq; go_simp <;> with_reducible rfl) (Ext.refl _).drew (by kernel_rfl) ?_
    try simp only [Act.put, zA, zB, zC]
    refine mW 3 (bs 10 11) (v := .pointer (some ⟨Y48, 1, none⟩)) (Ext.refl _).drew ?hv66 ?rv66
    case hv66 => (intro w hSw; go_simp <;> with_reducible rfl)
    try simp only [Act.put, zA, zB, zC]
    refine md_ld1 (g := Y48) (o := 1) (v := .int .i64 bY) (i := 4) (listed' := (bs 10 27)) (by rfl) (by kernel_rfl) (by kernel_rfl) (by kernel_rfl) (by intro _ _ _ h; exact h) (by rfl) (fun x hx => Ext.get hx (show World.cell? w59 ⟨Y48, 1, none⟩ = some (.int .i64 bY) from cell_of_range (H60.out.range (i := 5) (by rfl) 1 1))) (by intro x hq; go_simp <;> with_reducible rfl) (Ext.refl _).drew (by kernel_rfl) ?_
    try simp only [Act.put, zA, zB, zC]
    refine tuple2 (f := 2) 2 5 6 7 47 50 12 13 27 z4 (fun v w => ∃ c, v = .agg c ∧ NIs w c (((ay) : Int) : Rat)) (fun v w => ∃ c, v = .agg c ∧ NIs w c (((bY) : Int) : Rat)) rfl rfl rfl rfl (by decide) (by decide) (by kernel_rfl) (fun _ hx => (Ext.refl _).drew.trans hx) (fun _ _ _ h e => by obtain ⟨c, h1, h2⟩ := h; exact ⟨c, h1, h2.ext e⟩) (fun _ _ _ h e => by obtain ⟨c, h1, h2⟩ := h; exact ⟨c, h1, h2.ext e⟩) ?ht67c1 ?ht67c2 ?ht67c3 ?ht67c4 ?ht67e _ _ _ _ (by kernel_rfl) rfl
    case ht67c1 =>
     intro v1 v2 v3 v4 w1 K hxq hSw hK
     try simp only [Act.put, zA, zB, zC]
     rw [if_pos (by rfl)]
     refine wp_call_op (by go_simp) (q03From ay _ (by have ob0 := HPT.out; have ob1 := HEL.out; have ob3 := HM.out.2; omega) (by have ob0 := HPT.out; have ob1 := HEL.out; have ob3 := HM.out.2; omega)) ?_
     rintro e w' ⟨c_, rfl, hc_, hx⟩
     refine ⟨_, rfl, ?_⟩
     have hk := hK.out _ _ ⟨c_, rfl, hc_⟩ hx
     try simp only [Act.put, zA, zB, zC]
     simp only [Act.put, zA, zB, zC] at hk
     exact hk
    case ht67c2 =>
     intro v1 v2 v3 v4 w1 K hxq hSw hK
     try simp only [Act.put, zA, zB, zC]
     rw [if_pos (by rfl)]
     refine wp_call_op (by go_simp) (q03From bY _ (by have ob0 := HPT.out; have ob1 := HEL.out; have ob3 := HM.out.2; omega) (by have ob0 := HPT.out; have ob1 := HEL.out; have ob3 := HM.out.2; omega)) ?_
     rintro e w' ⟨c_, rfl, hc_, hx⟩
     refine ⟨_, rfl, ?_⟩
     have hk := hK.out _ _ ⟨c_, rfl, hc_⟩ hx
     try simp only [Act.put, zA, zB, zC]
     simp only [Act.put, zA, zB, zC] at hk
     exact hk
    case ht67c3 =>
     intro v1 v2 v3 v4 w1 K hxq hSw hK
     try simp only [Act.put, zA, zB, zC]
     go_simp
     have hk := hK.out
     simp only [Act.put, zA, zB, zC] at hk
     exact hk
    case ht67c4 =>
     intro v1 v2 v3 v4 w1 K hxq hSw hK
     try simp only [Act.put, zA, zB, zC]
     go_simp
     have hk := hK.out
     simp only [Act.put, zA, zB, zC] at hk
     exact hk
    case ht67e =>
    intro v1_ v2_ X70 Y71 w72 hx hSw xp1 xp2 xb1 xb2 xz1 xz2 n12
    have hh := H63.out.add2 hx xb1 xb2 xz1 xz2 n12 (by simp [NoUL]) (by simp [NoUL])
    have H73 := zH (show Hp w w72 [.blk X1 27 [.bool ry.n, .slice ry.p ry.l ry.c, .bool ry.m, .slice ry.p2 ry.l2 ry.c2], .row 27 4 (.slice A1 m c1) (m) (List.flatMap MkE.cx es), .row 3 1 (.slice A2 m c2) (m) (List.flatMap MkE.cu es), .row 71 4 (.slice (some ⟨ge, 0, none⟩) ((edgesOf rs).length) ce) ((edgesOf rs).length) (List.flatMap edC (edgesOf rs)), .blk X47 53 [.int .i64 ax, .int .i64 ay], .blk Y48 53 [.int .i64 bx, .int .i64 bY], .blk X70 27 [.bool false, .slice none 0 0, .bool false, .slice none 0 0], .blk Y71 27 [.bool false, .slice none 0 0, .bool false, .slice none 0 0]] from hh)
    have D73 := zH (show Dig w59.drew w72 from Dig.of_ext hx)
    have S75 := zH (show Ext w59 w72 from (Ext.refl _).drew.trans hx)
    have G76 := zH (show w59.heap.size ≤ X70 from Nat.le_trans (Ext.refl _).drew.size xz1)
    have G77 := zH (show w59.heap.size ≤ Y71 from Nat.le_trans (Ext.refl _).drew.size xz2)
    obtain ⟨c_, rfl, hc_⟩ := xp1
    obtain ⟨r68, rfl, hr_⟩ := hc_
    have R68 := zH hr_
    have B68 := zH (rl_i64 ay (by have ob0 := HPT.out; have ob1 := HEL.out; have ob3 := HM.out.2; omega) (by have ob0 := HPT.out; have ob1 := HEL.out; have ob3 := HM.out.2; omega))
    clear hr_
    obtain ⟨c_, rfl, hc_⟩ := xp2
    obtain ⟨r69, rfl, hr_⟩ := hc_
    have R69 := zH hr_
    have B69 := zH (rl_i64 bY (by have ob0 := HPT.out; have ob1 := HEL.out; have ob3 := HM.out.2; omega) (by have ob0 := HPT.out; have ob1 := HEL.out; have ob3 := HM.out.2; omega))
    clear hr_
    clear hh hx hSw xb1 xb2 xz1 xz2 n12
    try simp only [Act.put, zA, zB, zC]
    refine md_st (i := 8) (listed' := (bs 10 511)) (by rfl) (by kernel_rfl) (by rfl) (by kernel_rfl) _ _ _ (by rfl) H73.out (ix := 6) (by rfl) 0 [.bool r68.n, .slice r68.p r68.l r68.c, .bool r68.m, .slice r68.p2 r68.l2 r68.c2] (by rfl) (by rfl) (by simp) (by kernel_rfl) (by simp [Value.oneCell']) (by simp [NoUL]) ?_
    intro w78 hh hd ho
    have H79 := zH (show Hp w w78 [.blk X1 27 [.bool ry.n, .slice ry.p ry.l ry.c, .bool ry.m, .slice ry.p2 ry.l2 ry.c2], .row 27 4 (.slice A1 m c1) (m) (List.flatMap MkE.cx es), .row 3 1 (.slice A2 m c2) (m) (List.flatMap MkE.cu es), .row 71 4 (.slice (some ⟨ge, 0, none⟩) ((edgesOf rs).length) ce) ((edgesOf rs).length) (List.flatMap edC (edgesOf rs)), .blk X47 53 [.int .i64 ax, .int .i64 ay], .blk Y48 53 [.int .i64 bx, .int .i64 bY], .blk X70 27 [.bool r68.n, .slice r68.p r68.l r68.c, .bool r68.m, .slice r68.p2 r68.l2 r68.c2], .blk Y71 27 [.bool false, .slice none 0 0, .bool false, .slice none 0 0]] from hh)
    have D79 := zH (show Dig w72 w78 from hd)
    have S81 := zH (show Ext w59 w78 from Own.ext ho S75.out G76.out)
    clear hh hd ho
    refine ⟨S81.out, ?_⟩
    (try simp only [Act.put])
    refine md_st (i := 9) (listed' := (bs 10 1023)) (by rfl) (by kernel_rfl) (by rfl) (by kernel_rfl) _ _ _ (by rfl) H79.out (ix := 7) (by rfl) 0 [.bool r69.n, .slice r69.p r69.l r69.c, .bool r69.m, .slice r69.p2 r69.l2 r69.c2] (by rfl) (by rfl) (by simp) (by kernel_rfl) (by simp [Value.oneCell']) (by simp [NoUL]) ?_
    intro w82 hh hd ho
    have H83 := zH (show Hp w w82 [.blk X1 27 [.bool ry.n, .slice ry.p ry.l ry.c, .bool ry.m, .slice ry.p2 ry.l2 ry.c2], .row 27 4 (.slice A1 m c1) (m) (List.flatMap MkE.cx es), .row 3 1 (.slice A2 m c2) (m) (List.flatMap MkE.cu es), .row 71 4 (.slice (some ⟨ge, 0, none⟩) ((edgesOf rs).length) ce) ((edgesOf rs).length) (List.flatMap edC (edgesOf rs)), .blk X47 53 [.int .i64 ax, .int .i64 ay], .blk Y48 53 [.int .i64 bx, .int .i64 bY], .blk X70 27 [.bool r68.n, .slice r68.p r68.l r68.c, .bool r68.m, .slice r68.p2 r68.l2 r68.c2], .blk Y71 27 [.bool r69.n, .slice r69.p r69.l r69.c, .bool r69.m, .slice r69.p2 r69.l2 r69.c2]] from hh)
    have D83 := zH (show Dig w78 w82 from hd)
    have S85 := zH (show Ext w59 w82 from Own.ext ho S81.out G77.out)
    clear hh hd ho
    refine ⟨S85.out, ?_⟩
    (try simp only [Act.put])
    refine wpAnyH_done (by kernel_rfl) ?_ _
    go_upto_region 11 with fail
    refine wp_region_lit ?_
    refine qV (.int .i64 0) ?_
    try simp only [Act.put, zA, zB, zC]
    by_cases c87 : ((ay : Int) : Rat) < y
    ·have C1 := zH c87
     clear c87
     by_cases c88 : y < ((bY : Int) : Rat)
     ·have C2 := zH c88
      clear c88
      go_upto_region 12 with fail
      refine wp_region_lit ?_
      refine mv_ld (by rfl) _ _ (by rfl) X70 (0) [.bool r68.n, .slice r68.p r68.l r68.c, .bool r68.m, .slice r68.p2 r68.l2 r68.c2] (by rfl) (show World.rangeAt w82 X70 (0) [.bool r68.n, .slice r68.p r68.l r68.c, .bool r68.m, .slice r68.p2 r68.l2 r68.c2] from (H83.out.range (i := 6) (by rfl) 0 4)) Tryz.underlying27 (by rfl) (by kernel_rfl) ?_
      try simp only [Act.put, zA, zB, zC]
      refine mv_ld (by rfl) _ _ (by rfl) X1 (0) [.bool ry.n, .slice ry.p ry.l ry.c, .bool ry.m, .slice ry.p2 ry.l2 ry.c2] (by rfl) (show World.rangeAt w82 X1 (0) [.bool ry.n, .slice ry.p ry.l ry.c, .bool ry.m, .slice ry.p2 ry.l2 ry.c2] from (H83.out.range (i := 0) (by rfl) 0 4)) Tryz.underlying27 (by rfl) (by kernel_rfl) ?_
      try simp only [Act.put, zA, zB, zC]
      have DD90 := zH ((D79.out.trans D83.out))
      refine mv_call (by rfl) (by go_simp) (less_any 60000 _ _ (((ay) : Int) : Rat) y _ (RV.Is.nin (R68.out.dig DD90.out) (Nat.le_trans B68.out (by omega))) (RV.In.nin (RV.In.mono (RY.out.dig H83.out.dig0) (by omega))) (by omega)) ?_
      rintro e w89 ⟨rfl, hx⟩
      have H91 := zH (H83.out.step hx)
      have D91 := zH (show Dig w82 w89 from Dig.of_ext hx)
      clear hx
      refine ⟨.bool true, by rw [dec_t C1.out], ?_⟩
      try simp only [Act.put, zA, zB, zC]
      refine qV (.bool true) ?_
      refine mv_ld (by rfl) _ _ (by rfl) X1 (0) [.bool ry.n, .slice ry.p ry.l ry.c, .bool ry.m, .slice ry.p2 ry.l2 ry.c2] (by rfl) (show World.rangeAt w89 X1 (0) [.bool ry.n, .slice ry.p ry.l ry.c, .bool ry.m, .slice ry.p2 ry.l2 ry.c2] from (H91.out.range (i := 0) (by rfl) 0 4)) Tryz.underlying27 (by rfl) (by kernel_rfl) ?_
      try simp only [Act.put, zA, zB, zC]
      refine mv_ld (by rfl) _ _ (by rfl) Y71 (0) [.bool r69.n, .slice r69.p r69.l r69.c, .bool r69.m, .slice r69.p2 r69.l2 r69.c2] (by rfl) (show World.rangeAt w89 Y71 (0) [.bool r69.n, .slice r69.p r69.l r69.c, .bool r69.m, .slice r69.p2 r69.l2 r69.c2] from (H91.out.range (i := 7) (by rfl) 0 4)) Tryz.underlying27 (by rfl) (by kernel_rfl) ?_
      try simp only [Act.put, zA, zB, zC]
      have DD95 := zH (((D79.out.trans D83.out).trans D91.out))
      refine mv_call (by rfl) (by go_simp) (less_any 60000 _ _ y (((bY) : Int) : Rat) _ (RV.In.nin (RV.In.mono (RY.out.dig H91.out.dig0) (by omega))) (RV.Is.nin (R69.out.dig DD95.out) (Nat.le_trans B69.out (by omega))) (by omega)) ?_
      rintro e w94 ⟨rfl, hx⟩
      have H96 := zH (H91.out.step hx)
      have D96 := zH (show Dig w89 w94 from Dig.of_ext hx)
      clear hx
      refine ⟨.bool true, by rw [dec_t C2.out], ?_⟩
      try simp only [Act.put, zA, zB, zC]
      refine qV (.bool true) ?_
      try simp only [Act.put, zA, zB, zC]
      go_upto_region 13 with fail
      refine wp_region_lit ?_
      refine qV (.int .i64 1) ?_
      try simp only [Act.put, zA, zB, zC]
      go_upto_region 14 with fail
      refine wp_region_lit ?_
      refine mv_ld (by rfl) _ _ (by rfl) Y71 (0) [.bool r69.n, .slice r69.p r69.l r69.c, .bool r69.m, .slice r69.p2 r69.l2 r69.c2] (by rfl) (show World.rangeAt w94 Y71 (0) [.bool r69.n, .slice r69.p r69.l r69.c, .bool r69.m, .slice r69.p2 r69.l2 r69.c2] from (H96.out.range (i := 7) (by rfl) 0 4)) Tryz.underlying27 (by rfl) (by kernel_rfl) ?_
      try simp only [Act.put, zA, zB, zC]
      refine mv_ld (by rfl) _ _ (by rfl) X1 (0) [.bool ry.n, .slice ry.p ry.l ry.c, .bool ry.m, .slice ry.p2 ry.l2 ry.c2] (by rfl) (show World.rangeAt w94 X1 (0) [.bool ry.n, .slice ry.p ry.l ry.c, .bool ry.m, .slice ry.p2 ry.l2 ry.c2] from (H96.out.range (i := 0) (by rfl) 0 4)) Tryz.underlying27 (by rfl) (by kernel_rfl) ?_
      try simp only [Act.put, zA, zB, zC]
      have DD101 := zH ((((D79.out.trans D83.out).trans D91.out).trans D96.out))
      refine mv_call (by rfl) (by go_simp) (less_any 60000 _ _ (((bY) : Int) : Rat) y _ (RV.Is.nin (R69.out.dig DD101.out) (Nat.le_trans B69.out (by omega))) (RV.In.nin (RV.In.mono (RY.out.dig H96.out.dig0) (by omega))) (by omega)) ?_
      rintro e w100 ⟨rfl, hx⟩
      have H102 := zH (H96.out.step hx)
      have D102 := zH (show Dig w94 w100 from Dig.of_ext hx)
      clear hx
      refine ⟨.bool false, by rw [dec_f (fun h_ => absurd h_ (Rat.not_lt.2 (Rat.le_of_lt C2.out)))], ?_⟩
      try simp only [Act.put, zA, zB, zC]
      refine qV (.bool false) ?_
      try simp only [Act.put, zA, zB, zC]
      refine mv_skip (by rfl) ?_
      try simp only [Act.put, zA, zB, zC]
      refine mv_skip (by rfl) ?_
      try simp only [Act.put, zA, zB, zC]
      refine mv_skip (by rfl) ?_
      try simp only [Act.put, zA, zB, zC]
      refine qV (.bool false) ?_
      try simp only [Act.put, zA, zB, zC]
      go_upto_region 16 with fail
      refine wp_region_lit ?_
      refine qV (.int .i64 1) ?_
      try simp only [Act.put, zA, zB, zC]
      refine mv_val (v := .bool false) (w' := w100) (by rfl) (by exact ev_eql (by rfl) (by rfl) (by rfl) (dec_f (by have ob0 := HPT.out; have ob1 := HEL.out; have ob3 := HM.out.2; omega))) ?_
      try simp only [Act.put, zA, zB, zC]
      go_upto_region 17 with fail
      refine wp_region_lit ?_
      refine mv_ld (by rfl) _ _ (by rfl) X47 (0) [.int .i64 ax, .int .i64 ay] (by rfl) (show World.rangeAt w100 X47 (0) [.int .i64 ax, .int .i64 ay] from (H102.out.range (i := 4) (by rfl) 0 2)) Tryz.underlying53 (by rfl) (by kernel_rfl) ?_
      try simp only [Act.put, zA, zB, zC]
      refine mv_ld (by rfl) _ _ (by rfl) Y48 (0) [.int .i64 bx, .int .i64 bY] (by rfl) (show World.rangeAt w100 Y48 (0) [.int .i64 bx, .int .i64 bY] from (H102.out.range (i := 5) (by rfl) 0 2)) Tryz.underlying53 (by rfl) (by kernel_rfl) ?_
      try simp only [Act.put, zA, zB, zC]
      refine mv_ld (by rfl) _ _ (by rfl) X1 (0) [.bool ry.n, .slice ry.p ry.l ry.c, .bool ry.m, .slice ry.p2 ry.l2 ry.c2] (by rfl) (show World.rangeAt w100 X1 (0) [.bool ry.n, .slice ry.p ry.l ry.c, .bool ry.m, .slice ry.p2 ry.l2 ry.c2] from (H102.out.range (i := 0) (by rfl) 0 4)) Tryz.underlying27 (by rfl) (by kernel_rfl) ?_
      try simp only [Act.put, zA, zB, zC]
      refine mv_call (by rfl) (by go_simp) (rxat_any L ax ay bx bY ry y _ (RY.out.dig H102.out.dig0) h1L hL HOA.out HOB.out (xat_pre (.inl ⟨C1.out, C2.out⟩)).1 (xat_pre (.inl ⟨C1.out, C2.out⟩)).2.1 (xat_pre (.inl ⟨C1.out, C2.out⟩)).2.2) ?_
      rintro e w108 ⟨r109, rfl, hr_, hx⟩
      have H110 := zH (H102.out.step hx)
      have D110 := zH (show Dig w100 w108 from Dig.of_ext hx)
      have R109 := zH hr_
      have B109 := zH (rl_xat (ax := ax) (bx := bx) HOA.out HOB.out RY.out.rl)
      clear hr_
      clear hx
      refine ⟨_, rfl, ?_⟩
      try simp only [Act.put, zA, zB, zC]
      refine qV (.tuple #[.agg #[.bool r109.n, .slice r109.p r109.l r109.c, .bool r109.m, .slice r109.p2 r109.l2 r109.c2], .bool true]) ?_
      refine qV (.agg #[.bool r109.n, .slice r109.p r109.l r109.c, .bool r109.m, .slice r109.p2 r109.l2 r109.c2]) ?_
      try simp only [Act.put, zA, zB, zC]
      refine qV (.bool true) ?_
      try simp only [Act.put, zA, zB, zC]
      refine mv_alloc (T := 27) (zs := [.bool false, .slice none 0 0, .bool false, .slice none 0 0]) (by rfl) (by go_simp) H110.out (by simp [NoUL]) ?_
      intro X115 w116 hh hx hge
      have H117 := zH (show Hp w w116 [.blk X1 27 [.bool ry.n, .slice ry.p ry.l ry.c, .bool ry.m, .slice ry.p2 ry.l2 ry.c2], .row 27 4 (.slice A1 m c1) (m) (List.flatMap MkE.cx es), .row 3 1 (.slice A2 m c2) (m) (List.flatMap MkE.cu es), .row 71 4 (.slice (some ⟨ge, 0, none⟩) ((edgesOf rs).length) ce) ((edgesOf rs).length) (List.flatMap edC (edgesOf rs)), .blk X47 53 [.int .i64 ax, .int .i64 ay], .blk Y48 53 [.int .i64 bx, .int .i64 bY], .blk X70 27 [.bool r68.n, .slice r68.p r68.l r68.c, .bool r68.m, .slice r68.p2 r68.l2 r68.c2], .blk Y71 27 [.bool r69.n, .slice r69.p r69.l r69.c, .bool r69.m, .slice r69.p2 r69.l2 r69.c2], .blk X115 27 [.bool false, .slice none 0 0, .bool false, .slice none 0 0]] from hh)
      have D117 := zH (show Dig w108 w116 from Dig.of_ext hx)
      clear hh hx hge
      try simp only [Act.put, zA, zB, zC]
      refine mv_st (by rfl) _ _ _ (by rfl) H117.out (ix := 8) (by rfl) 0 [.bool r109.n, .slice r109.p r109.l r109.c, .bool r109.m, .slice r109.p2 r109.l2 r109.c2] (by rfl) (by rfl) (by simp) (by kernel_rfl) (by simp [Value.oneCell']) (by simp [NoUL]) ?_
      intro w120 hh hd ho
      have H121 := zH (show Hp w w120 [.blk X1 27 [.bool ry.n, .slice ry.p ry.l ry.c, .bool ry.m, .slice ry.p2 ry.l2 ry.c2], .row 27 4 (.slice A1 m c1) (m) (List.flatMap MkE.cx es), .row 3 1 (.slice A2 m c2) (m) (List.flatMap MkE.cu es), .row 71 4 (.slice (some ⟨ge, 0, none⟩) ((edgesOf rs).length) ce) ((edgesOf rs).length) (List.flatMap edC (edgesOf rs)), .blk X47 53 [.int .i64 ax, .int .i64 ay], .blk Y48 53 [.int .i64 bx, .int .i64 bY], .blk X70 27 [.bool r68.n, .slice r68.p r68.l r68.c, .bool r68.m, .slice r68.p2 r68.l2 r68.c2], .blk Y71 27 [.bool r69.n, .slice r69.p r69.l r69.c, .bool r69.m, .slice r69.p2 r69.l2 r69.c2], .blk X115 27 [.bool r109.n, .slice r109.p r109.l r109.c, .bool r109.m, .slice r109.p2 r109.l2 r109.c2]] from hh)
      have D121 := zH (show Dig w116 w120 from hd)
      clear hh hd ho
      (try simp only [Act.put])
      refine qV (.bool true) ?_
      try simp only [Act.put, zA, zB, zC]
      go_upto_region 18 with fail
      refine wp_region_lit ?_
      refine qV (.slice A1 m c1) ?_
      refine mv_ld (by rfl) _ _ (by rfl) X115 (0) [.bool r109.n, .slice r109.p r109.l r109.c, .bool r109.m, .slice r109.p2 r109.l2 r109.c2] (by rfl) (show World.rangeAt w120 X115 (0) [.bool r109.n, .slice r109.p r109.l r109.c, .bool r109.m, .slice r109.p2 r109.l2 r109.c2] from (H121.out.range (i := 8) (by rfl) 0 4)) Tryz.underlying27 (by rfl) (by kernel_rfl) ?_
      try simp only [Act.put, zA, zB, zC]
      refine mv_val (v := .slice (some ⟨w120.heap.size, 0, none⟩) 1 1) (w' := (w120.alloc (.cells ([.bool r109.n, .slice r109.p r109.l r109.c, .bool r109.m, .slice r109.p2 r109.l2 r109.c2] : List Value).toArray 27))) (by rfl) (by go_simp) ?_
      try simp only [Act.put, zA, zB, zC]
      refine mv_app (by rfl) _ _ _ (by rfl) elRat (by rfl) H121.out (ix := 1) (by rfl) 1 1 [.bool r109.n, .slice r109.p r109.l r109.c, .bool r109.m, .slice r109.p2 r109.l2 r109.c2] (by rfl) rfl (by simp [Value.oneCell']) (by simp [NoUL]) (by decide) (by unfold maxLen; exact (by have ob0 := HPT.out; have ob1 := HEL.out; have ob3 := HM.out.2; omega)) (by have ob0 := HPT.out; have ob1 := HEL.out; have ob3 := HM.out.2; omega) ?_
      intro g126 cp127 w125 hf hh hd hg
      have Fg126 := zH hf
      clear hf
      rw [show List.flatMap MkE.cx es ++ [.bool r109.n, .slice r109.p r109.l r109.c, .bool r109.m, .slice r109.p2 r109.l2 r109.c2] = List.flatMap MkE.cx (es ++ [(⟨r109, (xatV ax ay bx bY y), 1⟩ : MkE)]) from flat_snoc MkE.cx _ (⟨r109, (xatV ax ay bx bY y), 1⟩ : MkE)] at hh
      have H128 := zH (show Hp w w125 [.blk X1 27 [.bool ry.n, .slice ry.p ry.l ry.c, .bool ry.m, .slice ry.p2 ry.l2 ry.c2], .row 27 4 (.slice (some ⟨g126, 0, none⟩) (m + 1) cp127) (m + 1) (List.flatMap MkE.cx (es ++ [(⟨r109, (xatV ax ay bx bY y), 1⟩ : MkE)])), .row 3 1 (.slice A2 m c2) (m) (List.flatMap MkE.cu es), .row 71 4 (.slice (some ⟨ge, 0, none⟩) ((edgesOf rs).length) ce) ((edgesOf rs).length) (List.flatMap edC (edgesOf rs)), .blk X47 53 [.int .i64 ax, .int .i64 ay], .blk Y48 53 [.int .i64 bx, .int .i64 bY], .blk X70 27 [.bool r68.n, .slice r68.p r68.l r68.c, .bool r68.m, .slice r68.p2 r68.l2 r68.c2], .blk Y71 27 [.bool r69.n, .slice r69.p r69.l r69.c, .bool r69.m, .slice r69.p2 r69.l2 r69.c2], .blk X115 27 [.bool r109.n, .slice r109.p r109.l r109.c, .bool r109.m, .slice r109.p2 r109.l2 r109.c2]] from hh)
      have D128 := zH (show Dig w120 w125 from hd)
      clear hh hd hg
      try simp only [Act.put, zA, zB, zC]
      refine qV (.slice (some ⟨g126, 0, none⟩) (m + 1) cp127) ?_
      try simp only [Act.put, zA, zB, zC]
      go_upto_region 19 with fail
      refine wp_region_lit ?_
      refine qV (.slice A2 m c2) ?_
      refine qV (.int .i64 1) ?_
      try simp only [Act.put, zA, zB, zC]
      refine mv_val (v := .slice (some ⟨w125.heap.size, 0, none⟩) 1 1) (w' := (w125.alloc (.cells ([.int .i64 1] : List Value).toArray 3))) (by rfl) (by go_simp) ?_
      try simp only [Act.put, zA, zB, zC]
      refine mv_app (by rfl) _ _ _ (by rfl) elInt (by rfl) H128.out (ix := 2) (by rfl) 1 1 [.int .i64 1] (by rfl) rfl (by simp [Value.oneCell']) (by simp [NoUL]) (by decide) (by unfold maxLen; exact (by have ob0 := HPT.out; have ob1 := HEL.out; have ob3 := HM.out.2; omega)) (by have ob0 := HPT.out; have ob1 := HEL.out; have ob3 := HM.out.2; omega) ?_
      intro g134 cp135 w133 hf hh hd hg
      have Fg134 := zH hf
      clear hf
      rw [show List.flatMap MkE.cu es ++ [.int .i64 1] = List.flatMap MkE.cu (es ++ [(⟨r109, (xatV ax ay bx bY y), 1⟩ : MkE)]) from flat_snoc MkE.cu _ (⟨r109, (xatV ax ay bx bY y), 1⟩ : MkE)] at hh
      have H136 := zH (show Hp w w133 [.blk X1 27 [.bool ry.n, .slice ry.p ry.l ry.c, .bool ry.m, .slice ry.p2 ry.l2 ry.c2], .row 27 4 (.slice (some ⟨g126, 0, none⟩) (m + 1) cp127) (m + 1) (List.flatMap MkE.cx (es ++ [(⟨r109, (xatV ax ay bx bY y), 1⟩ : MkE)])), .row 3 1 (.slice (some ⟨g134, 0, none⟩) (m + 1) cp135) (m + 1) (List.flatMap MkE.cu (es ++ [(⟨r109, (xatV ax ay bx bY y), 1⟩ : MkE)])), .row 71 4 (.slice (some ⟨ge, 0, none⟩) ((edgesOf rs).length) ce) ((edgesOf rs).length) (List.flatMap edC (edgesOf rs)), .blk X47 53 [.int .i64 ax, .int .i64 ay], .blk Y48 53 [.int .i64 bx, .int .i64 bY], .blk X70 27 [.bool r68.n, .slice r68.p r68.l r68.c, .bool r68.m, .slice r68.p2 r68.l2 r68.c2], .blk Y71 27 [.bool r69.n, .slice r69.p r69.l r69.c, .bool r69.m, .slice r69.p2 r69.l2 r69.c2], .blk X115 27 [.bool r109.n, .slice r109.p r109.l r109.c, .bool r109.m, .slice r109.p2 r109.l2 r109.c2]] from hh)
      have D136 := zH (show Dig w125 w133 from hd)
      clear hh hd hg
      try simp only [Act.put, zA, zB, zC]
      refine qV (.slice (some ⟨g134, 0, none⟩) (m + 1) cp135) ?_
      try simp only [Act.put, zA, zB, zC]
      obtain ⟨ey, hey_⟩ : ∃ ey : MkE, ey = (⟨r109, (xatV ax ay bx bY y), 1⟩ : MkE) := ⟨_, rfl⟩
      have HZ := zH hey_
      have H139 := zH (show Hp w w133 [.blk X1 27 [.bool ry.n, .slice ry.p ry.l ry.c, .bool ry.m, .slice ry.p2 ry.l2 ry.c2], .row 27 4 (.slice (some ⟨g126, 0, none⟩) (m + 1) cp127) (m + 1) (List.flatMap MkE.cx (es.take m ++ ey :: es.drop m)), .row 3 1 (.slice (some ⟨g134, 0, none⟩) (m + 1) cp135) (m + 1) (List.flatMap MkE.cu (es.take m ++ ey :: es.drop m)), .row 71 4 (.slice (some ⟨ge, 0, none⟩) ((edgesOf rs).length) ce) ((edgesOf rs).length) (List.flatMap edC (edgesOf rs)), .blk X47 53 [.int .i64 ax, .int .i64 ay], .blk Y48 53 [.int .i64 bx, .int .i64 bY], .blk X70 27 [.bool r68.n, .slice r68.p r68.l r68.c, .bool r68.m, .slice r68.p2 r68.l2 r68.c2], .blk Y71 27 [.bool r69.n, .slice r69.p r69.l r69.c, .bool r69.m, .slice r69.p2 r69.l2 r69.c2], .blk X115 27 [.bool r109.n, .slice r109.p r109.l r109.c, .bool r109.m, .slice r109.p2 r109.l2 r109.c2]] from by rw [show es.take m ++ ey :: es.drop m = es ++ [(⟨r109, (xatV ax ay bx bY y), 1⟩ : MkE)] by rw [List.take_of_length_le (by have := HM.out.1; omega), List.drop_of_length_le (by have := HM.out.1; omega), HZ.out]]; exact H136.out)
      have DD140 := zH ((((D117.out.trans D121.out).trans D128.out).trans D136.out))
      have HOY := zH (show ey.Ok (L + 8) w133 from by rw [HZ.out]; exact ⟨(R109.out.dig DD140.out), (show Nm.rl (xatV ax ay bx bY y) ≤ L + 8 by have q_ := B109.out; omega), (show (-1 : Int) ≤ 1 by decide), (show 1 ≤ (1 : Int) by decide)⟩)
      have HVY := zH (show ey.vl = (xatV ax ay bx bY y, 1) from by rw [HZ.out]; rfl)
      have HINS := zH (show (Stb.ins ltK es ey).map MkE.vl = Stb.stab ltM (((edgesOf rs).take (i + 1)).filterMap (crossV y)) by rw [crs_some HE.out (cross_up (a := (ax, ay)) (b := (bx, bY)) ⟨C1.out, C2.out⟩), ← HVL.out, ← HVY.out]; exact ins_map MkE.vl (fun _ _ => rfl) es ey)
      have HSRT := zH (show Stb.Srt ltK es from srt_mk (by rw [HVL.out]; exact Stb.stab_srt wkM _))
      go_upto_region 20 with fail
      refine wp_region_lit ?_
      refine qV (.slice (some ⟨g126, 0, none⟩) (m + 1) cp127) ?_
      refine qV (.int .i64 ((m + 1 : Nat) : Int)) ?_
      try simp only [Act.put, zA, zB, zC]
      refine mv_val (v := .int .i64 (m : Int)) (w' := w133) (by rfl) (by exact ev_sub (by rfl) (by rfl) (by rfl) (by first | rfl | omega) (by have ob0 := HPT.out; have ob1 := HEL.out; have ob3 := HM.out.2; omega) (by have ob0 := HPT.out; have ob1 := HEL.out; have ob3 := HM.out.2; omega)) ?_
      try simp only [Act.put, zA, zB, zC]
      refine qV (.int .i64 (m : Int)) ?_
      try simp only [Act.put, zA, zB, zC]
      have DD145 := zH ((((((((((((((((D37.out.trans D50.out).trans D56.out).trans D60.out).trans D63.out).trans D73.out).trans D79.out).trans D83.out).trans D91.out).trans D96.out).trans D102.out).trans D110.out).trans D117.out).trans D121.out).trans D128.out).trans D136.out))
      go_wp2_with fail
      go_loopg [17] (m + 1) (fun cq v146 wr => ∃ (t : Nat) (u : Nat), cq = (m + 1) - t ∧ v146 = .int .i64 (u : Int) ∧ (t + u = m) ∧ (∀ z, z ∈ es.drop u → ltK ey z = true) ∧ (∀ e, e ∈ es.take u ++ ey :: es.drop u → e.Ok (L + 8) wr) ∧ Hp w wr [.blk X1 27 [.bool ry.n, .slice ry.p ry.l ry.c, .bool ry.m, .slice ry.p2 ry.l2 ry.c2], .row 27 4 (.slice (some ⟨g126, 0, none⟩) (m + 1) cp127) (m + 1) (List.flatMap MkE.cx (es.take u ++ ey :: es.drop u)), .row 3 1 (.slice (some ⟨g134, 0, none⟩) (m + 1) cp135) (m + 1) (List.flatMap MkE.cu (es.take u ++ ey :: es.drop u)), .row 71 4 (.slice (some ⟨ge, 0, none⟩) ((edgesOf rs).length) ce) ((edgesOf rs).length) (List.flatMap edC (edgesOf rs)), .blk X47 53 [.int .i64 ax, .int .i64 ay], .blk Y48 53 [.int .i64 bx, .int .i64 bY], .blk X70 27 [.bool r68.n, .slice r68.p r68.l r68.c, .bool r68.m, .slice r68.p2 r68.l2 r68.c2], .blk Y71 27 [.bool r69.n, .slice r69.p r69.l r69.c, .bool r69.m, .slice r69.p2 r69.l2 r69.c2], .blk X115 27 [.bool r109.n, .slice r109.p r109.l r109.c, .bool r109.m, .slice r109.p2 r109.l2 r109.c2]] ∧ Dig w133 wr)
      case atStart => exact ⟨0, m, rfl, rfl, Nat.zero_add _, (fun z_ hz_ => by rw [List.drop_of_length_le (by have := HM.out.1; omega)] at hz_; simp at hz_), (fun g_ hg_ => by rw [List.take_of_length_le (by have := HM.out.1; omega), List.drop_of_length_le (by have := HM.out.1; omega)] at hg_; exact (List.mem_append.1 hg_).elim (fun hg_ => (HOE.out g_ hg_).dig DD145.out) (fun hg_ => by rw [List.mem_singleton.1 hg_]; exact HOY.out)), H139.out, Dig.refl _⟩
      case round =>
       obtain ⟨t, u, rfl, rfl, q_HTU, q_HALL, q_HOK2, hh_, hd_⟩ := hrel
       generalize wr = w147 at *
       have HTU := zH q_HTU
       clear q_HTU
       have HALL := zH q_HALL
       clear q_HALL
       have HOK2 := zH q_HOK2
       clear q_HOK2
       have H149 := zH hh_
       have D149 := zH hd_
       clear hh_ hd_ H139
       by_cases c150 : 0 < u
       ·have HU0 := zH c150
        clear c150
        have hu0 := HU0.out
        obtain ⟨q, rfl⟩ : ∃ q, u = q + 1 := ⟨u - 1, by omega⟩
        have HTQ := zH (show q < es.length by have h1 := HTU.out; have h2 := HM.out.1; omega)
        have hqm : q < m := by have h1 := HTU.out; omega
        obtain ⟨gx_, gy_, gs_, gz_⟩ := ins_at (y := ey) HTQ.out
        obtain ⟨ex, hex_⟩ : ∃ ex, ex = es[q]'HTQ.out := ⟨_, rfl⟩
        rw [← hex_] at gx_ gs_ gz_
        have HXE := zH hex_
        have GX := zH gx_
        have GY := zH gy_
        have GS := zH gs_
        have GZ := zH gz_
        have HLX := zH (List.getElem?_eq_some_iff.1 gx_).1
        have HLY := zH (List.getElem?_eq_some_iff.1 gy_).1
        clear gx_ gy_ gs_ gz_ hex_
        have OX := zH (HOK2.out ex (List.mem_of_getElem? GX.out))
        have OY := zH (HOK2.out ey (List.mem_of_getElem? GY.out))
        have RX := zH OX.out.1
        have RZ := zH OY.out.1
        have BX := zH OX.out.2.1
        have BZ := zH OY.out.2.1
        have HXS := zH OX.out.2.2
        have HYS := zH OY.out.2.2
        rcases hcb_ : ltK ey ex with _ | _
        ·have CB := zH hcb_
         clear hcb_
         go_upto_region 21 with fail
         refine wp_region_held_drew (S := fun x => Ext w147 x) (by kernel_rfl) (Ext.refl _).drew (fun _ => ?_)
         have H151 := zH (H149.out.step (Ext.refl w147).drew)
         have D151 := zH (show Dig w147 w147.drew from Dig.of_ext (Ext.refl w147).drew)
         refine mW 0 (bs 23 1) (v := .int .i64 ((q + 1 : Nat) : Int)) (Ext.refl _).drew ?hv153 ?rv153
         case hv153 => (intro w hSw; go_simp <;> with_reducible rfl)
         try simp only [Act.put, zA, zB, zC]
         refine mW 1 (bs 23 3) (v := .bool true) (Ext.refl _).drew ?hv154 ?rv154
         case hv154 => (intro w hSw; exact ev_gtr (by rfl) (by rfl) (by rfl) (dec_t (by have ob0 := HEL.out; have ob1 := HM.out.2; have ob4 := HXS.out; have ob5 := HYS.out; omega)))
         try simp only [Act.put, zA, zB, zC]
         refine mW 2 (bs 23 7) (v := .bool true) (Ext.refl _).drew ?hv155 ?rv155
         case hv155 => (intro w hSw; go_simp <;> with_reducible rfl)
         try simp only [Act.put, zA, zB, zC]
         refine mW 3 (bs 23 15) (v := .slice (some ⟨g126, 0, none⟩) (m + 1) cp127) (Ext.refl _).drew ?hv156 ?rv156
         case hv156 => (intro w hSw; go_simp <;> with_reducible rfl)
         try simp only [Act.put, zA, zB, zC]
         refine mW 4 (bs 23 31) (v := .int .i64 ((q + 1 : Nat) : Int)) (Ext.refl _).drew ?hv157 ?rv157
         case hv157 => (intro w hSw; go_simp <;> with_reducible rfl)
         try simp only [Act.put, zA, zB, zC]
         refine mW 5 (bs 23 63) (v := .pointer (some ⟨g126, (q + 1) * 4, none⟩)) (Ext.refl _).drew ?hv158 ?rv158
         case hv158 => (intro w hSw; exact ev_index (k := q + 1) (by rfl) Tryz.underlying41 (by kernel_rfl) (by rfl) (by rfl) (by omega) (show q + 1 < m + 1 by omega) (Nat.zero_add _).symm)
         refine mR 6 (bs 23 127) g126 ((q + 1) * 4) [.bool ey.a.n, .slice ey.a.p ey.a.l ey.a.c, .bool ey.a.m, .slice ey.a.p2 ey.a.l2 ey.a.c2] (fun x hx => range_ext (show World.rangeAt w147 g126 ((q + 1) * 4) [.bool ey.a.n, .slice ey.a.p ey.a.l ey.a.c, .bool ey.a.m, .slice ey.a.p2 ey.a.l2 ey.a.c2] from (H149.out.elem (f := MkE.cx) (i := 1) (by rfl) MkE.cx_len GY.out)) hx) Tryz.underlying27 (Ext.refl _).drew ?_
         try simp only [Act.put, zA, zB, zC]
         refine mW 7 (bs 23 255) (v := .slice (some ⟨g134, 0, none⟩) (m + 1) cp135) (Ext.refl _).drew ?hv159 ?rv159
         case hv159 => (intro w hSw; go_simp <;> with_reducible rfl)
         try simp only [Act.put, zA, zB, zC]
         refine mW 8 (bs 23 511) (v := .int .i64 ((q + 1 : Nat) : Int)) (Ext.refl _).drew ?hv160 ?rv160
         case hv160 => (intro w hSw; go_simp <;> with_reducible rfl)
         try simp only [Act.put, zA, zB, zC]
         refine mW 9 (bs 23 1023) (v := .pointer (some ⟨g134, (q + 1) * 1, none⟩)) (Ext.refl _).drew ?hv161 ?rv161
         case hv161 => (intro w hSw; exact ev_index (k := q + 1) (by rfl) Tryz.underlying42 (by kernel_rfl) (by rfl) (by rfl) (by omega) (show q + 1 < m + 1 by omega) (Nat.zero_add _).symm)
         try simp only [Act.put, zA, zB, zC]
         refine md_ld1 (g := g134) (o := (q + 1) * 1) (v := .int .i64 ey.up) (i := 10) (listed' := (bs 23 2047)) (by rfl) (by kernel_rfl) (by kernel_rfl) (by kernel_rfl) (by intro _ _ _ h; exact h) (by rfl) (fun x hx => Ext.get hx (show World.cell? w147 ⟨g134, (q + 1) * 1, none⟩ = some (.int .i64 ey.up) from cell_of_range (H149.out.elem (f := MkE.cu) (i := 2) (by rfl) MkE.cu_len GY.out))) (by intro x hq; (try simp only [Nat.mul_one] at hq); go_simp <;> with_reducible rfl) (Ext.refl _).drew (by kernel_rfl) ?_
         try simp only [Act.put, zA, zB, zC]
         refine mW 11 (bs 23 4095) (v := .slice (some ⟨g126, 0, none⟩) (m + 1) cp127) (Ext.refl _).drew ?hv162 ?rv162
         case hv162 => (intro w hSw; go_simp <;> with_reducible rfl)
         try simp only [Act.put, zA, zB, zC]
         refine mW 12 (bs 23 8191) (v := .int .i64 ((q + 1 : Nat) : Int)) (Ext.refl _).drew ?hv163 ?rv163
         case hv163 => (intro w hSw; go_simp <;> with_reducible rfl)
         try simp only [Act.put, zA, zB, zC]
         refine mW 13 (bs 23 16383) (v := .int .i64 (q : Int)) (Ext.refl _).drew ?hv164 ?rv164
         case hv164 => (intro w hSw; exact ev_sub (by rfl) (by rfl) (by rfl) (by first | rfl | omega) (by have ob0 := HEL.out; have ob1 := HM.out.2; have ob4 := HXS.out; have ob5 := HYS.out; omega) (by have ob0 := HEL.out; have ob1 := HM.out.2; have ob4 := HXS.out; have ob5 := HYS.out; omega))
         try simp only [Act.put, zA, zB, zC]
         refine mW 14 (bs 23 32767) (v := .pointer (some ⟨g126, q * 4, none⟩)) (Ext.refl _).drew ?hv165 ?rv165
         case hv165 => (intro w hSw; exact ev_index (k := q) (by rfl) Tryz.underlying41 (by kernel_rfl) (by rfl) (by rfl) (by omega) (show q < m + 1 by omega) (Nat.zero_add _).symm)
         refine mR 15 (bs 23 65535) g126 (q * 4) [.bool ex.a.n, .slice ex.a.p ex.a.l ex.a.c, .bool ex.a.m, .slice ex.a.p2 ex.a.l2 ex.a.c2] (fun x hx => range_ext (show World.rangeAt w147 g126 (q * 4) [.bool ex.a.n, .slice ex.a.p ex.a.l ex.a.c, .bool ex.a.m, .slice ex.a.p2 ex.a.l2 ex.a.c2] from (H149.out.elem (f := MkE.cx) (i := 1) (by rfl) MkE.cx_len GX.out)) hx) Tryz.underlying27 (Ext.refl _).drew ?_
         try simp only [Act.put, zA, zB, zC]
         refine mW 16 (bs 23 131071) (v := .slice (some ⟨g134, 0, none⟩) (m + 1) cp135) (Ext.refl _).drew ?hv166 ?rv166
         case hv166 => (intro w hSw; go_simp <;> with_reducible rfl)
         try simp only [Act.put, zA, zB, zC]
         refine mW 17 (bs 23 262143) (v := .int .i64 ((q + 1 : Nat) : Int)) (Ext.refl _).drew ?hv167 ?rv167
         case hv167 => (intro w hSw; go_simp <;> with_reducible rfl)
         try simp only [Act.put, zA, zB, zC]
         refine mW 18 (bs 23 524287) (v := .int .i64 (q : Int)) (Ext.refl _).drew ?hv168 ?rv168
         case hv168 => (intro w hSw; exact ev_sub (by rfl) (by rfl) (by rfl) (by first | rfl | omega) (by have ob0 := HEL.out; have ob1 := HM.out.2; have ob4 := HXS.out; have ob5 := HYS.out; omega) (by have ob0 := HEL.out; have ob1 := HM.out.2; have ob4 := HXS.out; have ob5 := HYS.out; omega))
         try simp only [Act.put, zA, zB, zC]
         refine mW 19 (bs 23 1048575) (v := .pointer (some ⟨g134, q * 1, none⟩)) (Ext.refl _).drew ?hv169 ?rv169
         case hv169 => (intro w hSw; exact ev_index (k := q) (by rfl) Tryz.underlying42 (by kernel_rfl) (by rfl) (by rfl) (by omega) (show q < m + 1 by omega) (Nat.zero_add _).symm)
         try simp only [Act.put, zA, zB, zC]
         refine md_ld1 (g := g134) (o := q * 1) (v := .int .i64 ex.up) (i := 20) (listed' := (bs 23 2097151)) (by rfl) (by kernel_rfl) (by kernel_rfl) (by kernel_rfl) (by intro _ _ _ h; exact h) (by rfl) (fun x hx => Ext.get hx (show World.cell? w147 ⟨g134, q * 1, none⟩ = some (.int .i64 ex.up) from cell_of_range (H149.out.elem (f := MkE.cu) (i := 2) (by rfl) MkE.cu_len GX.out))) (by intro x hq; (try simp only [Nat.mul_one] at hq); go_simp <;> with_reducible rfl) (Ext.refl _).drew (by kernel_rfl) ?_
         try simp only [Act.put, zA, zB, zC]
         refine mC 21 (bs 23 4194303) (before_any 60000 _ _ ey.q ex.q ey.up ex.up _ (RV.Is.nin (RZ.out.dig D151.out) (Nat.le_trans BZ.out (by omega))) (RV.Is.nin (RX.out.dig D151.out) (Nat.le_trans BX.out (by omega))) (by decide)) ?_
         rintro e w170 ⟨rfl, hx⟩
         have H171 := zH (H151.out.step hx)
         have D171 := zH (show Dig w147.drew w170 from Dig.of_ext hx)
         have S173 := zH (show Ext w147 w170 from (Ext.refl _).drew.trans hx)
         clear hx
         refine ⟨.bool false, by rw [show beforeV ey.q ey.up ex.q ex.up = false from CB.out], S173.out, ?_⟩
         try simp only [Act.put, zA, zB, zC]
         refine mW 22 (bs 23 8388607) (v := .bool false) S173.out ?hv174 ?rv174
         case hv174 => (intro w hSw; go_simp <;> with_reducible rfl)
         try simp only [Act.put, zA, zB, zC]
         refine wpAnyH_done (by kernel_rfl) ?_ _
         have H175 := zH (show Hp w w170 [.blk X1 27 [.bool ry.n, .slice ry.p ry.l ry.c, .bool ry.m, .slice ry.p2 ry.l2 ry.c2], .row 27 4 (.slice (some ⟨g126, 0, none⟩) (m + 1) cp127) (m + 1) (List.flatMap MkE.cx (Stb.ins ltK es ey)), .row 3 1 (.slice (some ⟨g134, 0, none⟩) (m + 1) cp135) (m + 1) (List.flatMap MkE.cu (Stb.ins ltK es ey)), .row 71 4 (.slice (some ⟨ge, 0, none⟩) ((edgesOf rs).length) ce) ((edgesOf rs).length) (List.flatMap edC (edgesOf rs)), .blk X47 53 [.int .i64 ax, .int .i64 ay], .blk Y48 53 [.int .i64 bx, .int .i64 bY], .blk X70 27 [.bool r68.n, .slice r68.p r68.l r68.c, .bool r68.m, .slice r68.p2 r68.l2 r68.c2], .blk Y71 27 [.bool r69.n, .slice r69.p r69.l r69.c, .bool r69.m, .slice r69.p2 r69.l2 r69.c2], .blk X115 27 [.bool r109.n, .slice r109.p r109.l r109.c, .bool r109.m, .slice r109.p2 r109.l2 r109.c2]] from by rw [Stb.ins_stop wkK HSRT.out HALL.out (by have h1 := HTQ.out; omega) (Or.inr ⟨q, rfl, HTQ.out, by rw [← HXE.out]; exact CB.out⟩)]; exact H171.out)
         have DD176 := zH ((D151.out.trans D171.out))
         have DD177 := zH ((((((((((((((((((((D35.out.trans D37.out).trans D50.out).trans D56.out).trans D60.out).trans D63.out).trans D73.out).trans D79.out).trans D83.out).trans D91.out).trans D96.out).trans D102.out).trans D110.out).trans D117.out).trans D121.out).trans D128.out).trans D136.out).trans D149.out).trans D151.out).trans D171.out))
         go_wp2_with fail
         go_roundg ((edgesOf rs).length - (i + 1))
         case measure => exact (by have ob0 := HEL.out; have ob1 := HM.out.2; have ob4 := HXS.out; have ob5 := HYS.out; omega)
         case rel => exact ⟨i + 1, m + 1, Stb.ins ltK es ey, some ⟨g126, 0, none⟩, cp127, some ⟨g134, 0, none⟩, cp135, rfl, rfl, rfl, (by go_num), hlt, ⟨by rw [Stb.ins_len, HM.out.1], by have := HM.out.2; omega⟩, HINS.out, (fun g_ hg_ => by rw [Stb.ins_stop wkK HSRT.out HALL.out (by have h1 := HTQ.out; omega) (Or.inr ⟨q, rfl, HTQ.out, by rw [← HXE.out]; exact CB.out⟩)] at hg_; exact ((HOK2.out g_ hg_).dig DD176.out)), H175.out.take 4, DD177.out⟩
        ·have CB := zH hcb_
         clear hcb_
         go_upto_region 21 with fail
         refine wp_region_held_drew (S := fun x => Ext w147 x) (by kernel_rfl) (Ext.refl _).drew (fun _ => ?_)
         have H178 := zH (H149.out.step (Ext.refl w147).drew)
         have D178 := zH (show Dig w147 w147.drew from Dig.of_ext (Ext.refl w147).drew)
         refine mW 0 (bs 23 1) (v := .int .i64 ((q + 1 : Nat) : Int)) (Ext.refl _).drew ?hv180 ?rv180
         case hv180 => (intro w hSw; go_simp <;> with_reducible rfl)
         try simp only [Act.put, zA, zB, zC]
         refine mW 1 (bs 23 3) (v := .bool true) (Ext.refl _).drew ?hv181 ?rv181
         case hv181 => (intro w hSw; exact ev_gtr (by rfl) (by rfl) (by rfl) (dec_t (by have ob0 := HEL.out; have ob1 := HM.out.2; have ob4 := HXS.out; have ob5 := HYS.out; omega)))
         try simp only [Act.put, zA, zB, zC]
         refine mW 2 (bs 23 7) (v := .bool true) (Ext.refl _).drew ?hv182 ?rv182
         case hv182 => (intro w hSw; go_simp <;> with_reducible rfl)
         try simp only [Act.put, zA, zB, zC]
         refine mW 3 (bs 23 15) (v := .slice (some ⟨g126, 0, none⟩) (m + 1) cp127) (Ext.refl _).drew ?hv183 ?rv183
         case hv183 => (intro w hSw; go_simp <;> with_reducible rfl)
         try simp only [Act.put, zA, zB, zC]
         refine mW 4 (bs 23 31) (v := .int .i64 ((q + 1 : Nat) : Int)) (Ext.refl _).drew ?hv184 ?rv184
         case hv184 => (intro w hSw; go_simp <;> with_reducible rfl)
         try simp only [Act.put, zA, zB, zC]
         refine mW 5 (bs 23 63) (v := .pointer (some ⟨g126, (q + 1) * 4, none⟩)) (Ext.refl _).drew ?hv185 ?rv185
         case hv185 => (intro w hSw; exact ev_index (k := q + 1) (by rfl) Tryz.underlying41 (by kernel_rfl) (by rfl) (by rfl) (by omega) (show q + 1 < m + 1 by omega) (Nat.zero_add _).symm)
         refine mR 6 (bs 23 127) g126 ((q + 1) * 4) [.bool ey.a.n, .slice ey.a.p ey.a.l ey.a.c, .bool ey.a.m, .slice ey.a.p2 ey.a.l2 ey.a.c2] (fun x hx => range_ext (show World.rangeAt w147 g126 ((q + 1) * 4) [.bool ey.a.n, .slice ey.a.p ey.a.l ey.a.c, .bool ey.a.m, .slice ey.a.p2 ey.a.l2 ey.a.c2] from (H149.out.elem (f := MkE.cx) (i := 1) (by rfl) MkE.cx_len GY.out)) hx) Tryz.underlying27 (Ext.refl _).drew ?_
         try simp only [Act.put, zA, zB, zC]
         refine mW 7 (bs 23 255) (v := .slice (some ⟨g134, 0, none⟩) (m + 1) cp135) (Ext.refl _).drew ?hv186 ?rv186
         case hv186 => (intro w hSw; go_simp <;> with_reducible rfl)
         try simp only [Act.put, zA, zB, zC]
         refine mW 8 (bs 23 511) (v := .int .i64 ((q + 1 : Nat) : Int)) (Ext.refl _).drew ?hv187 ?rv187
         case hv187 => (intro w hSw; go_simp <;> with_reducible rfl)
         try simp only [Act.put, zA, zB, zC]
         refine mW 9 (bs 23 1023) (v := .pointer (some ⟨g134, (q + 1) * 1, none⟩)) (Ext.refl _).drew ?hv188 ?rv188
         case hv188 => (intro w hSw; exact ev_index (k := q + 1) (by rfl) Tryz.underlying42 (by kernel_rfl) (by rfl) (by rfl) (by omega) (show q + 1 < m + 1 by omega) (Nat.zero_add _).symm)
         try simp only [Act.put, zA, zB, zC]
         refine md_ld1 (g := g134) (o := (q + 1) * 1) (v := .int .i64 ey.up) (i := 10) (listed' := (bs 23 2047)) (by rfl) (by kernel_rfl) (by kernel_rfl) (by kernel_rfl) (by intro _ _ _ h; exact h) (by rfl) (fun x hx => Ext.get hx (show World.cell? w147 ⟨g134, (q + 1) * 1, none⟩ = some (.int .i64 ey.up) from cell_of_range (H149.out.elem (f := MkE.cu) (i := 2) (by rfl) MkE.cu_len GY.out))) (by intro x hq; (try simp only [Nat.mul_one] at hq); go_simp <;> with_reducible rfl) (Ext.refl _).drew (by kernel_rfl) ?_
         try simp only [Act.put, zA, zB, zC]
         refine mW 11 (bs 23 4095) (v := .slice (some ⟨g126, 0, none⟩) (m + 1) cp127) (Ext.refl _).drew ?hv189 ?rv189
         case hv189 => (intro w hSw; go_simp <;> with_reducible rfl)
         try simp only [Act.put, zA, zB, zC]
         refine mW 12 (bs 23 8191) (v := .int .i64 ((q + 1 : Nat) : Int)) (Ext.refl _).drew ?hv190 ?rv190
         case hv190 => (intro w hSw; go_simp <;> with_reducible rfl)
         try simp only [Act.put, zA, zB, zC]
         refine mW 13 (bs 23 16383) (v := .int .i64 (q : Int)) (Ext.refl _).drew ?hv191 ?rv191
         case hv191 => (intro w hSw; exact ev_sub (by rfl) (by rfl) (by rfl) (by first | rfl | omega) (by have ob0 := HEL.out; have ob1 := HM.out.2; have ob4 := HXS.out; have ob5 := HYS.out; omega) (by have ob0 := HEL.out; have ob1 := HM.out.2; have ob4 := HXS.out; have ob5 := HYS.out; omega))
         try simp only [Act.put, zA, zB, zC]
         refine mW 14 (bs 23 32767) (v := .pointer (some ⟨g126, q * 4, none⟩)) (Ext.refl _).drew ?hv192 ?rv192
         case hv192 => (intro w hSw; exact ev_index (k := q) (by rfl) Tryz.underlying41 (by kernel_rfl) (by rfl) (by rfl) (by omega) (show q < m + 1 by omega) (Nat.zero_add _).symm)
         refine mR 15 (bs 23 65535) g126 (q * 4) [.bool ex.a.n, .slice ex.a.p ex.a.l ex.a.c, .bool ex.a.m, .slice ex.a.p2 ex.a.l2 ex.a.c2] (fun x hx => range_ext (show World.rangeAt w147 g126 (q * 4) [.bool ex.a.n, .slice ex.a.p ex.a.l ex.a.c, .bool ex.a.m, .slice ex.a.p2 ex.a.l2 ex.a.c2] from (H149.out.elem (f := MkE.cx) (i := 1) (by rfl) MkE.cx_len GX.out)) hx) Tryz.underlying27 (Ext.refl _).drew ?_
         try simp only [Act.put, zA, zB, zC]
         refine mW 16 (bs 23 131071) (v := .slice (some ⟨g134, 0, none⟩) (m + 1) cp135) (Ext.refl _).drew ?hv193 ?rv193
         case hv193 => (intro w hSw; go_simp <;> with_reducible rfl)
         try simp only [Act.put, zA, zB, zC]
         refine mW 17 (bs 23 262143) (v := .int .i64 ((q + 1 : Nat) : Int)) (Ext.refl _).drew ?hv194 ?rv194
         case hv194 => (intro w hSw; go_simp <;> with_reducible rfl)
         try simp only [Act.put, zA, zB, zC]
         refine mW 18 (bs 23 524287) (v := .int .i64 (q : Int)) (Ext.refl _).drew ?hv195 ?rv195
         case hv195 => (intro w hSw; exact ev_sub (by rfl) (by rfl) (by rfl) (by first | rfl | omega) (by have ob0 := HEL.out; have ob1 := HM.out.2; have ob4 := HXS.out; have ob5 := HYS.out; omega) (by have ob0 := HEL.out; have ob1 := HM.out.2; have ob4 := HXS.out; have ob5 := HYS.out; omega))
         try simp only [Act.put, zA, zB, zC]
         refine mW 19 (bs 23 1048575) (v := .pointer (some ⟨g134, q * 1, none⟩)) (Ext.refl _).drew ?hv196 ?rv196
         case hv196 => (intro w hSw; exact ev_index (k := q) (by rfl) Tryz.underlying42 (by kernel_rfl) (by rfl) (by rfl) (by omega) (show q < m + 1 by omega) (Nat.zero_add _).symm)
         try simp only [Act.put, zA, zB, zC]
         refine md_ld1 (g := g134) (o := q * 1) (v := .int .i64 ex.up) (i := 20) (listed' := (bs 23 2097151)) (by rfl) (by kernel_rfl) (by kernel_rfl) (by kernel_rfl) (by intro _ _ _ h; exact h) (by rfl) (fun x hx => Ext.get hx (show World.cell? w147 ⟨g134, q * 1, none⟩ = some (.int .i64 ex.up) from cell_of_range (H149.out.elem (f := MkE.cu) (i := 2) (by rfl) MkE.cu_len GX.out))) (by intro x hq; (try simp only [Nat.mul_one] at hq); go_simp <;> with_reducible rfl) (Ext.refl _).drew (by kernel_rfl) ?_
         try simp only [Act.put, zA, zB, zC]
         refine mC 21 (bs 23 4194303) (before_any 60000 _ _ ey.q ex.q ey.up ex.up _ (RV.Is.nin (RZ.out.dig D178.out) (Nat.le_trans BZ.out (by omega))) (RV.Is.nin (RX.out.dig D178.out) (Nat.le_trans BX.out (by omega))) (by decide)) ?_
         rintro e w197 ⟨rfl, hx⟩
         have H198 := zH (H178.out.step hx)
         have D198 := zH (show Dig w147.drew w197 from Dig.of_ext hx)
         have S200 := zH (show Ext w147 w197 from (Ext.refl _).drew.trans hx)
         clear hx
         refine ⟨.bool true, by rw [show beforeV ey.q ey.up ex.q ex.up = true from CB.out], S200.out, ?_⟩
         try simp only [Act.put, zA, zB, zC]
         refine mW 22 (bs 23 8388607) (v := .bool true) S200.out ?hv201 ?rv201
         case hv201 => (intro w hSw; go_simp <;> with_reducible rfl)
         try simp only [Act.put, zA, zB, zC]
         refine wpAnyH_done (by kernel_rfl) ?_ _
         go_upto_region 23 with fail
         refine wp_region_held_drew (S := fun x => Ext w197 x) (by kernel_rfl) (Ext.refl _).drew (fun _ => ?_)
         have H202 := zH (H198.out.step (Ext.refl w197).drew)
         have D202 := zH (show Dig w197 w197.drew from Dig.of_ext (Ext.refl w197).drew)
         refine mW 0 (bs 11 1) (v := .slice (some ⟨g126, 0, none⟩) (m + 1) cp127) (Ext.refl _).drew ?hv204 ?rv204
         case hv204 => (intro w hSw; go_simp <;> with_reducible rfl)
         try simp only [Act.put, zA, zB, zC]
         refine mW 1 (bs 11 3) (v := .int .i64 ((q + 1 : Nat) : Int)) (Ext.refl _).drew ?hv205 ?rv205
         case hv205 => (intro w hSw; go_simp <;> with_reducible rfl)
         try simp only [Act.put, zA, zB, zC]
         refine mW 2 (bs 11 7) (v := .pointer (some ⟨g126, (q + 1) * 4, none⟩)) (Ext.refl _).drew ?hv206 ?rv206
         case hv206 => (intro w hSw; exact ev_index (k := q + 1) (by rfl) Tryz.underlying41 (by kernel_rfl) (by rfl) (by rfl) (by omega) (show q + 1 < m + 1 by omega) (Nat.zero_add _).symm)
         refine mR 3 (bs 11 15) g126 ((q + 1) * 4) [.bool ey.a.n, .slice ey.a.p ey.a.l ey.a.c, .bool ey.a.m, .slice ey.a.p2 ey.a.l2 ey.a.c2] (fun x hx => range_ext (show World.rangeAt w197 g126 ((q + 1) * 4) [.bool ey.a.n, .slice ey.a.p ey.a.l ey.a.c, .bool ey.a.m, .slice ey.a.p2 ey.a.l2 ey.a.c2] from (H198.out.elem (f := MkE.cx) (i := 1) (by rfl) MkE.cx_len GY.out)) hx) Tryz.underlying27 (Ext.refl _).drew ?_
         try simp only [Act.put, zA, zB, zC]
         refine mW 4 (bs 11 31) (v := .slice (some ⟨g134, 0, none⟩) (m + 1) cp135) (Ext.refl _).drew ?hv207 ?rv207
         case hv207 => (intro w hSw; go_simp <;> with_reducible rfl)
         try simp only [Act.put, zA, zB, zC]
         refine mW 5 (bs 11 63) (v := .int .i64 ((q + 1 : Nat) : Int)) (Ext.refl _).drew ?hv208 ?rv208
         case hv208 => (intro w hSw; go_simp <;> with_reducible rfl)
         try simp only [Act.put, zA, zB, zC]
         refine mW 6 (bs 11 127) (v := .pointer (some ⟨g134, (q + 1) * 1, none⟩)) (Ext.refl _).drew ?hv209 ?rv209
         case hv209 => (intro w hSw; exact ev_index (k := q + 1) (by rfl) Tryz.underlying42 (by kernel_rfl) (by rfl) (by rfl) (by omega) (show q + 1 < m + 1 by omega) (Nat.zero_add _).symm)
         try simp only [Act.put, zA, zB, zC]
         refine md_ld1 (g := g134) (o := (q + 1) * 1) (v := .int .i64 ey.up) (i := 7) (listed' := (bs 11 255)) (by rfl) (by kernel_rfl) (by kernel_rfl) (by kernel_rfl) (by intro _ _ _ h; exact h) (by rfl) (fun x hx => Ext.get hx (show World.cell? w197 ⟨g134, (q + 1) * 1, none⟩ = some (.int .i64 ey.up) from cell_of_range (H198.out.elem (f := MkE.cu) (i := 2) (by rfl) MkE.cu_len GY.out))) (by intro x hq; (try simp only [Nat.mul_one] at hq); go_simp <;> with_reducible rfl) (Ext.refl _).drew (by kernel_rfl) ?_
         try simp only [Act.put, zA, zB, zC]
         refine md_alloc (T := 27) (zs := [.bool false, .slice none 0 0, .bool false, .slice none 0 0]) (i := 8) (listed' := (bs 11 511)) (by rfl) (by kernel_rfl) (by rfl) (by go_simp) (by kernel_rfl) H202.out (by simp [NoUL]) ?_
         intro X210 w211 hh hx hge
         have H212 := zH (show Hp w w211 [.blk X1 27 [.bool ry.n, .slice ry.p ry.l ry.c, .bool ry.m, .slice ry.p2 ry.l2 ry.c2], .row 27 4 (.slice (some ⟨g126, 0, none⟩) (m + 1) cp127) (m + 1) (List.flatMap MkE.cx (es.take (q + 1) ++ ey :: es.drop (q + 1))), .row 3 1 (.slice (some ⟨g134, 0, none⟩) (m + 1) cp135) (m + 1) (List.flatMap MkE.cu (es.take (q + 1) ++ ey :: es.drop (q + 1))), .row 71 4 (.slice (some ⟨ge, 0, none⟩) ((edgesOf rs).length) ce) ((edgesOf rs).length) (List.flatMap edC (edgesOf rs)), .blk X47 53 [.int .i64 ax, .int .i64 ay], .blk Y48 53 [.int .i64 bx, .int .i64 bY], .blk X70 27 [.bool r68.n, .slice r68.p r68.l r68.c, .bool r68.m, .slice r68.p2 r68.l2 r68.c2], .blk Y71 27 [.bool r69.n, .slice r69.p r69.l r69.c, .bool r69.m, .slice r69.p2 r69.l2 r69.c2], .blk X115 27 [.bool r109.n, .slice r109.p r109.l r109.c, .bool r109.m, .slice r109.p2 r109.l2 r109.c2], .blk X210 27 [.bool false, .slice none 0 0, .bool false, .slice none 0 0]] from hh)
         have D212 := zH (show Dig w197.drew w211 from Dig.of_ext hx)
         have S215 := zH (show Ext w197 w211 from (Ext.refl _).drew.trans hx)
         have G214 := zH (show w197.heap.size ≤ X210 from Nat.le_trans (Ext.refl _).drew.size hge)
         clear hh hx hge
         refine ⟨S215.out, ?_⟩
         try simp only [Act.put, zA, zB, zC]
         refine md_st (i := 9) (listed' := (bs 11 1023)) (by rfl) (by kernel_rfl) (by rfl) (by kernel_rfl) _ _ _ (by rfl) H212.out (ix := 9) (by rfl) 0 [.bool ey.a.n, .slice ey.a.p ey.a.l ey.a.c, .bool ey.a.m, .slice ey.a.p2 ey.a.l2 ey.a.c2] (by rfl) (by rfl) (by simp) (by kernel_rfl) (by simp [Value.oneCell']) (by simp [NoUL]) ?_
         intro w216 hh hd ho
         have H217 := zH (show Hp w w216 [.blk X1 27 [.bool ry.n, .slice ry.p ry.l ry.c, .bool ry.m, .slice ry.p2 ry.l2 ry.c2], .row 27 4 (.slice (some ⟨g126, 0, none⟩) (m + 1) cp127) (m + 1) (List.flatMap MkE.cx (es.take (q + 1) ++ ey :: es.drop (q + 1))), .row 3 1 (.slice (some ⟨g134, 0, none⟩) (m + 1) cp135) (m + 1) (List.flatMap MkE.cu (es.take (q + 1) ++ ey :: es.drop (q + 1))), .row 71 4 (.slice (some ⟨ge, 0, none⟩) ((edgesOf rs).length) ce) ((edgesOf rs).length) (List.flatMap edC (edgesOf rs)), .blk X47 53 [.int .i64 ax, .int .i64 ay], .blk Y48 53 [.int .i64 bx, .int .i64 bY], .blk X70 27 [.bool r68.n, .slice r68.p r68.l r68.c, .bool r68.m, .slice r68.p2 r68.l2 r68.c2], .blk Y71 27 [.bool r69.n, .slice r69.p r69.l r69.c, .bool r69.m, .slice r69.p2 r69.l2 r69.c2], .blk X115 27 [.bool r109.n, .slice r109.p r109.l r109.c, .bool r109.m, .slice r109.p2 r109.l2 r109.c2], .blk X210 27 [.bool ey.a.n, .slice ey.a.p ey.a.l ey.a.c, .bool ey.a.m, .slice ey.a.p2 ey.a.l2 ey.a.c2]] from hh)
         have D217 := zH (show Dig w211 w216 from hd)
         have S219 := zH (show Ext w197 w216 from Own.ext ho S215.out G214.out)
         clear hh hd ho
         refine ⟨S219.out, ?_⟩
         (try simp only [Act.put])
         refine mW 10 (bs 11 2047) (v := .int .i64 ey.up) S219.out ?hv220 ?rv220
         case hv220 => (intro w hSw; go_simp <;> with_reducible rfl)
         try simp only [Act.put, zA, zB, zC]
         refine wpAnyH_done (by kernel_rfl) ?_ _
         go_upto_region 24 with fail
         refine wp_region_lit ?_
         refine qV (.slice (some ⟨g126, 0, none⟩) (m + 1) cp127) ?_
         refine qV (.int .i64 ((q + 1 : Nat) : Int)) ?_
         try simp only [Act.put, zA, zB, zC]
         refine qV (.slice (some ⟨g126, 0, none⟩) (m + 1) cp127) ?_
         refine qV (.int .i64 ((q + 1 : Nat) : Int)) ?_
         try simp only [Act.put, zA, zB, zC]
         refine mv_val (v := .int .i64 (q : Int)) (w' := w216) (by rfl) (by exact ev_sub (by rfl) (by rfl) (by rfl) (by first | rfl | omega) (by have ob0 := HEL.out; have ob1 := HM.out.2; have ob4 := HXS.out; have ob5 := HYS.out; omega) (by have ob0 := HEL.out; have ob1 := HM.out.2; have ob4 := HXS.out; have ob5 := HYS.out; omega)) ?_
         try simp only [Act.put, zA, zB, zC]
         refine mv_val (v := .pointer (some ⟨g126, q * 4, none⟩)) (w' := w216) (by rfl) (by exact ev_index (k := q) (by rfl) Tryz.underlying41 (by kernel_rfl) (by rfl) (by rfl) (by omega) (show q < m + 1 by omega) (Nat.zero_add _).symm) ?_
         try simp only [Act.put, zA, zB, zC]
         refine mv_ld (by rfl) _ _ (by rfl) g126 (q * 4) [.bool ex.a.n, .slice ex.a.p ex.a.l ex.a.c, .bool ex.a.m, .slice ex.a.p2 ex.a.l2 ex.a.c2] (by rfl) (show World.rangeAt w216 g126 (q * 4) [.bool ex.a.n, .slice ex.a.p ex.a.l ex.a.c, .bool ex.a.m, .slice ex.a.p2 ex.a.l2 ex.a.c2] from (H217.out.elem (f := MkE.cx) (i := 1) (by rfl) MkE.cx_len GX.out)) Tryz.underlying27 (by rfl) (by kernel_rfl) ?_
         try simp only [Act.put, zA, zB, zC]
         refine mv_val (v := .pointer (some ⟨g126, (q + 1) * 4, none⟩)) (w' := w216) (by rfl) (by exact ev_index (k := q + 1) (by rfl) Tryz.underlying41 (by kernel_rfl) (by rfl) (by rfl) (by omega) (show q + 1 < m + 1 by omega) (Nat.zero_add _).symm) ?_
         try simp only [Act.put, zA, zB, zC]
         refine mv_stElem (f := MkE.cx) (by rfl) _ _ _ (by rfl) H217.out (ix := 1) (by rfl) MkE.cx_len (q + 1) ex HLY.out [.bool ex.a.n, .slice ex.a.p ex.a.l ex.a.c, .bool ex.a.m, .slice ex.a.p2 ex.a.l2 ex.a.c2] (by rfl) ((q + 1) * 4) (by rfl) (by rfl) (by rfl) (by kernel_rfl) (by simp [Value.oneCell']) (by simp [NoUL]) ?_
         intro w229 hh hd ho
         have H230 := zH (show Hp w w229 [.blk X1 27 [.bool ry.n, .slice ry.p ry.l ry.c, .bool ry.m, .slice ry.p2 ry.l2 ry.c2], .row 27 4 (.slice (some ⟨g126, 0, none⟩) (m + 1) cp127) (m + 1) (List.flatMap MkE.cx ((es.take (q + 1) ++ ey :: es.drop (q + 1)).set (q + 1) ex)), .row 3 1 (.slice (some ⟨g134, 0, none⟩) (m + 1) cp135) (m + 1) (List.flatMap MkE.cu (es.take (q + 1) ++ ey :: es.drop (q + 1))), .row 71 4 (.slice (some ⟨ge, 0, none⟩) ((edgesOf rs).length) ce) ((edgesOf rs).length) (List.flatMap edC (edgesOf rs)), .blk X47 53 [.int .i64 ax, .int .i64 ay], .blk Y48 53 [.int .i64 bx, .int .i64 bY], .blk X70 27 [.bool r68.n, .slice r68.p r68.l r68.c, .bool r68.m, .slice r68.p2 r68.l2 r68.c2], .blk Y71 27 [.bool r69.n, .slice r69.p r69.l r69.c, .bool r69.m, .slice r69.p2 r69.l2 r69.c2], .blk X115 27 [.bool r109.n, .slice r109.p r109.l r109.c, .bool r109.m, .slice r109.p2 r109.l2 r109.c2], .blk X210 27 [.bool ey.a.n, .slice ey.a.p ey.a.l ey.a.c, .bool ey.a.m, .slice ey.a.p2 ey.a.l2 ey.a.c2]] from hh)
         have D230 := zH (show Dig w216 w229 from hd)
         clear hh hd ho
         (try simp only [Act.put])
         go_upto_region 25 with fail
         refine wp_region_lit ?_
         refine qV (.slice (some ⟨g126, 0, none⟩) (m + 1) cp127) ?_
         refine qV (.int .i64 ((q + 1 : Nat) : Int)) ?_
         try simp only [Act.put, zA, zB, zC]
         refine mv_val (v := .int .i64 (q : Int)) (w' := w229) (by rfl) (by exact ev_sub (by rfl) (by rfl) (by rfl) (by first | rfl | omega) (by have ob0 := HEL.out; have ob1 := HM.out.2; have ob4 := HXS.out; have ob5 := HYS.out; omega) (by have ob0 := HEL.out; have ob1 := HM.out.2; have ob4 := HXS.out; have ob5 := HYS.out; omega)) ?_
         try simp only [Act.put, zA, zB, zC]
         refine mv_ld (by rfl) _ _ (by rfl) X210 (0) [.bool ey.a.n, .slice ey.a.p ey.a.l ey.a.c, .bool ey.a.m, .slice ey.a.p2 ey.a.l2 ey.a.c2] (by rfl) (show World.rangeAt w229 X210 (0) [.bool ey.a.n, .slice ey.a.p ey.a.l ey.a.c, .bool ey.a.m, .slice ey.a.p2 ey.a.l2 ey.a.c2] from (H230.out.range (i := 9) (by rfl) 0 4)) Tryz.underlying27 (by rfl) (by kernel_rfl) ?_
         try simp only [Act.put, zA, zB, zC]
         refine mv_val (v := .pointer (some ⟨g126, q * 4, none⟩)) (w' := w229) (by rfl) (by exact ev_index (k := q) (by rfl) Tryz.underlying41 (by kernel_rfl) (by rfl) (by rfl) (by omega) (show q < m + 1 by omega) (Nat.zero_add _).symm) ?_
         try simp only [Act.put, zA, zB, zC]
         refine mv_stElem (f := MkE.cx) (by rfl) _ _ _ (by rfl) H230.out (ix := 1) (by rfl) MkE.cx_len q ey (by rw [List.length_set]; exact HLX.out) [.bool ey.a.n, .slice ey.a.p ey.a.l ey.a.c, .bool ey.a.m, .slice ey.a.p2 ey.a.l2 ey.a.c2] (by rfl) (q * 4) (by rfl) (by rfl) (by rfl) (by kernel_rfl) (by simp [Value.oneCell']) (by simp [NoUL]) ?_
         intro w237 hh hd ho
         have H238 := zH (show Hp w w237 [.blk X1 27 [.bool ry.n, .slice ry.p ry.l ry.c, .bool ry.m, .slice ry.p2 ry.l2 ry.c2], .row 27 4 (.slice (some ⟨g126, 0, none⟩) (m + 1) cp127) (m + 1) (List.flatMap MkE.cx (((es.take (q + 1) ++ ey :: es.drop (q + 1)).set (q + 1) ex).set q ey)), .row 3 1 (.slice (some ⟨g134, 0, none⟩) (m + 1) cp135) (m + 1) (List.flatMap MkE.cu (es.take (q + 1) ++ ey :: es.drop (q + 1))), .row 71 4 (.slice (some ⟨ge, 0, none⟩) ((edgesOf rs).length) ce) ((edgesOf rs).length) (List.flatMap edC (edgesOf rs)), .blk X47 53 [.int .i64 ax, .int .i64 ay], .blk Y48 53 [.int .i64 bx, .int .i64 bY], .blk X70 27 [.bool r68.n, .slice r68.p r68.l r68.c, .bool r68.m, .slice r68.p2 r68.l2 r68.c2], .blk Y71 27 [.bool r69.n, .slice r69.p r69.l r69.c, .bool r69.m, .slice r69.p2 r69.l2 r69.c2], .blk X115 27 [.bool r109.n, .slice r109.p r109.l r109.c, .bool r109.m, .slice r109.p2 r109.l2 r109.c2], .blk X210 27 [.bool ey.a.n, .slice ey.a.p ey.a.l ey.a.c, .bool ey.a.m, .slice ey.a.p2 ey.a.l2 ey.a.c2]] from hh)
         have D238 := zH (show Dig w229 w237 from hd)
         clear hh hd ho
         (try simp only [Act.put])
         go_upto_region 26 with fail
         refine wp_region_lit ?_
         refine qV (.slice (some ⟨g134, 0, none⟩) (m + 1) cp135) ?_
         refine qV (.int .i64 ((q + 1 : Nat) : Int)) ?_
         try simp only [Act.put, zA, zB, zC]
         refine qV (.slice (some ⟨g134, 0, none⟩) (m + 1) cp135) ?_
         refine qV (.int .i64 ((q + 1 : Nat) : Int)) ?_
         try simp only [Act.put, zA, zB, zC]
         refine mv_val (v := .int .i64 (q : Int)) (w' := w237) (by rfl) (by exact ev_sub (by rfl) (by rfl) (by rfl) (by first | rfl | omega) (by have ob0 := HEL.out; have ob1 := HM.out.2; have ob4 := HXS.out; have ob5 := HYS.out; omega) (by have ob0 := HEL.out; have ob1 := HM.out.2; have ob4 := HXS.out; have ob5 := HYS.out; omega)) ?_
         try simp only [Act.put, zA, zB, zC]
         refine mv_val (v := .pointer (some ⟨g134, q * 1, none⟩)) (w' := w237) (by rfl) (by exact ev_index (k := q) (by rfl) Tryz.underlying42 (by kernel_rfl) (by rfl) (by rfl) (by omega) (show q < m + 1 by omega) (Nat.zero_add _).symm) ?_
         try simp only [Act.put, zA, zB, zC]
         refine mv_ld1 (g := g134) (o := q * 1) (v := .int .i64 ex.up) (by rfl) (show World.cell? w237 ⟨g134, q * 1, none⟩ = some (.int .i64 ex.up) from cell_of_range (H238.out.elem (f := MkE.cu) (i := 2) (by rfl) MkE.cu_len GX.out)) (by intro x hq; (try simp only [Nat.mul_one] at hq); go_simp <;> with_reducible rfl) ?_
         try simp only [Act.put, zA, zB, zC]
         refine mv_val (v := .pointer (some ⟨g134, (q + 1) * 1, none⟩)) (w' := w237) (by rfl) (by exact ev_index (k := q + 1) (by rfl) Tryz.underlying42 (by kernel_rfl) (by rfl) (by rfl) (by omega) (show q + 1 < m + 1 by omega) (Nat.zero_add _).symm) ?_
         try simp only [Act.put, zA, zB, zC]
         refine mv_stElem1 (f := MkE.cu) (by rfl) _ _ _ (by rfl) H238.out (ix := 2) (by rfl) MkE.cu_len (q + 1) ex HLY.out (.int .i64 ex.up) (by rfl) ((q + 1) * 1) (by rfl) (by rfl) (by rfl) (by kernel_rfl) (by simp [Value.cells]) (by simp [Value.oneCell']) (by simp [NoUL]) ?_
         intro w248 hh hd ho
         have H249 := zH (show Hp w w248 [.blk X1 27 [.bool ry.n, .slice ry.p ry.l ry.c, .bool ry.m, .slice ry.p2 ry.l2 ry.c2], .row 27 4 (.slice (some ⟨g126, 0, none⟩) (m + 1) cp127) (m + 1) (List.flatMap MkE.cx (((es.take (q + 1) ++ ey :: es.drop (q + 1)).set (q + 1) ex).set q ey)), .row 3 1 (.slice (some ⟨g134, 0, none⟩) (m + 1) cp135) (m + 1) (List.flatMap MkE.cu ((es.take (q + 1) ++ ey :: es.drop (q + 1)).set (q + 1) ex)), .row 71 4 (.slice (some ⟨ge, 0, none⟩) ((edgesOf rs).length) ce) ((edgesOf rs).length) (List.flatMap edC (edgesOf rs)), .blk X47 53 [.int .i64 ax, .int .i64 ay], .blk Y48 53 [.int .i64 bx, .int .i64 bY], .blk X70 27 [.bool r68.n, .slice r68.p r68.l r68.c, .bool r68.m, .slice r68.p2 r68.l2 r68.c2], .blk Y71 27 [.bool r69.n, .slice r69.p r69.l r69.c, .bool r69.m, .slice r69.p2 r69.l2 r69.c2], .blk X115 27 [.bool r109.n, .slice r109.p r109.l r109.c, .bool r109.m, .slice r109.p2 r109.l2 r109.c2], .blk X210 27 [.bool ey.a.n, .slice ey.a.p ey.a.l ey.a.c, .bool ey.a.m, .slice ey.a.p2 ey.a.l2 ey.a.c2]] from hh)
         have D249 := zH (show Dig w237 w248 from hd)
         clear hh hd ho
         (try simp only [Act.put])
         go_upto_region 27 with fail
         refine wp_region_lit ?_
         refine qV (.slice (some ⟨g134, 0, none⟩) (m + 1) cp135) ?_
         refine qV (.int .i64 ((q + 1 : Nat) : Int)) ?_
         try simp only [Act.put, zA, zB, zC]
         refine mv_val (v := .int .i64 (q : Int)) (w' := w248) (by rfl) (by exact ev_sub (by rfl) (by rfl) (by rfl) (by first | rfl | omega) (by have ob0 := HEL.out; have ob1 := HM.out.2; have ob4 := HXS.out; have ob5 := HYS.out; omega) (by have ob0 := HEL.out; have ob1 := HM.out.2; have ob4 := HXS.out; have ob5 := HYS.out; omega)) ?_
         try simp only [Act.put, zA, zB, zC]
         refine qV (.int .i64 ey.up) ?_
         try simp only [Act.put, zA, zB, zC]
         refine mv_val (v := .pointer (some ⟨g134, q * 1, none⟩)) (w' := w248) (by rfl) (by exact ev_index (k := q) (by rfl) Tryz.underlying42 (by kernel_rfl) (by rfl) (by rfl) (by omega) (show q < m + 1 by omega) (Nat.zero_add _).symm) ?_
         try simp only [Act.put, zA, zB, zC]
         refine mv_stElem1 (f := MkE.cu) (by rfl) _ _ _ (by rfl) H249.out (ix := 2) (by rfl) MkE.cu_len q ey (by rw [List.length_set]; exact HLX.out) (.int .i64 ey.up) (by rfl) (q * 1) (by rfl) (by rfl) (by rfl) (by kernel_rfl) (by simp [Value.cells]) (by simp [Value.oneCell']) (by simp [NoUL]) ?_
         intro w257 hh hd ho
         have H258 := zH (show Hp w w257 [.blk X1 27 [.bool ry.n, .slice ry.p ry.l ry.c, .bool ry.m, .slice ry.p2 ry.l2 ry.c2], .row 27 4 (.slice (some ⟨g126, 0, none⟩) (m + 1) cp127) (m + 1) (List.flatMap MkE.cx (((es.take (q + 1) ++ ey :: es.drop (q + 1)).set (q + 1) ex).set q ey)), .row 3 1 (.slice (some ⟨g134, 0, none⟩) (m + 1) cp135) (m + 1) (List.flatMap MkE.cu (((es.take (q + 1) ++ ey :: es.drop (q + 1)).set (q + 1) ex).set q ey)), .row 71 4 (.slice (some ⟨ge, 0, none⟩) ((edgesOf rs).length) ce) ((edgesOf rs).length) (List.flatMap edC (edgesOf rs)), .blk X47 53 [.int .i64 ax, .int .i64 ay], .blk Y48 53 [.int .i64 bx, .int .i64 bY], .blk X70 27 [.bool r68.n, .slice r68.p r68.l r68.c, .bool r68.m, .slice r68.p2 r68.l2 r68.c2], .blk Y71 27 [.bool r69.n, .slice r69.p r69.l r69.c, .bool r69.m, .slice r69.p2 r69.l2 r69.c2], .blk X115 27 [.bool r109.n, .slice r109.p r109.l r109.c, .bool r109.m, .slice r109.p2 r109.l2 r109.c2], .blk X210 27 [.bool ey.a.n, .slice ey.a.p ey.a.l ey.a.c, .bool ey.a.m, .slice ey.a.p2 ey.a.l2 ey.a.c2]] from hh)
         have D258 := zH (show Dig w248 w257 from hd)
         clear hh hd ho
         (try simp only [Act.put])
         go_upto_region 22 with fail
         refine wp_region_lit ?_
         refine qV (.int .i64 ((q + 1 : Nat) : Int)) ?_
         try simp only [Act.put, zA, zB, zC]
         refine mv_val (v := .int .i64 (q : Int)) (w' := w257) (by rfl) (by exact ev_sub (by rfl) (by rfl) (by rfl) (by first | rfl | omega) (by have ob0 := HEL.out; have ob1 := HM.out.2; have ob4 := HXS.out; have ob5 := HYS.out; omega) (by have ob0 := HEL.out; have ob1 := HM.out.2; have ob4 := HXS.out; have ob5 := HYS.out; omega)) ?_
         try simp only [Act.put, zA, zB, zC]
         refine qV (.int .i64 (q : Int)) ?_
         try simp only [Act.put, zA, zB, zC]
         have H263 := zH (show Hp w w257 [.blk X1 27 [.bool ry.n, .slice ry.p ry.l ry.c, .bool ry.m, .slice ry.p2 ry.l2 ry.c2], .row 27 4 (.slice (some ⟨g126, 0, none⟩) (m + 1) cp127) (m + 1) (List.flatMap MkE.cx (es.take q ++ ey :: es.drop q)), .row 3 1 (.slice (some ⟨g134, 0, none⟩) (m + 1) cp135) (m + 1) (List.flatMap MkE.cu (es.take q ++ ey :: es.drop q)), .row 71 4 (.slice (some ⟨ge, 0, none⟩) ((edgesOf rs).length) ce) ((edgesOf rs).length) (List.flatMap edC (edgesOf rs)), .blk X47 53 [.int .i64 ax, .int .i64 ay], .blk Y48 53 [.int .i64 bx, .int .i64 bY], .blk X70 27 [.bool r68.n, .slice r68.p r68.l r68.c, .bool r68.m, .slice r68.p2 r68.l2 r68.c2], .blk Y71 27 [.bool r69.n, .slice r69.p r69.l r69.c, .bool r69.m, .slice r69.p2 r69.l2 r69.c2], .blk X115 27 [.bool r109.n, .slice r109.p r109.l r109.c, .bool r109.m, .slice r109.p2 r109.l2 r109.c2], .blk X210 27 [.bool ey.a.n, .slice ey.a.p ey.a.l ey.a.c, .bool ey.a.m, .slice ey.a.p2 ey.a.l2 ey.a.c2]] from by rw [← GS.out]; exact H258.out)
         have DD264 := zH (((((((((D178.out.trans D198.out).trans D202.out).trans D212.out).trans D217.out).trans D230.out).trans D238.out).trans D249.out).trans D258.out))
         have DD265 := zH ((((((((((D149.out.trans D178.out).trans D198.out).trans D202.out).trans D212.out).trans D217.out).trans D230.out).trans D238.out).trans D249.out).trans D258.out))
         go_wp2_with fail
         go_roundg (m + 1 - (t + 1))
         case measure => exact (by have ob0 := HEL.out; have ob1 := HM.out.2; have ob4 := HXS.out; have ob5 := HYS.out; have ob6 := (show t < m + 1 by have h1 := HTU.out; omega); omega)
         case rel => exact ⟨t + 1, q, rfl, (by go_num), (by have h1 := HTU.out; omega), (fun z_ hz_ => (GZ.out z_ hz_).elim (fun h_ => by rw [h_]; exact CB.out) (HALL.out z_)), (fun g_ hg_ => by rw [← GS.out] at hg_; exact (List.mem_or_eq_of_mem_set hg_).elim (fun h_ => (List.mem_or_eq_of_mem_set h_).elim (fun h_ => (HOK2.out g_ h_).dig DD264.out) (fun h_ => by rw [h_]; exact OX.out.dig DD264.out)) (fun h_ => by rw [h_]; exact OY.out.dig DD264.out)), H263.out.take 9, DD265.out⟩
       ·have HU0 := zH c150
        clear c150
        obtain rfl : u = 0 := by have h := HU0.out; omega
        go_upto_region 21 with fail
        refine wp_region_held_drew (S := fun x => Ext w147 x) (by kernel_rfl) (Ext.refl _).drew (fun _ => ?_)
        have H266 := zH (H149.out.step (Ext.refl w147).drew)
        have D266 := zH (show Dig w147 w147.drew from Dig.of_ext (Ext.refl w147).drew)
        refine mW 0 (bs 23 1) (v := .int .i64 0) (Ext.refl _).drew ?hv268 ?rv268
        case hv268 => (intro w hSw; go_simp <;> with_reducible rfl)
        try simp only [Act.put, zA, zB, zC]
        refine mW 1 (bs 23 3) (v := .bool false) (Ext.refl _).drew ?hv269 ?rv269
        case hv269 => (intro w hSw; exact ev_gtr (by rfl) (by rfl) (by rfl) (dec_f (by have ob0 := HPT.out; have ob1 := HEL.out; have ob3 := HM.out.2; omega)))
        try simp only [Act.put, zA, zB, zC]
        refine mW 2 (bs 23 7) (v := .bool false) (Ext.refl _).drew ?hv270 ?rv270
        case hv270 => (intro w hSw; go_simp <;> with_reducible rfl)
        try simp only [Act.put, zA, zB, zC]
        refine mS 3 (bs 23 15) (Ext.refl _).drew ?_
        try simp only [Act.put, zA, zB, zC]
        refine mS 4 (bs 23 31) (Ext.refl _).drew ?_
        try simp only [Act.put, zA, zB, zC]
        refine mS 5 (bs 23 63) (Ext.refl _).drew ?_
        try simp only [Act.put, zA, zB, zC]
        refine mS 6 (bs 23 127) (Ext.refl _).drew ?_
        try simp only [Act.put, zA, zB, zC]
        refine mS 7 (bs 23 255) (Ext.refl _).drew ?_
        try simp only [Act.put, zA, zB, zC]
        refine mS 8 (bs 23 511) (Ext.refl _).drew ?_
        try simp only [Act.put, zA, zB, zC]
        refine mS 9 (bs 23 1023) (Ext.refl _).drew ?_
        try simp only [Act.put, zA, zB, zC]
        refine mS 10 (bs 23 2047) (Ext.refl _).drew ?_
        try simp only [Act.put, zA, zB, zC]
        refine mS 11 (bs 23 4095) (Ext.refl _).drew ?_
        try simp only [Act.put, zA, zB, zC]
        refine mS 12 (bs 23 8191) (Ext.refl _).drew ?_
        try simp only [Act.put, zA, zB, zC]
        refine mS 13 (bs 23 16383) (Ext.refl _).drew ?_
        try simp only [Act.put, zA, zB, zC]
        refine mS 14 (bs 23 32767) (Ext.refl _).drew ?_
        try simp only [Act.put, zA, zB, zC]
        refine mS 15 (bs 23 65535) (Ext.refl _).drew ?_
        try simp only [Act.put, zA, zB, zC]
        refine mS 16 (bs 23 131071) (Ext.refl _).drew ?_
        try simp only [Act.put, zA, zB, zC]
        refine mS 17 (bs 23 262143) (Ext.refl _).drew ?_
        try simp only [Act.put, zA, zB, zC]
        refine mS 18 (bs 23 524287) (Ext.refl _).drew ?_
        try simp only [Act.put, zA, zB, zC]
        refine mS 19 (bs 23 1048575) (Ext.refl _).drew ?_
        try simp only [Act.put, zA, zB, zC]
        refine mS 20 (bs 23 2097151) (Ext.refl _).drew ?_
        try simp only [Act.put, zA, zB, zC]
        refine mS 21 (bs 23 4194303) (Ext.refl _).drew ?_
        try simp only [Act.put, zA, zB, zC]
        refine mW 22 (bs 23 8388607) (v := .bool false) (Ext.refl _).drew ?hv271 ?rv271
        case hv271 => (intro w hSw; go_simp <;> with_reducible rfl)
        try simp only [Act.put, zA, zB, zC]
        refine wpAnyH_done (by kernel_rfl) ?_ _
        have H272 := zH (show Hp w w147.drew [.blk X1 27 [.bool ry.n, .slice ry.p ry.l ry.c, .bool ry.m, .slice ry.p2 ry.l2 ry.c2], .row 27 4 (.slice (some ⟨g126, 0, none⟩) (m + 1) cp127) (m + 1) (List.flatMap MkE.cx (Stb.ins ltK es ey)), .row 3 1 (.slice (some ⟨g134, 0, none⟩) (m + 1) cp135) (m + 1) (List.flatMap MkE.cu (Stb.ins ltK es ey)), .row 71 4 (.slice (some ⟨ge, 0, none⟩) ((edgesOf rs).length) ce) ((edgesOf rs).length) (List.flatMap edC (edgesOf rs)), .blk X47 53 [.int .i64 ax, .int .i64 ay], .blk Y48 53 [.int .i64 bx, .int .i64 bY], .blk X70 27 [.bool r68.n, .slice r68.p r68.l r68.c, .bool r68.m, .slice r68.p2 r68.l2 r68.c2], .blk Y71 27 [.bool r69.n, .slice r69.p r69.l r69.c, .bool r69.m, .slice r69.p2 r69.l2 r69.c2], .blk X115 27 [.bool r109.n, .slice r109.p r109.l r109.c, .bool r109.m, .slice r109.p2 r109.l2 r109.c2]] from by rw [Stb.ins_stop wkK HSRT.out HALL.out (Nat.zero_le _) (Or.inl rfl)]; exact H266.out)
        have DD273 := zH (((((((((((((((((((D35.out.trans D37.out).trans D50.out).trans D56.out).trans D60.out).trans D63.out).trans D73.out).trans D79.out).trans D83.out).trans D91.out).trans D96.out).trans D102.out).trans D110.out).trans D117.out).trans D121.out).trans D128.out).trans D136.out).trans D149.out).trans D266.out))
        go_wp2_with fail
        go_roundg ((edgesOf rs).length - (i + 1))
        case measure => exact (by have ob0 := HPT.out; have ob1 := HEL.out; have ob3 := HM.out.2; omega)
        case rel => exact ⟨i + 1, m + 1, Stb.ins ltK es ey, some ⟨g126, 0, none⟩, cp127, some ⟨g134, 0, none⟩, cp135, rfl, rfl, rfl, (by go_num), hlt, ⟨by rw [Stb.ins_len, HM.out.1], by have := HM.out.2; omega⟩, HINS.out, (fun g_ hg_ => by rw [Stb.ins_stop wkK HSRT.out HALL.out (Nat.zero_le _) (Or.inl rfl)] at hg_; exact ((HOK2.out g_ hg_).dig D266.out)), H272.out.take 4, DD273.out⟩
     ·have C2 := zH c88
      clear c88
      go_upto_region 12 with fail
      refine wp_region_lit ?_
      refine mv_ld (by rfl) _ _ (by rfl) X70 (0) [.bool r68.n, .slice r68.p r68.l r68.c, .bool r68.m, .slice r68.p2 r68.l2 r68.c2] (by rfl) (show World.rangeAt w82 X70 (0) [.bool r68.n, .slice r68.p r68.l r68.c, .bool r68.m, .slice r68.p2 r68.l2 r68.c2] from (H83.out.range (i := 6) (by rfl) 0 4)) Tryz.underlying27 (by rfl) (by kernel_rfl) ?_
      try simp only [Act.put, zA, zB, zC]
      refine mv_ld (by rfl) _ _ (by rfl) X1 (0) [.bool ry.n, .slice ry.p ry.l ry.c, .bool ry.m, .slice ry.p2 ry.l2 ry.c2] (by rfl) (show World.rangeAt w82 X1 (0) [.bool ry.n, .slice ry.p ry.l ry.c, .bool ry.m, .slice ry.p2 ry.l2 ry.c2] from (H83.out.range (i := 0) (by rfl) 0 4)) Tryz.underlying27 (by rfl) (by kernel_rfl) ?_
      try simp only [Act.put, zA, zB, zC]
      have DD275 := zH ((D79.out.trans D83.out))
      refine mv_call (by rfl) (by go_simp) (less_any 60000 _ _ (((ay) : Int) : Rat) y _ (RV.Is.nin (R68.out.dig DD275.out) (Nat.le_trans B68.out (by omega))) (RV.In.nin (RV.In.mono (RY.out.dig H83.out.dig0) (by omega))) (by omega)) ?_
      rintro e w274 ⟨rfl, hx⟩
      have H276 := zH (H83.out.step hx)
      have D276 := zH (show Dig w82 w274 from Dig.of_ext hx)
      clear hx
      refine ⟨.bool true, by rw [dec_t C1.out], ?_⟩
      try simp only [Act.put, zA, zB, zC]
      refine qV (.bool true) ?_
      refine mv_ld (by rfl) _ _ (by rfl) X1 (0) [.bool ry.n, .slice ry.p ry.l ry.c, .bool ry.m, .slice ry.p2 ry.l2 ry.c2] (by rfl) (show World.rangeAt w274 X1 (0) [.bool ry.n, .slice ry.p ry.l ry.c, .bool ry.m, .slice ry.p2 ry.l2 ry.c2] from (H276.out.range (i := 0) (by rfl) 0 4)) Tryz.underlying27 (by rfl) (by kernel_rfl) ?_
      try simp only [Act.put, zA, zB, zC]
      refine mv_ld (by rfl) _ _ (by rfl) Y71 (0) [.bool r69.n, .slice r69.p r69.l r69.c, .bool r69.m, .slice r69.p2 r69.l2 r69.c2] (by rfl) (show World.rangeAt w274 Y71 (0) [.bool r69.n, .slice r69.p r69.l r69.c, .bool r69.m, .slice r69.p2 r69.l2 r69.c2] from (H276.out.range (i := 7) (by rfl) 0 4)) Tryz.underlying27 (by rfl) (by kernel_rfl) ?_
      try simp only [Act.put, zA, zB, zC]
      have DD280 := zH (((D79.out.trans D83.out).trans D276.out))
      refine mv_call (by rfl) (by go_simp) (less_any 60000 _ _ y (((bY) : Int) : Rat) _ (RV.In.nin (RV.In.mono (RY.out.dig H276.out.dig0) (by omega))) (RV.Is.nin (R69.out.dig DD280.out) (Nat.le_trans B69.out (by omega))) (by omega)) ?_
      rintro e w279 ⟨rfl, hx⟩
      have H281 := zH (H276.out.step hx)
      have D281 := zH (show Dig w274 w279 from Dig.of_ext hx)
      clear hx
      refine ⟨.bool false, by rw [dec_f C2.out], ?_⟩
      try simp only [Act.put, zA, zB, zC]
      refine qV (.bool false) ?_
      try simp only [Act.put, zA, zB, zC]
      by_cases c284 : ((bY : Int) : Rat) < y
      ·have C3 := zH c284
       clear c284
       go_upto_region 14 with fail
       refine wp_region_lit ?_
       refine mv_ld (by rfl) _ _ (by rfl) Y71 (0) [.bool r69.n, .slice r69.p r69.l r69.c, .bool r69.m, .slice r69.p2 r69.l2 r69.c2] (by rfl) (show World.rangeAt w279 Y71 (0) [.bool r69.n, .slice r69.p r69.l r69.c, .bool r69.m, .slice r69.p2 r69.l2 r69.c2] from (H281.out.range (i := 7) (by rfl) 0 4)) Tryz.underlying27 (by rfl) (by kernel_rfl) ?_
       try simp only [Act.put, zA, zB, zC]
       refine mv_ld (by rfl) _ _ (by rfl) X1 (0) [.bool ry.n, .slice ry.p ry.l ry.c, .bool ry.m, .slice ry.p2 ry.l2 ry.c2] (by rfl) (show World.rangeAt w279 X1 (0) [.bool ry.n, .slice ry.p ry.l ry.c, .bool ry.m, .slice ry.p2 ry.l2 ry.c2] from (H281.out.range (i := 0) (by rfl) 0 4)) Tryz.underlying27 (by rfl) (by kernel_rfl) ?_
       try simp only [Act.put, zA, zB, zC]
       have DD286 := zH ((((D79.out.trans D83.out).trans D276.out).trans D281.out))
       refine mv_call (by rfl) (by go_simp) (less_any 60000 _ _ (((bY) : Int) : Rat) y _ (RV.Is.nin (R69.out.dig DD286.out) (Nat.le_trans B69.out (by omega))) (RV.In.nin (RV.In.mono (RY.out.dig H281.out.dig0) (by omega))) (by omega)) ?_
       rintro e w285 ⟨rfl, hx⟩
       have H287 := zH (H281.out.step hx)
       have D287 := zH (show Dig w279 w285 from Dig.of_ext hx)
       clear hx
       refine ⟨.bool true, by rw [dec_t C3.out], ?_⟩
       try simp only [Act.put, zA, zB, zC]
       refine qV (.bool true) ?_
       refine mv_ld (by rfl) _ _ (by rfl) X1 (0) [.bool ry.n, .slice ry.p ry.l ry.c, .bool ry.m, .slice ry.p2 ry.l2 ry.c2] (by rfl) (show World.rangeAt w285 X1 (0) [.bool ry.n, .slice ry.p ry.l ry.c, .bool ry.m, .slice ry.p2 ry.l2 ry.c2] from (H287.out.range (i := 0) (by rfl) 0 4)) Tryz.underlying27 (by rfl) (by kernel_rfl) ?_
       try simp only [Act.put, zA, zB, zC]
       refine mv_ld (by rfl) _ _ (by rfl) X70 (0) [.bool r68.n, .slice r68.p r68.l r68.c, .bool r68.m, .slice r68.p2 r68.l2 r68.c2] (by rfl) (show World.rangeAt w285 X70 (0) [.bool r68.n, .slice r68.p r68.l r68.c, .bool r68.m, .slice r68.p2 r68.l2 r68.c2] from (H287.out.range (i := 6) (by rfl) 0 4)) Tryz.underlying27 (by rfl) (by kernel_rfl) ?_
       try simp only [Act.put, zA, zB, zC]
       have DD291 := zH (((((D79.out.trans D83.out).trans D276.out).trans D281.out).trans D287.out))
       refine mv_call (by rfl) (by go_simp) (less_any 60000 _ _ y (((ay) : Int) : Rat) _ (RV.In.nin (RV.In.mono (RY.out.dig H287.out.dig0) (by omega))) (RV.Is.nin (R68.out.dig DD291.out) (Nat.le_trans B68.out (by omega))) (by omega)) ?_
       rintro e w290 ⟨rfl, hx⟩
       have H292 := zH (H287.out.step hx)
       have D292 := zH (show Dig w285 w290 from Dig.of_ext hx)
       clear hx
       refine ⟨.bool false, by rw [dec_f (fun h_ => absurd h_ (Rat.not_lt.2 (Rat.le_of_lt C1.out)))], ?_⟩
       try simp only [Act.put, zA, zB, zC]
       refine qV (.bool false) ?_
       try simp only [Act.put, zA, zB, zC]
       go_upto_region 16 with fail
       refine wp_region_lit ?_
       refine qV (.int .i64 0) ?_
       try simp only [Act.put, zA, zB, zC]
       refine mv_val (v := .bool true) (w' := w290) (by rfl) (by exact ev_eql (by rfl) (by rfl) (by rfl) (dec_t (by have ob0 := HPT.out; have ob1 := HEL.out; have ob3 := HM.out.2; omega))) ?_
       try simp only [Act.put, zA, zB, zC]
       have DD297 := zH ((((((((((((D37.out.trans D50.out).trans D56.out).trans D60.out).trans D63.out).trans D73.out).trans D79.out).trans D83.out).trans D276.out).trans D281.out).trans D287.out).trans D292.out))
       have DD298 := zH (((((((((((((D35.out.trans D37.out).trans D50.out).trans D56.out).trans D60.out).trans D63.out).trans D73.out).trans D79.out).trans D83.out).trans D276.out).trans D281.out).trans D287.out).trans D292.out))
       go_wp2_with fail
       go_roundg ((edgesOf rs).length - (i + 1))
       case measure => exact (by have ob0 := HPT.out; have ob1 := HEL.out; have ob3 := HM.out.2; omega)
       case rel => exact ⟨i + 1, m, es, A1, c1, A2, c2, rfl, rfl, rfl, (by go_num), hlt, ⟨HM.out.1, by have := HM.out.2; omega⟩, (by rw [HVL.out, crs_none HE.out (cross_no (a := (ax, ay)) (b := (bx, bY)) (fun h_ => C2.out h_.2) (fun h_ => absurd h_.2 (Rat.not_lt.2 (Rat.le_of_lt C1.out))))]), (fun g_ hg_ => (HOE.out g_ hg_).dig DD297.out), H292.out.take 4, DD298.out⟩
      ·have C3 := zH c284
       clear c284
       go_upto_region 14 with fail
       refine wp_region_lit ?_
       refine mv_ld (by rfl) _ _ (by rfl) Y71 (0) [.bool r69.n, .slice r69.p r69.l r69.c, .bool r69.m, .slice r69.p2 r69.l2 r69.c2] (by rfl) (show World.rangeAt w279 Y71 (0) [.bool r69.n, .slice r69.p r69.l r69.c, .bool r69.m, .slice r69.p2 r69.l2 r69.c2] from (H281.out.range (i := 7) (by rfl) 0 4)) Tryz.underlying27 (by rfl) (by kernel_rfl) ?_
       try simp only [Act.put, zA, zB, zC]
       refine mv_ld (by rfl) _ _ (by rfl) X1 (0) [.bool ry.n, .slice ry.p ry.l ry.c, .bool ry.m, .slice ry.p2 ry.l2 ry.c2] (by rfl) (show World.rangeAt w279 X1 (0) [.bool ry.n, .slice ry.p ry.l ry.c, .bool ry.m, .slice ry.p2 ry.l2 ry.c2] from (H281.out.range (i := 0) (by rfl) 0 4)) Tryz.underlying27 (by rfl) (by kernel_rfl) ?_
       try simp only [Act.put, zA, zB, zC]
       have DD300 := zH ((((D79.out.trans D83.out).trans D276.out).trans D281.out))
       refine mv_call (by rfl) (by go_simp) (less_any 60000 _ _ (((bY) : Int) : Rat) y _ (RV.Is.nin (R69.out.dig DD300.out) (Nat.le_trans B69.out (by omega))) (RV.In.nin (RV.In.mono (RY.out.dig H281.out.dig0) (by omega))) (by omega)) ?_
       rintro e w299 ⟨rfl, hx⟩
       have H301 := zH (H281.out.step hx)
       have D301 := zH (show Dig w279 w299 from Dig.of_ext hx)
       clear hx
       refine ⟨.bool false, by rw [dec_f C3.out], ?_⟩
       try simp only [Act.put, zA, zB, zC]
       refine qV (.bool false) ?_
       try simp only [Act.put, zA, zB, zC]
       refine mv_skip (by rfl) ?_
       try simp only [Act.put, zA, zB, zC]
       refine mv_skip (by rfl) ?_
       try simp only [Act.put, zA, zB, zC]
       refine mv_skip (by rfl) ?_
       try simp only [Act.put, zA, zB, zC]
       refine qV (.bool false) ?_
       try simp only [Act.put, zA, zB, zC]
       go_upto_region 16 with fail
       refine wp_region_lit ?_
       refine qV (.int .i64 0) ?_
       try simp only [Act.put, zA, zB, zC]
       refine mv_val (v := .bool true) (w' := w299) (by rfl) (by exact ev_eql (by rfl) (by rfl) (by rfl) (dec_t (by have ob0 := HPT.out; have ob1 := HEL.out; have ob3 := HM.out.2; omega))) ?_
       try simp only [Act.put, zA, zB, zC]
       have DD307 := zH (((((((((((D37.out.trans D50.out).trans D56.out).trans D60.out).trans D63.out).trans D73.out).trans D79.out).trans D83.out).trans D276.out).trans D281.out).trans D301.out))
       have DD308 := zH ((((((((((((D35.out.trans D37.out).trans D50.out).trans D56.out).trans D60.out).trans D63.out).trans D73.out).trans D79.out).trans D83.out).trans D276.out).trans D281.out).trans D301.out))
       go_wp2_with fail
       go_roundg ((edgesOf rs).length - (i + 1))
       case measure => exact (by have ob0 := HPT.out; have ob1 := HEL.out; have ob3 := HM.out.2; omega)
       case rel => exact ⟨i + 1, m, es, A1, c1, A2, c2, rfl, rfl, rfl, (by go_num), hlt, ⟨HM.out.1, by have := HM.out.2; omega⟩, (by rw [HVL.out, crs_none HE.out (cross_no (a := (ax, ay)) (b := (bx, bY)) (fun h_ => C2.out h_.2) (fun h_ => C3.out h_.1))]), (fun g_ hg_ => (HOE.out g_ hg_).dig DD307.out), H301.out.take 4, DD308.out⟩
    ·have C1 := zH c87
     clear c87
     go_upto_region 12 with fail
     refine wp_region_lit ?_
     refine mv_ld (by rfl) _ _ (by rfl) X70 (0) [.bool r68.n, .slice r68.p r68.l r68.c, .bool r68.m, .slice r68.p2 r68.l2 r68.c2] (by rfl) (show World.rangeAt w82 X70 (0) [.bool r68.n, .slice r68.p r68.l r68.c, .bool r68.m, .slice r68.p2 r68.l2 r68.c2] from (H83.out.range (i := 6) (by rfl) 0 4)) Tryz.underlying27 (by rfl) (by kernel_rfl) ?_
     try simp only [Act.put, zA, zB, zC]
     refine mv_ld (by rfl) _ _ (by rfl) X1 (0) [.bool ry.n, .slice ry.p ry.l ry.c, .bool ry.m, .slice ry.p2 ry.l2 ry.c2] (by rfl) (show World.rangeAt w82 X1 (0) [.bool ry.n, .slice ry.p ry.l ry.c, .bool ry.m, .slice ry.p2 ry.l2 ry.c2] from (H83.out.range (i := 0) (by rfl) 0 4)) Tryz.underlying27 (by rfl) (by kernel_rfl) ?_
     try simp only [Act.put, zA, zB, zC]
     have DD310 := zH ((D79.out.trans D83.out))
     refine mv_call (by rfl) (by go_simp) (less_any 60000 _ _ (((ay) : Int) : Rat) y _ (RV.Is.nin (R68.out.dig DD310.out) (Nat.le_trans B68.out (by omega))) (RV.In.nin (RV.In.mono (RY.out.dig H83.out.dig0) (by omega))) (by omega)) ?_
     rintro e w309 ⟨rfl, hx⟩
     have H311 := zH (H83.out.step hx)
     have D311 := zH (show Dig w82 w309 from Dig.of_ext hx)
     clear hx
     refine ⟨.bool false, by rw [dec_f C1.out], ?_⟩
     try simp only [Act.put, zA, zB, zC]
     refine qV (.bool false) ?_
     try simp only [Act.put, zA, zB, zC]
     refine mv_skip (by rfl) ?_
     try simp only [Act.put, zA, zB, zC]
     refine mv_skip (by rfl) ?_
     try simp only [Act.put, zA, zB, zC]
     refine mv_skip (by rfl) ?_
     try simp only [Act.put, zA, zB, zC]
     refine qV (.bool false) ?_
     try simp only [Act.put, zA, zB, zC]
     by_cases c315 : ((bY : Int) : Rat) < y
     ·have C3 := zH c315
      clear c315
      by_cases c316 : y < ((ay : Int) : Rat)
      ·have C4 := zH c316
       clear c316
       go_upto_region 14 with fail
       refine wp_region_lit ?_
       refine mv_ld (by rfl) _ _ (by rfl) Y71 (0) [.bool r69.n, .slice r69.p r69.l r69.c, .bool r69.m, .slice r69.p2 r69.l2 r69.c2] (by rfl) (show World.rangeAt w309 Y71 (0) [.bool r69.n, .slice r69.p r69.l r69.c, .bool r69.m, .slice r69.p2 r69.l2 r69.c2] from (H311.out.range (i := 7) (by rfl) 0 4)) Tryz.underlying27 (by rfl) (by kernel_rfl) ?_
       try simp only [Act.put, zA, zB, zC]
       refine mv_ld (by rfl) _ _ (by rfl) X1 (0) [.bool ry.n, .slice ry.p ry.l ry.c, .bool ry.m, .slice ry.p2 ry.l2 ry.c2] (by rfl) (show World.rangeAt w309 X1 (0) [.bool ry.n, .slice ry.p ry.l ry.c, .bool ry.m, .slice ry.p2 ry.l2 ry.c2] from (H311.out.range (i := 0) (by rfl) 0 4)) Tryz.underlying27 (by rfl) (by kernel_rfl) ?_
       try simp only [Act.put, zA, zB, zC]
       have DD318 := zH (((D79.out.trans D83.out).trans D311.out))
       refine mv_call (by rfl) (by go_simp) (less_any 60000 _ _ (((bY) : Int) : Rat) y _ (RV.Is.nin (R69.out.dig DD318.out) (Nat.le_trans B69.out (by omega))) (RV.In.nin (RV.In.mono (RY.out.dig H311.out.dig0) (by omega))) (by omega)) ?_
       rintro e w317 ⟨rfl, hx⟩
       have H319 := zH (H311.out.step hx)
       have D319 := zH (show Dig w309 w317 from Dig.of_ext hx)
       clear hx
       refine ⟨.bool true, by rw [dec_t C3.out], ?_⟩
       try simp only [Act.put, zA, zB, zC]
       refine qV (.bool true) ?_
       refine mv_ld (by rfl) _ _ (by rfl) X1 (0) [.bool ry.n, .slice ry.p ry.l ry.c, .bool ry.m, .slice ry.p2 ry.l2 ry.c2] (by rfl) (show World.rangeAt w317 X1 (0) [.bool ry.n, .slice ry.p ry.l ry.c, .bool ry.m, .slice ry.p2 ry.l2 ry.c2] from (H319.out.range (i := 0) (by rfl) 0 4)) Tryz.underlying27 (by rfl) (by kernel_rfl) ?_
       try simp only [Act.put, zA, zB, zC]
       refine mv_ld (by rfl) _ _ (by rfl) X70 (0) [.bool r68.n, .slice r68.p r68.l r68.c, .bool r68.m, .slice r68.p2 r68.l2 r68.c2] (by rfl) (show World.rangeAt w317 X70 (0) [.bool r68.n, .slice r68.p r68.l r68.c, .bool r68.m, .slice r68.p2 r68.l2 r68.c2] from (H319.out.range (i := 6) (by rfl) 0 4)) Tryz.underlying27 (by rfl) (by kernel_rfl) ?_
       try simp only [Act.put, zA, zB, zC]
       have DD323 := zH ((((D79.out.trans D83.out).trans D311.out).trans D319.out))
       refine mv_call (by rfl) (by go_simp) (less_any 60000 _ _ y (((ay) : Int) : Rat) _ (RV.In.nin (RV.In.mono (RY.out.dig H319.out.dig0) (by omega))) (RV.Is.nin (R68.out.dig DD323.out) (Nat.le_trans B68.out (by omega))) (by omega)) ?_
       rintro e w322 ⟨rfl, hx⟩
       have H324 := zH (H319.out.step hx)
       have D324 := zH (show Dig w317 w322 from Dig.of_ext hx)
       clear hx
       refine ⟨.bool true, by rw [dec_t C4.out], ?_⟩
       try simp only [Act.put, zA, zB, zC]
       refine qV (.bool true) ?_
       try simp only [Act.put, zA, zB, zC]
       go_upto_region 15 with fail
       refine wp_region_lit ?_
       refine qV (.int .i64 (-1)) ?_
       try simp only [Act.put, zA, zB, zC]
       go_upto_region 16 with fail
       refine wp_region_lit ?_
       refine qV (.int .i64 (-1)) ?_
       try simp only [Act.put, zA, zB, zC]
       refine mv_val (v := .bool false) (w' := w322) (by rfl) (by exact ev_eql (by rfl) (by rfl) (by rfl) (dec_f (by have ob0 := HPT.out; have ob1 := HEL.out; have ob3 := HM.out.2; omega))) ?_
       try simp only [Act.put, zA, zB, zC]
       go_upto_region 17 with fail
       refine wp_region_lit ?_
       refine mv_ld (by rfl) _ _ (by rfl) X47 (0) [.int .i64 ax, .int .i64 ay] (by rfl) (show World.rangeAt w322 X47 (0) [.int .i64 ax, .int .i64 ay] from (H324.out.range (i := 4) (by rfl) 0 2)) Tryz.underlying53 (by rfl) (by kernel_rfl) ?_
       try simp only [Act.put, zA, zB, zC]
       refine mv_ld (by rfl) _ _ (by rfl) Y48 (0) [.int .i64 bx, .int .i64 bY] (by rfl) (show World.rangeAt w322 Y48 (0) [.int .i64 bx, .int .i64 bY] from (H324.out.range (i := 5) (by rfl) 0 2)) Tryz.underlying53 (by rfl) (by kernel_rfl) ?_
       try simp only [Act.put, zA, zB, zC]
       refine mv_ld (by rfl) _ _ (by rfl) X1 (0) [.bool ry.n, .slice ry.p ry.l ry.c, .bool ry.m, .slice ry.p2 ry.l2 ry.c2] (by rfl) (show World.rangeAt w322 X1 (0) [.bool ry.n, .slice ry.p ry.l ry.c, .bool ry.m, .slice ry.p2 ry.l2 ry.c2] from (H324.out.range (i := 0) (by rfl) 0 4)) Tryz.underlying27 (by rfl) (by kernel_rfl) ?_
       try simp only [Act.put, zA, zB, zC]
       refine mv_call (by rfl) (by go_simp) (rxat_any L ax ay bx bY ry y _ (RY.out.dig H324.out.dig0) h1L hL HOA.out HOB.out (xat_pre (.inr ⟨C3.out, C4.out⟩)).1 (xat_pre (.inr ⟨C3.out, C4.out⟩)).2.1 (xat_pre (.inr ⟨C3.out, C4.out⟩)).2.2) ?_
       rintro e w330 ⟨r331, rfl, hr_, hx⟩
       have H332 := zH (H324.out.step hx)
       have D332 := zH (show Dig w322 w330 from Dig.of_ext hx)
       have R331 := zH hr_
       have B331 := zH (rl_xat (ax := ax) (bx := bx) HOA.out HOB.out RY.out.rl)
       clear hr_
       clear hx
       refine ⟨_, rfl, ?_⟩
       try simp only [Act.put, zA, zB, zC]
       refine qV (.tuple #[.agg #[.bool r331.n, .slice r331.p r331.l r331.c, .bool r331.m, .slice r331.p2 r331.l2 r331.c2], .bool true]) ?_
       refine qV (.agg #[.bool r331.n, .slice r331.p r331.l r331.c, .bool r331.m, .slice r331.p2 r331.l2 r331.c2]) ?_
       try simp only [Act.put, zA, zB, zC]
       refine qV (.bool true) ?_
       try simp only [Act.put, zA, zB, zC]
       refine mv_alloc (T := 27) (zs := [.bool false, .slice none 0 0, .bool false, .slice none 0 0]) (by rfl) (by go_simp) H332.out (by simp [NoUL]) ?_
       intro X337 w338 hh hx hge
       have H339 := zH (show Hp w w338 [.blk X1 27 [.bool ry.n, .slice ry.p ry.l ry.c, .bool ry.m, .slice ry.p2 ry.l2 ry.c2], .row 27 4 (.slice A1 m c1) (m) (List.flatMap MkE.cx es), .row 3 1 (.slice A2 m c2) (m) (List.flatMap MkE.cu es), .row 71 4 (.slice (some ⟨ge, 0, none⟩) ((edgesOf rs).length) ce) ((edgesOf rs).length) (List.flatMap edC (edgesOf rs)), .blk X47 53 [.int .i64 ax, .int .i64 ay], .blk Y48 53 [.int .i64 bx, .int .i64 bY], .blk X70 27 [.bool r68.n, .slice r68.p r68.l r68.c, .bool r68.m, .slice r68.p2 r68.l2 r68.c2], .blk Y71 27 [.bool r69.n, .slice r69.p r69.l r69.c, .bool r69.m, .slice r69.p2 r69.l2 r69.c2], .blk X337 27 [.bool false, .slice none 0 0, .bool false, .slice none 0 0]] from hh)
       have D339 := zH (show Dig w330 w338 from Dig.of_ext hx)
       clear hh hx hge
       try simp only [Act.put, zA, zB, zC]
       refine mv_st (by rfl) _ _ _ (by rfl) H339.out (ix := 8) (by rfl) 0 [.bool r331.n, .slice r331.p r331.l r331.c, .bool r331.m, .slice r331.p2 r331.l2 r331.c2] (by rfl) (by rfl) (by simp) (by kernel_rfl) (by simp [Value.oneCell']) (by simp [NoUL]) ?_
       intro w342 hh hd ho
       have H343 := zH (show Hp w w342 [.blk X1 27 [.bool ry.n, .slice ry.p ry.l ry.c, .bool ry.m, .slice ry.p2 ry.l2 ry.c2], .row 27 4 (.slice A1 m c1) (m) (List.flatMap MkE.cx es), .row 3 1 (.slice A2 m c2) (m) (List.flatMap MkE.cu es), .row 71 4 (.slice (some ⟨ge, 0, none⟩) ((edgesOf rs).length) ce) ((edgesOf rs).length) (List.flatMap edC (edgesOf rs)), .blk X47 53 [.int .i64 ax, .int .i64 ay], .blk Y48 53 [.int .i64 bx, .int .i64 bY], .blk X70 27 [.bool r68.n, .slice r68.p r68.l r68.c, .bool r68.m, .slice r68.p2 r68.l2 r68.c2], .blk Y71 27 [.bool r69.n, .slice r69.p r69.l r69.c, .bool r69.m, .slice r69.p2 r69.l2 r69.c2], .blk X337 27 [.bool r331.n, .slice r331.p r331.l r331.c, .bool r331.m, .slice r331.p2 r331.l2 r331.c2]] from hh)
       have D343 := zH (show Dig w338 w342 from hd)
       clear hh hd ho
       (try simp only [Act.put])
       refine qV (.bool true) ?_
       try simp only [Act.put, zA, zB, zC]
       go_upto_region 18 with fail
       refine wp_region_lit ?_
       refine qV (.slice A1 m c1) ?_
       refine mv_ld (by rfl) _ _ (by rfl) X337 (0) [.bool r331.n, .slice r331.p r331.l r331.c, .bool r331.m, .slice r331.p2 r331.l2 r331.c2] (by rfl) (show World.rangeAt w342 X337 (0) [.bool r331.n, .slice r331.p r331.l r331.c, .bool r331.m, .slice r331.p2 r331.l2 r331.c2] from (H343.out.range (i := 8) (by rfl) 0 4)) Tryz.underlying27 (by rfl) (by kernel_rfl) ?_
       try simp only [Act.put, zA, zB, zC]
       refine mv_val (v := .slice (some ⟨w342.heap.size, 0, none⟩) 1 1) (w' := (w342.alloc (.cells ([.bool r331.n, .slice r331.p r331.l r331.c, .bool r331.m, .slice r331.p2 r331.l2 r331.c2] : List Value).toArray 27))) (by rfl) (by go_simp) ?_
       try simp only [Act.put, zA, zB, zC]
       refine mv_app (by rfl) _ _ _ (by rfl) elRat (by rfl) H343.out (ix := 1) (by rfl) 1 1 [.bool r331.n, .slice r331.p r331.l r331.c, .bool r331.m, .slice r331.p2 r331.l2 r331.c2] (by rfl) rfl (by simp [Value.oneCell']) (by simp [NoUL]) (by decide) (by unfold maxLen; exact (by have ob0 := HPT.out; have ob1 := HEL.out; have ob3 := HM.out.2; omega)) (by have ob0 := HPT.out; have ob1 := HEL.out; have ob3 := HM.out.2; omega) ?_
       intro g348 cp349 w347 hf hh hd hg
       have Fg348 := zH hf
       clear hf
       rw [show List.flatMap MkE.cx es ++ [.bool r331.n, .slice r331.p r331.l r331.c, .bool r331.m, .slice r331.p2 r331.l2 r331.c2] = List.flatMap MkE.cx (es ++ [(⟨r331, (xatV ax ay bx bY y), (-1)⟩ : MkE)]) from flat_snoc MkE.cx _ (⟨r331, (xatV ax ay bx bY y), (-1)⟩ : MkE)] at hh
       have H350 := zH (show Hp w w347 [.blk X1 27 [.bool ry.n, .slice ry.p ry.l ry.c, .bool ry.m, .slice ry.p2 ry.l2 ry.c2], .row 27 4 (.slice (some ⟨g348, 0, none⟩) (m + 1) cp349) (m + 1) (List.flatMap MkE.cx (es ++ [(⟨r331, (xatV ax ay bx bY y), (-1)⟩ : MkE)])), .row 3 1 (.slice A2 m c2) (m) (List.flatMap MkE.cu es), .row 71 4 (.slice (some ⟨ge, 0, none⟩) ((edgesOf rs).length) ce) ((edgesOf rs).length) (List.flatMap edC (edgesOf rs)), .blk X47 53 [.int .i64 ax, .int .i64 ay], .blk Y48 53 [.int .i64 bx, .int .i64 bY], .blk X70 27 [.bool r68.n, .slice r68.p r68.l r68.c, .bool r68.m, .slice r68.p2 r68.l2 r68.c2], .blk Y71 27 [.bool r69.n, .slice r69.p r69.l r69.c, .bool r69.m, .slice r69.p2 r69.l2 r69.c2], .blk X337 27 [.bool r331.n, .slice r331.p r331.l r331.c, .bool r331.m, .slice r331.p2 r331.l2 r331.c2]] from hh)
       have D350 := zH (show Dig w342 w347 from hd)
       clear hh hd hg
       try simp only [Act.put, zA, zB, zC]
       refine qV (.slice (some ⟨g348, 0, none⟩) (m + 1) cp349) ?_
       try simp only [Act.put, zA, zB, zC]
       go_upto_region 19 with fail
       refine wp_region_lit ?_
       refine qV (.slice A2 m c2) ?_
       refine qV (.int .i64 (-1)) ?_
       try simp only [Act.put, zA, zB, zC]
       refine mv_val (v := .slice (some ⟨w347.heap.size, 0, none⟩) 1 1) (w' := (w347.alloc (.cells ([.int .i64 (-1)] : List Value).toArray 3))) (by rfl) (by go_simp) ?_
       try simp only [Act.put, zA, zB, zC]
       refine mv_app (by rfl) _ _ _ (by rfl) elInt (by rfl) H350.out (ix := 2) (by rfl) 1 1 [.int .i64 (-1)] (by rfl) rfl (by simp [Value.oneCell']) (by simp [NoUL]) (by decide) (by unfold maxLen; exact (by have ob0 := HPT.out; have ob1 := HEL.out; have ob3 := HM.out.2; omega)) (by have ob0 := HPT.out; have ob1 := HEL.out; have ob3 := HM.out.2; omega) ?_
       intro g356 cp357 w355 hf hh hd hg
       have Fg356 := zH hf
       clear hf
       rw [show List.flatMap MkE.cu es ++ [.int .i64 (-1)] = List.flatMap MkE.cu (es ++ [(⟨r331, (xatV ax ay bx bY y), (-1)⟩ : MkE)]) from flat_snoc MkE.cu _ (⟨r331, (xatV ax ay bx bY y), (-1)⟩ : MkE)] at hh
       have H358 := zH (show Hp w w355 [.blk X1 27 [.bool ry.n, .slice ry.p ry.l ry.c, .bool ry.m, .slice ry.p2 ry.l2 ry.c2], .row 27 4 (.slice (some ⟨g348, 0, none⟩) (m + 1) cp349) (m + 1) (List.flatMap MkE.cx (es ++ [(⟨r331, (xatV ax ay bx bY y), (-1)⟩ : MkE)])), .row 3 1 (.slice (some ⟨g356, 0, none⟩) (m + 1) cp357) (m + 1) (List.flatMap MkE.cu (es ++ [(⟨r331, (xatV ax ay bx bY y), (-1)⟩ : MkE)])), .row 71 4 (.slice (some ⟨ge, 0, none⟩) ((edgesOf rs).length) ce) ((edgesOf rs).length) (List.flatMap edC (edgesOf rs)), .blk X47 53 [.int .i64 ax, .int .i64 ay], .blk Y48 53 [.int .i64 bx, .int .i64 bY], .blk X70 27 [.bool r68.n, .slice r68.p r68.l r68.c, .bool r68.m, .slice r68.p2 r68.l2 r68.c2], .blk Y71 27 [.bool r69.n, .slice r69.p r69.l r69.c, .bool r69.m, .slice r69.p2 r69.l2 r69.c2], .blk X337 27 [.bool r331.n, .slice r331.p r331.l r331.c, .bool r331.m, .slice r331.p2 r331.l2 r331.c2]] from hh)
       have D358 := zH (show Dig w347 w355 from hd)
       clear hh hd hg
       try simp only [Act.put, zA, zB, zC]
       refine qV (.slice (some ⟨g356, 0, none⟩) (m + 1) cp357) ?_
       try simp only [Act.put, zA, zB, zC]
       obtain ⟨ey, hey_⟩ : ∃ ey : MkE, ey = (⟨r331, (xatV ax ay bx bY y), (-1)⟩ : MkE) := ⟨_, rfl⟩
       have HZ := zH hey_
       have H361 := zH (show Hp w w355 [.blk X1 27 [.bool ry.n, .slice ry.p ry.l ry.c, .bool ry.m, .slice ry.p2 ry.l2 ry.c2], .row 27 4 (.slice (some ⟨g348, 0, none⟩) (m + 1) cp349) (m + 1) (List.flatMap MkE.cx (es.take m ++ ey :: es.drop m)), .row 3 1 (.slice (some ⟨g356, 0, none⟩) (m + 1) cp357) (m + 1) (List.flatMap MkE.cu (es.take m ++ ey :: es.drop m)), .row 71 4 (.slice (some ⟨ge, 0, none⟩) ((edgesOf rs).length) ce) ((edgesOf rs).length) (List.flatMap edC (edgesOf rs)), .blk X47 53 [.int .i64 ax, .int .i64 ay], .blk Y48 53 [.int .i64 bx, .int .i64 bY], .blk X70 27 [.bool r68.n, .slice r68.p r68.l r68.c, .bool r68.m, .slice r68.p2 r68.l2 r68.c2], .blk Y71 27 [.bool r69.n, .slice r69.p r69.l r69.c, .bool r69.m, .slice r69.p2 r69.l2 r69.c2], .blk X337 27 [.bool r331.n, .slice r331.p r331.l r331.c, .bool r331.m, .slice r331.p2 r331.l2 r331.c2]] from by rw [show es.take m ++ ey :: es.drop m = es ++ [(⟨r331, (xatV ax ay bx bY y), (-1)⟩ : MkE)] by rw [List.take_of_length_le (by have := HM.out.1; omega), List.drop_of_length_le (by have := HM.out.1; omega), HZ.out]]; exact H358.out)
       have DD362 := zH ((((D339.out.trans D343.out).trans D350.out).trans D358.out))
       have HOY := zH (show ey.Ok (L + 8) w355 from by rw [HZ.out]; exact ⟨(R331.out.dig DD362.out), (show Nm.rl (xatV ax ay bx bY y) ≤ L + 8 by have q_ := B331.out; omega), (show (-1 : Int) ≤ (-1) by decide), (show (-1) ≤ (1 : Int) by decide)⟩)
       have HVY := zH (show ey.vl = (xatV ax ay bx bY y, (-1)) from by rw [HZ.out]; rfl)
       have HINS := zH (show (Stb.ins ltK es ey).map MkE.vl = Stb.stab ltM (((edgesOf rs).take (i + 1)).filterMap (crossV y)) by rw [crs_some HE.out (cross_down (a := (ax, ay)) (b := (bx, bY)) ⟨C3.out, C4.out⟩), ← HVL.out, ← HVY.out]; exact ins_map MkE.vl (fun _ _ => rfl) es ey)
       have HSRT := zH (show Stb.Srt ltK es from srt_mk (by rw [HVL.out]; exact Stb.stab_srt wkM _))
       go_upto_region 20 with fail
       refine wp_region_lit ?_
       refine qV (.slice (some ⟨g348, 0, none⟩) (m + 1) cp349) ?_
       refine qV (.int .i64 ((m + 1 : Nat) : Int)) ?_
       try simp only [Act.put, zA, zB, zC]
       refine mv_val (v := .int .i64 (m : Int)) (w' := w355) (by rfl) (by exact ev_sub (by rfl) (by rfl) (by rfl) (by first | rfl | omega) (by have ob0 := HPT.out; have ob1 := HEL.out; have ob3 := HM.out.2; omega) (by have ob0 := HPT.out; have ob1 := HEL.out; have ob3 := HM.out.2; omega)) ?_
       try simp only [Act.put, zA, zB, zC]
       refine qV (.int .i64 (m : Int)) ?_
       try simp only [Act.put, zA, zB, zC]
       have DD367 := zH ((((((((((((((((D37.out.trans D50.out).trans D56.out).trans D60.out).trans D63.out).trans D73.out).trans D79.out).trans D83.out).trans D311.out).trans D319.out).trans D324.out).trans D332.out).trans D339.out).trans D343.out).trans D350.out).trans D358.out))
       go_wp2_with fail
       go_loopg [17] (m + 1) (fun cq v368 wr => ∃ (t : Nat) (u : Nat), cq = (m + 1) - t ∧ v368 = .int .i64 (u : Int) ∧ (t + u = m) ∧ (∀ z, z ∈ es.drop u → ltK ey z = true) ∧ (∀ e, e ∈ es.take u ++ ey :: es.drop u → e.Ok (L + 8) wr) ∧ Hp w wr [.blk X1 27 [.bool ry.n, .slice ry.p ry.l ry.c, .bool ry.m, .slice ry.p2 ry.l2 ry.c2], .row 27 4 (.slice (some ⟨g348, 0, none⟩) (m + 1) cp349) (m + 1) (List.flatMap MkE.cx (es.take u ++ ey :: es.drop u)), .row 3 1 (.slice (some ⟨g356, 0, none⟩) (m + 1) cp357) (m + 1) (List.flatMap MkE.cu (es.take u ++ ey :: es.drop u)), .row 71 4 (.slice (some ⟨ge, 0, none⟩) ((edgesOf rs).length) ce) ((edgesOf rs).length) (List.flatMap edC (edgesOf rs)), .blk X47 53 [.int .i64 ax, .int .i64 ay], .blk Y48 53 [.int .i64 bx, .int .i64 bY], .blk X70 27 [.bool r68.n, .slice r68.p r68.l r68.c, .bool r68.m, .slice r68.p2 r68.l2 r68.c2], .blk Y71 27 [.bool r69.n, .slice r69.p r69.l r69.c, .bool r69.m, .slice r69.p2 r69.l2 r69.c2], .blk X337 27 [.bool r331.n, .slice r331.p r331.l r331.c, .bool r331.m, .slice r331.p2 r331.l2 r331.c2]] ∧ Dig w355 wr)
       case atStart => exact ⟨0, m, rfl, rfl, Nat.zero_add _, (fun z_ hz_ => by rw [List.drop_of_length_le (by have := HM.out.1; omega)] at hz_; simp at hz_), (fun g_ hg_ => by rw [List.take_of_length_le (by have := HM.out.1; omega), List.drop_of_length_le (by have := HM.out.1; omega)] at hg_; exact (List.mem_append.1 hg_).elim (fun hg_ => (HOE.out g_ hg_).dig DD367.out) (fun hg_ => by rw [List.mem_singleton.1 hg_]; exact HOY.out)), H361.out, Dig.refl _⟩
       case round =>
        obtain ⟨t, u, rfl, rfl, q_HTU, q_HALL, q_HOK2, hh_, hd_⟩ := hrel
        generalize wr = w369 at *
        have HTU := zH q_HTU
        clear q_HTU
        have HALL := zH q_HALL
        clear q_HALL
        have HOK2 := zH q_HOK2
        clear q_HOK2
        have H371 := zH hh_
        have D371 := zH hd_
        clear hh_ hd_ H361
        by_cases c372 : 0 < u
        ·have HU0 := zH c372
         clear c372
         have hu0 := HU0.out
         obtain ⟨q, rfl⟩ : ∃ q, u = q + 1 := ⟨u - 1, by omega⟩
         have HTQ := zH (show q < es.length by have h1 := HTU.out; have h2 := HM.out.1; omega)
         have hqm : q < m := by have h1 := HTU.out; omega
         obtain ⟨gx_, gy_, gs_, gz_⟩ := ins_at (y := ey) HTQ.out
         obtain ⟨ex, hex_⟩ : ∃ ex, ex = es[q]'HTQ.out := ⟨_, rfl⟩
         rw [← hex_] at gx_ gs_ gz_
         have HXE := zH hex_
         have GX := zH gx_
         have GY := zH gy_
         have GS := zH gs_
         have GZ := zH gz_
         have HLX := zH (List.getElem?_eq_some_iff.1 gx_).1
         have HLY := zH (List.getElem?_eq_some_iff.1 gy_).1
         clear gx_ gy_ gs_ gz_ hex_
         have OX := zH (HOK2.out ex (List.mem_of_getElem? GX.out))
         have OY := zH (HOK2.out ey (List.mem_of_getElem? GY.out))
         have RX := zH OX.out.1
         have RZ := zH OY.out.1
         have BX := zH OX.out.2.1
         have BZ := zH OY.out.2.1
         have HXS := zH OX.out.2.2
         have HYS := zH OY.out.2.2
         rcases hcb_ : ltK ey ex with _ | _
         ·have CB := zH hcb_
          clear hcb_
          go_upto_region 21 with fail
          refine wp_region_held_drew (S := fun x => Ext w369 x) (by kernel_rfl) (Ext.refl _).drew (fun _ => ?_)
          have H373 := zH (H371.out.step (Ext.refl w369).drew)
          have D373 := zH (show Dig w369 w369.drew from Dig.of_ext (Ext.refl w369).drew)
          refine mW 0 (bs 23 1) (v := .int .i64 ((q + 1 : Nat) : Int)) (Ext.refl _).drew ?hv375 ?rv375
          case hv375 => (intro w hSw; go_simp <;> with_reducible rfl)
          try simp only [Act.put, zA, zB, zC]
          refine mW 1 (bs 23 3) (v := .bool true) (Ext.refl _).drew ?hv376 ?rv376
          case hv376 => (intro w hSw; exact ev_gtr (by rfl) (by rfl) (by rfl) (dec_t (by have ob0 := HEL.out; have ob1 := HM.out.2; have ob4 := HXS.out; have ob5 := HYS.out; omega)))
          try simp only [Act.put, zA, zB, zC]
          refine mW 2 (bs 23 7) (v := .bool true) (Ext.refl _).drew ?hv377 ?rv377
          case hv377 => (intro w hSw; go_simp <;> with_reducible rfl)
          try simp only [Act.put, zA, zB, zC]
          refine mW 3 (bs 23 15) (v := .slice (some ⟨g348, 0, none⟩) (m + 1) cp349) (Ext.refl _).drew ?hv378 ?rv378
          case hv378 => (intro w hSw; go_simp <;> with_reducible rfl)
          try simp only [Act.put, zA, zB, zC]
          refine mW 4 (bs 23 31) (v := .int .i64 ((q + 1 : Nat) : Int)) (Ext.refl _).drew ?hv379 ?rv379
          case hv379 => (intro w hSw; go_simp <;> with_reducible rfl)
          try simp only [Act.put, zA, zB, zC]
          refine mW 5 (bs 23 63) (v := .pointer (some ⟨g348, (q + 1) * 4, none⟩)) (Ext.refl _).drew ?hv380 ?rv380
          case hv380 => (intro w hSw; exact ev_index (k := q + 1) (by rfl) Tryz.underlying41 (by kernel_rfl) (by rfl) (by rfl) (by omega) (show q + 1 < m + 1 by omega) (Nat.zero_add _).symm)
          refine mR 6 (bs 23 127) g348 ((q + 1) * 4) [.bool ey.a.n, .slice ey.a.p ey.a.l ey.a.c, .bool ey.a.m, .slice ey.a.p2 ey.a.l2 ey.a.c2] (fun x hx => range_ext (show World.rangeAt w369 g348 ((q + 1) * 4) [.bool ey.a.n, .slice ey.a.p ey.a.l ey.a.c, .bool ey.a.m, .slice ey.a.p2 ey.a.l2 ey.a.c2] from (H371.out.elem (f := MkE.cx) (i := 1) (by rfl) MkE.cx_len GY.out)) hx) Tryz.underlying27 (Ext.refl _).drew ?_
          try simp only [Act.put, zA, zB, zC]
          refine mW 7 (bs 23 255) (v := .slice (some ⟨g356, 0, none⟩) (m + 1) cp357) (Ext.refl _).drew ?hv381 ?rv381
          case hv381 => (intro w hSw; go_simp <;> with_reducible rfl)
          try simp only [Act.put, zA, zB, zC]
          refine mW 8 (bs 23 511) (v := .int .i64 ((q + 1 : Nat) : Int)) (Ext.refl _).drew ?hv382 ?rv382
          case hv382 => (intro w hSw; go_simp <;> with_reducible rfl)
          try simp only [Act.put, zA, zB, zC]
          refine mW 9 (bs 23 1023) (v := .pointer (some ⟨g356, (q + 1) * 1, none⟩)) (Ext.refl _).drew ?hv383 ?rv383
          case hv383 => (intro w hSw; exact ev_index (k := q + 1) (by rfl) Tryz.underlying42 (by kernel_rfl) (by rfl) (by rfl) (by omega) (show q + 1 < m + 1 by omega) (Nat.zero_add _).symm)
          try simp only [Act.put, zA, zB, zC]
          refine md_ld1 (g := g356) (o := (q + 1) * 1) (v := .int .i64 ey.up) (i := 10) (listed' := (bs 23 2047)) (by rfl) (by kernel_rfl) (by kernel_rfl) (by kernel_rfl) (by intro _ _ _ h; exact h) (by rfl) (fun x hx => Ext.get hx (show World.cell? w369 ⟨g356, (q + 1) * 1, none⟩ = some (.int .i64 ey.up) from cell_of_range (H371.out.elem (f := MkE.cu) (i := 2) (by rfl) MkE.cu_len GY.out))) (by intro x hq; (try simp only [Nat.mul_one] at hq); go_simp <;> with_reducible rfl) (Ext.refl _).drew (by kernel_rfl) ?_
          try simp only [Act.put, zA, zB, zC]
          refine mW 11 (bs 23 4095) (v := .slice (some ⟨g348, 0, none⟩) (m + 1) cp349) (Ext.refl _).drew ?hv384 ?rv384
          case hv384 => (intro w hSw; go_simp <;> with_reducible rfl)
          try simp only [Act.put, zA, zB, zC]
          refine mW 12 (bs 23 8191) (v := .int .i64 ((q + 1 : Nat) : Int)) (Ext.refl _).drew ?hv385 ?rv385
          case hv385 => (intro w hSw; go_simp <;> with_reducible rfl)
          try simp only [Act.put, zA, zB, zC]
          refine mW 13 (bs 23 16383) (v := .int .i64 (q : Int)) (Ext.refl _).drew ?hv386 ?rv386
          case hv386 => (intro w hSw; exact ev_sub (by rfl) (by rfl) (by rfl) (by first | rfl | omega) (by have ob0 := HEL.out; have ob1 := HM.out.2; have ob4 := HXS.out; have ob5 := HYS.out; omega) (by have ob0 := HEL.out; have ob1 := HM.out.2; have ob4 := HXS.out; have ob5 := HYS.out; omega))
          try simp only [Act.put, zA, zB, zC]
          refine mW 14 (bs 23 32767) (v := .pointer (some ⟨g348, q * 4, none⟩)) (Ext.refl _).drew ?hv387 ?rv387
          case hv387 => (intro w hSw; exact ev_index (k := q) (by rfl) Tryz.underlying41 (by kernel_rfl) (by rfl) (by rfl) (by omega) (show q < m + 1 by omega) (Nat.zero_add _).symm)
          refine mR 15 (bs 23 65535) g348 (q * 4) [.bool ex.a.n, .slice ex.a.p ex.a.l ex.a.c, .bool ex.a.m, .slice ex.a.p2 ex.a.l2 ex.a.c2] (fun x hx => range_ext (show World.rangeAt w369 g348 (q * 4) [.bool ex.a.n, .slice ex.a.p ex.a.l ex.a.c, .bool ex.a.m, .slice ex.a.p2 ex.a.l2 ex.a.c2] from (H371.out.elem (f := MkE.cx) (i := 1) (by rfl) MkE.cx_len GX.out)) hx) Tryz.underlying27 (Ext.refl _).drew ?_
          try simp only [Act.put, zA, zB, zC]
          refine mW 16 (bs 23 131071) (v := .slice (some ⟨g356, 0, none⟩) (m + 1) cp357) (Ext.refl _).drew ?hv388 ?rv388
          case hv388 => (intro w hSw; go_simp <;> with_reducible rfl)
          try simp only [Act.put, zA, zB, zC]
          refine mW 17 (bs 23 262143) (v := .int .i64 ((q + 1 : Nat) : Int)) (Ext.refl _).drew ?hv389 ?rv389
          case hv389 => (intro w hSw; go_simp <;> with_reducible rfl)
          try simp only [Act.put, zA, zB, zC]
          refine mW 18 (bs 23 524287) (v := .int .i64 (q : Int)) (Ext.refl _).drew ?hv390 ?rv390
          case hv390 => (intro w hSw; exact ev_sub (by rfl) (by rfl) (by rfl) (by first | rfl | omega) (by have ob0 := HEL.out; have ob1 := HM.out.2; have ob4 := HXS.out; have ob5 := HYS.out; omega) (by have ob0 := HEL.out; have ob1 := HM.out.2; have ob4 := HXS.out; have ob5 := HYS.out; omega))
          try simp only [Act.put, zA, zB, zC]
          refine mW 19 (bs 23 1048575) (v := .pointer (some ⟨g356, q * 1, none⟩)) (Ext.refl _).drew ?hv391 ?rv391
          case hv391 => (intro w hSw; exact ev_index (k := q) (by rfl) Tryz.underlying42 (by kernel_rfl) (by rfl) (by rfl) (by omega) (show q < m + 1 by omega) (Nat.zero_add _).symm)
          try simp only [Act.put, zA, zB, zC]
          refine md_ld1 (g := g356) (o := q * 1) (v := .int .i64 ex.up) (i := 20) (listed' := (bs 23 2097151)) (by rfl) (by kernel_rfl) (by kernel_rfl) (by kernel_rfl) (by intro _ _ _ h; exact h) (by rfl) (fun x hx => Ext.get hx (show World.cell? w369 ⟨g356, q * 1, none⟩ = some (.int .i64 ex.up) from cell_of_range (H371.out.elem (f := MkE.cu) (i := 2) (by rfl) MkE.cu_len GX.out))) (by intro x hq; (try simp only [Nat.mul_one] at hq); go_simp <;> with_reducible rfl) (Ext.refl _).drew (by kernel_rfl) ?_
          try simp only [Act.put, zA, zB, zC]
          refine mC 21 (bs 23 4194303) (before_any 60000 _ _ ey.q ex.q ey.up ex.up _ (RV.Is.nin (RZ.out.dig D373.out) (Nat.le_trans BZ.out (by omega))) (RV.Is.nin (RX.out.dig D373.out) (Nat.le_trans BX.out (by omega))) (by decide)) ?_
          rintro e w392 ⟨rfl, hx⟩
          have H393 := zH (H373.out.step hx)
          have D393 := zH (show Dig w369.drew w392 from Dig.of_ext hx)
          have S395 := zH (show Ext w369 w392 from (Ext.refl _).drew.trans hx)
          clear hx
          refine ⟨.bool false, by rw [show beforeV ey.q ey.up ex.q ex.up = false from CB.out], S395.out, ?_⟩
          try simp only [Act.put, zA, zB, zC]
          refine mW 22 (bs 23 8388607) (v := .bool false) S395.out ?hv396 ?rv396
          case hv396 => (intro w hSw; go_simp <;> with_reducible rfl)
          try simp only [Act.put, zA, zB, zC]
          refine wpAnyH_done (by kernel_rfl) ?_ _
          have H397 := zH (show Hp w w392 [.blk X1 27 [.bool ry.n, .slice ry.p ry.l ry.c, .bool ry.m, .slice ry.p2 ry.l2 ry.c2], .row 27 4 (.slice (some ⟨g348, 0, none⟩) (m + 1) cp349) (m + 1) (List.flatMap MkE.cx (Stb.ins ltK es ey)), .row 3 1 (.slice (some ⟨g356, 0, none⟩) (m + 1) cp357) (m + 1) (List.flatMap MkE.cu (Stb.ins ltK es ey)), .row 71 4 (.slice (some ⟨ge, 0, none⟩) ((edgesOf rs).length) ce) ((edgesOf rs).length) (List.flatMap edC (edgesOf rs)), .blk X47 53 [.int .i64 ax, .int .i64 ay], .blk Y48 53 [.int .i64 bx, .int .i64 bY], .blk X70 27 [.bool r68.n, .slice r68.p r68.l r68.c, .bool r68.m, .slice r68.p2 r68.l2 r68.c2], .blk Y71 27 [.bool r69.n, .slice r69.p r69.l r69.c, .bool r69.m, .slice r69.p2 r69.l2 r69.c2], .blk X337 27 [.bool r331.n, .slice r331.p r331.l r331.c, .bool r331.m, .slice r331.p2 r331.l2 r331.c2]] from by rw [Stb.ins_stop wkK HSRT.out HALL.out (by have h1 := HTQ.out; omega) (Or.inr ⟨q, rfl, HTQ.out, by rw [← HXE.out]; exact CB.out⟩)]; exact H393.out)
          have DD398 := zH ((D373.out.trans D393.out))
          have DD399 := zH ((((((((((((((((((((D35.out.trans D37.out).trans D50.out).trans D56.out).trans D60.out).trans D63.out).trans D73.out).trans D79.out).trans D83.out).trans D311.out).trans D319.out).trans D324.out).trans D332.out).trans D339.out).trans D343.out).trans D350.out).trans D358.out).trans D371.out).trans D373.out).trans D393.out))
          go_wp2_with fail
          go_roundg ((edgesOf rs).length - (i + 1))
          case measure => exact (by have ob0 := HEL.out; have ob1 := HM.out.2; have ob4 := HXS.out; have ob5 := HYS.out; omega)
          case rel => exact ⟨i + 1, m + 1, Stb.ins ltK es ey, some ⟨g348, 0, none⟩, cp349, some ⟨g356, 0, none⟩, cp357, rfl, rfl, rfl, (by go_num), hlt, ⟨by rw [Stb.ins_len, HM.out.1], by have := HM.out.2; omega⟩, HINS.out, (fun g_ hg_ => by rw [Stb.ins_stop wkK HSRT.out HALL.out (by have h1 := HTQ.out; omega) (Or.inr ⟨q, rfl, HTQ.out, by rw [← HXE.out]; exact CB.out⟩)] at hg_; exact ((HOK2.out g_ hg_).dig DD398.out)), H397.out.take 4, DD399.out⟩
         ·have CB := zH hcb_
          clear hcb_
          go_upto_region 21 with fail
          refine wp_region_held_drew (S := fun x => Ext w369 x) (by kernel_rfl) (Ext.refl _).drew (fun _ => ?_)
          have H400 := zH (H371.out.step (Ext.refl w369).drew)
          have D400 := zH (show Dig w369 w369.drew from Dig.of_ext (Ext.refl w369).drew)
          refine mW 0 (bs 23 1) (v := .int .i64 ((q + 1 : Nat) : Int)) (Ext.refl _).drew ?hv402 ?rv402
          case hv402 => (intro w hSw; go_simp <;> with_reducible rfl)
          try simp only [Act.put, zA, zB, zC]
          refine mW 1 (bs 23 3) (v := .bool true) (Ext.refl _).drew ?hv403 ?rv403
          case hv403 => (intro w hSw; exact ev_gtr (by rfl) (by rfl) (by rfl) (dec_t (by have ob0 := HEL.out; have ob1 := HM.out.2; have ob4 := HXS.out; have ob5 := HYS.out; omega)))
          try simp only [Act.put, zA, zB, zC]
          refine mW 2 (bs 23 7) (v := .bool true) (Ext.refl _).drew ?hv404 ?rv404
          case hv404 => (intro w hSw; go_simp <;> with_reducible rfl)
          try simp only [Act.put, zA, zB, zC]
          refine mW 3 (bs 23 15) (v := .slice (some ⟨g348, 0, none⟩) (m + 1) cp349) (Ext.refl _).drew ?hv405 ?rv405
          case hv405 => (intro w hSw; go_simp <;> with_reducible rfl)
          try simp only [Act.put, zA, zB, zC]
          refine mW 4 (bs 23 31) (v := .int .i64 ((q + 1 : Nat) : Int)) (Ext.refl _).drew ?hv406 ?rv406
          case hv406 => (intro w hSw; go_simp <;> with_reducible rfl)
          try simp only [Act.put, zA, zB, zC]
          refine mW 5 (bs 23 63) (v := .pointer (some ⟨g348, (q + 1) * 4, none⟩)) (Ext.refl _).drew ?hv407 ?rv407
          case hv407 => (intro w hSw; exact ev_index (k := q + 1) (by rfl) Tryz.underlying41 (by kernel_rfl) (by rfl) (by rfl) (by omega) (show q + 1 < m + 1 by omega) (Nat.zero_add _).symm)
          refine mR 6 (bs 23 127) g348 ((q + 1) * 4) [.bool ey.a.n, .slice ey.a.p ey.a.l ey.a.c, .bool ey.a.m, .slice ey.a.p2 ey.a.l2 ey.a.c2] (fun x hx => range_ext (show World.rangeAt w369 g348 ((q + 1) * 4) [.bool ey.a.n, .slice ey.a.p ey.a.l ey.a.c, .bool ey.a.m, .slice ey.a.p2 ey.a.l2 ey.a.c2] from (H371.out.elem (f := MkE.cx) (i := 1) (by rfl) MkE.cx_len GY.out)) hx) Tryz.underlying27 (Ext.refl _).drew ?_
          try simp only [Act.put, zA, zB, zC]
          refine mW 7 (bs 23 255) (v := .slice (some ⟨g356, 0, none⟩) (m + 1) cp357) (Ext.refl _).drew ?hv408 ?rv408
          case hv408 => (intro w hSw; go_simp <;> with_reducible rfl)
          try simp only [Act.put, zA, zB, zC]
          refine mW 8 (bs 23 511) (v := .int .i64 ((q + 1 : Nat) : Int)) (Ext.refl _).drew ?hv409 ?rv409
          case hv409 => (intro w hSw; go_simp <;> with_reducible rfl)
          try simp only [Act.put, zA, zB, zC]
          refine mW 9 (bs 23 1023) (v := .pointer (some ⟨g356, (q + 1) * 1, none⟩)) (Ext.refl _).drew ?hv410 ?rv410
          case hv410 => (intro w hSw; exact ev_index (k := q + 1) (by rfl) Tryz.underlying42 (by kernel_rfl) (by rfl) (by rfl) (by omega) (show q + 1 < m + 1 by omega) (Nat.zero_add _).symm)
          try simp only [Act.put, zA, zB, zC]
          refine md_ld1 (g := g356) (o := (q + 1) * 1) (v := .int .i64 ey.up) (i := 10) (listed' := (bs 23 2047)) (by rfl) (by kernel_rfl) (by kernel_rfl) (by kernel_rfl) (by intro _ _ _ h; exact h) (by rfl) (fun x hx => Ext.get hx (show World.cell? w369 ⟨g356, (q + 1) * 1, none⟩ = some (.int .i64 ey.up) from cell_of_range (H371.out.elem (f := MkE.cu) (i := 2) (by rfl) MkE.cu_len GY.out))) (by intro x hq; (try simp only [Nat.mul_one] at hq); go_simp <;> with_reducible rfl) (Ext.refl _).drew (by kernel_rfl) ?_
          try simp only [Act.put, zA, zB, zC]
          refine mW 11 (bs 23 4095) (v := .slice (some ⟨g348, 0, none⟩) (m + 1) cp349) (Ext.refl _).drew ?hv411 ?rv411
          case hv411 => (intro w hSw; go_simp <;> with_reducible rfl)
          try simp only [Act.put, zA, zB, zC]
          refine mW 12 (bs 23 8191) (v := .int .i64 ((q + 1 : Nat) : Int)) (Ext.refl _).drew ?hv412 ?rv412
          case hv412 => (intro w hSw; go_simp <;> with_reducible rfl)
          try simp only [Act.put, zA, zB, zC]
          refine mW 13 (bs 23 16383) (v := .int .i64 (q : Int)) (Ext.refl _).drew ?hv413 ?rv413
          case hv413 => (intro w hSw; exact ev_sub (by rfl) (by rfl) (by rfl) (by first | rfl | omega) (by have ob0 := HEL.out; have ob1 := HM.out.2; have ob4 := HXS.out; have ob5 := HYS.out; omega) (by have ob0 := HEL.out; have ob1 := HM.out.2; have ob4 := HXS.out; have ob5 := HYS.out; omega))
          try simp only [Act.put, zA, zB, zC]
          refine mW 14 (bs 23 32767) (v := .pointer (some ⟨g348, q * 4, none⟩)) (Ext.refl _).drew ?hv414 ?rv414
          case hv414 => (intro w hSw; exact ev_index (k := q) (by rfl) Tryz.underlying41 (by kernel_rfl) (by rfl) (by rfl) (by omega) (show q < m + 1 by omega) (Nat.zero_add _).symm)
          refine mR 15 (bs 23 65535) g348 (q * 4) [.bool ex.a.n, .slice ex.a.p ex.a.l ex.a.c, .bool ex.a.m, .slice ex.a.p2 ex.a.l2 ex.a.c2] (fun x hx => range_ext (show World.rangeAt w369 g348 (q * 4) [.bool ex.a.n, .slice ex.a.p ex.a.l ex.a.c, .bool ex.a.m, .slice ex.a.p2 ex.a.l2 ex.a.c2] from (H371.out.elem (f := MkE.cx) (i := 1) (by rfl) MkE.cx_len GX.out)) hx) Tryz.underlying27 (Ext.refl _).drew ?_
          try simp only [Act.put, zA, zB, zC]
          refine mW 16 (bs 23 131071) (v := .slice (some ⟨g356, 0, none⟩) (m + 1) cp357) (Ext.refl _).drew ?hv415 ?rv415
          case hv415 => (intro w hSw; go_simp <;> with_reducible rfl)
          try simp only [Act.put, zA, zB, zC]
          refine mW 17 (bs 23 262143) (v := .int .i64 ((q + 1 : Nat) : Int)) (Ext.refl _).drew ?hv416 ?rv416
          case hv416 => (intro w hSw; go_simp <;> with_reducible rfl)
          try simp only [Act.put, zA, zB, zC]
          refine mW 18 (bs 23 524287) (v := .int .i64 (q : Int)) (Ext.refl _).drew ?hv417 ?rv417
          case hv417 => (intro w hSw; exact ev_sub (by rfl) (by rfl) (by rfl) (by first | rfl | omega) (by have ob0 := HEL.out; have ob1 := HM.out.2; have ob4 := HXS.out; have ob5 := HYS.out; omega) (by have ob0 := HEL.out; have ob1 := HM.out.2; have ob4 := HXS.out; have ob5 := HYS.out; omega))
          try simp only [Act.put, zA, zB, zC]
          refine mW 19 (bs 23 1048575) (v := .pointer (some ⟨g356, q * 1, none⟩)) (Ext.refl _).drew ?hv418 ?rv418
          case hv418 => (intro w hSw; exact ev_index (k := q) (by rfl) Tryz.underlying42 (by kernel_rfl) (by rfl) (by rfl) (by omega) (show q < m + 1 by omega) (Nat.zero_add _).symm)
          try simp only [Act.put, zA, zB, zC]
          refine md_ld1 (g := g356) (o := q * 1) (v := .int .i64 ex.up) (i := 20) (listed' := (bs 23 2097151)) (by rfl) (by kernel_rfl) (by kernel_rfl) (by kernel_rfl) (by intro _ _ _ h; exact h) (by rfl) (fun x hx => Ext.get hx (show World.cell? w369 ⟨g356, q * 1, none⟩ = some (.int .i64 ex.up) from cell_of_range (H371.out.elem (f := MkE.cu) (i := 2) (by rfl) MkE.cu_len GX.out))) (by intro x hq; (try simp only [Nat.mul_one] at hq); go_simp <;> with_reducible rfl) (Ext.refl _).drew (by kernel_rfl) ?_
          try simp only [Act.put, zA, zB, zC]
          refine mC 21 (bs 23 4194303) (before_any 60000 _ _ ey.q ex.q ey.up ex.up _ (RV.Is.nin (RZ.out.dig D400.out) (Nat.le_trans BZ.out (by omega))) (RV.Is.nin (RX.out.dig D400.out) (Nat.le_trans BX.out (by omega))) (by decide)) ?_
          rintro e w419 ⟨rfl, hx⟩
          have H420 := zH (H400.out.step hx)
          have D420 := zH (show Dig w369.drew w419 from Dig.of_ext hx)
          have S422 := zH (show Ext w369 w419 from (Ext.refl _).drew.trans hx)
          clear hx
          refine ⟨.bool true, by rw [show beforeV ey.q ey.up ex.q ex.up = true from CB.out], S422.out, ?_⟩
          try simp only [Act.put, zA, zB, zC]
          refine mW 22 (bs 23 8388607) (v := .bool true) S422.out ?hv423 ?rv423
          case hv423 => (intro w hSw; go_simp <;> with_reducible rfl)
          try simp only [Act.put, zA, zB, zC]
          refine wpAnyH_done (by kernel_rfl) ?_ _
          go_upto_region 23 with fail
          refine wp_region_held_drew (S := fun x => Ext w419 x) (by kernel_rfl) (Ext.refl _).drew (fun _ => ?_)
          have H424 := zH (H420.out.step (Ext.refl w419).drew)
          have D424 := zH (show Dig w419 w419.drew from Dig.of_ext (Ext.refl w419).drew)
          refine mW 0 (bs 11 1) (v := .slice (some ⟨g348, 0, none⟩) (m + 1) cp349) (Ext.refl _).drew ?hv426 ?rv426
          case hv426 => (intro w hSw; go_simp <;> with_reducible rfl)
          try simp only [Act.put, zA, zB, zC]
          refine mW 1 (bs 11 3) (v := .int .i64 ((q + 1 : Nat) : Int)) (Ext.refl _).drew ?hv427 ?rv427
          case hv427 => (intro w hSw; go_simp <;> with_reducible rfl)
          try simp only [Act.put, zA, zB, zC]
          refine mW 2 (bs 11 7) (v := .pointer (some ⟨g348, (q + 1) * 4, none⟩)) (Ext.refl _).drew ?hv428 ?rv428
          case hv428 => (intro w hSw; exact ev_index (k := q + 1) (by rfl) Tryz.underlying41 (by kernel_rfl) (by rfl) (by rfl) (by omega) (show q + 1 < m + 1 by omega) (Nat.zero_add _).symm)
          refine mR 3 (bs 11 15) g348 ((q + 1) * 4) [.bool ey.a.n, .slice ey.a.p ey.a.l ey.a.c, .bool ey.a.m, .slice ey.a.p2 ey.a.l2 ey.a.c2] (fun x hx => range_ext (show World.rangeAt w419 g348 ((q + 1) * 4) [.bool ey.a.n, .slice ey.a.p ey.a.l ey.a.c, .bool ey.a.m, .slice ey.a.p2 ey.a.l2 ey.a.c2] from (H420.out.elem (f := MkE.cx) (i := 1) (by rfl) MkE.cx_len GY.out)) hx) Tryz.underlying27 (Ext.refl _).drew ?_
          try simp only [Act.put, zA, zB, zC]
          refine mW 4 (bs 11 31) (v := .slice (some ⟨g356, 0, none⟩) (m + 1) cp357) (Ext.refl _).drew ?hv429 ?rv429
          case hv429 => (intro w hSw; go_simp <;> with_reducible rfl)
          try simp only [Act.put, zA, zB, zC]
          refine mW 5 (bs 11 63) (v := .int .i64 ((q + 1 : Nat) : Int)) (Ext.refl _).drew ?hv430 ?rv430
          case hv430 => (intro w hSw; go_simp <;> with_reducible rfl)
          try simp only [Act.put, zA, zB, zC]
          refine mW 6 (bs 11 127) (v := .pointer (some ⟨g356, (q + 1) * 1, none⟩)) (Ext.refl _).drew ?hv431 ?rv431
          case hv431 => (intro w hSw; exact ev_index (k := q + 1) (by rfl) Tryz.underlying42 (by kernel_rfl) (by rfl) (by rfl) (by omega) (show q + 1 < m + 1 by omega) (Nat.zero_add _).symm)
          try simp only [Act.put, zA, zB, zC]
          refine md_ld1 (g := g356) (o := (q + 1) * 1) (v := .int .i64 ey.up) (i := 7) (listed' := (bs 11 255)) (by rfl) (by kernel_rfl) (by kernel_rfl) (by kernel_rfl) (by intro _ _ _ h; exact h) (by rfl) (fun x hx => Ext.get hx (show World.cell? w419 ⟨g356, (q + 1) * 1, none⟩ = some (.int .i64 ey.up) from cell_of_range (H420.out.elem (f := MkE.cu) (i := 2) (by rfl) MkE.cu_len GY.out))) (by intro x hq; (try simp only [Nat.mul_one] at hq); go_simp <;> with_reducible rfl) (Ext.refl _).drew (by kernel_rfl) ?_
          try simp only [Act.put, zA, zB, zC]
          refine md_alloc (T := 27) (zs := [.bool false, .slice none 0 0, .bool false, .slice none 0 0]) (i := 8) (listed' := (bs 11 511)) (by rfl) (by kernel_rfl) (by rfl) (by go_simp) (by kernel_rfl) H424.out (by simp [NoUL]) ?_
          intro X432 w433 hh hx hge
          have H434 := zH (show Hp w w433 [.blk X1 27 [.bool ry.n, .slice ry.p ry.l ry.c, .bool ry.m, .slice ry.p2 ry.l2 ry.c2], .row 27 4 (.slice (some ⟨g348, 0, none⟩) (m + 1) cp349) (m + 1) (List.flatMap MkE.cx (es.take (q + 1) ++ ey :: es.drop (q + 1))), .row 3 1 (.slice (some ⟨g356, 0, none⟩) (m + 1) cp357) (m + 1) (List.flatMap MkE.cu (es.take (q + 1) ++ ey :: es.drop (q + 1))), .row 71 4 (.slice (some ⟨ge, 0, none⟩) ((edgesOf rs).length) ce) ((edgesOf rs).length) (List.flatMap edC (edgesOf rs)), .blk X47 53 [.int .i64 ax, .int .i64 ay], .blk Y48 53 [.int .i64 bx, .int .i64 bY], .blk X70 27 [.bool r68.n, .slice r68.p r68.l r68.c, .bool r68.m, .slice r68.p2 r68.l2 r68.c2], .blk Y71 27 [.bool r69.n, .slice r69.p r69.l r69.c, .bool r69.m, .slice r69.p2 r69.l2 r69.c2], .blk X337 27 [.bool r331.n, .slice r331.p r331.l r331.c, .bool r331.m, .slice r331.p2 r331.l2 r331.c2], .blk X432 27 [.bool false, .slice none 0 0, .bool false, .slice none 0 0]] from hh)
          have D434 := zH (show Dig w419.drew w433 from Dig.of_ext hx)
          have S437 := zH (show Ext w419 w433 from (Ext.refl _).drew.trans hx)
          have G436 := zH (show w419.heap.size ≤ X432 from Nat.le_trans (Ext.refl _).drew.size hge)
          clear hh hx hge
          refine ⟨S437.out, ?_⟩
          try simp only [Act.put, zA, zB, zC]
          refine md_st (i := 9) (listed' := (bs 11 1023)) (by rfl) (by kernel_rfl) (by rfl) (by kernel_rfl) _ _ _ (by rfl) H434.out (ix := 9) (by rfl) 0 [.bool ey.a.n, .slice ey.a.p ey.a.l ey.a.c, .bool ey.a.m, .slice ey.a.p2 ey.a.l2 ey.a.c2] (by rfl) (by rfl) (by simp) (by kernel_rfl) (by simp [Value.oneCell']) (by simp [NoUL]) ?_
          intro w438 hh hd ho
          have H439 := zH (show Hp w w438 [.blk X1 27 [.bool ry.n, .slice ry.p ry.l ry.c, .bool ry.m, .slice ry.p2 ry.l2 ry.c2], .row 27 4 (.slice (some ⟨g348, 0, none⟩) (m + 1) cp349) (m + 1) (List.flatMap MkE.cx (es.take (q + 1) ++ ey :: es.drop (q + 1))), .row 3 1 (.slice (some ⟨g356, 0, none⟩) (m + 1) cp357) (m + 1) (List.flatMap MkE.cu (es.take (q + 1) ++ ey :: es.drop (q + 1))), .row 71 4 (.slice (some ⟨ge, 0, none⟩) ((edgesOf rs).length) ce) ((edgesOf rs).length) (List.flatMap edC (edgesOf rs)), .blk X47 53 [.int .i64 ax, .int .i64 ay], .blk Y48 53 [.int .i64 bx, .int .i64 bY], .blk X70 27 [.bool r68.n, .slice r68.p r68.l r68.c, .bool r68.m, .slice r68.p2 r68.l2 r68.c2], .blk Y71 27 [.bool r69.n, .slice r69.p r69.l r69.c, .bool r69.m, .slice r69.p2 r69.l2 r69.c2], .blk X337 27 [.bool r331.n, .slice r331.p r331.l r331.c, .bool r331.m, .slice r331.p2 r331.l2 r331.c2], .blk X432 27 [.bool ey.a.n, .slice ey.a.p ey.a.l ey.a.c, .bool ey.a.m, .slice ey.a.p2 ey.a.l2 ey.a.c2]] from hh)
          have D439 := zH (show Dig w433 w438 from hd)
          have S441 := zH (show Ext w419 w438 from Own.ext ho S437.out G436.out)
          clear hh hd ho
          refine ⟨S441.out, ?_⟩
          (try simp only [Act.put])
          refine mW 10 (bs 11 2047) (v := .int .i64 ey.up) S441.out ?hv442 ?rv442
          case hv442 => (intro w hSw; go_simp <;> with_reducible rfl)
          try simp only [Act.put, zA, zB, zC]
          refine wpAnyH_done (by kernel_rfl) ?_ _
          go_upto_region 24 with fail
          refine wp_region_lit ?_
          refine qV (.slice (some ⟨g348, 0, none⟩) (m + 1) cp349) ?_
          refine qV (.int .i64 ((q + 1 : Nat) : Int)) ?_
          try simp only [Act.put, zA, zB, zC]
          refine qV (.slice (some ⟨g348, 0, none⟩) (m + 1) cp349) ?_
          refine qV (.int .i64 ((q + 1 : Nat) : Int)) ?_
          try simp only [Act.put, zA, zB, zC]
          refine mv_val (v := .int .i64 (q : Int)) (w' := w438) (by rfl) (by exact ev_sub (by rfl) (by rfl) (by rfl) (by first | rfl | omega) (by have ob0 := HEL.out; have ob1 := HM.out.2; have ob4 := HXS.out; have ob5 := HYS.out; omega) (by have ob0 := HEL.out; have ob1 := HM.out.2; have ob4 := HXS.out; have ob5 := HYS.out; omega)) ?_
          try simp only [Act.put, zA, zB, zC]
          refine mv_val (v := .pointer (some ⟨g348, q * 4, none⟩)) (w' := w438) (by rfl) (by exact ev_index (k := q) (by rfl) Tryz.underlying41 (by kernel_rfl) (by rfl) (by rfl) (by omega) (show q < m + 1 by omega) (Nat.zero_add _).symm) ?_
          try simp only [Act.put, zA, zB, zC]
          refine mv_ld (by rfl) _ _ (by rfl) g348 (q * 4) [.bool ex.a.n, .slice ex.a.p ex.a.l ex.a.c, .bool ex.a.m, .slice ex.a.p2 ex.a.l2 ex.a.c2] (by rfl) (show World.rangeAt w438 g348 (q * 4) [.bool ex.a.n, .slice ex.a.p ex.a.l ex.a.c, .bool ex.a.m, .slice ex.a.p2 ex.a.l2 ex.a.c2] from (H439.out.elem (f := MkE.cx) (i := 1) (by rfl) MkE.cx_len GX.out)) Tryz.underlying27 (by rfl) (by kernel_rfl) ?_
          try simp only [Act.put, zA, zB, zC]
          refine mv_val (v := .pointer (some ⟨g348, (q + 1) * 4, none⟩)) (w' := w438) (by rfl) (by exact ev_index (k := q + 1) (by rfl) Tryz.underlying41 (by kernel_rfl) (by rfl) (by rfl) (by omega) (show q + 1 < m + 1 by omega) (Nat.zero_add _).symm) ?_
          try simp only [Act.put, zA, zB, zC]
          refine mv_stElem (f := MkE.cx) (by rfl) _ _ _ (by rfl) H439.out (ix := 1) (by rfl) MkE.cx_len (q + 1) ex HLY.out [.bool ex.a.n, .slice ex.a.p ex.a.l ex.a.c, .bool ex.a.m, .slice ex.a.p2 ex.a.l2 ex.a.c2] (by rfl) ((q + 1) * 4) (by rfl) (by rfl) (by rfl) (by kernel_rfl) (by simp [Value.oneCell']) (by simp [NoUL]) ?_
          intro w451 hh hd ho
          have H452 := zH (show Hp w w451 [.blk X1 27 [.bool ry.n, .slice ry.p ry.l ry.c, .bool ry.m, .slice ry.p2 ry.l2 ry.c2], .row 27 4 (.slice (some ⟨g348, 0, none⟩) (m + 1) cp349) (m + 1) (List.flatMap MkE.cx ((es.take (q + 1) ++ ey :: es.drop (q + 1)).set (q + 1) ex)), .row 3 1 (.slice (some ⟨g356, 0, none⟩) (m + 1) cp357) (m + 1) (List.flatMap MkE.cu (es.take (q + 1) ++ ey :: es.drop (q + 1))), .row 71 4 (.slice (some ⟨ge, 0, none⟩) ((edgesOf rs).length) ce) ((edgesOf rs).length) (List.flatMap edC (edgesOf rs)), .blk X47 53 [.int .i64 ax, .int .i64 ay], .blk Y48 53 [.int .i64 bx, .int .i64 bY], .blk X70 27 [.bool r68.n, .slice r68.p r68.l r68.c, .bool r68.m, .slice r68.p2 r68.l2 r68.c2], .blk Y71 27 [.bool r69.n, .slice r69.p r69.l r69.c, .bool r69.m, .slice r69.p2 r69.l2 r69.c2], .blk X337 27 [.bool r331.n, .slice r331.p r331.l r331.c, .bool r331.m, .slice r331.p2 r331.l2 r331.c2], .blk X432 27 [.bool ey.a.n, .slice ey.a.p ey.a.l ey.a.c, .bool ey.a.m, .slice ey.a.p2 ey.a.l2 ey.a.c2]] from hh)
          have D452 := zH (show Dig w438 w451 from hd)
          clear hh hd ho
          (try simp only [Act.put])
          go_upto_region 25 with fail
          refine wp_region_lit ?_
          refine qV (.slice (some ⟨g348, 0, none⟩) (m + 1) cp349) ?_
          refine qV (.int .i64 ((q + 1 : Nat) : Int)) ?_
          try simp only [Act.put, zA, zB, zC]
          refine mv_val (v := .int .i64 (q : Int)) (w' := w451) (by rfl) (by exact ev_sub (by rfl) (by rfl) (by rfl) (by first | rfl | omega) (by have ob0 := HEL.out; have ob1 := HM.out.2; have ob4 := HXS.out; have ob5 := HYS.out; omega) (by have ob0 := HEL.out; have ob1 := HM.out.2; have ob4 := HXS.out; have ob5 := HYS.out; omega)) ?_
          try simp only [Act.put, zA, zB, zC]
          refine mv_ld (by rfl) _ _ (by rfl) X432 (0) [.bool ey.a.n, .slice ey.a.p ey.a.l ey.a.c, .bool ey.a.m, .slice ey.a.p2 ey.a.l2 ey.a.c2] (by rfl) (show World.rangeAt w451 X432 (0) [.bool ey.a.n, .slice ey.a.p ey.a.l ey.a.c, .bool ey.a.m, .slice ey.a.p2 ey.a.l2 ey.a.c2] from (H452.out.range (i := 9) (by rfl) 0 4)) Tryz.underlying27 (by rfl) (by kernel_rfl) ?_
          try simp only [Act.put, zA, zB, zC]
          refine mv_val (v := .pointer (some ⟨g348, q * 4, none⟩)) (w' := w451) (by rfl) (by exact ev_index (k := q) (by rfl) Tryz.underlying41 (by kernel_rfl) (by rfl) (by rfl) (by omega) (show q < m + 1 by omega) (Nat.zero_add _).symm) ?_
          try simp only [Act.put, zA, zB, zC]
          refine mv_stElem (f := MkE.cx) (by rfl) _ _ _ (by rfl) H452.out (ix := 1) (by rfl) MkE.cx_len q ey (by rw [List.length_set]; exact HLX.out) [.bool ey.a.n, .slice ey.a.p ey.a.l ey.a.c, .bool ey.a.m, .slice ey.a.p2 ey.a.l2 ey.a.c2] (by rfl) (q * 4) (by rfl) (by rfl) (by rfl) (by kernel_rfl) (by simp [Value.oneCell']) (by simp [NoUL]) ?_
          intro w459 hh hd ho
          have H460 := zH (show Hp w w459 [.blk X1 27 [.bool ry.n, .slice ry.p ry.l ry.c, .bool ry.m, .slice ry.p2 ry.l2 ry.c2], .row 27 4 (.slice (some ⟨g348, 0, none⟩) (m + 1) cp349) (m + 1) (List.flatMap MkE.cx (((es.take (q + 1) ++ ey :: es.drop (q + 1)).set (q + 1) ex).set q ey)), .row 3 1 (.slice (some ⟨g356, 0, none⟩) (m + 1) cp357) (m + 1) (List.flatMap MkE.cu (es.take (q + 1) ++ ey :: es.drop (q + 1))), .row 71 4 (.slice (some ⟨ge, 0, none⟩) ((edgesOf rs).length) ce) ((edgesOf rs).length) (List.flatMap edC (edgesOf rs)), .blk X47 53 [.int .i64 ax, .int .i64 ay], .blk Y48 53 [.int .i64 bx, .int .i64 bY], .blk X70 27 [.bool r68.n, .slice r68.p r68.l r68.c, .bool r68.m, .slice r68.p2 r68.l2 r68.c2], .blk Y71 27 [.bool r69.n, .slice r69.p r69.l r69.c, .bool r69.m, .slice r69.p2 r69.l2 r69.c2], .blk X337 27 [.bool r331.n, .slice r331.p r331.l r331.c, .bool r331.m, .slice r331.p2 r331.l2 r331.c2], .blk X432 27 [.bool ey.a.n, .slice ey.a.p ey.a.l ey.a.c, .bool ey.a.m, .slice ey.a.p2 ey.a.l2 ey.a.c2]] from hh)
          have D460 := zH (show Dig w451 w459 from hd)
          clear hh hd ho
          (try simp only [Act.put])
          go_upto_region 26 with fail
          refine wp_region_lit ?_
          refine qV (.slice (some ⟨g356, 0, none⟩) (m + 1) cp357) ?_
          refine qV (.int .i64 ((q + 1 : Nat) : Int)) ?_
          try simp only [Act.put, zA, zB, zC]
          refine qV (.slice (some ⟨g356, 0, none⟩) (m + 1) cp357) ?_
          refine qV (.int .i64 ((q + 1 : Nat) : Int)) ?_
          try simp only [Act.put, zA, zB, zC]
          refine mv_val (v := .int .i64 (q : Int)) (w' := w459) (by rfl) (by exact ev_sub (by rfl) (by rfl) (by rfl) (by first | rfl | omega) (by have ob0 := HEL.out; have ob1 := HM.out.2; have ob4 := HXS.out; have ob5 := HYS.out; omega) (by have ob0 := HEL.out; have ob1 := HM.out.2; have ob4 := HXS.out; have ob5 := HYS.out; omega)) ?_
          try simp only [Act.put, zA, zB, zC]
          refine mv_val (v := .pointer (some ⟨g356, q * 1, none⟩)) (w' := w459) (by rfl) (by exact ev_index (k := q) (by rfl) Tryz.underlying42 (by kernel_rfl) (by rfl) (by rfl) (by omega) (show q < m + 1 by omega) (Nat.zero_add _).symm) ?_
          try simp only [Act.put, zA, zB, zC]
          refine mv_ld1 (g := g356) (o := q * 1) (v := .int .i64 ex.up) (by rfl) (show World.cell? w459 ⟨g356, q * 1, none⟩ = some (.int .i64 ex.up) from cell_of_range (H460.out.elem (f := MkE.cu) (i := 2) (by rfl) MkE.cu_len GX.out)) (by intro x hq; (try simp only [Nat.mul_one] at hq); go_simp <;> with_reducible rfl) ?_
          try simp only [Act.put, zA, zB, zC]
          refine mv_val (v := .pointer (some ⟨g356, (q + 1) * 1, none⟩)) (w' := w459) (by rfl) (by exact ev_index (k := q + 1) (by rfl) Tryz.underlying42 (by kernel_rfl) (by rfl) (by rfl) (by omega) (show q + 1 < m + 1 by omega) (Nat.zero_add _).symm) ?_
          try simp only [Act.put, zA, zB, zC]
          refine mv_stElem1 (f := MkE.cu) (by rfl) _ _ _ (by rfl) H460.out (ix := 2) (by rfl) MkE.cu_len (q + 1) ex HLY.out (.int .i64 ex.up) (by rfl) ((q + 1) * 1) (by rfl) (by rfl) (by rfl) (by kernel_rfl) (by simp [Value.cells]) (by simp [Value.oneCell']) (by simp [NoUL]) ?_
          intro w470 hh hd ho
          have H471 := zH (show Hp w w470 [.blk X1 27 [.bool ry.n, .slice ry.p ry.l ry.c, .bool ry.m, .slice ry.p2 ry.l2 ry.c2], .row 27 4 (.slice (some ⟨g348, 0, none⟩) (m + 1) cp349) (m + 1) (List.flatMap MkE.cx (((es.take (q + 1) ++ ey :: es.drop (q + 1)).set (q + 1) ex).set q ey)), .row 3 1 (.slice (some ⟨g356, 0, none⟩) (m + 1) cp357) (m + 1) (List.flatMap MkE.cu ((es.take (q + 1) ++ ey :: es.drop (q + 1)).set (q + 1) ex)), .row 71 4 (.slice (some ⟨ge, 0, none⟩) ((edgesOf rs).length) ce) ((edgesOf rs).length) (List.flatMap edC (edgesOf rs)), .blk X47 53 [.int .i64 ax, .int .i64 ay], .blk Y48 53 [.int .i64 bx, .int .i64 bY], .blk X70 27 [.bool r68.n, .slice r68.p r68.l r68.c, .bool r68.m, .slice r68.p2 r68.l2 r68.c2], .blk Y71 27 [.bool r69.n, .slice r69.p r69.l r69.c, .bool r69.m, .slice r69.p2 r69.l2 r69.c2], .blk X337 27 [.bool r331.n, .slice r331.p r331.l r331.c, .bool r331.m, .slice r331.p2 r331.l2 r331.c2], .blk X432 27 [.bool ey.a.n, .slice ey.a.p ey.a.l ey.a.c, .bool ey.a.m, .slice ey.a.p2 ey.a.l2 ey.a.c2]] from hh)
          have D471 := zH (show Dig w459 w470 from hd)
          clear hh hd ho
          (try simp only [Act.put])
          go_upto_region 27 with fail
          refine wp_region_lit ?_
          refine qV (.slice (some ⟨g356, 0, none⟩) (m + 1) cp357) ?_
          refine qV (.int .i64 ((q + 1 : Nat) : Int)) ?_
          try simp only [Act.put, zA, zB, zC]
          refine mv_val (v := .int .i64 (q : Int)) (w' := w470) (by rfl) (by exact ev_sub (by rfl) (by rfl) (by rfl) (by first | rfl | omega) (by have ob0 := HEL.out; have ob1 := HM.out.2; have ob4 := HXS.out; have ob5 := HYS.out; omega) (by have ob0 := HEL.out; have ob1 := HM.out.2; have ob4 := HXS.out; have ob5 := HYS.out; omega)) ?_
          try simp only [Act.put, zA, zB, zC]
          refine qV (.int .i64 ey.up) ?_
          try simp only [Act.put, zA, zB, zC]
          refine mv_val (v := .pointer (some ⟨g356, q * 1, none⟩)) (w' := w470) (by rfl) (by exact ev_index (k := q) (by rfl) Tryz.underlying42 (by kernel_rfl) (by rfl) (by rfl) (by omega) (show q < m + 1 by omega) (Nat.zero_add _).symm) ?_
          try simp only [Act.put, zA, zB, zC]
          refine mv_stElem1 (f := MkE.cu) (by rfl) _ _ _ (by rfl) H471.out (ix := 2) (by rfl) MkE.cu_len q ey (by rw [List.length_set]; exact HLX.out) (.int .i64 ey.up) (by rfl) (q * 1) (by rfl) (by rfl) (by rfl) (by kernel_rfl) (by simp [Value.cells]) (by simp [Value.oneCell']) (by simp [NoUL]) ?_
          intro w479 hh hd ho
          have H480 := zH (show Hp w w479 [.blk X1 27 [.bool ry.n, .slice ry.p ry.l ry.c, .bool ry.m, .slice ry.p2 ry.l2 ry.c2], .row 27 4 (.slice (some ⟨g348, 0, none⟩) (m + 1) cp349) (m + 1) (List.flatMap MkE.cx (((es.take (q + 1) ++ ey :: es.drop (q + 1)).set (q + 1) ex).set q ey)), .row 3 1 (.slice (some ⟨g356, 0, none⟩) (m + 1) cp357) (m + 1) (List.flatMap MkE.cu (((es.take (q + 1) ++ ey :: es.drop (q + 1)).set (q + 1) ex).set q ey)), .row 71 4 (.slice (some ⟨ge, 0, none⟩) ((edgesOf rs).length) ce) ((edgesOf rs).length) (List.flatMap edC (edgesOf rs)), .blk X47 53 [.int .i64 ax, .int .i64 ay], .blk Y48 53 [.int .i64 bx, .int .i64 bY], .blk X70 27 [.bool r68.n, .slice r68.p r68.l r68.c, .bool r68.m, .slice r68.p2 r68.l2 r68.c2], .blk Y71 27 [.bool r69.n, .slice r69.p r69.l r69.c, .bool r69.m, .slice r69.p2 r69.l2 r69.c2], .blk X337 27 [.bool r331.n, .slice r331.p r331.l r331.c, .bool r331.m, .slice r331.p2 r331.l2 r331.c2], .blk X432 27 [.bool ey.a.n, .slice ey.a.p ey.a.l ey.a.c, .bool ey.a.m, .slice ey.a.p2 ey.a.l2 ey.a.c2]] from hh)
          have D480 := zH (show Dig w470 w479 from hd)
          clear hh hd ho
          (try simp only [Act.put])
          go_upto_region 22 with fail
          refine wp_region_lit ?_
          refine qV (.int .i64 ((q + 1 : Nat) : Int)) ?_
          try simp only [Act.put, zA, zB, zC]
          refine mv_val (v := .int .i64 (q : Int)) (w' := w479) (by rfl) (by exact ev_sub (by rfl) (by rfl) (by rfl) (by first | rfl | omega) (by have ob0 := HEL.out; have ob1 := HM.out.2; have ob4 := HXS.out; have ob5 := HYS.out; omega) (by have ob0 := HEL.out; have ob1 := HM.out.2; have ob4 := HXS.out; have ob5 := HYS.out; omega)) ?_
          try simp only [Act.put, zA, zB, zC]
          refine qV (.int .i64 (q : Int)) ?_
          try simp only [Act.put, zA, zB, zC]
          have H485 := zH (show Hp w w479 [.blk X1 27 [.bool ry.n, .slice ry.p ry.l ry.c, .bool ry.m, .slice ry.p2 ry.l2 ry.c2], .row 27 4 (.slice (some ⟨g348, 0, none⟩) (m + 1) cp349) (m + 1) (List.flatMap MkE.cx (es.take q ++ ey :: es.drop q)), .row 3 1 (.slice (some ⟨g356, 0, none⟩) (m + 1) cp357) (m + 1) (List.flatMap MkE.cu (es.take q ++ ey :: es.drop q)), .row 71 4 (.slice (some ⟨ge, 0, none⟩) ((edgesOf rs).length) ce) ((edgesOf rs).length) (List.flatMap edC (edgesOf rs)), .blk X47 53 [.int .i64 ax, .int .i64 ay], .blk Y48 53 [.int .i64 bx, .int .i64 bY], .blk X70 27 [.bool r68.n, .slice r68.p r68.l r68.c, .bool r68.m, .slice r68.p2 r68.l2 r68.c2], .blk Y71 27 [.bool r69.n, .slice r69.p r69.l r69.c, .bool r69.m, .slice r69.p2 r69.l2 r69.c2], .blk X337 27 [.bool r331.n, .slice r331.p r331.l r331.c, .bool r331.m, .slice r331.p2 r331.l2 r331.c2], .blk X432 27 [.bool ey.a.n, .slice ey.a.p ey.a.l ey.a.c, .bool ey.a.m, .slice ey.a.p2 ey.a.l2 ey.a.c2]] from by rw [← GS.out]; exact H480.out)
          have DD486 := zH (((((((((D400.out.trans D420.out).trans D424.out).trans D434.out).trans D439.out).trans D452.out).trans D460.out).trans D471.out).trans D480.out))
          have DD487 := zH ((((((((((D371.out.trans D400.out).trans D420.out).trans D424.out).trans D434.out).trans D439.out).trans D452.out).trans D460.out).trans D471.out).trans D480.out))
          go_wp2_with fail
          go_roundg (m + 1 - (t + 1))
          case measure => exact (by have ob0 := HEL.out; have ob1 := HM.out.2; have ob4 := HXS.out; have ob5 := HYS.out; have ob6 := (show t < m + 1 by have h1 := HTU.out; omega); omega)
          case rel => exact ⟨t + 1, q, rfl, (by go_num), (by have h1 := HTU.out; omega), (fun z_ hz_ => (GZ.out z_ hz_).elim (fun h_ => by rw [h_]; exact CB.out) (HALL.out z_)), (fun g_ hg_ => by rw [← GS.out] at hg_; exact (List.mem_or_eq_of_mem_set hg_).elim (fun h_ => (List.mem_or_eq_of_mem_set h_).elim (fun h_ => (HOK2.out g_ h_).dig DD486.out) (fun h_ => by rw [h_]; exact OX.out.dig DD486.out)) (fun h_ => by rw [h_]; exact OY.out.dig DD486.out)), H485.out.take 9, DD487.out⟩
        ·have HU0 := zH c372
         clear c372
         obtain rfl : u = 0 := by have h := HU0.out; omega
         go_upto_region 21 with fail
         refine wp_region_held_drew (S := fun x => Ext w369 x) (by kernel_rfl) (Ext.refl _).drew (fun _ => ?_)
         have H488 := zH (H371.out.step (Ext.refl w369).drew)
         have D488 := zH (show Dig w369 w369.drew from Dig.of_ext (Ext.refl w369).drew)
         refine mW 0 (bs 23 1) (v := .int .i64 0) (Ext.refl _).drew ?hv490 ?rv490
         case hv490 => (intro w hSw; go_simp <;> with_reducible rfl)
         try simp only [Act.put, zA, zB, zC]
         refine mW 1 (bs 23 3) (v := .bool false) (Ext.refl _).drew ?hv491 ?rv491
         case hv491 => (intro w hSw; exact ev_gtr (by rfl) (by rfl) (by rfl) (dec_f (by have ob0 := HPT.out; have ob1 := HEL.out; have ob3 := HM.out.2; omega)))
         try simp only [Act.put, zA, zB, zC]
         refine mW 2 (bs 23 7) (v := .bool false) (Ext.refl _).drew ?hv492 ?rv492
         case hv492 => (intro w hSw; go_simp <;> with_reducible rfl)
         try simp only [Act.put, zA, zB, zC]
         refine mS 3 (bs 23 15) (Ext.refl _).drew ?_
         try simp only [Act.put, zA, zB, zC]
         refine mS 4 (bs 23 31) (Ext.refl _).drew ?_
         try simp only [Act.put, zA, zB, zC]
         refine mS 5 (bs 23 63) (Ext.refl _).drew ?_
         try simp only [Act.put, zA, zB, zC]
         refine mS 6 (bs 23 127) (Ext.refl _).drew ?_
         try simp only [Act.put, zA, zB, zC]
         refine mS 7 (bs 23 255) (Ext.refl _).drew ?_
         try simp only [Act.put, zA, zB, zC]
         refine mS 8 (bs 23 511) (Ext.refl _).drew ?_
         try simp only [Act.put, zA, zB, zC]
         refine mS 9 (bs 23 1023) (Ext.refl _).drew ?_
         try simp only [Act.put, zA, zB, zC]
         refine mS 10 (bs 23 2047) (Ext.refl _).drew ?_
         try simp only [Act.put, zA, zB, zC]
         refine mS 11 (bs 23 4095) (Ext.refl _).drew ?_
         try simp only [Act.put, zA, zB, zC]
         refine mS 12 (bs 23 8191) (Ext.refl _).drew ?_
         try simp only [Act.put, zA, zB, zC]
         refine mS 13 (bs 23 16383) (Ext.refl _).drew ?_
         try simp only [Act.put, zA, zB, zC]
         refine mS 14 (bs 23 32767) (Ext.refl _).drew ?_
         try simp only [Act.put, zA, zB, zC]
         refine mS 15 (bs 23 65535) (Ext.refl _).drew ?_
         try simp only [Act.put, zA, zB, zC]
         refine mS 16 (bs 23 131071) (Ext.refl _).drew ?_
         try simp only [Act.put, zA, zB, zC]
         refine mS 17 (bs 23 262143) (Ext.refl _).drew ?_
         try simp only [Act.put, zA, zB, zC]
         refine mS 18 (bs 23 524287) (Ext.refl _).drew ?_
         try simp only [Act.put, zA, zB, zC]
         refine mS 19 (bs 23 1048575) (Ext.refl _).drew ?_
         try simp only [Act.put, zA, zB, zC]
         refine mS 20 (bs 23 2097151) (Ext.refl _).drew ?_
         try simp only [Act.put, zA, zB, zC]
         refine mS 21 (bs 23 4194303) (Ext.refl _).drew ?_
         try simp only [Act.put, zA, zB, zC]
         refine mW 22 (bs 23 8388607) (v := .bool false) (Ext.refl _).drew ?hv493 ?rv493
         case hv493 => (intro w hSw; go_simp <;> with_reducible rfl)
         try simp only [Act.put, zA, zB, zC]
         refine wpAnyH_done (by kernel_rfl) ?_ _
         have H494 := zH (show Hp w w369.drew [.blk X1 27 [.bool ry.n, .slice ry.p ry.l ry.c, .bool ry.m, .slice ry.p2 ry.l2 ry.c2], .row 27 4 (.slice (some ⟨g348, 0, none⟩) (m + 1) cp349) (m + 1) (List.flatMap MkE.cx (Stb.ins ltK es ey)), .row 3 1 (.slice (some ⟨g356, 0, none⟩) (m + 1) cp357) (m + 1) (List.flatMap MkE.cu (Stb.ins ltK es ey)), .row 71 4 (.slice (some ⟨ge, 0, none⟩) ((edgesOf rs).length) ce) ((edgesOf rs).length) (List.flatMap edC (edgesOf rs)), .blk X47 53 [.int .i64 ax, .int .i64 ay], .blk Y48 53 [.int .i64 bx, .int .i64 bY], .blk X70 27 [.bool r68.n, .slice r68.p r68.l r68.c, .bool r68.m, .slice r68.p2 r68.l2 r68.c2], .blk Y71 27 [.bool r69.n, .slice r69.p r69.l r69.c, .bool r69.m, .slice r69.p2 r69.l2 r69.c2], .blk X337 27 [.bool r331.n, .slice r331.p r331.l r331.c, .bool r331.m, .slice r331.p2 r331.l2 r331.c2]] from by rw [Stb.ins_stop wkK HSRT.out HALL.out (Nat.zero_le _) (Or.inl rfl)]; exact H488.out)
         have DD495 := zH (((((((((((((((((((D35.out.trans D37.out).trans D50.out).trans D56.out).trans D60.out).trans D63.out).trans D73.out).trans D79.out).trans D83.out).trans D311.out).trans D319.out).trans D324.out).trans D332.out).trans D339.out).trans D343.out).trans D350.out).trans D358.out).trans D371.out).trans D488.out))
         go_wp2_with fail
         go_roundg ((edgesOf rs).length - (i + 1))
         case measure => exact (by have ob0 := HPT.out; have ob1 := HEL.out; have ob3 := HM.out.2; omega)
         case rel => exact ⟨i + 1, m + 1, Stb.ins ltK es ey, some ⟨g348, 0, none⟩, cp349, some ⟨g356, 0, none⟩, cp357, rfl, rfl, rfl, (by go_num), hlt, ⟨by rw [Stb.ins_len, HM.out.1], by have := HM.out.2; omega⟩, HINS.out, (fun g_ hg_ => by rw [Stb.ins_stop wkK HSRT.out HALL.out (Nat.zero_le _) (Or.inl rfl)] at hg_; exact ((HOK2.out g_ hg_).dig D488.out)), H494.out.take 4, DD495.out⟩
      ·have C4 := zH c316
       clear c316
       go_upto_region 14 with fail
       refine wp_region_lit ?_
       refine mv_ld (by rfl) _ _ (by rfl) Y71 (0) [.bool r69.n, .slice r69.p r69.l r69.c, .bool r69.m, .slice r69.p2 r69.l2 r69.c2] (by rfl) (show World.rangeAt w309 Y71 (0) [.bool r69.n, .slice r69.p r69.l r69.c, .bool r69.m, .slice r69.p2 r69.l2 r69.c2] from (H311.out.range (i := 7) (by rfl) 0 4)) Tryz.underlying27 (by rfl) (by kernel_rfl) ?_
       try simp only [Act.put, zA, zB, zC]
       refine mv_ld (by rfl) _ _ (by rfl) X1 (0) [.bool ry.n, .slice ry.p ry.l ry.c, .bool ry.m, .slice ry.p2 ry.l2 ry.c2] (by rfl) (show World.rangeAt w309 X1 (0) [.bool ry.n, .slice ry.p ry.l ry.c, .bool ry.m, .slice ry.p2 ry.l2 ry.c2] from (H311.out.range (i := 0) (by rfl) 0 4)) Tryz.underlying27 (by rfl) (by kernel_rfl) ?_
       try simp only [Act.put, zA, zB, zC]
       have DD497 := zH (((D79.out.trans D83.out).trans D311.out))
       refine mv_call (by rfl) (by go_simp) (less_any 60000 _ _ (((bY) : Int) : Rat) y _ (RV.Is.nin (R69.out.dig DD497.out) (Nat.le_trans B69.out (by omega))) (RV.In.nin (RV.In.mono (RY.out.dig H311.out.dig0) (by omega))) (by omega)) ?_
       rintro e w496 ⟨rfl, hx⟩
       have H498 := zH (H311.out.step hx)
       have D498 := zH (show Dig w309 w496 from Dig.of_ext hx)
       clear hx
       refine ⟨.bool true, by rw [dec_t C3.out], ?_⟩
       try simp only [Act.put, zA, zB, zC]
       refine qV (.bool true) ?_
       refine mv_ld (by rfl) _ _ (by rfl) X1 (0) [.bool ry.n, .slice ry.p ry.l ry.c, .bool ry.m, .slice ry.p2 ry.l2 ry.c2] (by rfl) (show World.rangeAt w496 X1 (0) [.bool ry.n, .slice ry.p ry.l ry.c, .bool ry.m, .slice ry.p2 ry.l2 ry.c2] from (H498.out.range (i := 0) (by rfl) 0 4)) Tryz.underlying27 (by rfl) (by kernel_rfl) ?_
       try simp only [Act.put, zA, zB, zC]
       refine mv_ld (by rfl) _ _ (by rfl) X70 (0) [.bool r68.n, .slice r68.p r68.l r68.c, .bool r68.m, .slice r68.p2 r68.l2 r68.c2] (by rfl) (show World.rangeAt w496 X70 (0) [.bool r68.n, .slice r68.p r68.l r68.c, .bool r68.m, .slice r68.p2 r68.l2 r68.c2] from (H498.out.range (i := 6) (by rfl) 0 4)) Tryz.underlying27 (by rfl) (by kernel_rfl) ?_
       try simp only [Act.put, zA, zB, zC]
       have DD502 := zH ((((D79.out.trans D83.out).trans D311.out).trans D498.out))
       refine mv_call (by rfl) (by go_simp) (less_any 60000 _ _ y (((ay) : Int) : Rat) _ (RV.In.nin (RV.In.mono (RY.out.dig H498.out.dig0) (by omega))) (RV.Is.nin (R68.out.dig DD502.out) (Nat.le_trans B68.out (by omega))) (by omega)) ?_
       rintro e w501 ⟨rfl, hx⟩
       have H503 := zH (H498.out.step hx)
       have D503 := zH (show Dig w496 w501 from Dig.of_ext hx)
       clear hx
       refine ⟨.bool false, by rw [dec_f C4.out], ?_⟩
       try simp only [Act.put, zA, zB, zC]
       refine qV (.bool false) ?_
       try simp only [Act.put, zA, zB, zC]
       go_upto_region 16 with fail
       refine wp_region_lit ?_
       refine qV (.int .i64 0) ?_
       try simp only [Act.put, zA, zB, zC]
       refine mv_val (v := .bool true) (w' := w501) (by rfl) (by exact ev_eql (by rfl) (by rfl) (by rfl) (dec_t (by have ob0 := HPT.out; have ob1 := HEL.out; have ob3 := HM.out.2; omega))) ?_
       try simp only [Act.put, zA, zB, zC]
       have DD508 := zH (((((((((((D37.out.trans D50.out).trans D56.out).trans D60.out).trans D63.out).trans D73.out).trans D79.out).trans D83.out).trans D311.out).trans D498.out).trans D503.out))
       have DD509 := zH ((((((((((((D35.out.trans D37.out).trans D50.out).trans D56.out).trans D60.out).trans D63.out).trans D73.out).trans D79.out).trans D83.out).trans D311.out).trans D498.out).trans D503.out))
       go_wp2_with fail
       go_roundg ((edgesOf rs).length - (i + 1))
       case measure => exact (by have ob0 := HPT.out; have ob1 := HEL.out; have ob3 := HM.out.2; omega)
       case rel => exact ⟨i + 1, m, es, A1, c1, A2, c2, rfl, rfl, rfl, (by go_num), hlt, ⟨HM.out.1, by have := HM.out.2; omega⟩, (by rw [HVL.out, crs_none HE.out (cross_no (a := (ax, ay)) (b := (bx, bY)) (fun h_ => C1.out h_.1) (fun h_ => C4.out h_.2))]), (fun g_ hg_ => (HOE.out g_ hg_).dig DD508.out), H503.out.take 4, DD509.out⟩
     ·have C3 := zH c315
      clear c315
      go_upto_region 14 with fail
      refine wp_region_lit ?_
      refine mv_ld (by rfl) _ _ (by rfl) Y71 (0) [.bool r69.n, .slice r69.p r69.l r69.c, .bool r69.m, .slice r69.p2 r69.l2 r69.c2] (by rfl) (show World.rangeAt w309 Y71 (0) [.bool r69.n, .slice r69.p r69.l r69.c, .bool r69.m, .slice r69.p2 r69.l2 r69.c2] from (H311.out.range (i := 7) (by rfl) 0 4)) Tryz.underlying27 (by rfl) (by kernel_rfl) ?_
      try simp only [Act.put, zA, zB, zC]
      refine mv_ld (by rfl) _ _ (by rfl) X1 (0) [.bool ry.n, .slice ry.p ry.l ry.c, .bool ry.m, .slice ry.p2 ry.l2 ry.c2] (by rfl) (show World.rangeAt w309 X1 (0) [.bool ry.n, .slice ry.p ry.l ry.c, .bool ry.m, .slice ry.p2 ry.l2 ry.c2] from (H311.out.range (i := 0) (by rfl) 0 4)) Tryz.underlying27 (by rfl) (by kernel_rfl) ?_
      try simp only [Act.put, zA, zB, zC]
      have DD511 := zH (((D79.out.trans D83.out).trans D311.out))
      refine mv_call (by rfl) (by go_simp) (less_any 60000 _ _ (((bY) : Int) : Rat) y _ (RV.Is.nin (R69.out.dig DD511.out) (Nat.le_trans B69.out (by omega))) (RV.In.nin (RV.In.mono (RY.out.dig H311.out.dig0) (by omega))) (by omega)) ?_
      rintro e w510 ⟨rfl, hx⟩
      have H512 := zH (H311.out.step hx)
      have D512 := zH (show Dig w309 w510 from Dig.of_ext hx)
      clear hx
      refine ⟨.bool false, by rw [dec_f C3.out], ?_⟩
      try simp only [Act.put, zA, zB, zC]
      refine qV (.bool false) ?_
      try simp only [Act.put, zA, zB, zC]
      refine mv_skip (by rfl) ?_
      try simp only [Act.put, zA, zB, zC]
      refine mv_skip (by rfl) ?_
      try simp only [Act.put, zA, zB, zC]
      refine mv_skip (by rfl) ?_
      try simp only [Act.put, zA, zB, zC]
      refine qV (.bool false) ?_
      try simp only [Act.put, zA, zB, zC]
      go_upto_region 16 with fail
      refine wp_region_lit ?_
      refine qV (.int .i64 0) ?_
      try simp only [Act.put, zA, zB, zC]
      refine mv_val (v := .bool true) (w' := w510) (by rfl) (by exact ev_eql (by rfl) (by rfl) (by rfl) (dec_t (by have ob0 := HPT.out; have ob1 := HEL.out; have ob3 := HM.out.2; omega))) ?_
      try simp only [Act.put, zA, zB, zC]
      have DD518 := zH ((((((((((D37.out.trans D50.out).trans D56.out).trans D60.out).trans D63.out).trans D73.out).trans D79.out).trans D83.out).trans D311.out).trans D512.out))
      have DD519 := zH (((((((((((D35.out.trans D37.out).trans D50.out).trans D56.out).trans D60.out).trans D63.out).trans D73.out).trans D79.out).trans D83.out).trans D311.out).trans D512.out))
      go_wp2_with fail
      go_roundg ((edgesOf rs).length - (i + 1))
      case measure => exact (by have ob0 := HPT.out; have ob1 := HEL.out; have ob3 := HM.out.2; omega)
      case rel => exact ⟨i + 1, m, es, A1, c1, A2, c2, rfl, rfl, rfl, (by go_num), hlt, ⟨HM.out.1, by have := HM.out.2; omega⟩, (by rw [HVL.out, crs_none HE.out (cross_no (a := (ax, ay)) (b := (bx, bY)) (fun h_ => C1.out h_.1) (fun h_ => C3.out h_.1))]), (fun g_ hg_ => (HOE.out g_ hg_).dig DD518.out), H512.out.take 4, DD519.out⟩
   ·have HLT := zH c36
    clear c36
    have hlt := HLT.out
    have hki := HKI.out
    obtain rfl : i = (edgesOf rs).length := by omega
    have hge : ¬ ((edgesOf rs).length : Int) < ((edgesOf rs).length : Int) := by omega
    go_upto_region 28 with fail
    refine wp_region_lit ?_
    refine qV (.slice A1 m c1) ?_
    refine qV (.slice A2 m c2) ?_
    try simp only [Act.put, zA, zB, zC]
    refine qV (.slice A1 m c1) ?_
    refine qV (.slice A2 m c2) ?_
    try simp only [Act.put, zA, zB, zC]
    go_wp2_with fail
    go_ret2
    unfold CrossRet
    exact ⟨A1, c1, A2, c2, m, es, rfl, HM.out.1, H35.out.row (i := 1) (by rfl), H35.out.row (i := 2) (by rfl), HOE.out, (by rw [HVL.out, List.take_length, marksV_of]), H35.out.ext⟩
 ·have HV := zH c18
  clear c18
  go_upto_region 3 with fail
  refine wp_region_lit ?_
  refine qV (u) ?_
  refine mv_call (by rfl) (by go_simp) (r16Valid_any _ rs _ (HU.out.ext H15.out.ext) HN.out HR.out) ?_
  rintro e w525 ⟨rfl, hx⟩
  have H526 := zH (H15.out.step hx)
  clear hx
  refine ⟨.bool false, by rw [Bool.eq_false_iff.2 HV.out], ?_⟩
  try simp only [Act.put, zA, zB, zC]
  refine qV (.bool true) ?_
  try simp only [Act.put, zA, zB, zC]
  go_upto_region 4 with fail
  refine wp_region_lit ?_
  refine qV (.slice (some ⟨X9, 0, none⟩) 0 0) ?_
  refine qV (.slice (some ⟨X14, 0, none⟩) 0 0) ?_
  try simp only [Act.put, zA, zB, zC]
  refine qV (.slice (some ⟨X9, 0, none⟩) 0 0) ?_
  refine qV (.slice (some ⟨X14, 0, none⟩) 0 0) ?_
  try simp only [Act.put, zA, zB, zC]
  go_wp2_with fail
  go_ret2
  unfold CrossRet
  exact ⟨some ⟨X9, 0, none⟩, 0, some ⟨X14, 0, none⟩, 0, 0, [], rfl, rfl, H526.out.row (i := 1) (by rfl), H526.out.row (i := 2) (by rfl), (by simp), (by rw [marksV_of, edgesOf_f HV.out]; rfl), H526.out.ext⟩
end Go.Proofs.YtaeeeailoiioaabGreat

namespace Go.Proofs.YtaeeeailoiioaabGreat
open Go.RowKit
attribute [local go_sem ↓] Go.wp_at_zero Go.wp_at_succ run_max_ii run_min_ii
def mtot (rs : List Ring) : Nat := (rs.map fun r => min r.length 1000).sum
def smPoly (rs : List Ring) : Bool := decide (rs.length ≤ 60) && decide (mtot rs ≤ 60)
theorem mtot_succ {rs : List Ring} {k : Nat} {r : Ring} (h : rs[k]? = some r) : mtot (rs.take (k + 1)) = mtot (rs.take k) + min r.length 1000 := by
  obtain ⟨hk, rfl⟩ := List.getElem?_eq_some_iff.1 h
  unfold mtot
  rw [List.take_succ_eq_append_getElem hk, List.map_append, List.sum_append]
  simp
theorem mtot_le (rs : List Ring) : mtot rs ≤ 1000 * rs.length := by
  induction rs with
  | nil => simp [mtot]
  | cons r rs ih =>
    unfold mtot at ih ⊢
    rw [List.map_cons, List.sum_cons, List.length_cons]
    have := Nat.min_le_right r.length 1000
    omega
theorem smPoly_out {rs : List Ring} (h : smPoly rs = true) : rs.length ≤ 60 ∧ mtot rs ≤ 60 := by
  unfold smPoly at h
  simpa using h
theorem wrap_add {n m : Nat} (h : n + m ≤ 4611686018427387904) : IntKind.i64.wrap ((n : Int) + (m : Int)) = ((n + m : Nat) : Int) := by
  rw [IntKind.wrap_i64]; omega
set_option maxRecDepth 20000 in
set_option maxHeartbeats 4000000 in
theorem smallPolygons_any (u : Value) (rs : List Ring) (w : World) (hu : RingsV w u rs) (hn : rs.length ≤ 9223372036854775807) :
    Calls Tryz.prog 17 #[u] w fun e w' => e = .returned (.bool (smPoly rs)) ∧ Ext w w' := by
  obtain ⟨A, cu, rfl, hA⟩ := hu
  have HA := zH hA
  have HN := zH hn
  clear hA
  go_enter Tryz.func17, Tryz.ntmps17
  go_wp2_with fail
  go_loopg [3, 7] rs.length (fun c s i wr => ∃ (k : Nat) (z : Int), k ≤ rs.length ∧ c = rs.length - k ∧ s = .int .i64 z ∧ i = .int .i64 k ∧ (rs.length ≤ 60 → z = (mtot (rs.take k) : Int)) ∧ Ext w wr)
  case atStart => exact ⟨0, 0, Nat.zero_le _, rfl, rfl, rfl, fun _ => rfl, Ext.refl _⟩
  case round =>
    obtain ⟨k, z, hk, rfl, rfl, rfl, hz0, hx⟩ := hrel
    have HX := zH hx
    have HZ := zH hz0
    clear hx hz0
    by_cases hlt : k < rs.length
    · have hlt2 : (k : Int) < (rs.length : Int) := by omega
      obtain ⟨r, hr⟩ : ∃ r, rs[k]? = some r := ⟨_, List.getElem?_eq_getElem hlt⟩
      obtain ⟨g, off, rfl, hp⟩ := HA.out (by omega)
      obtain ⟨B, cb, h1, -⟩ := hp k r hr
      have h2 := HX.out.get h1
      have HW := zH (show rs.length ≤ 60 → IntKind.i64.wrap (z + min (r.length : Int) 1000) = (mtot (rs.take (k + 1)) : Int) by
        intro h60
        have hz := mtot_succ hr
        have hz2 : mtot (rs.take k) ≤ 1000 * rs.length := Nat.le_trans (mtot_le _) (Nat.mul_le_mul_left _ (by rw [List.length_take]; omega))
        have hz3 : min r.length 1000 ≤ 1000 := Nat.min_le_right ..
        have hm : min (r.length : Int) 1000 = ((min r.length 1000 : Nat) : Int) := by omega
        rw [HZ.out h60, hm, hz]
        exact wrap_add (by omega))
      have HLT := zH hlt
      clear hp h1 hr
      go_wp2_with fail
      go_roundg (rs.length - (k + 1))
      case measure => have := HLT.out; omega
      case rel => exact ⟨k + 1, _, HLT.out, rfl, rfl, by go_num, by intro h_; have h := HW.out h_; rw [IntKind.wrap_i64] at h; unfold wrap64; exact h, HX.out⟩
    · obtain rfl : k = rs.length := by omega
      have hge : ¬ (rs.length : Int) < (rs.length : Int) := by omega
      rw [List.take_length] at *
      have hd : decide ((rs.length : Int) ≤ 60) = decide (rs.length ≤ 60) := decide_eq_decide.2 (by omega)
      have hd2 : decide ((mtot rs : Int) ≤ 60) = decide (mtot rs ≤ 60) := decide_eq_decide.2 (by omega)
      by_cases h1 : rs.length ≤ 60
      · obtain rfl : z = (mtot rs : Int) := HZ.out h1
        have h1z : (rs.length : Int) ≤ 60 := by omega
        have HS := zH (show smPoly rs = decide (mtot rs ≤ 60) by unfold smPoly; simp [h1])
        have HD := zH hd2
        clear hd hd2
        go_wp2_with fail
        go_ret
        exact ⟨by rw [HS.out, ← HD.out]; rfl, HX.out⟩
      · have h1z : ¬ (rs.length : Int) ≤ 60 := by omega
        have HS := zH (show smPoly rs = false by unfold smPoly; simp [h1])
        clear hd hd2
        go_wp2_with fail
        go_ret
        exact ⟨by rw [HS.out]; rfl, HX.out⟩
end Go.Proofs.YtaeeeailoiioaabGreat
