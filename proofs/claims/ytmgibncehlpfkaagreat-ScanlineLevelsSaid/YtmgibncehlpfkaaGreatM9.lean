/- Contracts that the claim stands on: XLevels to XSmPoly. -/
import Derived.Test.YtmgibncehlpfkaaGreatM8
namespace Go.Proofs.YtmgibncehlpfkaaGreat
open Go.RowKit
attribute [local go_sem ↓] Go.wp_at_zero Go.wp_at_succ run_max_ii run_min_ii
theorem marks_lt {y : Rat} {rs : List Ring} {ms : List MkE} {k : Nat} {e f : MkE} (hv : ms.map MkE.vl = marksV y rs) (he : ms[k]? = some e) (hf : ms[k + 1]? = some f) (h : ¬ e.q = f.q) : e.q < f.q := by
  have h1 := marks_sorted y rs
  rw [← hv, List.pairwise_map] at h1
  have hk := (List.getElem?_eq_some_iff.1 he)
  have hk2 := (List.getElem?_eq_some_iff.1 hf)
  have h2 : e.q ≤ f.q := by
    have := List.pairwise_iff_getElem.1 h1 k (k + 1) hk.1 hk2.1 (by omega)
    rw [hk.2, hk2.2] at this
    exact this
  grind
set_option maxRecDepth 20000 in
set_option maxHeartbeats 4000000 in
theorem levels_any (L : Nat) (u : Value) (rs : List Ring) (ry : RV) (y : Rat) (w : World) (hu : RingsV w u rs) (hy : ry.In L w y) (h1L : 1 ≤ L) (hL : L ≤ 2000) (hn : rs.length ≤ 100000) (hr : ∀ r, r ∈ rs → r.length ≤ 100000) :
  Calls Tryz.prog 7 #[u, .agg #[.bool ry.n, .slice ry.p ry.l ry.c, .bool ry.m, .slice ry.p2 ry.l2 ry.c2]] w (LevRet L rs y w) := by
 have HU := zH hu
 have HN := zH hn
 have HR := zH hr
 have RY := zH hy
 clear hu hy
 go_enter Tryz.func7, Tryz.ntmps7
 have H0 := zH (Hp.start w)
 go_upto_region 0 with fail
 refine wp_region_lit ?_
 refine mv_alloc (T := 27) (zs := [.bool ry.n, .slice ry.p ry.l ry.c, .bool ry.m, .slice ry.p2 ry.l2 ry.c2]) (by rfl) (by go_simp) H0.out (by simp [NoUL]) ?_
 intro X297 w298 hh hx hge
 have H299 := zH (show Hp w w298 [.blk X297 27 (rc ry)] from hh)
 clear hh hx hge
 try simp only [Act.put, zA, zB, zC]
 refine qV (.slice none 0 0) ?_
 refine zq (.slice none 0 0) ?_
 by_cases c304 : okR rs = true
 ·have HV := zH c304
  clear c304
  go_upto_region 1 with fail
  refine wp_region_lit ?_
  refine qV (u) ?_
  refine zc (polyValid_any _ rs _ (HU.out.ext H299.out.ext) HN.out HR.out) ?_
  rintro e w306 ⟨rfl, hx⟩
  have H307 := zH (H299.out.step hx)
  clear hx
  refine ⟨.bool true, by rw [HV.out], ?_⟩
  try simp only [Act.put, zA, zB, zC]
  refine zq (.bool false) ?_
  have H310 := zH (show Hp w w306 [.blk X297 27 (rc ry), ro 39 8 none 0 0 LvE.cs ([])] from H307.out.addNil 39 8)
  have H311 := zH (show Hp w w306 [.blk X297 27 (rc ry), ro 39 8 none 0 0 LvE.cs ([]), ro 3 1 none 0 0 LvE.cn ([])] from H310.out.addNil 3 1)
  go_upto_region 3 with fail
  refine wp_region_lit ?_
  refine zq (.slice none 0 0) ?_
  go_upto_region 4 with fail
  refine wp_region_lit ?_
  refine zq (.slice none 0 0) ?_
  go_upto_region 5 with fail
  refine wp_region_lit ?_
  refine zq (.int .i64 0) ?_
  go_upto_region 6 with fail
  refine wp_region_lit ?_
  refine qV (u) ?_
  refine zd X297 (0) (rc ry) (H311.out.range (i := 0) (by rfl) 0 4) Tryz.underlying27 ?_
  refine zc (marks_any L u rs ry y _ (HU.out.ext H311.out.ext) (RY.out.dig H311.out.dig0) h1L (by omega) hn hr) ?_
  rintro e w316 ⟨Am, nm_, cm, ms, rfl, rfl, hrow_, hok_, hval_, hx⟩
  have HVAL := zH hval_
  have HOK := zH hok_
  obtain ⟨Am2_, cm2_, hv_, hA_⟩ := RowN.form hrow_
  injection hv_ with e1_ _ _
  subst e1_
  have HA := zH hA_
  clear hval_ hok_ hA_
  have H317 := zH (show Hp w w316 [.blk X297 27 (rc ry), ro 39 8 none 0 0 LvE.cs ([]), ro 3 1 none 0 0 LvE.cn ([]), ro 54 5 Am ms.length cm MkE.cells ms] from H311.out.addRow hx hrow_)
  clear hrow_
  have hms4 : ms.length ≤ 4096 := by have h := marksV_len y rs; rw [← HVAL.out, List.length_map] at h; exact h
  clear hx
  refine zn ?_
  refine zq (.slice Am ms.length cm) ?_
  go_upto_region 7 with fail
  refine wp_region_lit ?_
  refine qV (.slice Am ms.length cm) ?_
  refine zq (.int .i64 ((ms.length : Nat) : Int)) ?_
  refine zq (.int .i64 0) ?_
  obtain ⟨qs, hqs⟩ : ∃ qs, qs = ms.map MkE.vl := ⟨_, rfl⟩
  have HQS := zH hqs
  have HQL := zH (show qs.length = ms.length by rw [hqs, List.length_map])
  clear hqs
  go_wp2_with fail
  go_loopg [6, 7, 8, 21] (ms.length) (fun cq v323 v324 v325 v326 wr => ∃ (k : Nat) (m : Nat) (es : List LvE) (A1 : Option Addr) (c1 : Nat) (A2 : Option Addr) (c2 : Nat) (s : Int), cq = ms.length - k ∧ v323 = .slice A1 m c1 ∧ v324 = .slice A2 m c2 ∧ v325 = .int .i64 s ∧ v326 = .int .i64 (k : Int) ∧ (k ≤ ms.length) ∧ (psum qs k = s) ∧ (-(k : Int) ≤ s ∧ s ≤ k) ∧ (m = es.length ∧ m ≤ k) ∧ (es.map LvE.vl = ((runs 0 qs).take k).foldl lvstep []) ∧ (∀ e, e ∈ es → e.Ok (L + 8) wr) ∧ Hp w wr [.blk X297 27 [.bool ry.n, .slice ry.p ry.l ry.c, .bool ry.m, .slice ry.p2 ry.l2 ry.c2], .row 39 8 (.slice A1 m c1) (m) (List.flatMap LvE.cs es), .row 3 1 (.slice A2 m c2) (m) (List.flatMap LvE.cn es), .row 54 5 (.slice Am ms.length cm) (ms.length) (List.flatMap MkE.cells ms)] ∧ Dig w316 wr)
  case atStart => exact ⟨0, 0, [], none, 0, none, 0, 0, rfl, rfl, rfl, rfl, rfl, Nat.zero_le _, rfl, ⟨by decide, by decide⟩, ⟨rfl, Nat.le_refl _⟩, rfl, (by simp), H317.out, Dig.refl _⟩
  case round =>
   obtain ⟨k, m, es, A1, c1, A2, c2, s, rfl, rfl, rfl, rfl, rfl, q_HK, q_HPV, q_HSM, q_HM, q_HLV, q_HOE, hh_, hd_⟩ := hrel
   generalize wr = w327 at *
   have HK := zH q_HK
   clear q_HK
   have HPV := zH q_HPV
   clear q_HPV
   have HSM := zH q_HSM
   clear q_HSM
   have HM := zH q_HM
   clear q_HM
   have HLV := zH q_HLV
   clear q_HLV
   have HOE := zH q_HOE
   clear q_HOE
   have H329 := zH hh_
   have D329 := zH hd_
   clear hh_ hd_ H317
   by_cases c330 : k < ms.length
   ·have HLT := zH c330
    clear c330
    have hlt := HLT.out
    have hk0 := HLT.out
    have hlt2 : (k : Int) < (ms.length : Int) := by omega
    obtain ⟨gm, rfl⟩ := HA.out (by omega)
    have hk4 : k ≤ 4096 := by omega
    have hm4 : m ≤ 4096 := by have := HM.out.2; omega
    obtain ⟨e, he_⟩ : ∃ e, ms[k]? = some e := ⟨_, List.getElem?_eq_getElem hlt⟩
    have HEe := zH he_
    have HOe := zH (HOK.out e (List.mem_of_getElem? he_))
    have RAe := zH HOe.out.1
    have BAe := zH HOe.out.2.1
    clear he_
    have hqk : qs[k]? = some e.vl := by rw [HQS.out, List.getElem?_map, HEe.out]; rfl
    have HPN := zH (show psum qs (k + 1) = s + e.up from by rw [psum_succ hqk, HPV.out]; rfl)
    have HQK := zH hqk
    clear hqk
    have HS2 := zH (show -(k + 1 : Int) ≤ s + e.up ∧ s + e.up ≤ k + 1 by have h1 := HSM.out; have h2 := HOe.out.2.2; omega)
    have hv331 := HS2.out.1
    have hv332 := HS2.out.2
    go_upto_region 9 with fail
    refine wp_region_lit ?_
    refine zq (.int .i64 (k : Int)) ?_
    refine zp (w' := w327) (.pointer (some ⟨gm, k * 5, none⟩)) (by exact ezi (k := k) Tryz.underlying51 (l := HLT.out) (f := (Nat.zero_add _).symm)) ?_
    refine zd gm (k * 5) [.bool e.a.n, .slice e.a.p e.a.l e.a.c, .bool e.a.m, .slice e.a.p2 e.a.l2 e.a.c2, .int .i64 e.up] (H329.out.elem (f := MkE.cells) (i := 3) (by rfl) MkE.len HEe.out) Tryz.underlying54 ?_
    refine mv_alloc (T := 54) (zs := [.bool false, .slice none 0 0, .bool false, .slice none 0 0, .int .i64 0]) (by rfl) (by go_simp) H329.out (by simp [NoUL]) ?_
    intro X335 w336 hh hx hge
    have H337 := zH (show Hp w w336 [.blk X297 27 (rc ry), ro 39 8 A1 m c1 LvE.cs es, ro 3 1 A2 m c2 LvE.cn es, ro 54 5 (some ⟨gm, 0, none⟩) ms.length cm MkE.cells ms, .blk X335 54 [.bool false, .slice none 0 0, .bool false, .slice none 0 0, .int .i64 0]] from hh)
    have D337 := zH (Dig.of_ext hx)
    clear hh hx hge
    try simp only [Act.put, zA, zB, zC]
    refine zq (.int .i64 (k : Int)) ?_
    refine mv_st (by rfl) _ _ _ (by rfl) H337.out (ix := 4) (by rfl) 0 [.bool e.a.n, .slice e.a.p e.a.l e.a.c, .bool e.a.m, .slice e.a.p2 e.a.l2 e.a.c2, .int .i64 e.up] (by rfl) (by rfl) (by simp) (by kernel_rfl) (by simp [Value.oneCell']) (by simp [NoUL]) ?_
    intro w341 hh hd ho
    have H342 := zH (show Hp w w341 [.blk X297 27 (rc ry), ro 39 8 A1 m c1 LvE.cs es, ro 3 1 A2 m c2 LvE.cn es, ro 54 5 (some ⟨gm, 0, none⟩) ms.length cm MkE.cells ms, .blk X335 54 [.bool e.a.n, .slice e.a.p e.a.l e.a.c, .bool e.a.m, .slice e.a.p2 e.a.l2 e.a.c2, .int .i64 e.up]] from hh)
    have D342 := zH (hd)
    clear hh hd ho
    (try simp only [Act.put])
    go_upto_region 10 with fail
    refine wp_region_lit ?_
    refine qV (.int .i64 s) ?_
    refine zq (.pointer (some ⟨X335, 4, none⟩)) ?_
    refine ze X335 4 (.int .i64 e.up) (H342.out.range (i := 4) (by rfl) 4 1) ?_
    refine zp (w' := w341) (.int .i64 (s + e.up)) (by exact ez1 (by omega)) ?_
    refine zq (.int .i64 (s + e.up)) ?_
    by_cases c348 : k + 1 = ms.length
    ·have CK := zH c348
     clear c348
     have hkl := CK.out
     go_upto_region 11 with fail
     refine zy ?_
     have H349 := zH (H342.out.step (Ext.refl w341).drew)
     have D349 := zH (Dig.of_ext (w := w341) zb)
     refine zx 0 (bs 21 1) (.int .i64 (k : Int)) zb ?_
     refine zu 1 (bs 21 3) (v := .int .i64 ((k + 1 : Nat) : Int)) zb ?_ (hv := by intro w hSw; exact ez1 (by omega))
     refine zx 2 (bs 21 7) (.slice (some ⟨gm, 0, none⟩) ms.length cm) zb ?_
     refine zx 3 (bs 21 15) (.int .i64 ((ms.length : Nat) : Int)) zb ?_
     refine zu 4 (bs 21 31) (v := .bool true) zb ?_ (hv := by intro w hSw; exact ezq (e := (dec_t (by omega))))
     refine zx 5 (bs 21 63) (.bool true) zb ?_
     refine zs 6 (bs 21 127) zb ?_
     refine zs 7 (bs 21 255) zb ?_
     refine zx 8 (bs 21 511) (.bool true) zb ?_
     refine zx 9 (bs 21 1023) (.bool true) zb ?_
     refine zs 10 (bs 21 2047) zb ?_
     refine zs 11 (bs 21 4095) zb ?_
     refine zs 12 (bs 21 8191) zb ?_
     refine zs 13 (bs 21 16383) zb ?_
     refine zs 14 (bs 21 32767) zb ?_
     refine zs 15 (bs 21 65535) zb ?_
     refine zs 16 (bs 21 131071) zb ?_
     refine zs 17 (bs 21 262143) zb ?_
     refine zs 18 (bs 21 524287) zb ?_
     refine zs 19 (bs 21 1048575) zb ?_
     refine zx 20 (bs 21 2097151) (.bool true) zb ?_
     refine wpAnyH_done (by kernel_rfl) ?_ _
     have DD360 := zH (((D337.out.trans D342.out).trans D349.out))
     have DD361 := zH ((((D329.out.trans D337.out).trans D342.out).trans D349.out))
     go_wp2_with fail
     go_roundg (ms.length - (k + 1))
     case measure => exact (by omega)
     case rel => exact ⟨k + 1, m, es, A1, c1, A2, c2, s + e.up, rfl, rfl, rfl, (by first | rfl | (congr 1)), (by go_num), hk0, HPN.out, (by have h_ := HS2.out; constructor <;> omega), ⟨HM.out.1, by have := HM.out.2; omega⟩, (by rw [HLV.out, List.take_of_length_le (show (runs 0 qs).length ≤ k by rw [runs_len]; have h_ := HQL.out; omega), List.take_of_length_le (show (runs 0 qs).length ≤ k + 1 by rw [runs_len]; have h_ := HQL.out; omega)]), (fun g_ hg_ => (HOE.out g_ hg_).dig DD360.out), H349.out.take 4, DD361.out⟩
    have CK := zH c348
    clear c348
    have hk1 : k + 1 < ms.length := by have := CK.out; omega
    obtain ⟨f, he_⟩ : ∃ f, ms[k + 1]? = some f := ⟨_, List.getElem?_eq_getElem hk1⟩
    have HEf := zH he_
    have HOf := zH (HOK.out f (List.mem_of_getElem? he_))
    have RAf := zH HOf.out.1
    have BAf := zH HOf.out.2.1
    clear he_
    have HRG := zH (runs_get qs 0 k e.vl f.vl HQK.out (by rw [HQS.out, List.getElem?_map, HEf.out]; rfl))
    have HRN := zH (show -(0 + psum qs (k + 1)) = -(s + e.up) by rw [HPN.out]; omega)
    by_cases c362 : s + e.up = 0
    ·have C0 := zH c362
     clear c362
     go_upto_region 11 with fail
     refine zy ?_
     have H363 := zH (H342.out.step (Ext.refl w341).drew)
     have D363 := zH (Dig.of_ext (w := w341) zb)
     refine zx 0 (bs 21 1) (.int .i64 (k : Int)) zb ?_
     refine zu 1 (bs 21 3) (v := .int .i64 ((k + 1 : Nat) : Int)) zb ?_ (hv := by intro w hSw; exact ez1 (by omega))
     refine zx 2 (bs 21 7) (.slice (some ⟨gm, 0, none⟩) ms.length cm) zb ?_
     refine zx 3 (bs 21 15) (.int .i64 ((ms.length : Nat) : Int)) zb ?_
     refine zu 4 (bs 21 31) (v := .bool false) zb ?_ (hv := by intro w hSw; exact ezq (e := (dec_f (by omega))))
     refine zx 5 (bs 21 63) (.bool false) zb ?_
     refine zx 6 (bs 21 127) (.int .i64 (s + e.up)) zb ?_
     refine zu 7 (bs 21 255) (v := .bool true) zb ?_ (hv := by intro w hSw; exact ezq (e := (dec_t C0.out)))
     refine zx 8 (bs 21 511) (.bool true) zb ?_
     refine zx 9 (bs 21 1023) (.bool true) zb ?_
     refine zs 10 (bs 21 2047) zb ?_
     refine zs 11 (bs 21 4095) zb ?_
     refine zs 12 (bs 21 8191) zb ?_
     refine zs 13 (bs 21 16383) zb ?_
     refine zs 14 (bs 21 32767) zb ?_
     refine zs 15 (bs 21 65535) zb ?_
     refine zs 16 (bs 21 131071) zb ?_
     refine zs 17 (bs 21 262143) zb ?_
     refine zs 18 (bs 21 524287) zb ?_
     refine zs 19 (bs 21 1048575) zb ?_
     refine zx 20 (bs 21 2097151) (.bool true) zb ?_
     refine wpAnyH_done (by kernel_rfl) ?_ _
     have DD376 := zH (((D337.out.trans D342.out).trans D363.out))
     have DD377 := zH ((((D329.out.trans D337.out).trans D342.out).trans D363.out))
     go_wp2_with fail
     go_roundg (ms.length - (k + 1))
     case measure => exact (by omega)
     case rel => exact ⟨k + 1, m, es, A1, c1, A2, c2, s + e.up, rfl, rfl, rfl, (by first | rfl | (congr 1)), (by go_num), hk0, HPN.out, (by have h_ := HS2.out; constructor <;> omega), ⟨HM.out.1, by have := HM.out.2; omega⟩, (by rw [lv_take HRG.out, lvstep_skip (.inl (show 0 + psum qs (k + 1) = 0 by have h1 := HRN.out; have h2 := C0.out; omega))]; exact HLV.out), (fun g_ hg_ => (HOE.out g_ hg_).dig DD376.out), H363.out.take 4, DD377.out⟩
    have C0 := zH c362
    clear c362
    by_cases c378 : e.q = f.q
    ·have C1 := zH c378
     clear c378
     go_upto_region 11 with fail
     refine zy ?_
     have H379 := zH (H342.out.step (Ext.refl w341).drew)
     have D379 := zH (Dig.of_ext (w := w341) zb)
     refine zx 0 (bs 21 1) (.int .i64 (k : Int)) zb ?_
     refine zu 1 (bs 21 3) (v := .int .i64 ((k + 1 : Nat) : Int)) zb ?_ (hv := by intro w hSw; exact ez1 (by omega))
     refine zx 2 (bs 21 7) (.slice (some ⟨gm, 0, none⟩) ms.length cm) zb ?_
     refine zx 3 (bs 21 15) (.int .i64 ((ms.length : Nat) : Int)) zb ?_
     refine zu 4 (bs 21 31) (v := .bool false) zb ?_ (hv := by intro w hSw; exact ezq (e := (dec_f (by omega))))
     refine zx 5 (bs 21 63) (.bool false) zb ?_
     refine zx 6 (bs 21 127) (.int .i64 (s + e.up)) zb ?_
     refine zu 7 (bs 21 255) (v := .bool false) zb ?_ (hv := by intro w hSw; exact ezq (e := (dec_f C0.out)))
     refine zx 8 (bs 21 511) (.bool false) zb ?_
     refine zx 9 (bs 21 1023) (.bool false) zb ?_
     refine mX 10 (bs 21 2047) (.pointer (some ⟨X335, 0, none⟩)) zb ?_
     refine zg 11 (bs 21 4095) X335 (0) (rc e.a) (H342.out.range (i := 4) (by rfl) 0 4) Tryz.underlying27 zb ?_
     refine zx 12 (bs 21 8191) (.slice (some ⟨gm, 0, none⟩) ms.length cm) zb ?_
     refine zx 13 (bs 21 16383) (.int .i64 (k : Int)) zb ?_
     refine zu 14 (bs 21 32767) (v := .int .i64 ((k + 1 : Nat) : Int)) zb ?_ (hv := by intro w hSw; exact ez1 (by omega))
     refine zu 15 (bs 21 65535) (v := .pointer (some ⟨gm, (k + 1) * 5, none⟩)) zb ?_ (hv := by intro w hSw; exact ezi (k := k + 1) Tryz.underlying51 (l := hk1) (f := (Nat.zero_add _).symm))
     refine mX 16 (bs 21 131071) (.pointer (some ⟨gm, (k + 1) * 5, none⟩)) zb ?_
     refine zg 17 (bs 21 262143) gm ((k + 1) * 5) (rc f.a) (range_part (H342.out.elem (f := MkE.cells) (i := 3) (by rfl) MkE.len HEf.out) 0 4) Tryz.underlying27 zb ?_
     have DD398 := zH ((((D329.out.trans D337.out).trans D342.out).trans D379.out))
     refine mC 18 (bs 21 524287) (pCmp (L := 60000) (RV.Is.nin (RAe.out.dig DD398.out) (Nat.le_trans BAe.out (by omega))) (RV.Is.nin (RAf.out.dig DD398.out) (Nat.le_trans BAf.out (by omega))) (by omega)) ?_
     rintro e w397 ⟨rfl, hx⟩
     have H399 := zH (H379.out.step hx)
     have D399 := zH (show Dig w341.drew w397 from Dig.of_ext hx)
     have S401 := zH (show Ext w341 w397 from zb.trans hx)
     clear hx
     refine zm S401.out ?_
     refine zu 19 (bs 21 1048575) (v := .bool true) S401.out ?_ (hv := by intro w hSw; exact ezq (e := (dec_t (rcmp_eq_i.2 C1.out))))
     refine zx 20 (bs 21 2097151) (.bool true) S401.out ?_
     refine wpAnyH_done (by kernel_rfl) ?_ _
     have DD404 := zH ((((D337.out.trans D342.out).trans D379.out).trans D399.out))
     have DD405 := zH ((DD398.out.trans D399.out))
     go_wp2_with fail
     go_roundg (ms.length - (k + 1))
     case measure => exact (by omega)
     case rel => exact ⟨k + 1, m, es, A1, c1, A2, c2, s + e.up, rfl, rfl, rfl, (by first | rfl | (congr 1)), (by go_num), hk0, HPN.out, (by have h_ := HS2.out; constructor <;> omega), ⟨HM.out.1, by have := HM.out.2; omega⟩, (by rw [lv_take HRG.out, lvstep_skip (.inr (fun h_ => by have h1 : e.q < f.q := h_; rw [C1.out] at h1; exact absurd h1 (Rat.lt_irrefl)))]; exact HLV.out), (fun g_ hg_ => (HOE.out g_ hg_).dig DD404.out), H399.out.take 4, DD405.out⟩
    have C1 := zH c378
    clear c378
    go_upto_region 11 with fail
    refine zy ?_
    have H406 := zH (H342.out.step (Ext.refl w341).drew)
    have D406 := zH (Dig.of_ext (w := w341) zb)
    refine zx 0 (bs 21 1) (.int .i64 (k : Int)) zb ?_
    refine zu 1 (bs 21 3) (v := .int .i64 ((k + 1 : Nat) : Int)) zb ?_ (hv := by intro w hSw; exact ez1 (by omega))
    refine zx 2 (bs 21 7) (.slice (some ⟨gm, 0, none⟩) ms.length cm) zb ?_
    refine zx 3 (bs 21 15) (.int .i64 ((ms.length : Nat) : Int)) zb ?_
    refine zu 4 (bs 21 31) (v := .bool false) zb ?_ (hv := by intro w hSw; exact ezq (e := (dec_f (by omega))))
    refine zx 5 (bs 21 63) (.bool false) zb ?_
    refine zx 6 (bs 21 127) (.int .i64 (s + e.up)) zb ?_
    refine zu 7 (bs 21 255) (v := .bool false) zb ?_ (hv := by intro w hSw; exact ezq (e := (dec_f C0.out)))
    refine zx 8 (bs 21 511) (.bool false) zb ?_
    refine zx 9 (bs 21 1023) (.bool false) zb ?_
    refine mX 10 (bs 21 2047) (.pointer (some ⟨X335, 0, none⟩)) zb ?_
    refine zg 11 (bs 21 4095) X335 (0) (rc e.a) (H342.out.range (i := 4) (by rfl) 0 4) Tryz.underlying27 zb ?_
    refine zx 12 (bs 21 8191) (.slice (some ⟨gm, 0, none⟩) ms.length cm) zb ?_
    refine zx 13 (bs 21 16383) (.int .i64 (k : Int)) zb ?_
    refine zu 14 (bs 21 32767) (v := .int .i64 ((k + 1 : Nat) : Int)) zb ?_ (hv := by intro w hSw; exact ez1 (by omega))
    refine zu 15 (bs 21 65535) (v := .pointer (some ⟨gm, (k + 1) * 5, none⟩)) zb ?_ (hv := by intro w hSw; exact ezi (k := k + 1) Tryz.underlying51 (l := hk1) (f := (Nat.zero_add _).symm))
    refine mX 16 (bs 21 131071) (.pointer (some ⟨gm, (k + 1) * 5, none⟩)) zb ?_
    refine zg 17 (bs 21 262143) gm ((k + 1) * 5) (rc f.a) (range_part (H342.out.elem (f := MkE.cells) (i := 3) (by rfl) MkE.len HEf.out) 0 4) Tryz.underlying27 zb ?_
    have DD425 := zH ((((D329.out.trans D337.out).trans D342.out).trans D406.out))
    refine mC 18 (bs 21 524287) (pCmp (L := 60000) (RV.Is.nin (RAe.out.dig DD425.out) (Nat.le_trans BAe.out (by omega))) (RV.Is.nin (RAf.out.dig DD425.out) (Nat.le_trans BAf.out (by omega))) (by omega)) ?_
    rintro e w424 ⟨rfl, hx⟩
    have H426 := zH (H406.out.step hx)
    have D426 := zH (show Dig w341.drew w424 from Dig.of_ext hx)
    have S428 := zH (show Ext w341 w424 from zb.trans hx)
    clear hx
    refine zm S428.out ?_
    refine zu 19 (bs 21 1048575) (v := .bool false) S428.out ?_ (hv := by intro w hSw; exact ezq (e := (dec_f (fun hh => C1.out (rcmp_eq_i.1 hh)))))
    refine zx 20 (bs 21 2097151) (.bool false) S428.out ?_
    refine wpAnyH_done (by kernel_rfl) ?_ _
    have HLT2 := zH (show e.q < f.q from marks_lt HVAL.out HEe.out HEf.out C1.out)
    have HNS := zH (show ¬ (((e.vl.1, f.vl.1), 0 + psum qs (k + 1)).2 = 0 ∨ ¬ ((e.vl.1, f.vl.1), 0 + psum qs (k + 1)).1.1 < ((e.vl.1, f.vl.1), 0 + psum qs (k + 1)).1.2) from fun h_ => h_.elim (fun h_ => by have h1 := HRN.out; have h2 := C0.out; have h3 : 0 + psum qs (k + 1) = 0 := h_; omega) (fun h_ => h_ HLT2.out))
    rcases lv_snoc es with rfl | ⟨es0, l, rfl⟩
    ·obtain rfl : m = 0 := HM.out.1
     go_upto_region 12 with fail
     refine wp_region_lit ?_
     refine qV (.slice A1 0 c1) ?_
     refine zq (.int .i64 0) ?_
     refine zq (.int .i64 0) ?_
     go_upto_region 13 with fail
     refine zy ?_
     have H434 := zH (H426.out.step (Ext.refl w424).drew)
     have D434 := zH (Dig.of_ext (w := w424) zb)
     refine zx 0 (bs 24 1) (.int .i64 0) zb ?_
     refine zu 1 (bs 24 3) (v := .bool false) zb ?_ (hv := by intro w hSw; exact ezg (e := (dec_f (by omega))))
     refine zx 2 (bs 24 7) (.bool false) zb ?_
     refine zs 3 (bs 24 15) zb ?_
     refine zs 4 (bs 24 31) zb ?_
     refine zs 5 (bs 24 63) zb ?_
     refine zs 6 (bs 24 127) zb ?_
     refine zs 7 (bs 24 255) zb ?_
     refine zs 8 (bs 24 511) zb ?_
     refine zs 9 (bs 24 1023) zb ?_
     refine zs 10 (bs 24 2047) zb ?_
     refine zx 11 (bs 24 4095) (.bool false) zb ?_
     refine zx 12 (bs 24 8191) (.bool false) zb ?_
     refine zs 13 (bs 24 16383) zb ?_
     refine zs 14 (bs 24 32767) zb ?_
     refine zs 15 (bs 24 65535) zb ?_
     refine zs 16 (bs 24 131071) zb ?_
     refine zs 17 (bs 24 262143) zb ?_
     refine zs 18 (bs 24 524287) zb ?_
     refine zs 19 (bs 24 1048575) zb ?_
     refine zs 20 (bs 24 2097151) zb ?_
     refine zs 21 (bs 24 4194303) zb ?_
     refine zs 22 (bs 24 8388607) zb ?_
     refine zx 23 (bs 24 16777215) (.bool false) zb ?_
     refine wpAnyH_done (by kernel_rfl) ?_ _
     go_upto_region 15 with fail
     refine wp_region_held_drew (S := fun x => Fr (fun kz => Value.ownBlock (.slice A1 0 c1) = some kz) w424.drew x) (by kernel_rfl) (Fr.of_ext zb) (fun _ => ?_)
     have H442 := zH (H434.out.step (Ext.refl w424.drew).drew)
     have D442 := zH (show Dig w424.drew w424.drew.drew from Dig.of_ext (Ext.refl w424.drew).drew)
     refine zx 0 (bs 15 1) (.slice A1 0 c1) (Fr.of_ext zb) ?_
     refine mX 1 (bs 15 3) (.pointer (some ⟨X335, 0, none⟩)) (Fr.of_ext zb) ?_
     refine zr 2 (bs 15 7) X335 (0) [.bool e.a.n, .slice e.a.p e.a.l e.a.c, .bool e.a.m, .slice e.a.p2 e.a.l2 e.a.c2] (fun x hx => Fr.range hx (show World.rangeAt w424.drew X335 (0) [.bool e.a.n, .slice e.a.p e.a.l e.a.c, .bool e.a.m, .slice e.a.p2 e.a.l2 e.a.c2] from (H434.out.range (i := 4) (by rfl) 0 4)) (H434.out.offRow (i := 4) (j := 1) (by rfl) (by rfl) (by decide) (by rfl))) Tryz.underlying27 (Fr.of_ext zb) ?_
     refine zx 4 (bs 15 23) (.slice (some ⟨gm, 0, none⟩) ms.length cm) (Fr.of_ext zb) ?_
     refine zx 5 (bs 15 55) (.int .i64 (k : Int)) (Fr.of_ext zb) ?_
     refine zu 6 (bs 15 119) (v := .int .i64 ((k + 1 : Nat) : Int)) (Fr.of_ext zb) ?_ (hv := by intro w hSw; exact ez1 (by omega))
     refine zu 7 (bs 15 247) (v := .pointer (some ⟨gm, (k + 1) * 5, none⟩)) (Fr.of_ext zb) ?_ (hv := by intro w hSw; exact ezi (k := k + 1) Tryz.underlying51 (l := hk1) (f := (Nat.zero_add _).symm))
     refine mX 8 (bs 15 503) (.pointer (some ⟨gm, (k + 1) * 5, none⟩)) (Fr.of_ext zb) ?_
     refine zr 9 (bs 15 1015) gm ((k + 1) * 5) [.bool f.a.n, .slice f.a.p f.a.l f.a.c, .bool f.a.m, .slice f.a.p2 f.a.l2 f.a.c2] (fun x hx => Fr.range hx (show World.rangeAt w424.drew gm ((k + 1) * 5) [.bool f.a.n, .slice f.a.p f.a.l f.a.c, .bool f.a.m, .slice f.a.p2 f.a.l2 f.a.c2] from (range_part (H434.out.elem (f := MkE.cells) (i := 3) (by rfl) MkE.len HEf.out) 0 4)) (H434.out.offRow (i := 3) (j := 1) (by rfl) (by rfl) (by decide) (by rfl))) Tryz.underlying27 (Fr.of_ext zb) ?_
     have DD453 := zH ((((DD425.out.trans D426.out).trans D434.out).trans D442.out))
     refine mC 3 (bs 15 1023) (pNorm (L := 60000) (RV.Is.nin (RAe.out.dig DD453.out) (Nat.le_trans BAe.out (by omega))) (by omega)) ?_
     rintro e w451 ⟨c_, rfl, hc_, hx⟩
     have H454 := zH (H442.out.step hx)
     have D454 := zH (show Dig w424.drew.drew w451 from Dig.of_ext hx)
     have S457 := zH (show Fr (fun kz => Value.ownBlock (.slice A1 0 c1) = some kz) w424.drew w451 from (Fr.of_ext zb).trans (Fr.of_ext hx))
     obtain ⟨r452, rfl, hr_⟩ := hc_
     have R452 := zH hr_
     have B452 := zH BAe.out
     clear hr_
     clear hx
     refine zm S457.out ?_
     have DD460 := zH ((DD453.out.trans D454.out))
     refine mC 10 (bs 15 2047) (pNorm (L := 60000) (RV.Is.nin (RAf.out.dig DD460.out) (Nat.le_trans BAf.out (by omega))) (by omega)) ?_
     rintro e w458 ⟨c_, rfl, hc_, hx⟩
     have H461 := zH (H454.out.step hx)
     have D461 := zH (Dig.of_ext hx)
     have S464 := zH (show Fr (fun kz => Value.ownBlock (.slice A1 0 c1) = some kz) w424.drew w458 from S457.out.trans (Fr.of_ext hx))
     obtain ⟨r459, rfl, hr_⟩ := hc_
     have R459 := zH hr_
     have B459 := zH BAf.out
     clear hr_
     clear hx
     refine zm S464.out ?_
     refine zx 11 (bs 15 4095) (.agg #[.bool r452.n, .slice r452.p r452.l r452.c, .bool r452.m, .slice r452.p2 r452.l2 r452.c2, .bool r459.n, .slice r459.p r459.l r459.c, .bool r459.m, .slice r459.p2 r459.l2 r459.c2]) S464.out ?_
     refine mU 12 (bs 15 8191) (v := .slice (some ⟨w458.heap.size, 0, none⟩) 1 1) (w' := (w458.alloc (.cells ([.bool r452.n, .slice r452.p r452.l r452.c, .bool r452.m, .slice r452.p2 r452.l2 r452.c2, .bool r459.n, .slice r459.p r459.l r459.c, .bool r459.m, .slice r459.p2 r459.l2 r459.c2] : List Value).toArray 39))) (S464.out.trans (Fr.of_ext ((Ext.refl w458).alloc _))) ?_
     try simp only [Act.put, zA, zB, zC]
     refine md_app (j := 13) (listed' := (bs 15 16383)) (by rfl) (by kernel_rfl) (by rfl) _ _ _ (by rfl) elSpan (by rfl) H461.out (ix := 1) (by rfl) 1 1 [.bool r452.n, .slice r452.p r452.l r452.c, .bool r452.m, .slice r452.p2 r452.l2 r452.c2, .bool r459.n, .slice r459.p r459.l r459.c, .bool r459.m, .slice r459.p2 r459.l2 r459.c2] (by rfl) rfl (by simp [Value.oneCell']) (by simp [NoUL]) (by decide) (by unfold maxLen; exact (by omega)) (by omega) (by kernel_rfl) ?_
     intro g467 cp468 w466 hf hh hd hg
     have Fg467 := zH hf
     clear hf
     rw [show List.flatMap LvE.cs ([]) ++ [.bool r452.n, .slice r452.p r452.l r452.c, .bool r452.m, .slice r452.p2 r452.l2 r452.c2, .bool r459.n, .slice r459.p r459.l r459.c, .bool r459.m, .slice r459.p2 r459.l2 r459.c2] = _ from flat_snoc LvE.cs _ (⟨r452, r459, e.q, f.q, -(s + e.up)⟩ : LvE)] at hh
     have H469 := zH (show Hp w w466 [.blk X297 27 (rc ry), ro 39 8 (some ⟨g467, 0, none⟩) 1 cp468 LvE.cs (([]) ++ [(⟨r452, r459, e.q, f.q, -(s + e.up)⟩ : LvE)]), ro 3 1 A2 0 c2 LvE.cn ([]), ro 54 5 (some ⟨gm, 0, none⟩) ms.length cm MkE.cells ms, .blk X335 54 [.bool e.a.n, .slice e.a.p e.a.l e.a.c, .bool e.a.m, .slice e.a.p2 e.a.l2 e.a.c2, .int .i64 e.up]] from hh)
     have D469 := zH (hd)
     have S471 := zH (show Fr (fun kz => Value.ownBlock (.slice A1 0 c1) = some kz) w424.drew w466 from Fr.trans_new (S464.out.trans (Fr.of_ext ((Ext.refl _).alloc _))) hg (fun j hj => .inl hj))
     clear hh hd hg
     refine ⟨S471.out, ?_⟩
     try simp only [Act.put, zA, zB, zC]
     refine zx 14 (bs 15 32767) (.slice (some ⟨g467, 0, none⟩) 1 cp468) S471.out ?_
     refine wpAnyH_done (by kernel_rfl) ?_ _
     go_upto_region 16 with fail
     refine wp_region_lit ?_
     refine qV (.slice A2 0 c2) ?_
     refine zq (.int .i64 (s + e.up)) ?_
     refine zp (w' := w466) (.int .i64 (-(s + e.up))) (by exact ev_neg (by rfl) (by rfl) rfl (by omega) (by omega)) ?_
     refine zp (w' := (w466.alloc (.cells ([.int .i64 (-(s + e.up))] : List Value).toArray 3))) (.slice (some ⟨w466.heap.size, 0, none⟩) 1 1) (by go_simp) ?_
     refine mv_app (by rfl) _ _ _ (by rfl) elInt (by rfl) H469.out (ix := 2) (by rfl) 1 1 [.int .i64 (-(s + e.up))] (by rfl) rfl (by simp [Value.oneCell']) (by simp [NoUL]) (by decide) (by unfold maxLen; exact (by omega)) (by omega) ?_
     intro g477 cp478 w476 hf hh hd hg
     have Fg477 := zH hf
     clear hf
     rw [show List.flatMap LvE.cn ([]) ++ [.int .i64 (-(s + e.up))] = _ from flat_snoc LvE.cn _ (⟨r452, r459, e.q, f.q, -(s + e.up)⟩ : LvE)] at hh
     have H479 := zH (show Hp w w476 [.blk X297 27 (rc ry), ro 39 8 (some ⟨g467, 0, none⟩) 1 cp468 LvE.cs (([]) ++ [(⟨r452, r459, e.q, f.q, -(s + e.up)⟩ : LvE)]), ro 3 1 (some ⟨g477, 0, none⟩) 1 cp478 LvE.cn (([]) ++ [(⟨r452, r459, e.q, f.q, -(s + e.up)⟩ : LvE)]), ro 54 5 (some ⟨gm, 0, none⟩) ms.length cm MkE.cells ms, .blk X335 54 [.bool e.a.n, .slice e.a.p e.a.l e.a.c, .bool e.a.m, .slice e.a.p2 e.a.l2 e.a.c2, .int .i64 e.up]] from hh)
     have D479 := zH (hd)
     clear hh hd hg
     try simp only [Act.put, zA, zB, zC]
     refine zq (.slice (some ⟨g477, 0, none⟩) 1 cp478) ?_
     have DD482 := zH ((((((((((D337.out.trans D342.out).trans D406.out).trans D426.out).trans D434.out).trans D442.out).trans D454.out).trans D461.out).trans D469.out).trans D479.out))
     have DD483 := zH (((D461.out.trans D469.out).trans D479.out))
     have DD484 := zH ((D469.out.trans D479.out))
     have HOKN := zH (show LvE.Ok (L + 8) w476 (⟨r452, r459, e.q, f.q, -(s + e.up)⟩ : LvE) from ⟨(R452.out.dig DD483.out), (R459.out.dig DD484.out), B452.out, B459.out, (by have h_ := HS2.out; show -100000 ≤ -(s + e.up); omega), (by have h_ := HS2.out; show -(s + e.up) ≤ 100000; omega)⟩)
     have DD485 := zH ((((DD460.out.trans D461.out).trans D469.out).trans D479.out))
     go_wp2_with fail
     go_roundg (ms.length - (k + 1))
     case measure => exact (by omega)
     case rel => exact ⟨k + 1, 1, [] ++ [(⟨r452, r459, e.q, f.q, -(s + e.up)⟩ : LvE)], some ⟨g467, 0, none⟩, cp468, some ⟨g477, 0, none⟩, cp478, s + e.up, rfl, rfl, rfl, (by first | rfl | (congr 1)), (by go_num), hk0, HPN.out, (by have h_ := HS2.out; constructor <;> omega), ⟨by simp, by have := HM.out.2; omega⟩, (by rw [lv_take HRG.out, ← HLV.out]; refine Eq.trans ?_ (lvstep_nil HNS.out).symm; show [((e.q, f.q), -(s + e.up))] = [((e.q, f.q), -(0 + psum qs (k + 1)))]; rw [HRN.out]), (fun g_ hg_ => (List.mem_append.1 hg_).elim (fun hg_ => (HOE.out g_ hg_).dig DD482.out) (fun hg_ => by rw [List.mem_singleton.1 hg_]; exact HOKN.out)), H479.out.take 4, DD485.out⟩
    obtain rfl : m = es0.length + 1 := by have h_ := HM.out.1; simpa using h_
    have hml2 := HM.out.2
    obtain ⟨Ax_, cx_, hv_, hA_⟩ := RowN.form (H426.out.row (i := 1) (by rfl))
    injection hv_ with e1_ e2_ e3_
    subst e1_ e3_
    obtain ⟨gs, rfl⟩ := hA_ (by omega)
    clear e2_
    obtain ⟨Ax_, cx_, hv_, hA_⟩ := RowN.form (H426.out.row (i := 2) (by rfl))
    injection hv_ with e1_ e2_ e3_
    subst e1_ e3_
    obtain ⟨gn, rfl⟩ := hA_ (by omega)
    clear e2_
    have HOl := zH (HOE.out l (by simp))
    have RAl := zH HOl.out.1
    have RBl := zH HOl.out.2.1
    have BAl := zH HOl.out.2.2.1
    have BBl := zH HOl.out.2.2.2.1
    have HEl := zH (show (es0 ++ [l])[es0.length]? = some l by simp)
    have hml2 := HM.out.2
    go_upto_region 12 with fail
    refine wp_region_lit ?_
    refine qV (.slice (some ⟨gs, 0, none⟩) (es0.length + 1) c1) ?_
    refine zq (.int .i64 ((es0.length + 1 : Nat) : Int)) ?_
    refine zq (.int .i64 ((es0.length + 1 : Nat) : Int)) ?_
    by_cases c489 : l.n = -(s + e.up)
    ·have CA := zH c489
     clear c489
     by_cases c490 : l.q = e.q
     ·have CB := zH c490
      clear c490
      have CL := zH (And.intro CA.out CB.out)
      go_upto_region 13 with fail
      refine zy ?_
      have H491 := zH (H426.out.step (Ext.refl w424).drew)
      have D491 := zH (Dig.of_ext (w := w424) zb)
      refine zx 0 (bs 24 1) (.int .i64 ((es0.length + 1 : Nat) : Int)) zb ?_
      refine zu 1 (bs 24 3) (v := .bool true) zb ?_ (hv := by intro w hSw; exact ezg (e := (dec_t (by omega))))
      refine zx 2 (bs 24 7) (.bool true) zb ?_
      refine zx 3 (bs 24 15) (.slice (some ⟨gn, 0, none⟩) (es0.length + 1) c2) zb ?_
      refine zx 4 (bs 24 31) (.int .i64 ((es0.length + 1 : Nat) : Int)) zb ?_
      refine zu 5 (bs 24 63) (v := .int .i64 ((es0.length : Nat) : Int)) zb ?_ (hv := by intro w hSw; exact ez2 (by omega))
      refine zu 6 (bs 24 127) (v := .pointer (some ⟨gn, es0.length * 1, none⟩)) zb ?_ (hv := by intro w hSw; exact ezi (k := es0.length) Tryz.underlying32 (l := (by omega)) (f := (Nat.zero_add _).symm))
      refine zf 7 (bs 24 255) gn (es0.length * 1) (.int .i64 l.n) (H426.out.elem (f := LvE.cn) (i := 2) (by rfl) LvE.cn_len HEl.out) zb ?_
      refine zx 8 (bs 24 511) (.int .i64 (s + e.up)) zb ?_
      refine zu 9 (bs 24 1023) (v := .int .i64 (-(s + e.up))) zb ?_ (hv := by intro w hSw; exact ev_neg (by rfl) (by rfl) rfl (by omega) (by omega))
      refine zu 10 (bs 24 2047) (v := .bool true) zb ?_ (hv := by intro w hSw; exact ezq (e := (dec_t CA.out)))
      refine zx 11 (bs 24 4095) (.bool true) zb ?_
      refine zx 12 (bs 24 8191) (.bool true) zb ?_
      refine zx 13 (bs 24 16383) (.slice (some ⟨gs, 0, none⟩) (es0.length + 1) c1) zb ?_
      refine zx 14 (bs 24 32767) (.int .i64 ((es0.length + 1 : Nat) : Int)) zb ?_
      refine zu 15 (bs 24 65535) (v := .int .i64 ((es0.length : Nat) : Int)) zb ?_ (hv := by intro w hSw; exact ez2 (by omega))
      refine zu 16 (bs 24 131071) (v := .pointer (some ⟨gs, es0.length * 8, none⟩)) zb ?_ (hv := by intro w hSw; exact ezi (k := es0.length) Tryz.underlying31 (l := (by omega)) (f := (Nat.zero_add _).symm))
      refine mX 17 (bs 24 262143) (.pointer (some ⟨gs, es0.length * 8 + 4, none⟩)) zb ?_
      refine zg 18 (bs 24 524287) gs (es0.length * 8 + 4) (rc l.b) (range_part (H426.out.elem (f := LvE.cs) (i := 1) (by rfl) LvE.cs_len HEl.out) 4 4) Tryz.underlying27 zb ?_
      refine mX 19 (bs 24 1048575) (.pointer (some ⟨X335, 0, none⟩)) zb ?_
      refine zg 20 (bs 24 2097151) X335 (0) (rc e.a) (H426.out.range (i := 4) (by rfl) 0 4) Tryz.underlying27 zb ?_
      have DD512 := zH (((((D337.out.trans D342.out).trans D406.out).trans D426.out).trans D491.out))
      have DD513 := zH (((DD425.out.trans D426.out).trans D491.out))
      refine mC 21 (bs 24 4194303) (pCmp (L := 60000) (RV.Is.nin (RBl.out.dig DD512.out) (Nat.le_trans BBl.out (by omega))) (RV.Is.nin (RAe.out.dig DD513.out) (Nat.le_trans BAe.out (by omega))) (by omega)) ?_
      rintro e w511 ⟨rfl, hx⟩
      have H514 := zH (H491.out.step hx)
      have D514 := zH (show Dig w424.drew w511 from Dig.of_ext hx)
      have S516 := zH (show Ext w424 w511 from zb.trans hx)
      clear hx
      refine zm S516.out ?_
      refine zu 22 (bs 24 8388607) (v := .bool true) S516.out ?_ (hv := by intro w hSw; exact ezq (e := (dec_t (rcmp_eq_i.2 CB.out))))
      refine zx 23 (bs 24 16777215) (.bool true) S516.out ?_
      refine wpAnyH_done (by kernel_rfl) ?_ _
      go_upto_region 14 with fail
      refine wp_region_lit ?_
      refine qV (.slice (some ⟨gs, 0, none⟩) (es0.length + 1) c1) ?_
      refine zq (.int .i64 ((es0.length + 1 : Nat) : Int)) ?_
      refine zp (w' := w511) (.int .i64 ((es0.length : Nat) : Int)) (by exact ez2 (by omega)) ?_
      refine qV (.slice (some ⟨gm, 0, none⟩) ms.length cm) ?_
      refine zq (.int .i64 (k : Int)) ?_
      refine zp (w' := w511) (.int .i64 ((k + 1 : Nat) : Int)) (by exact ez1 (by omega)) ?_
      refine zp (w' := w511) (.pointer (some ⟨gm, (k + 1) * 5, none⟩)) (by exact ezi (k := k + 1) Tryz.underlying51 (l := hk1) (f := (Nat.zero_add _).symm)) ?_
      refine qV (.pointer (some ⟨gm, (k + 1) * 5, none⟩)) ?_
      refine zd gm ((k + 1) * 5) (rc f.a) (range_part (H514.out.elem (f := MkE.cells) (i := 3) (by rfl) MkE.len HEf.out) 0 4) Tryz.underlying27 ?_
      have DD529 := zH ((DD513.out.trans D514.out))
      refine zc (pNorm (L := 60000) (RV.Is.nin (RAf.out.dig DD529.out) (Nat.le_trans BAf.out (by omega))) (by omega)) ?_
      rintro e w527 ⟨c_, rfl, hc_, hx⟩
      have H530 := zH (H514.out.step hx)
      have D530 := zH (Dig.of_ext hx)
      obtain ⟨r528, rfl, hr_⟩ := hc_
      have R528 := zH hr_
      have B528 := zH BAf.out
      clear hr_
      clear hx
      refine zn ?_
      refine zp (w' := w527) (.pointer (some ⟨gs, es0.length * 8, none⟩)) (by exact ezi (k := es0.length) Tryz.underlying31 (l := (by omega)) (f := (Nat.zero_add _).symm)) ?_
      refine zq (.pointer (some ⟨gs, es0.length * 8 + 4, none⟩)) ?_
      refine mv_stPart (f := LvE.cs) (by rfl) _ _ _ (by rfl) H530.out (ix := 1) (by rfl) LvE.cs_len es0.length l (⟨l.a, r528, l.p, f.q, l.n⟩ : LvE) HEl.out 4 [.bool r528.n, .slice r528.p r528.l r528.c, .bool r528.m, .slice r528.p2 r528.l2 r528.c2] (by simp) (by rfl) (es0.length * 8 + 4) (by rfl) (by rfl) (by rfl) (by kernel_rfl) (by simp [Value.oneCell']) (by simp [NoUL]) ?_
      intro w535 hh hd ho
      have H536 := zH (show Hp w w535 [.blk X297 27 (rc ry), ro 39 8 (some ⟨gs, 0, none⟩) (es0.length + 1) c1 LvE.cs ((es0 ++ [l]).set es0.length (⟨l.a, r528, l.p, f.q, l.n⟩ : LvE)), ro 3 1 (some ⟨gn, 0, none⟩) (es0.length + 1) c2 LvE.cn (es0 ++ [l]), ro 54 5 (some ⟨gm, 0, none⟩) ms.length cm MkE.cells ms, .blk X335 54 [.bool e.a.n, .slice e.a.p e.a.l e.a.c, .bool e.a.m, .slice e.a.p2 e.a.l2 e.a.c2, .int .i64 e.up]] from hh)
      have D536 := zH (hd)
      clear hh hd ho
      (try simp only [Act.put])
      have H538 := zH (show Hp w w535 [.blk X297 27 (rc ry), ro 39 8 (some ⟨gs, 0, none⟩) (es0.length + 1) c1 LvE.cs (es0 ++ [(⟨l.a, r528, l.p, f.q, l.n⟩ : LvE)]), ro 3 1 (some ⟨gn, 0, none⟩) (es0.length + 1) c2 LvE.cn (es0 ++ [(⟨l.a, r528, l.p, f.q, l.n⟩ : LvE)]), ro 54 5 (some ⟨gm, 0, none⟩) ms.length cm MkE.cells ms, .blk X335 54 [.bool e.a.n, .slice e.a.p e.a.l e.a.c, .bool e.a.m, .slice e.a.p2 e.a.l2 e.a.c2, .int .i64 e.up]] from by have h_ : Hp w w535 [.blk X297 27 [.bool ry.n, .slice ry.p ry.l ry.c, .bool ry.m, .slice ry.p2 ry.l2 ry.c2], .row 39 8 (.slice (some ⟨gs, 0, none⟩) (es0.length + 1) c1) (es0.length + 1) (List.flatMap LvE.cs ((es0 ++ [l]).set es0.length (⟨l.a, r528, l.p, f.q, l.n⟩ : LvE))), .row 3 1 (.slice (some ⟨gn, 0, none⟩) (es0.length + 1) c2) (es0.length + 1) (List.flatMap LvE.cn (es0 ++ [l])), .row 54 5 (.slice (some ⟨gm, 0, none⟩) ms.length cm) (ms.length) (List.flatMap MkE.cells ms), .blk X335 54 [.bool e.a.n, .slice e.a.p e.a.l e.a.c, .bool e.a.m, .slice e.a.p2 e.a.l2 e.a.c2, .int .i64 e.up]] := H536.out; rw [lv_setlast, lv_cnset (l := l) (z := (⟨l.a, r528, l.p, f.q, l.n⟩ : LvE)) rfl] at h_; exact h_)
      have DD539 := zH ((((DD512.out.trans D514.out).trans D530.out).trans D536.out))
      have HOKN := zH (show LvE.Ok (L + 8) w535 (⟨l.a, r528, l.p, f.q, l.n⟩ : LvE) from ⟨(RAl.out.dig DD539.out), (R528.out.dig D536.out), BAl.out, B528.out, HOl.out.2.2.2.2.1, HOl.out.2.2.2.2.2⟩)
      have DD540 := zH (((DD529.out.trans D530.out).trans D536.out))
      go_wp2_with fail
      go_roundg (ms.length - (k + 1))
      case measure => exact (by omega)
      case rel => exact ⟨k + 1, es0.length + 1, es0 ++ [(⟨l.a, r528, l.p, f.q, l.n⟩ : LvE)], some ⟨gs, 0, none⟩, c1, some ⟨gn, 0, none⟩, c2, s + e.up, rfl, rfl, rfl, (by first | rfl | (congr 1)), (by go_num), hk0, HPN.out, (by have h_ := HS2.out; constructor <;> omega), ⟨by simp, by have := HM.out.2; omega⟩, (by rw [lv_take HRG.out, ← HLV.out, List.map_append, List.map_append]; exact (lvstep_grow (l := l.vl) (r := ((e.vl.1, f.vl.1), 0 + psum qs (k + 1))) HNS.out ⟨CL.out.1.trans HRN.out.symm, CL.out.2⟩).symm), (fun g_ hg_ => (List.mem_append.1 hg_).elim (fun hg_ => (HOE.out g_ (List.mem_append.2 (.inl hg_))).dig DD539.out) (fun hg_ => by rw [List.mem_singleton.1 hg_]; exact HOKN.out)), H538.out.take 4, DD540.out⟩
     have CB := zH c490
     clear c490
     have CL := zH (show ¬ (l.n = -(s + e.up) ∧ l.q = e.q) from fun h_ => CB.out h_.2)
     go_upto_region 13 with fail
     refine zy ?_
     have H541 := zH (H426.out.step (Ext.refl w424).drew)
     have D541 := zH (Dig.of_ext (w := w424) zb)
     refine zx 0 (bs 24 1) (.int .i64 ((es0.length + 1 : Nat) : Int)) zb ?_
     refine zu 1 (bs 24 3) (v := .bool true) zb ?_ (hv := by intro w hSw; exact ezg (e := (dec_t (by omega))))
     refine zx 2 (bs 24 7) (.bool true) zb ?_
     refine zx 3 (bs 24 15) (.slice (some ⟨gn, 0, none⟩) (es0.length + 1) c2) zb ?_
     refine zx 4 (bs 24 31) (.int .i64 ((es0.length + 1 : Nat) : Int)) zb ?_
     refine zu 5 (bs 24 63) (v := .int .i64 ((es0.length : Nat) : Int)) zb ?_ (hv := by intro w hSw; exact ez2 (by omega))
     refine zu 6 (bs 24 127) (v := .pointer (some ⟨gn, es0.length * 1, none⟩)) zb ?_ (hv := by intro w hSw; exact ezi (k := es0.length) Tryz.underlying32 (l := (by omega)) (f := (Nat.zero_add _).symm))
     refine zf 7 (bs 24 255) gn (es0.length * 1) (.int .i64 l.n) (H426.out.elem (f := LvE.cn) (i := 2) (by rfl) LvE.cn_len HEl.out) zb ?_
     refine zx 8 (bs 24 511) (.int .i64 (s + e.up)) zb ?_
     refine zu 9 (bs 24 1023) (v := .int .i64 (-(s + e.up))) zb ?_ (hv := by intro w hSw; exact ev_neg (by rfl) (by rfl) rfl (by omega) (by omega))
     refine zu 10 (bs 24 2047) (v := .bool true) zb ?_ (hv := by intro w hSw; exact ezq (e := (dec_t CA.out)))
     refine zx 11 (bs 24 4095) (.bool true) zb ?_
     refine zx 12 (bs 24 8191) (.bool true) zb ?_
     refine zx 13 (bs 24 16383) (.slice (some ⟨gs, 0, none⟩) (es0.length + 1) c1) zb ?_
     refine zx 14 (bs 24 32767) (.int .i64 ((es0.length + 1 : Nat) : Int)) zb ?_
     refine zu 15 (bs 24 65535) (v := .int .i64 ((es0.length : Nat) : Int)) zb ?_ (hv := by intro w hSw; exact ez2 (by omega))
     refine zu 16 (bs 24 131071) (v := .pointer (some ⟨gs, es0.length * 8, none⟩)) zb ?_ (hv := by intro w hSw; exact ezi (k := es0.length) Tryz.underlying31 (l := (by omega)) (f := (Nat.zero_add _).symm))
     refine mX 17 (bs 24 262143) (.pointer (some ⟨gs, es0.length * 8 + 4, none⟩)) zb ?_
     refine zg 18 (bs 24 524287) gs (es0.length * 8 + 4) (rc l.b) (range_part (H426.out.elem (f := LvE.cs) (i := 1) (by rfl) LvE.cs_len HEl.out) 4 4) Tryz.underlying27 zb ?_
     refine mX 19 (bs 24 1048575) (.pointer (some ⟨X335, 0, none⟩)) zb ?_
     refine zg 20 (bs 24 2097151) X335 (0) (rc e.a) (H426.out.range (i := 4) (by rfl) 0 4) Tryz.underlying27 zb ?_
     have DD562 := zH (((((D337.out.trans D342.out).trans D406.out).trans D426.out).trans D541.out))
     have DD563 := zH (((DD425.out.trans D426.out).trans D541.out))
     refine mC 21 (bs 24 4194303) (pCmp (L := 60000) (RV.Is.nin (RBl.out.dig DD562.out) (Nat.le_trans BBl.out (by omega))) (RV.Is.nin (RAe.out.dig DD563.out) (Nat.le_trans BAe.out (by omega))) (by omega)) ?_
     rintro e w561 ⟨rfl, hx⟩
     have H564 := zH (H541.out.step hx)
     have D564 := zH (show Dig w424.drew w561 from Dig.of_ext hx)
     have S566 := zH (show Ext w424 w561 from zb.trans hx)
     clear hx
     refine zm S566.out ?_
     refine zu 22 (bs 24 8388607) (v := .bool false) S566.out ?_ (hv := by intro w hSw; exact ezq (e := (dec_f (fun hh => CB.out (rcmp_eq_i.1 hh)))))
     refine zx 23 (bs 24 16777215) (.bool false) S566.out ?_
     refine wpAnyH_done (by kernel_rfl) ?_ _
     go_upto_region 15 with fail
     refine wp_region_held_drew (S := fun x => Fr (fun kz => Value.ownBlock (.slice (some ⟨gs, 0, none⟩) (es0.length + 1) c1) = some kz) w561 x) (by kernel_rfl) (Fr.of_ext zb) (fun _ => ?_)
     have H569 := zH (H564.out.step (Ext.refl w561).drew)
     have D569 := zH (Dig.of_ext (w := w561) zb)
     refine zx 0 (bs 15 1) (.slice (some ⟨gs, 0, none⟩) (es0.length + 1) c1) (Fr.of_ext zb) ?_
     refine mX 1 (bs 15 3) (.pointer (some ⟨X335, 0, none⟩)) (Fr.of_ext zb) ?_
     refine zr 2 (bs 15 7) X335 (0) [.bool e.a.n, .slice e.a.p e.a.l e.a.c, .bool e.a.m, .slice e.a.p2 e.a.l2 e.a.c2] (fun x hx => Fr.range hx (show World.rangeAt w561 X335 (0) [.bool e.a.n, .slice e.a.p e.a.l e.a.c, .bool e.a.m, .slice e.a.p2 e.a.l2 e.a.c2] from (H564.out.range (i := 4) (by rfl) 0 4)) (H564.out.offRow (i := 4) (j := 1) (by rfl) (by rfl) (by decide) (by rfl))) Tryz.underlying27 (Fr.of_ext zb) ?_
     refine zx 4 (bs 15 23) (.slice (some ⟨gm, 0, none⟩) ms.length cm) (Fr.of_ext zb) ?_
     refine zx 5 (bs 15 55) (.int .i64 (k : Int)) (Fr.of_ext zb) ?_
     refine zu 6 (bs 15 119) (v := .int .i64 ((k + 1 : Nat) : Int)) (Fr.of_ext zb) ?_ (hv := by intro w hSw; exact ez1 (by omega))
     refine zu 7 (bs 15 247) (v := .pointer (some ⟨gm, (k + 1) * 5, none⟩)) (Fr.of_ext zb) ?_ (hv := by intro w hSw; exact ezi (k := k + 1) Tryz.underlying51 (l := hk1) (f := (Nat.zero_add _).symm))
     refine mX 8 (bs 15 503) (.pointer (some ⟨gm, (k + 1) * 5, none⟩)) (Fr.of_ext zb) ?_
     refine zr 9 (bs 15 1015) gm ((k + 1) * 5) [.bool f.a.n, .slice f.a.p f.a.l f.a.c, .bool f.a.m, .slice f.a.p2 f.a.l2 f.a.c2] (fun x hx => Fr.range hx (show World.rangeAt w561 gm ((k + 1) * 5) [.bool f.a.n, .slice f.a.p f.a.l f.a.c, .bool f.a.m, .slice f.a.p2 f.a.l2 f.a.c2] from (range_part (H564.out.elem (f := MkE.cells) (i := 3) (by rfl) MkE.len HEf.out) 0 4)) (H564.out.offRow (i := 3) (j := 1) (by rfl) (by rfl) (by decide) (by rfl))) Tryz.underlying27 (Fr.of_ext zb) ?_
     have DD580 := zH (((DD563.out.trans D564.out).trans D569.out))
     refine mC 3 (bs 15 1023) (pNorm (L := 60000) (RV.Is.nin (RAe.out.dig DD580.out) (Nat.le_trans BAe.out (by omega))) (by omega)) ?_
     rintro e w578 ⟨c_, rfl, hc_, hx⟩
     have H581 := zH (H569.out.step hx)
     have D581 := zH (show Dig w561.drew w578 from Dig.of_ext hx)
     have S584 := zH (show Fr (fun kz => Value.ownBlock (.slice (some ⟨gs, 0, none⟩) (es0.length + 1) c1) = some kz) w561 w578 from (Fr.of_ext zb).trans (Fr.of_ext hx))
     obtain ⟨r579, rfl, hr_⟩ := hc_
     have R579 := zH hr_
     have B579 := zH BAe.out
     clear hr_
     clear hx
     refine zm S584.out ?_
     have DD587 := zH ((DD580.out.trans D581.out))
     refine mC 10 (bs 15 2047) (pNorm (L := 60000) (RV.Is.nin (RAf.out.dig DD587.out) (Nat.le_trans BAf.out (by omega))) (by omega)) ?_
     rintro e w585 ⟨c_, rfl, hc_, hx⟩
     have H588 := zH (H581.out.step hx)
     have D588 := zH (Dig.of_ext hx)
     have S591 := zH (show Fr (fun kz => Value.ownBlock (.slice (some ⟨gs, 0, none⟩) (es0.length + 1) c1) = some kz) w561 w585 from S584.out.trans (Fr.of_ext hx))
     obtain ⟨r586, rfl, hr_⟩ := hc_
     have R586 := zH hr_
     have B586 := zH BAf.out
     clear hr_
     clear hx
     refine zm S591.out ?_
     refine zx 11 (bs 15 4095) (.agg #[.bool r579.n, .slice r579.p r579.l r579.c, .bool r579.m, .slice r579.p2 r579.l2 r579.c2, .bool r586.n, .slice r586.p r586.l r586.c, .bool r586.m, .slice r586.p2 r586.l2 r586.c2]) S591.out ?_
     refine mU 12 (bs 15 8191) (v := .slice (some ⟨w585.heap.size, 0, none⟩) 1 1) (w' := (w585.alloc (.cells ([.bool r579.n, .slice r579.p r579.l r579.c, .bool r579.m, .slice r579.p2 r579.l2 r579.c2, .bool r586.n, .slice r586.p r586.l r586.c, .bool r586.m, .slice r586.p2 r586.l2 r586.c2] : List Value).toArray 39))) (S591.out.trans (Fr.of_ext ((Ext.refl w585).alloc _))) ?_
     try simp only [Act.put, zA, zB, zC]
     refine md_app (j := 13) (listed' := (bs 15 16383)) (by rfl) (by kernel_rfl) (by rfl) _ _ _ (by rfl) elSpan (by rfl) H588.out (ix := 1) (by rfl) 1 1 [.bool r579.n, .slice r579.p r579.l r579.c, .bool r579.m, .slice r579.p2 r579.l2 r579.c2, .bool r586.n, .slice r586.p r586.l r586.c, .bool r586.m, .slice r586.p2 r586.l2 r586.c2] (by rfl) rfl (by simp [Value.oneCell']) (by simp [NoUL]) (by decide) (by unfold maxLen; exact (by omega)) (by omega) (by kernel_rfl) ?_
     intro g594 cp595 w593 hf hh hd hg
     have Fg594 := zH hf
     clear hf
     rw [show List.flatMap LvE.cs (es0 ++ [l]) ++ [.bool r579.n, .slice r579.p r579.l r579.c, .bool r579.m, .slice r579.p2 r579.l2 r579.c2, .bool r586.n, .slice r586.p r586.l r586.c, .bool r586.m, .slice r586.p2 r586.l2 r586.c2] = _ from flat_snoc LvE.cs _ (⟨r579, r586, e.q, f.q, -(s + e.up)⟩ : LvE)] at hh
     have H596 := zH (show Hp w w593 [.blk X297 27 (rc ry), ro 39 8 (some ⟨g594, 0, none⟩) (es0.length + 2) cp595 LvE.cs ((es0 ++ [l]) ++ [(⟨r579, r586, e.q, f.q, -(s + e.up)⟩ : LvE)]), ro 3 1 (some ⟨gn, 0, none⟩) (es0.length + 1) c2 LvE.cn (es0 ++ [l]), ro 54 5 (some ⟨gm, 0, none⟩) ms.length cm MkE.cells ms, .blk X335 54 [.bool e.a.n, .slice e.a.p e.a.l e.a.c, .bool e.a.m, .slice e.a.p2 e.a.l2 e.a.c2, .int .i64 e.up]] from hh)
     have D596 := zH (hd)
     have S598 := zH (show Fr (fun kz => Value.ownBlock (.slice (some ⟨gs, 0, none⟩) (es0.length + 1) c1) = some kz) w561 w593 from Fr.trans_new (S591.out.trans (Fr.of_ext ((Ext.refl _).alloc _))) hg (fun j hj => .inl hj))
     clear hh hd hg
     refine ⟨S598.out, ?_⟩
     try simp only [Act.put, zA, zB, zC]
     refine zx 14 (bs 15 32767) (.slice (some ⟨g594, 0, none⟩) (es0.length + 2) cp595) S598.out ?_
     refine wpAnyH_done (by kernel_rfl) ?_ _
     go_upto_region 16 with fail
     refine wp_region_lit ?_
     refine qV (.slice (some ⟨gn, 0, none⟩) (es0.length + 1) c2) ?_
     refine zq (.int .i64 (s + e.up)) ?_
     refine zp (w' := w593) (.int .i64 (-(s + e.up))) (by exact ev_neg (by rfl) (by rfl) rfl (by omega) (by omega)) ?_
     refine zp (w' := (w593.alloc (.cells ([.int .i64 (-(s + e.up))] : List Value).toArray 3))) (.slice (some ⟨w593.heap.size, 0, none⟩) 1 1) (by go_simp) ?_
     refine mv_app (by rfl) _ _ _ (by rfl) elInt (by rfl) H596.out (ix := 2) (by rfl) 1 1 [.int .i64 (-(s + e.up))] (by rfl) rfl (by simp [Value.oneCell']) (by simp [NoUL]) (by decide) (by unfold maxLen; exact (by omega)) (by omega) ?_
     intro g604 cp605 w603 hf hh hd hg
     have Fg604 := zH hf
     clear hf
     rw [show List.flatMap LvE.cn (es0 ++ [l]) ++ [.int .i64 (-(s + e.up))] = _ from flat_snoc LvE.cn _ (⟨r579, r586, e.q, f.q, -(s + e.up)⟩ : LvE)] at hh
     have H606 := zH (show Hp w w603 [.blk X297 27 (rc ry), ro 39 8 (some ⟨g594, 0, none⟩) (es0.length + 2) cp595 LvE.cs ((es0 ++ [l]) ++ [(⟨r579, r586, e.q, f.q, -(s + e.up)⟩ : LvE)]), ro 3 1 (some ⟨g604, 0, none⟩) (es0.length + 2) cp605 LvE.cn ((es0 ++ [l]) ++ [(⟨r579, r586, e.q, f.q, -(s + e.up)⟩ : LvE)]), ro 54 5 (some ⟨gm, 0, none⟩) ms.length cm MkE.cells ms, .blk X335 54 [.bool e.a.n, .slice e.a.p e.a.l e.a.c, .bool e.a.m, .slice e.a.p2 e.a.l2 e.a.c2, .int .i64 e.up]] from hh)
     have D606 := zH (hd)
     clear hh hd hg
     try simp only [Act.put, zA, zB, zC]
     refine zq (.slice (some ⟨g604, 0, none⟩) (es0.length + 2) cp605) ?_
     have DD609 := zH (((((((DD562.out.trans D564.out).trans D569.out).trans D581.out).trans D588.out).trans D596.out).trans D606.out))
     have DD610 := zH (((D588.out.trans D596.out).trans D606.out))
     have DD611 := zH ((D596.out.trans D606.out))
     have HOKN := zH (show LvE.Ok (L + 8) w603 (⟨r579, r586, e.q, f.q, -(s + e.up)⟩ : LvE) from ⟨(R579.out.dig DD610.out), (R586.out.dig DD611.out), B579.out, B586.out, (by have h_ := HS2.out; show -100000 ≤ -(s + e.up); omega), (by have h_ := HS2.out; show -(s + e.up) ≤ 100000; omega)⟩)
     have DD612 := zH ((((DD587.out.trans D588.out).trans D596.out).trans D606.out))
     go_wp2_with fail
     go_roundg (ms.length - (k + 1))
     case measure => exact (by omega)
     case rel => exact ⟨k + 1, es0.length + 2, (es0 ++ [l]) ++ [(⟨r579, r586, e.q, f.q, -(s + e.up)⟩ : LvE)], some ⟨g594, 0, none⟩, cp595, some ⟨g604, 0, none⟩, cp605, s + e.up, rfl, rfl, rfl, (by first | rfl | (congr 1)), (by go_num), hk0, HPN.out, (by have h_ := HS2.out; constructor <;> omega), ⟨by simp, by have := HM.out.2; omega⟩, (by rw [lv_take HRG.out, ← HLV.out, List.map_append, List.map_append]; refine Eq.trans ?_ (lvstep_more HNS.out (fun h_ => CL.out ⟨h_.1.trans HRN.out, h_.2⟩)).symm; show _ ++ [l.vl] ++ [((e.q, f.q), -(s + e.up))] = _ ++ [l.vl] ++ [((e.q, f.q), -(0 + psum qs (k + 1)))]; rw [HRN.out]), (fun g_ hg_ => (List.mem_append.1 hg_).elim (fun hg_ => (HOE.out g_ hg_).dig DD609.out) (fun hg_ => by rw [List.mem_singleton.1 hg_]; exact HOKN.out)), H606.out.take 4, DD612.out⟩
    have CA := zH c489
    clear c489
    have CL := zH (show ¬ (l.n = -(s + e.up) ∧ l.q = e.q) from fun h_ => CA.out h_.1)
    go_upto_region 13 with fail
    refine zy ?_
    have H613 := zH (H426.out.step (Ext.refl w424).drew)
    have D613 := zH (Dig.of_ext (w := w424) zb)
    refine zx 0 (bs 24 1) (.int .i64 ((es0.length + 1 : Nat) : Int)) zb ?_
    refine zu 1 (bs 24 3) (v := .bool true) zb ?_ (hv := by intro w hSw; exact ezg (e := (dec_t (by omega))))
    refine zx 2 (bs 24 7) (.bool true) zb ?_
    refine zx 3 (bs 24 15) (.slice (some ⟨gn, 0, none⟩) (es0.length + 1) c2) zb ?_
    refine zx 4 (bs 24 31) (.int .i64 ((es0.length + 1 : Nat) : Int)) zb ?_
    refine zu 5 (bs 24 63) (v := .int .i64 ((es0.length : Nat) : Int)) zb ?_ (hv := by intro w hSw; exact ez2 (by omega))
    refine zu 6 (bs 24 127) (v := .pointer (some ⟨gn, es0.length * 1, none⟩)) zb ?_ (hv := by intro w hSw; exact ezi (k := es0.length) Tryz.underlying32 (l := (by omega)) (f := (Nat.zero_add _).symm))
    refine zf 7 (bs 24 255) gn (es0.length * 1) (.int .i64 l.n) (H426.out.elem (f := LvE.cn) (i := 2) (by rfl) LvE.cn_len HEl.out) zb ?_
    refine zx 8 (bs 24 511) (.int .i64 (s + e.up)) zb ?_
    refine zu 9 (bs 24 1023) (v := .int .i64 (-(s + e.up))) zb ?_ (hv := by intro w hSw; exact ev_neg (by rfl) (by rfl) rfl (by omega) (by omega))
    refine zu 10 (bs 24 2047) (v := .bool false) zb ?_ (hv := by intro w hSw; exact ezq (e := (dec_f CA.out)))
    refine zx 11 (bs 24 4095) (.bool false) zb ?_
    refine zx 12 (bs 24 8191) (.bool false) zb ?_
    refine zs 13 (bs 24 16383) zb ?_
    refine zs 14 (bs 24 32767) zb ?_
    refine zs 15 (bs 24 65535) zb ?_
    refine zs 16 (bs 24 131071) zb ?_
    refine zs 17 (bs 24 262143) zb ?_
    refine zs 18 (bs 24 524287) zb ?_
    refine zs 19 (bs 24 1048575) zb ?_
    refine zs 20 (bs 24 2097151) zb ?_
    refine zs 21 (bs 24 4194303) zb ?_
    refine zs 22 (bs 24 8388607) zb ?_
    refine zx 23 (bs 24 16777215) (.bool false) zb ?_
    refine wpAnyH_done (by kernel_rfl) ?_ _
    go_upto_region 15 with fail
    refine wp_region_held_drew (S := fun x => Fr (fun kz => Value.ownBlock (.slice (some ⟨gs, 0, none⟩) (es0.length + 1) c1) = some kz) w424.drew x) (by kernel_rfl) (Fr.of_ext zb) (fun _ => ?_)
    have H628 := zH (H613.out.step (Ext.refl w424.drew).drew)
    have D628 := zH (show Dig w424.drew w424.drew.drew from Dig.of_ext (Ext.refl w424.drew).drew)
    refine zx 0 (bs 15 1) (.slice (some ⟨gs, 0, none⟩) (es0.length + 1) c1) (Fr.of_ext zb) ?_
    refine mX 1 (bs 15 3) (.pointer (some ⟨X335, 0, none⟩)) (Fr.of_ext zb) ?_
    refine zr 2 (bs 15 7) X335 (0) [.bool e.a.n, .slice e.a.p e.a.l e.a.c, .bool e.a.m, .slice e.a.p2 e.a.l2 e.a.c2] (fun x hx => Fr.range hx (show World.rangeAt w424.drew X335 (0) [.bool e.a.n, .slice e.a.p e.a.l e.a.c, .bool e.a.m, .slice e.a.p2 e.a.l2 e.a.c2] from (H613.out.range (i := 4) (by rfl) 0 4)) (H613.out.offRow (i := 4) (j := 1) (by rfl) (by rfl) (by decide) (by rfl))) Tryz.underlying27 (Fr.of_ext zb) ?_
    refine zx 4 (bs 15 23) (.slice (some ⟨gm, 0, none⟩) ms.length cm) (Fr.of_ext zb) ?_
    refine zx 5 (bs 15 55) (.int .i64 (k : Int)) (Fr.of_ext zb) ?_
    refine zu 6 (bs 15 119) (v := .int .i64 ((k + 1 : Nat) : Int)) (Fr.of_ext zb) ?_ (hv := by intro w hSw; exact ez1 (by omega))
    refine zu 7 (bs 15 247) (v := .pointer (some ⟨gm, (k + 1) * 5, none⟩)) (Fr.of_ext zb) ?_ (hv := by intro w hSw; exact ezi (k := k + 1) Tryz.underlying51 (l := hk1) (f := (Nat.zero_add _).symm))
    refine mX 8 (bs 15 503) (.pointer (some ⟨gm, (k + 1) * 5, none⟩)) (Fr.of_ext zb) ?_
    refine zr 9 (bs 15 1015) gm ((k + 1) * 5) [.bool f.a.n, .slice f.a.p f.a.l f.a.c, .bool f.a.m, .slice f.a.p2 f.a.l2 f.a.c2] (fun x hx => Fr.range hx (show World.rangeAt w424.drew gm ((k + 1) * 5) [.bool f.a.n, .slice f.a.p f.a.l f.a.c, .bool f.a.m, .slice f.a.p2 f.a.l2 f.a.c2] from (range_part (H613.out.elem (f := MkE.cells) (i := 3) (by rfl) MkE.len HEf.out) 0 4)) (H613.out.offRow (i := 3) (j := 1) (by rfl) (by rfl) (by decide) (by rfl))) Tryz.underlying27 (Fr.of_ext zb) ?_
    have DD639 := zH ((((DD425.out.trans D426.out).trans D613.out).trans D628.out))
    refine mC 3 (bs 15 1023) (pNorm (L := 60000) (RV.Is.nin (RAe.out.dig DD639.out) (Nat.le_trans BAe.out (by omega))) (by omega)) ?_
    rintro e w637 ⟨c_, rfl, hc_, hx⟩
    have H640 := zH (H628.out.step hx)
    have D640 := zH (show Dig w424.drew.drew w637 from Dig.of_ext hx)
    have S643 := zH (show Fr (fun kz => Value.ownBlock (.slice (some ⟨gs, 0, none⟩) (es0.length + 1) c1) = some kz) w424.drew w637 from (Fr.of_ext zb).trans (Fr.of_ext hx))
    obtain ⟨r638, rfl, hr_⟩ := hc_
    have R638 := zH hr_
    have B638 := zH BAe.out
    clear hr_
    clear hx
    refine zm S643.out ?_
    have DD646 := zH ((DD639.out.trans D640.out))
    refine mC 10 (bs 15 2047) (pNorm (L := 60000) (RV.Is.nin (RAf.out.dig DD646.out) (Nat.le_trans BAf.out (by omega))) (by omega)) ?_
    rintro e w644 ⟨c_, rfl, hc_, hx⟩
    have H647 := zH (H640.out.step hx)
    have D647 := zH (Dig.of_ext hx)
    have S650 := zH (show Fr (fun kz => Value.ownBlock (.slice (some ⟨gs, 0, none⟩) (es0.length + 1) c1) = some kz) w424.drew w644 from S643.out.trans (Fr.of_ext hx))
    obtain ⟨r645, rfl, hr_⟩ := hc_
    have R645 := zH hr_
    have B645 := zH BAf.out
    clear hr_
    clear hx
    refine zm S650.out ?_
    refine zx 11 (bs 15 4095) (.agg #[.bool r638.n, .slice r638.p r638.l r638.c, .bool r638.m, .slice r638.p2 r638.l2 r638.c2, .bool r645.n, .slice r645.p r645.l r645.c, .bool r645.m, .slice r645.p2 r645.l2 r645.c2]) S650.out ?_
    refine mU 12 (bs 15 8191) (v := .slice (some ⟨w644.heap.size, 0, none⟩) 1 1) (w' := (w644.alloc (.cells ([.bool r638.n, .slice r638.p r638.l r638.c, .bool r638.m, .slice r638.p2 r638.l2 r638.c2, .bool r645.n, .slice r645.p r645.l r645.c, .bool r645.m, .slice r645.p2 r645.l2 r645.c2] : List Value).toArray 39))) (S650.out.trans (Fr.of_ext ((Ext.refl w644).alloc _))) ?_
    try simp only [Act.put, zA, zB, zC]
    refine md_app (j := 13) (listed' := (bs 15 16383)) (by rfl) (by kernel_rfl) (by rfl) _ _ _ (by rfl) elSpan (by rfl) H647.out (ix := 1) (by rfl) 1 1 [.bool r638.n, .slice r638.p r638.l r638.c, .bool r638.m, .slice r638.p2 r638.l2 r638.c2, .bool r645.n, .slice r645.p r645.l r645.c, .bool r645.m, .slice r645.p2 r645.l2 r645.c2] (by rfl) rfl (by simp [Value.oneCell']) (by simp [NoUL]) (by decide) (by unfold maxLen; exact (by omega)) (by omega) (by kernel_rfl) ?_
    intro g653 cp654 w652 hf hh hd hg
    have Fg653 := zH hf
    clear hf
    rw [show List.flatMap LvE.cs (es0 ++ [l]) ++ [.bool r638.n, .slice r638.p r638.l r638.c, .bool r638.m, .slice r638.p2 r638.l2 r638.c2, .bool r645.n, .slice r645.p r645.l r645.c, .bool r645.m, .slice r645.p2 r645.l2 r645.c2] = _ from flat_snoc LvE.cs _ (⟨r638, r645, e.q, f.q, -(s + e.up)⟩ : LvE)] at hh
    have H655 := zH (show Hp w w652 [.blk X297 27 (rc ry), ro 39 8 (some ⟨g653, 0, none⟩) (es0.length + 2) cp654 LvE.cs ((es0 ++ [l]) ++ [(⟨r638, r645, e.q, f.q, -(s + e.up)⟩ : LvE)]), ro 3 1 (some ⟨gn, 0, none⟩) (es0.length + 1) c2 LvE.cn (es0 ++ [l]), ro 54 5 (some ⟨gm, 0, none⟩) ms.length cm MkE.cells ms, .blk X335 54 [.bool e.a.n, .slice e.a.p e.a.l e.a.c, .bool e.a.m, .slice e.a.p2 e.a.l2 e.a.c2, .int .i64 e.up]] from hh)
    have D655 := zH (hd)
    have S657 := zH (show Fr (fun kz => Value.ownBlock (.slice (some ⟨gs, 0, none⟩) (es0.length + 1) c1) = some kz) w424.drew w652 from Fr.trans_new (S650.out.trans (Fr.of_ext ((Ext.refl _).alloc _))) hg (fun j hj => .inl hj))
    clear hh hd hg
    refine ⟨S657.out, ?_⟩
    try simp only [Act.put, zA, zB, zC]
    refine zx 14 (bs 15 32767) (.slice (some ⟨g653, 0, none⟩) (es0.length + 2) cp654) S657.out ?_
    refine wpAnyH_done (by kernel_rfl) ?_ _
    go_upto_region 16 with fail
    refine wp_region_lit ?_
    refine qV (.slice (some ⟨gn, 0, none⟩) (es0.length + 1) c2) ?_
    refine zq (.int .i64 (s + e.up)) ?_
    refine zp (w' := w652) (.int .i64 (-(s + e.up))) (by exact ev_neg (by rfl) (by rfl) rfl (by omega) (by omega)) ?_
    refine zp (w' := (w652.alloc (.cells ([.int .i64 (-(s + e.up))] : List Value).toArray 3))) (.slice (some ⟨w652.heap.size, 0, none⟩) 1 1) (by go_simp) ?_
    refine mv_app (by rfl) _ _ _ (by rfl) elInt (by rfl) H655.out (ix := 2) (by rfl) 1 1 [.int .i64 (-(s + e.up))] (by rfl) rfl (by simp [Value.oneCell']) (by simp [NoUL]) (by decide) (by unfold maxLen; exact (by omega)) (by omega) ?_
    intro g663 cp664 w662 hf hh hd hg
    have Fg663 := zH hf
    clear hf
    rw [show List.flatMap LvE.cn (es0 ++ [l]) ++ [.int .i64 (-(s + e.up))] = _ from flat_snoc LvE.cn _ (⟨r638, r645, e.q, f.q, -(s + e.up)⟩ : LvE)] at hh
    have H665 := zH (show Hp w w662 [.blk X297 27 (rc ry), ro 39 8 (some ⟨g653, 0, none⟩) (es0.length + 2) cp654 LvE.cs ((es0 ++ [l]) ++ [(⟨r638, r645, e.q, f.q, -(s + e.up)⟩ : LvE)]), ro 3 1 (some ⟨g663, 0, none⟩) (es0.length + 2) cp664 LvE.cn ((es0 ++ [l]) ++ [(⟨r638, r645, e.q, f.q, -(s + e.up)⟩ : LvE)]), ro 54 5 (some ⟨gm, 0, none⟩) ms.length cm MkE.cells ms, .blk X335 54 [.bool e.a.n, .slice e.a.p e.a.l e.a.c, .bool e.a.m, .slice e.a.p2 e.a.l2 e.a.c2, .int .i64 e.up]] from hh)
    have D665 := zH (hd)
    clear hh hd hg
    try simp only [Act.put, zA, zB, zC]
    refine zq (.slice (some ⟨g663, 0, none⟩) (es0.length + 2) cp664) ?_
    have DD668 := zH ((((((((((D337.out.trans D342.out).trans D406.out).trans D426.out).trans D613.out).trans D628.out).trans D640.out).trans D647.out).trans D655.out).trans D665.out))
    have DD669 := zH (((D647.out.trans D655.out).trans D665.out))
    have DD670 := zH ((D655.out.trans D665.out))
    have HOKN := zH (show LvE.Ok (L + 8) w662 (⟨r638, r645, e.q, f.q, -(s + e.up)⟩ : LvE) from ⟨(R638.out.dig DD669.out), (R645.out.dig DD670.out), B638.out, B645.out, (by have h_ := HS2.out; show -100000 ≤ -(s + e.up); omega), (by have h_ := HS2.out; show -(s + e.up) ≤ 100000; omega)⟩)
    have DD671 := zH ((((DD646.out.trans D647.out).trans D655.out).trans D665.out))
    go_wp2_with fail
    go_roundg (ms.length - (k + 1))
    case measure => exact (by omega)
    case rel => exact ⟨k + 1, es0.length + 2, (es0 ++ [l]) ++ [(⟨r638, r645, e.q, f.q, -(s + e.up)⟩ : LvE)], some ⟨g653, 0, none⟩, cp654, some ⟨g663, 0, none⟩, cp664, s + e.up, rfl, rfl, rfl, (by first | rfl | (congr 1)), (by go_num), hk0, HPN.out, (by have h_ := HS2.out; constructor <;> omega), ⟨by simp, by have := HM.out.2; omega⟩, (by rw [lv_take HRG.out, ← HLV.out, List.map_append, List.map_append]; refine Eq.trans ?_ (lvstep_more HNS.out (fun h_ => CL.out ⟨h_.1.trans HRN.out, h_.2⟩)).symm; show _ ++ [l.vl] ++ [((e.q, f.q), -(s + e.up))] = _ ++ [l.vl] ++ [((e.q, f.q), -(0 + psum qs (k + 1)))]; rw [HRN.out]), (fun g_ hg_ => (List.mem_append.1 hg_).elim (fun hg_ => (HOE.out g_ hg_).dig DD668.out) (fun hg_ => by rw [List.mem_singleton.1 hg_]; exact HOKN.out)), H665.out.take 4, DD671.out⟩
   have HLT := zH c330
   clear c330
   obtain rfl : k = ms.length := by have := HK.out; have := HLT.out; omega
   have hge : ¬ (ms.length : Int) < (ms.length : Int) := by omega
   have hm4 : m ≤ 4096 := by have := HM.out.2; omega
   go_upto_region 18 with fail
   refine wp_region_lit ?_
   refine qV (.slice A1 m c1) ?_
   refine zq (.slice A2 m c2) ?_
   refine qV (.slice A1 m c1) ?_
   refine zq (.slice A2 m c2) ?_
   go_wp2_with fail
   go_ret2
   unfold LevRet
   exact ⟨A1, c1, A2, c2, m, es, rfl, HM.out.1, H329.out.row (i := 1) (by rfl), H329.out.row (i := 2) (by rfl), HOE.out, (by rw [HLV.out, List.take_of_length_le (by rw [runs_len]; have h_ := HQL.out; omega), HQS.out, HVAL.out]; rfl), hm4, H329.out.ext⟩
 have HV := zH c304
 clear c304
 go_upto_region 1 with fail
 refine wp_region_lit ?_
 refine qV (u) ?_
 refine zc (polyValid_any _ rs _ (HU.out.ext H299.out.ext) HN.out HR.out) ?_
 rintro e w677 ⟨rfl, hx⟩
 have H678 := zH (H299.out.step hx)
 clear hx
 refine ⟨.bool false, by rw [Bool.eq_false_iff.2 HV.out], ?_⟩
 try simp only [Act.put, zA, zB, zC]
 refine zq (.bool true) ?_
 go_upto_region 2 with fail
 refine wp_region_lit ?_
 refine qV (.slice none 0 0) ?_
 refine zq (.slice none 0 0) ?_
 go_wp2_with fail
 go_ret2
 unfold LevRet
 exact ⟨none, 0, none, 0, 0, [], rfl, rfl, RowN.nil _ _ _ _, RowN.nil _ _ _ _, (by simp), (by rw [marksV, if_neg HV.out]; rfl), Nat.zero_le _, H678.out.ext⟩

def mtot (rs : List Ring) : Nat := (rs.map fun r => min r.length 1000).sum
def smPoly (rs : List Ring) : Bool := decide (rs.length ≤ 60) && decide (mtot rs ≤ 60)
theorem mtot_succ {rs : List Ring} {k : Nat} {r : Ring} (h : rs[k]? = some r) : mtot (rs.take (k + 1)) = mtot (rs.take k) + min r.length 1000 := by
  obtain ⟨hk, rfl⟩ := List.getElem?_eq_some_iff.1 h
  unfold mtot
  rw [List.take_succ_eq_append_getElem hk, List.map_append, List.sum_append]
  simp
theorem mtot_le (rs : List Ring) : mtot rs ≤ 1000 * rs.length := by
  induction rs with
  | nil => simp [mtot]
  | cons r rs ih =>
    unfold mtot at ih ⊢
    rw [List.map_cons, List.sum_cons, List.length_cons]
    have := Nat.min_le_right r.length 1000
    omega
theorem smPoly_out {rs : List Ring} (h : smPoly rs = true) : rs.length ≤ 60 ∧ mtot rs ≤ 60 := by
  unfold smPoly at h
  simpa using h
theorem wrap_add {n m : Nat} (h : n + m ≤ 4611686018427387904) : IntKind.i64.wrap ((n : Int) + (m : Int)) = ((n + m : Nat) : Int) := by
  rw [IntKind.wrap_i64]; omega
set_option maxRecDepth 20000 in
set_option maxHeartbeats 4000000 in
theorem smallPolygons_any (u : Value) (rs : List Ring) (w : World) (hu : RingsV w u rs) (hn : rs.length ≤ 9223372036854775807) :
  Calls Tryz.prog 4 #[u] w fun e w' => e = .returned (.bool (smPoly rs)) ∧ Ext w w' := by
 obtain ⟨A, cu, rfl, hA⟩ := hu
 have HA := zH hA
 have HN := zH hn
 clear hA
 go_enter Tryz.func4, Tryz.ntmps4
 go_wp2_with fail
 go_loopg [3, 7] rs.length (fun c s i wr => ∃ (k : Nat) (z : Int), k ≤ rs.length ∧ c = rs.length - k ∧ s = .int .i64 z ∧ i = .int .i64 k ∧ (rs.length ≤ 60 → z = (mtot (rs.take k) : Int)) ∧ Ext w wr)
 case atStart => exact ⟨0, 0, Nat.zero_le _, rfl, rfl, rfl, fun _ => rfl, Ext.refl _⟩
 case round =>
  obtain ⟨k, z, hk, rfl, rfl, rfl, hz0, hx⟩ := hrel
  have HX := zH hx
  have HZ := zH hz0
  clear hx hz0
  by_cases hlt : k < rs.length
  ·have hlt2 : (k : Int) < (rs.length : Int) := by omega
   obtain ⟨r, hr⟩ : ∃ r, rs[k]? = some r := ⟨_, List.getElem?_eq_getElem hlt⟩
   obtain ⟨g, off, rfl, hp⟩ := HA.out (by omega)
   obtain ⟨B, cb, h1, -⟩ := hp k r hr
   have h2 := HX.out.get h1
   have HW := zH (show rs.length ≤ 60 → IntKind.i64.wrap (z + min (r.length : Int) 1000) = (mtot (rs.take (k + 1)) : Int) by
    intro h60
    have hz := mtot_succ hr
    have hz2 : mtot (rs.take k) ≤ 1000 * rs.length := Nat.le_trans (mtot_le _) (Nat.mul_le_mul_left _ (by rw [List.length_take]; omega))
    have hz3 : min r.length 1000 ≤ 1000 := Nat.min_le_right ..
    have hm : min (r.length : Int) 1000 = ((min r.length 1000 : Nat) : Int) := by omega
    rw [HZ.out h60, hm, hz]
    exact wrap_add (by omega))
   have HLT := zH hlt
   clear hp h1 hr
   go_wp2_with fail
   go_roundg (rs.length - (k + 1))
   case measure => have := HLT.out; omega
   case rel => exact ⟨k + 1, _, HLT.out, rfl, rfl, by go_num, by intro h_; have h := HW.out h_; rw [IntKind.wrap_i64] at h; unfold wrap64; exact h, HX.out⟩
  obtain rfl : k = rs.length := by omega
  have hge : ¬ (rs.length : Int) < (rs.length : Int) := by omega
  rw [List.take_length] at *
  have hd : decide ((rs.length : Int) ≤ 60) = decide (rs.length ≤ 60) := decide_eq_decide.2 (by omega)
  have hd2 : decide ((mtot rs : Int) ≤ 60) = decide (mtot rs ≤ 60) := decide_eq_decide.2 (by omega)
  by_cases h1 : rs.length ≤ 60
  ·obtain rfl : z = (mtot rs : Int) := HZ.out h1
   have h1z : (rs.length : Int) ≤ 60 := by omega
   have HS := zH (show smPoly rs = decide (mtot rs ≤ 60) by unfold smPoly; simp [h1])
   have HD := zH hd2
   clear hd hd2
   go_wp2_with fail
   go_ret
   exact ⟨by rw [HS.out, ← HD.out]; rfl, HX.out⟩
  have h1z : ¬ (rs.length : Int) ≤ 60 := by omega
  have HS := zH (show smPoly rs = false by unfold smPoly; simp [h1])
  clear hd hd2
  go_wp2_with fail
  go_ret
  exact ⟨by rw [HS.out]; rfl, HX.out⟩
end Go.Proofs.YtmgibncehlpfkaaGreat
