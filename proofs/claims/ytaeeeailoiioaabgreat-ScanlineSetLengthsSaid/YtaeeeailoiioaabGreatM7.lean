/- Contracts that the claim stands on: XSpans to XPLen. -/
import Derived.Deep.Upon
import Derived.Test.YtaeeeailoiioaabGreatM6
namespace Go.Proofs.YtaeeeailoiioaabGreat
open Go.RowKit
attribute [local go_sem ↓] Go.wp_at_zero Go.wp_at_succ run_max_ii run_min_ii
set_option maxRecDepth 20000 in
set_option maxHeartbeats 4000000 in
theorem spans_any (L : Nat) (u : Value) (rs : List Ring) (rule : Int) (ry : RV) (y : Rat) (w : World) (hu : RingsV w u rs) (hy : ry.In L w y) (h1L : 1 ≤ L) (hL : L ≤ 2000) (hn : rs.length ≤ 100000) (hr : ∀ r, r ∈ rs → r.length ≤ 100000) (hru : -9223372036854775808 ≤ rule ∧ rule ≤ 9223372036854775807) :
  Calls Tryz.prog 22 #[u, .int .i64 rule, .agg #[.bool ry.n, .slice ry.p ry.l ry.c, .bool ry.m, .slice ry.p2 ry.l2 ry.c2]] w fun e w' => ∃ v es, e = .returned v ∧ SpR (L + 8) w' w.heap.size v es ∧ es.map SpE.vl = spansV rule (marksV y rs) ∧ es.length ≤ 4096 ∧ Ext w w' := by
 have HU := zH hu
 have RY := zH hy
 have HRU := zH hru
 clear hu hy hru
 go_enter Tryz.func22, Tryz.ntmps22
 have H0 := zH (Hp.start w)
 go_upto_region 0 with fail
 refine wp_region_lit ?_
 refine mv_alloc (T := 27) (zs := [.bool ry.n, .slice ry.p ry.l ry.c, .bool ry.m, .slice ry.p2 ry.l2 ry.c2]) (by rfl) (by go_simp) H0.out (by simp [NoUL]) ?_
 intro X1 w2 hh hx hge
 have H3 := zH (show Hp w w2 [.blk X1 27 (rc ry)] from hh)
 clear hh hx hge
 try simp only [Act.put, zA, zB, zC]
 refine zq (.slice none 0 0) ?_
 go_upto_region 3 with fail
 refine wp_region_lit ?_
 refine qV (u) ?_
 refine zd X1 (0) (rc ry) (H3.out.range (i := 0) (by rfl) 0 4) Tryz.underlying27 ?_
 refine zc (marks_any L u rs ry y _ (HU.out.ext H3.out.ext) (RY.out.dig H3.out.dig0) h1L (by omega) hn hr) ?_
 rintro e w8 ⟨Am, nm_, cm, ms, rfl, rfl, hrow_, hok_, hval_, hx⟩
 have HVAL := zH hval_
 have HOK := zH hok_
 obtain ⟨Am2_, cm2_, hv_, hA_⟩ := RowN.form hrow_
 injection hv_ with e1_ _ _
 subst e1_
 have HA := zH hA_
 clear hval_ hok_ hA_
 have H9 := zH (show Hp w w8 [.blk X1 27 (rc ry), ro 68 5 Am ms.length cm MkE.cells ms] from H3.out.addRow hx hrow_)
 clear hrow_
 have hms4 : ms.length ≤ 4096 := by have h := marksV_len y rs; rw [← HVAL.out, List.length_map] at h; exact h
 clear hx
 refine zn ?_
 refine zq (.slice Am ms.length cm) ?_
 have H12 := zH (show Hp w w8 [.blk X1 27 (rc ry), ro 68 5 Am ms.length cm MkE.cells ms, ro 51 8 none 0 0 SpE.cells ([])] from H9.out.addNil 51 8)
 obtain ⟨qs, hqs⟩ : ∃ qs, qs = ms.map MkE.vl := ⟨_, rfl⟩
 have HQS := zH hqs
 have hql : qs.length = ms.length := by rw [hqs, List.length_map]
 clear hqs
 go_wp2_with fail
 go_loopg [7, 8, 17] (ms.length) (fun cq v13 v14 v15 wr => ∃ (k : Nat) (m : Nat) (es : List SpE) (A1 : Option Addr) (c1 : Nat) (s : Int), cq = ms.length - k ∧ v13 = .slice A1 m c1 ∧ v14 = .int .i64 s ∧ v15 = .int .i64 (k : Int) ∧ (k ≤ ms.length) ∧ (psum qs k = s) ∧ (-(k : Int) ≤ s ∧ s ≤ k) ∧ (m = es.length ∧ m ≤ k) ∧ (es.map SpE.vl = sel rule ((runs 0 qs).take k)) ∧ (∀ e, e ∈ es → e.Ok (L + 8) wr) ∧ Hp w wr [.blk X1 27 [.bool ry.n, .slice ry.p ry.l ry.c, .bool ry.m, .slice ry.p2 ry.l2 ry.c2], .row 68 5 (.slice Am ms.length cm) (ms.length) (List.flatMap MkE.cells ms), .row 51 8 (.slice A1 m c1) (m) (List.flatMap SpE.cells es)] ∧ Dig w8 wr)
 case atStart => exact ⟨0, 0, [], none, 0, 0, rfl, rfl, rfl, rfl, Nat.zero_le _, rfl, ⟨by decide, by decide⟩, ⟨rfl, Nat.le_refl _⟩, rfl, (by simp), H12.out, Dig.refl _⟩
 case round =>
  obtain ⟨k, m, es, A1, c1, s, rfl, rfl, rfl, rfl, q_HK, q_HPV, q_HSM, q_HM, q_HSEL, q_HOE, hh_, hd_⟩ := hrel
  generalize wr = w16 at *
  have HK := zH q_HK
  clear q_HK
  have HPV := zH q_HPV
  clear q_HPV
  have HSM := zH q_HSM
  clear q_HSM
  have HM := zH q_HM
  clear q_HM
  have HSEL := zH q_HSEL
  clear q_HSEL
  have HOE := zH q_HOE
  clear q_HOE
  have H18 := zH hh_
  have D18 := zH hd_
  clear hh_ hd_ H12
  by_cases c19 : k < ms.length
  ·have HLT := zH c19
   clear c19
   have hlt := HLT.out
   have hlt2 : (k : Int) < (ms.length : Int) := by omega
   obtain ⟨gm, rfl⟩ := HA.out (by omega)
   have hk4 : k ≤ 4096 := by omega
   have hm4 : m ≤ 4096 := by have := HM.out.2; omega
   have hsm := HSM.out
   obtain ⟨e, he_⟩ : ∃ e, ms[k]? = some e := ⟨_, List.getElem?_eq_getElem hlt⟩
   have HEe := zH he_
   have HOe := zH (HOK.out e (List.mem_of_getElem? he_))
   have RAe := zH HOe.out.1
   have BAe := zH HOe.out.2.1
   clear he_
   have hup := HOe.out.2.2
   have hqk : qs[k]? = some e.vl := by rw [HQS.out, List.getElem?_map, HEe.out]; rfl
   have HPS := zH (show psum qs (k + 1) = s + e.up from by rw [psum_succ hqk, HPV.out]; rfl)
   have HQK := zH hqk
   clear hqk
   go_upto_region 6 with fail
   refine wp_region_lit ?_
   refine zq (.int .i64 (k : Int)) ?_
   refine zp (w' := w16) (.pointer (some ⟨gm, k * 5, none⟩)) (by exact ezi (k := k) Tryz.underlying65 (l := HLT.out) (f := (Nat.zero_add _).symm)) ?_
   refine zd gm (k * 5) [.bool e.a.n, .slice e.a.p e.a.l e.a.c, .bool e.a.m, .slice e.a.p2 e.a.l2 e.a.c2, .int .i64 e.up] (H18.out.elem (f := MkE.cells) (i := 1) (by rfl) MkE.len HEe.out) Tryz.underlying68 ?_
   refine mv_alloc (T := 68) (zs := [.bool false, .slice none 0 0, .bool false, .slice none 0 0, .int .i64 0]) (by rfl) (by go_simp) H18.out (by simp [NoUL]) ?_
   intro X22 w23 hh hx hge
   have H24 := zH (show Hp w w23 [.blk X1 27 (rc ry), ro 68 5 (some ⟨gm, 0, none⟩) ms.length cm MkE.cells ms, ro 51 8 A1 m c1 SpE.cells es, .blk X22 68 [.bool false, .slice none 0 0, .bool false, .slice none 0 0, .int .i64 0]] from hh)
   have D24 := zH (Dig.of_ext hx)
   clear hh hx hge
   try simp only [Act.put, zA, zB, zC]
   refine zq (.int .i64 (k : Int)) ?_
   refine mv_st (by rfl) _ _ _ (by rfl) H24.out (ix := 3) (by rfl) 0 [.bool e.a.n, .slice e.a.p e.a.l e.a.c, .bool e.a.m, .slice e.a.p2 e.a.l2 e.a.c2, .int .i64 e.up] (by rfl) (by rfl) (by simp) (by kernel_rfl) (by simp [Value.oneCell']) (by simp [NoUL]) ?_
   intro w28 hh hd ho
   have H29 := zH (show Hp w w28 [.blk X1 27 (rc ry), ro 68 5 (some ⟨gm, 0, none⟩) ms.length cm MkE.cells ms, ro 51 8 A1 m c1 SpE.cells es, .blk X22 68 [.bool e.a.n, .slice e.a.p e.a.l e.a.c, .bool e.a.m, .slice e.a.p2 e.a.l2 e.a.c2, .int .i64 e.up]] from hh)
   have D29 := zH (hd)
   clear hh hd ho
   (try simp only [Act.put])
   go_upto_region 7 with fail
   refine wp_region_lit ?_
   refine qV (.int .i64 s) ?_
   refine zq (.pointer (some ⟨X22, 4, none⟩)) ?_
   refine ze X22 4 (.int .i64 e.up) (H29.out.range (i := 3) (by rfl) 4 1) ?_
   refine zp (w' := w28) (.int .i64 (s + e.up)) (by exact ez1 (by have ob0 := hsm.1; have ob1 := hsm.2; have ob4 := hup.1; have ob5 := hup.2; omega)) ?_
   refine zq (.int .i64 (s + e.up)) ?_
   by_cases c35 : k + 1 < ms.length
   ·have CK := zH c35
    clear c35
    have hk1 := CK.out
    obtain ⟨f, he_⟩ : ∃ f, ms[k + 1]? = some f := ⟨_, List.getElem?_eq_getElem hk1⟩
    have HEf := zH he_
    have HOf := zH (HOK.out f (List.mem_of_getElem? he_))
    have RAf := zH HOf.out.1
    have BAf := zH HOf.out.2.1
    clear he_
    have HRG := zH (runs_get qs 0 k e.vl f.vl HQK.out (by rw [HQS.out, List.getElem?_map, HEf.out]; rfl))
    have HRN := zH (show 0 + psum qs (k + 1) = s + e.up by rw [HPS.out]; omega)
    rcases hcf : fillsV (s + e.up) rule with _ | _
    ·have CF := zH hcf
     clear hcf
     go_upto_region 8 with fail
     refine wp_region_lit ?_
     refine zq (.int .i64 (k : Int)) ?_
     refine zp (w' := w28) (.int .i64 ((k + 1 : Nat) : Int)) (by exact ez1 (by have ob0 := hsm.1; have ob1 := hsm.2; have ob4 := hup.1; have ob5 := hup.2; omega)) ?_
     refine qV (.slice (some ⟨gm, 0, none⟩) ms.length cm) ?_
     refine zq (.int .i64 ((ms.length : Nat) : Int)) ?_
     refine zp (w' := w28) (.bool true) (by exact ezl (e := (dec_t (by have ob0 := hsm.1; have ob1 := hsm.2; have ob4 := hup.1; have ob5 := hup.2; omega)))) ?_
     refine qV (.bool true) ?_
     refine zq (.int .i64 (s + e.up)) ?_
     refine qV (.int .i64 rule) ?_
     refine zc (fills_any (s + e.up) rule _ ⟨(by have ob0 := hsm.1; have ob1 := hsm.2; have ob4 := hup.1; have ob5 := hup.2; omega), (by have ob0 := hsm.1; have ob1 := hsm.2; have ob4 := hup.1; have ob5 := hup.2; omega)⟩ HRU.out) ?_
     rintro e w44 ⟨rfl, hx⟩
     have H45 := zH (H29.out.step hx)
     have D45 := zH (Dig.of_ext hx)
     clear hx
     refine ⟨.bool false, by rw [CF.out], ?_⟩
     try simp only [Act.put, zA, zB, zC]
     refine zq (.bool false) ?_
     have DD48 := zH (((D24.out.trans D29.out).trans D45.out))
     have DD49 := zH ((((D18.out.trans D24.out).trans D29.out).trans D45.out))
     go_wp2_with fail
     go_roundg (ms.length - (k + 1))
     case measure => exact (by have ob0 := hsm.1; have ob1 := hsm.2; have ob4 := hup.1; have ob5 := hup.2; have ob7 := HLT.out; omega)
     case rel => exact ⟨k + 1, m, es, A1, c1, s + e.up, rfl, rfl, rfl, (by go_num), HLT.out, HPS.out, ⟨by omega, by omega⟩, ⟨HM.out.1, by have := HM.out.2; omega⟩, (by rw [HSEL.out, sel_take HRG.out, if_neg (by rw [HRN.out, CF.out]; decide), List.append_nil]), (fun g hg => (HOE.out g hg).dig DD48.out), H45.out.take 3, DD49.out⟩
    have CF := zH hcf
    clear hcf
    go_upto_region 8 with fail
    refine wp_region_lit ?_
    refine zq (.int .i64 (k : Int)) ?_
    refine zp (w' := w28) (.int .i64 ((k + 1 : Nat) : Int)) (by exact ez1 (by have ob0 := hsm.1; have ob1 := hsm.2; have ob4 := hup.1; have ob5 := hup.2; omega)) ?_
    refine qV (.slice (some ⟨gm, 0, none⟩) ms.length cm) ?_
    refine zq (.int .i64 ((ms.length : Nat) : Int)) ?_
    refine zp (w' := w28) (.bool true) (by exact ezl (e := (dec_t (by have ob0 := hsm.1; have ob1 := hsm.2; have ob4 := hup.1; have ob5 := hup.2; omega)))) ?_
    refine qV (.bool true) ?_
    refine zq (.int .i64 (s + e.up)) ?_
    refine qV (.int .i64 rule) ?_
    refine zc (fills_any (s + e.up) rule _ ⟨(by have ob0 := hsm.1; have ob1 := hsm.2; have ob4 := hup.1; have ob5 := hup.2; omega), (by have ob0 := hsm.1; have ob1 := hsm.2; have ob4 := hup.1; have ob5 := hup.2; omega)⟩ HRU.out) ?_
    rintro e w58 ⟨rfl, hx⟩
    have H59 := zH (H29.out.step hx)
    have D59 := zH (Dig.of_ext hx)
    clear hx
    refine ⟨.bool true, by rw [CF.out], ?_⟩
    try simp only [Act.put, zA, zB, zC]
    refine zq (.bool true) ?_
    go_upto_region 9 with fail
    refine wp_region_held_drew (S := fun x => Fr (fun kz => Value.ownBlock (.slice A1 m c1) = some kz) w58 x) (by kernel_rfl) (Fr.of_ext zb) (fun _ => ?_)
    have H62 := zH (H59.out.step (Ext.refl w58).drew)
    have D62 := zH (Dig.of_ext (w := w58) zb)
    refine zx 0 (bs 13 1) (.slice A1 m c1) (Fr.of_ext zb) ?_
    refine mX 1 (bs 13 3) (.pointer (some ⟨X22, 0, none⟩)) (Fr.of_ext zb) ?_
    refine zr 2 (bs 13 7) X22 (0) [.bool e.a.n, .slice e.a.p e.a.l e.a.c, .bool e.a.m, .slice e.a.p2 e.a.l2 e.a.c2] (fun x hx => Fr.range hx (show World.rangeAt w58 X22 (0) [.bool e.a.n, .slice e.a.p e.a.l e.a.c, .bool e.a.m, .slice e.a.p2 e.a.l2 e.a.c2] from (H59.out.range (i := 3) (by rfl) 0 4)) (H59.out.offRow (i := 3) (j := 2) (by rfl) (by rfl) (by decide) (by rfl))) Tryz.underlying27 (Fr.of_ext zb) ?_
    refine zx 3 (bs 13 15) (.slice (some ⟨gm, 0, none⟩) ms.length cm) (Fr.of_ext zb) ?_
    refine zx 4 (bs 13 31) (.int .i64 (k : Int)) (Fr.of_ext zb) ?_
    refine zu 5 (bs 13 63) (v := .int .i64 ((k + 1 : Nat) : Int)) (Fr.of_ext zb) ?_ (hv := by intro w hSw; exact ez1 (by have ob0 := hsm.1; have ob1 := hsm.2; have ob4 := hup.1; have ob5 := hup.2; omega))
    refine zu 6 (bs 13 127) (v := .pointer (some ⟨gm, (k + 1) * 5, none⟩)) (Fr.of_ext zb) ?_ (hv := by intro w hSw; exact ezi (k := k + 1) Tryz.underlying65 (l := CK.out) (f := (Nat.zero_add _).symm))
    refine mX 7 (bs 13 255) (.pointer (some ⟨gm, (k + 1) * 5, none⟩)) (Fr.of_ext zb) ?_
    refine zr 8 (bs 13 511) gm ((k + 1) * 5) [.bool f.a.n, .slice f.a.p f.a.l f.a.c, .bool f.a.m, .slice f.a.p2 f.a.l2 f.a.c2] (fun x hx => Fr.range hx (show World.rangeAt w58 gm ((k + 1) * 5) [.bool f.a.n, .slice f.a.p f.a.l f.a.c, .bool f.a.m, .slice f.a.p2 f.a.l2 f.a.c2] from (range_part (H59.out.elem (f := MkE.cells) (i := 1) (by rfl) MkE.len HEf.out) 0 4)) (H59.out.offRow (i := 1) (j := 2) (by rfl) (by rfl) (by decide) (by rfl))) Tryz.underlying27 (Fr.of_ext zb) ?_
    refine zx 9 (bs 13 1023) (.agg #[.bool e.a.n, .slice e.a.p e.a.l e.a.c, .bool e.a.m, .slice e.a.p2 e.a.l2 e.a.c2, .bool f.a.n, .slice f.a.p f.a.l f.a.c, .bool f.a.m, .slice f.a.p2 f.a.l2 f.a.c2]) (Fr.of_ext zb) ?_
    refine mU 10 (bs 13 2047) (v := .slice (some ⟨w58.drew.heap.size, 0, none⟩) 1 1) (w' := (w58.drew.alloc (.cells ([.bool e.a.n, .slice e.a.p e.a.l e.a.c, .bool e.a.m, .slice e.a.p2 e.a.l2 e.a.c2, .bool f.a.n, .slice f.a.p f.a.l f.a.c, .bool f.a.m, .slice f.a.p2 f.a.l2 f.a.c2] : List Value).toArray 51))) ((Fr.of_ext zb).trans (Fr.of_ext ((Ext.refl w58.drew).alloc _))) ?_
    try simp only [Act.put, zA, zB, zC]
    refine md_app (j := 11) (listed' := (bs 13 4095)) (by rfl) (by kernel_rfl) (by rfl) _ _ _ (by rfl) elSpan (by rfl) H62.out (ix := 2) (by rfl) 1 1 [.bool e.a.n, .slice e.a.p e.a.l e.a.c, .bool e.a.m, .slice e.a.p2 e.a.l2 e.a.c2, .bool f.a.n, .slice f.a.p f.a.l f.a.c, .bool f.a.m, .slice f.a.p2 f.a.l2 f.a.c2] (by rfl) rfl (by simp [Value.oneCell']) (by simp [NoUL]) (by decide) (by unfold maxLen; exact (by have ob0 := hsm.1; have ob1 := hsm.2; have ob4 := hup.1; have ob5 := hup.2; omega)) (by have ob0 := hsm.1; have ob1 := hsm.2; have ob4 := hup.1; have ob5 := hup.2; omega) (by kernel_rfl) ?_
    intro g73 cp74 w72 hf hh hd hg
    have Fg73 := zH hf
    clear hf
    rw [show List.flatMap SpE.cells es ++ [.bool e.a.n, .slice e.a.p e.a.l e.a.c, .bool e.a.m, .slice e.a.p2 e.a.l2 e.a.c2, .bool f.a.n, .slice f.a.p f.a.l f.a.c, .bool f.a.m, .slice f.a.p2 f.a.l2 f.a.c2] = _ from flat_snoc SpE.cells _ (⟨e.a, f.a, e.q, f.q⟩ : SpE)] at hh
    have H75 := zH (show Hp w w72 [.blk X1 27 (rc ry), ro 68 5 (some ⟨gm, 0, none⟩) ms.length cm MkE.cells ms, ro 51 8 (some ⟨g73, 0, none⟩) (m + 1) cp74 SpE.cells (es ++ [(⟨e.a, f.a, e.q, f.q⟩ : SpE)]), .blk X22 68 [.bool e.a.n, .slice e.a.p e.a.l e.a.c, .bool e.a.m, .slice e.a.p2 e.a.l2 e.a.c2, .int .i64 e.up]] from hh)
    have D75 := zH (show Dig w58.drew w72 from hd)
    have S77 := zH (show Fr (fun kz => Value.ownBlock (.slice A1 m c1) = some kz) w58 w72 from Fr.trans_new ((Fr.of_ext zb).trans (Fr.of_ext ((Ext.refl _).alloc _))) hg (fun j hj => .inl hj))
    clear hh hd hg
    refine ⟨S77.out, ?_⟩
    try simp only [Act.put, zA, zB, zC]
    refine zx 12 (bs 13 8191) (.slice (some ⟨g73, 0, none⟩) (m + 1) cp74) S77.out ?_
    refine wpAnyH_done (by kernel_rfl) ?_ _
    have DD79 := zH (((((D24.out.trans D29.out).trans D59.out).trans D62.out).trans D75.out))
    have DD80 := zH ((((((D18.out.trans D24.out).trans D29.out).trans D59.out).trans D62.out).trans D75.out))
    have HOKN := zH (show SpE.Ok (L + 8) w72 (⟨e.a, f.a, e.q, f.q⟩ : SpE) from ⟨(RAe.out.dig DD80.out), (RAf.out.dig DD80.out), BAe.out, BAf.out⟩)
    go_wp2_with fail
    go_roundg (ms.length - (k + 1))
    case measure => exact (by have ob0 := hsm.1; have ob1 := hsm.2; have ob4 := hup.1; have ob5 := hup.2; have ob7 := HLT.out; omega)
    case rel => exact ⟨k + 1, m + 1, es ++ [(⟨e.a, f.a, e.q, f.q⟩ : SpE)], some ⟨g73, 0, none⟩, cp74, s + e.up, rfl, rfl, rfl, (by go_num), HLT.out, HPS.out, ⟨by omega, by omega⟩, ⟨by rw [List.length_append, ← HM.out.1]; rfl, by have := HM.out.2; omega⟩, (by rw [List.map_append, HSEL.out, sel_take HRG.out, if_pos (by rw [HRN.out]; exact CF.out)]; rfl), (fun g hg => (List.mem_append.1 hg).elim (fun hg => (HOE.out g hg).dig DD79.out) (fun hg => by rw [List.mem_singleton.1 hg]; exact HOKN.out)), H75.out.take 3, DD80.out⟩
   have CK := zH c35
   clear c35
   have hk1 := CK.out
   go_upto_region 8 with fail
   refine wp_region_lit ?_
   refine zq (.int .i64 (k : Int)) ?_
   refine zp (w' := w28) (.int .i64 ((k + 1 : Nat) : Int)) (by exact ez1 (by have ob0 := hsm.1; have ob1 := hsm.2; have ob4 := hup.1; have ob5 := hup.2; omega)) ?_
   refine qV (.slice (some ⟨gm, 0, none⟩) ms.length cm) ?_
   refine zq (.int .i64 ((ms.length : Nat) : Int)) ?_
   refine zp (w' := w28) (.bool false) (by exact ezl (e := (dec_f (by have ob0 := hsm.1; have ob1 := hsm.2; have ob4 := hup.1; have ob5 := hup.2; omega)))) ?_
   refine zq (.bool false) ?_
   refine zk ?_
   refine zk ?_
   refine zk ?_
   refine zq (.bool false) ?_
   have DD88 := zH ((D24.out.trans D29.out))
   have DD89 := zH (((D18.out.trans D24.out).trans D29.out))
   go_wp2_with fail
   go_roundg (ms.length - (k + 1))
   case measure => exact (by have ob0 := hsm.1; have ob1 := hsm.2; have ob4 := hup.1; have ob5 := hup.2; have ob7 := HLT.out; omega)
   case rel => exact ⟨k + 1, m, es, A1, c1, s + e.up, rfl, rfl, rfl, (by go_num), HLT.out, HPS.out, ⟨by omega, by omega⟩, ⟨HM.out.1, by have := HM.out.2; omega⟩, (by rw [HSEL.out, List.take_of_length_le (show (runs 0 qs).length ≤ k by rw [runs_len]; omega), List.take_of_length_le (show (runs 0 qs).length ≤ k + 1 by rw [runs_len]; omega)]), (fun g hg => (HOE.out g hg).dig DD88.out), H29.out.take 3, DD89.out⟩
  have HLT := zH c19
  clear c19
  obtain rfl : k = ms.length := by have := HK.out; have := HLT.out; omega
  have hge : ¬ (ms.length : Int) < (ms.length : Int) := by omega
  have HRW := zH (H18.out.row (i := 2) (by rfl))
  have hm4 : m ≤ 4096 := by have := HM.out.2; omega
  have hme := HM.out.1
  subst hme
  go_upto_region 11 with fail
  refine wp_region_lit ?_
  refine qV (.slice A1 es.length c1) ?_
  refine zc (merge_any (L + 8) _ (List.map SpE.vl es) _ (SpR.reads ⟨HRW.out, HOE.out⟩) (by omega) (by omega) (by rw [List.length_map]; omega)) ?_
  rintro e w91 ⟨vm, em, rfl, hm1, hm2, hm3, hx⟩
  have H92 := zH (H18.out.step hx)
  clear hx
  refine zn ?_
  refine zq (vm) ?_
  go_wp2_with fail
  go_ret
  exact ⟨_, rfl, em, SpR.base hm1 H18.out.ext.size, by rw [hm2, HSEL.out, List.take_of_length_le (by rw [runs_len]; omega), HQS.out, HVAL.out]; rfl, Nat.le_trans hm3 (by rw [List.length_map]; exact hm4), H92.out.ext⟩

def RsV (L : Nat) (w : World) (v : Value) (qs : List Rat) : Prop :=
  ∃ A c, v = .slice A qs.length c ∧ ∀ (k : Nat) (q : Rat), qs[k]? = some q → ∃ (g off : Nat) (r : RV), A = some ⟨g, off, none⟩ ∧ w.rangeAt g (off + k * 4) [.bool r.n, .slice r.p r.l r.c, .bool r.m, .slice r.p2 r.l2 r.c2] ∧ r.Is w q ∧ Nm.rl q ≤ L
theorem RsV.ext {L : Nat} {w w' : World} {v : Value} {qs : List Rat} (h : RsV L w v qs) (x : Ext w w') : RsV L w' v qs := by
  obtain ⟨A, c, rfl, h⟩ := h
  refine ⟨A, c, rfl, fun k q hq => ?_⟩
  obtain ⟨g, off, r, e, h1, h2, h3⟩ := h k q hq
  exact ⟨g, off, r, e, range_ext h1 x, h2.ext x, h3⟩
set_option maxRecDepth 20000 in
set_option maxHeartbeats 4000000 in
theorem sameAll_any (L : Nat) (u v : Value) (qs : List Rat) (w : World) (hu : RsV L w u qs) (hv : RsV L w v qs) (hL : L ≤ 60000) (hn : qs.length ≤ 100000) :
  Calls Tryz.prog 20 #[u, v] w fun e w' => e = .returned (.bool true) ∧ Ext w w' := by
 obtain ⟨Au, cu, rfl, hu⟩ := hu
 obtain ⟨Av, cv, rfl, hv⟩ := hv
 have HU := zH hu
 have HV := zH hv
 have hne : ((qs.length : Int) != (qs.length : Int)) = false := by simp
 clear hu hv
 go_enter Tryz.func20, Tryz.ntmps20
 go_wp2_with fail
 go_loopg [5] qs.length (fun c i wr => ∃ k : Nat, k ≤ qs.length ∧ c = qs.length - k ∧ i = .int .i64 k ∧ Ext w wr)
 case atStart => exact ⟨0, Nat.zero_le _, rfl, rfl, Ext.refl _⟩
 case round =>
  obtain ⟨k, hk, rfl, rfl, hx⟩ := hrel
  have HX := zH hx
  clear hx
  by_cases hlt : k < qs.length
  ·have hlt2 : (k : Int) < (qs.length : Int) := by omega
   obtain ⟨q, hq⟩ : ∃ q, qs[k]? = some q := ⟨_, List.getElem?_eq_getElem hlt⟩
   obtain ⟨gu, ou, a, rfl, hu1, hu2, hu3⟩ := HU.out k q hq
   obtain ⟨gv, ov, b, rfl, hv1, hv2, hv3⟩ := HV.out k q hq
   have HRU := zH (range_ext hu1 HX.out)
   have HRV := zH (range_ext hv1 HX.out)
   have HA := zH (hu2.ext HX.out)
   have HB := zH (hv2.ext HX.out)
   have HQ := zH hu3
   have HLT := zH hlt
   clear hq hu1 hu2 hu3 hv1 hv2 hv3 hlt
   go_upto_region 6 with fail
   refine wp_region_held_drew (S := fun x => Ext wr x) (by kernel_rfl) (Ext.refl _).drew (fun _ => ?_)
   refine zv 0 (bs 10 1) (Ext.refl wr).drew ?_
   refine zv 1 (bs 10 3) (Ext.refl wr).drew ?_
   refine mV 2 (bs 10 7) (Ext.refl wr).drew ?_
   refine zr 3 (bs 10 15) gu (ou + k * 4) [.bool a.n, .slice a.p a.l a.c, .bool a.m, .slice a.p2 a.l2 a.c2] (fun wX hwX => range_ext HRU.out hwX) Tryz.underlying27 (Ext.refl wr).drew ?_
   refine zv 4 (bs 10 31) (Ext.refl wr).drew ?_
   refine zv 5 (bs 10 63) (Ext.refl wr).drew ?_
   refine mV 6 (bs 10 127) (Ext.refl wr).drew ?_
   refine zr 7 (bs 10 255) gv (ov + k * 4) [.bool b.n, .slice b.p b.l b.c, .bool b.m, .slice b.p2 b.l2 b.c2] (fun wX hwX => range_ext HRV.out hwX) Tryz.underlying27 (Ext.refl wr).drew ?_
   refine mC 8 (bs 10 511) (same_any a b q L _ (HA.out.ext (Ext.refl _).drew) (HB.out.ext (Ext.refl _).drew) HQ.out (by omega)) ?_
   rintro e w5 ⟨rfl, hx⟩
   have HEw5 := zH (show Ext wr w5 from ((Ext.refl wr).drew).trans hx)
   clear hx
   refine ⟨_, rfl, HEw5.out, ?_⟩
   try simp only [Act.put, zA, zB, zC]
   refine zv 9 (bs 10 1023) HEw5.out ?_
   refine wpAnyH_done (by kernel_rfl) ?_ _
   go_wp2_with fail
   go_roundg (qs.length - (k + 1))
   case measure => have := HLT.out; omega
   case rel => exact ⟨k + 1, HLT.out, rfl, by go_num, HX.out.trans HEw5.out⟩
  obtain rfl : k = qs.length := by omega
  have hge : ¬ (qs.length : Int) < (qs.length : Int) := by omega
  go_wp2_with fail
  go_ret
  exact ⟨rfl, HX.out⟩

set_option maxRecDepth 20000 in
set_option maxHeartbeats 4000000 in
theorem r18same_any (L : Nat) (u v : Value) (b1 b2 : Nat) (es fs : List SpE) (w : World) (hu : SpR L w b1 u es) (hv : SpR L w b2 v fs) (he : es.map SpE.vl = fs.map SpE.vl) (hL : L ≤ 60000) (hn : es.length ≤ 100000) :
  Calls Tryz.prog 15 #[u, v] w fun e w' => e = .returned (.bool true) ∧ Ext w w' := by
 have hlen : es.length = fs.length := by have h := congrArg List.length he; simpa using h
 obtain ⟨Au, cu, rfl⟩ := row_slice hu.1
 obtain ⟨Av, cv, rfl⟩ := row_slice hv.1
 rw [← hlen] at hv ⊢
 have HU := zH hu
 have HV := zH hv
 have HE := zH he
 have HLN := zH hlen
 have hne : ((es.length : Int) != (es.length : Int)) = false := by simp
 clear hu hv he hlen
 go_enter Tryz.func15, Tryz.ntmps15
 go_wp2_with fail
 go_loopg [5] es.length (fun c i wr => ∃ k : Nat, k ≤ es.length ∧ c = es.length - k ∧ i = .int .i64 k ∧ Ext w wr)
 case atStart => exact ⟨0, Nat.zero_le _, rfl, rfl, Ext.refl _⟩
 case round =>
  obtain ⟨k, hk, rfl, rfl, hx⟩ := hrel
  have HX := zH hx
  clear hx
  by_cases hlt : k < es.length
  ·have hlt2 : (k : Int) < (es.length : Int) := by omega
   obtain ⟨e, hee⟩ : ∃ e, es[k]? = some e := ⟨_, List.getElem?_eq_getElem hlt⟩
   obtain ⟨f, hff⟩ : ∃ f, fs[k]? = some f := ⟨_, List.getElem?_eq_getElem (by have := HLN.out; omega)⟩
   have hvl : e.vl = f.vl := by
    have h1 : (es.map SpE.vl)[k]? = some e.vl := by rw [List.getElem?_map, hee]; rfl
    rw [HE.out, List.getElem?_map, hff] at h1
    injection h1 with h1
    exact h1.symm
   have hpq : e.p = f.p ∧ e.q = f.q := by have h1 := congrArg Prod.fst hvl; have h2 := congrArg Prod.snd hvl; exact ⟨h1, h2⟩
   have HOE := zH ((HU.out.2 e (List.mem_of_getElem? hee)).ext HX.out)
   have HOF := zH ((HV.out.2 f (List.mem_of_getElem? hff)).ext HX.out)
   obtain ⟨gu, rfl⟩ : ∃ g, Au = some ⟨g, 0, none⟩ := by
    rcases HU.out.form with ⟨_, hn⟩ | ⟨g, cap, rest, hv, _⟩
    ·rw [hn] at hlt; simp at hlt
    injection hv with e1 _ _; exact ⟨g, e1⟩
   obtain ⟨gv, rfl⟩ : ∃ g, Av = some ⟨g, 0, none⟩ := by
    rcases HV.out.form with ⟨_, hn⟩ | ⟨g, cap, rest, hv, _⟩
    ·rw [hn] at hff; simp at hff
    injection hv with e1 _ _; exact ⟨g, e1⟩
   have HRU := zH (range_ext (HU.out.read hee) HX.out)
   have HRV := zH (range_ext (HV.out.read hff) HX.out)
   have HPQ := zH hpq
   have HLT := zH hlt
   clear hee hff hvl hpq hlt
   go_upto_region 6 with fail
   refine wp_region_held_drew (S := fun x => Ext wr x) (by kernel_rfl) (Ext.refl _).drew (fun _ => ?_)
   refine zv 0 (bs 26 1) (Ext.refl wr).drew ?_
   refine zv 1 (bs 26 3) (Ext.refl wr).drew ?_
   refine zv 2 (bs 26 7) (Ext.refl wr).drew ?_
   refine mV 3 (bs 26 15) (Ext.refl wr).drew ?_
   refine zr 4 (bs 26 31) gu (k * 8) [.bool e.a.n, .slice e.a.p e.a.l e.a.c, .bool e.a.m, .slice e.a.p2 e.a.l2 e.a.c2] (fun wX hwX => range_ext (range_left (a := [.bool e.a.n, .slice e.a.p e.a.l e.a.c, .bool e.a.m, .slice e.a.p2 e.a.l2 e.a.c2]) (b := [.bool e.b.n, .slice e.b.p e.b.l e.b.c, .bool e.b.m, .slice e.b.p2 e.b.l2 e.b.c2]) HRU.out) hwX) Tryz.underlying27 (Ext.refl wr).drew ?_
   refine zv 5 (bs 26 63) (Ext.refl wr).drew ?_
   refine zv 6 (bs 26 127) (Ext.refl wr).drew ?_
   refine zv 7 (bs 26 255) (Ext.refl wr).drew ?_
   refine mV 8 (bs 26 511) (Ext.refl wr).drew ?_
   refine zr 9 (bs 26 1023) gv (k * 8) [.bool f.a.n, .slice f.a.p f.a.l f.a.c, .bool f.a.m, .slice f.a.p2 f.a.l2 f.a.c2] (fun wX hwX => range_ext (range_left (a := [.bool f.a.n, .slice f.a.p f.a.l f.a.c, .bool f.a.m, .slice f.a.p2 f.a.l2 f.a.c2]) (b := [.bool f.b.n, .slice f.b.p f.b.l f.b.c, .bool f.b.m, .slice f.b.p2 f.b.l2 f.b.c2]) HRV.out) hwX) Tryz.underlying27 (Ext.refl wr).drew ?_
   refine mC 10 (bs 26 2047) (same_any e.a f.a e.p L _ (HOE.out.ext (Ext.refl _).drew).1 (by rw [HPQ.out.1]; exact (HOF.out.ext (Ext.refl _).drew).1) HOE.out.2.2.1 (by omega)) ?_
   rintro e w5 ⟨rfl, hx⟩
   have HEw5 := zH (show Ext wr w5 from ((Ext.refl wr).drew).trans hx)
   clear hx
   refine ⟨_, rfl, HEw5.out, ?_⟩
   try simp only [Act.put, zA, zB, zC]
   refine zv 11 (bs 26 4095) HEw5.out ?_
   refine zv 12 (bs 26 8191) HEw5.out ?_
   refine zv 13 (bs 26 16383) HEw5.out ?_
   refine zv 14 (bs 26 32767) HEw5.out ?_
   refine zv 15 (bs 26 65535) HEw5.out ?_
   refine mV 16 (bs 26 131071) HEw5.out ?_
   refine zr 17 (bs 26 262143) gu (k * 8 + 4) [.bool e.b.n, .slice e.b.p e.b.l e.b.c, .bool e.b.m, .slice e.b.p2 e.b.l2 e.b.c2] (fun wX hwX => range_ext (range_right (a := [.bool e.a.n, .slice e.a.p e.a.l e.a.c, .bool e.a.m, .slice e.a.p2 e.a.l2 e.a.c2]) (b := [.bool e.b.n, .slice e.b.p e.b.l e.b.c, .bool e.b.m, .slice e.b.p2 e.b.l2 e.b.c2]) (n := 4) HRU.out rfl) hwX) Tryz.underlying27 HEw5.out ?_
   refine zv 18 (bs 26 524287) HEw5.out ?_
   refine zv 19 (bs 26 1048575) HEw5.out ?_
   refine zv 20 (bs 26 2097151) HEw5.out ?_
   refine mV 21 (bs 26 4194303) HEw5.out ?_
   refine zr 22 (bs 26 8388607) gv (k * 8 + 4) [.bool f.b.n, .slice f.b.p f.b.l f.b.c, .bool f.b.m, .slice f.b.p2 f.b.l2 f.b.c2] (fun wX hwX => range_ext (range_right (a := [.bool f.a.n, .slice f.a.p f.a.l f.a.c, .bool f.a.m, .slice f.a.p2 f.a.l2 f.a.c2]) (b := [.bool f.b.n, .slice f.b.p f.b.l f.b.c, .bool f.b.m, .slice f.b.p2 f.b.l2 f.b.c2]) (n := 4) HRV.out rfl) hwX) Tryz.underlying27 HEw5.out ?_
   refine mC 23 (bs 26 16777215) (same_any e.b f.b e.q L _ (HOE.out.ext HEw5.out).2.1 (by rw [HPQ.out.2]; exact (HOF.out.ext HEw5.out).2.1) HOE.out.2.2.2 (by omega)) ?_
   rintro e w6 ⟨rfl, hx⟩
   have HEw6 := zH (show Ext wr w6 from (HEw5.out).trans hx)
   clear hx
   refine ⟨_, rfl, HEw6.out, ?_⟩
   try simp only [Act.put, zA, zB, zC]
   refine zv 24 (bs 26 33554431) HEw6.out ?_
   refine zv 25 (bs 26 67108863) HEw6.out ?_
   refine wpAnyH_done (by kernel_rfl) ?_ _
   go_wp2_with fail
   go_roundg (es.length - (k + 1))
   case measure => have := HLT.out; omega
   case rel => exact ⟨k + 1, HLT.out, rfl, by go_num, HX.out.trans HEw6.out⟩
  obtain rfl : k = es.length := by omega
  have hge : ¬ (es.length : Int) < (es.length : Int) := by omega
  go_wp2_with fail
  go_ret
  exact ⟨rfl, HX.out⟩
end Go.Proofs.YtaeeeailoiioaabGreat

namespace Go.Proofs.YtaeeeailoiioaabGreat
open Go.RowKit

theorem Hp.addRow2 {w0 w w' : World} {m : List Ent} {t t2 : TypeId} {size size2 : Nat} {v v2 : Value} {n n2 : Nat} {xs xs2 : List Value} (h : Hp w0 w m) (x : Ext w w') (r : RowN w' w.heap.size t size v n xs) (r2 : RowN w' w.heap.size t2 size2 v2 n2 xs2) (hne : t ≠ t2) :
  Hp w0 w' (m ++ [.row t size v n xs] ++ [.row t2 size2 v2 n2 xs2]) := by
 have h1 := h.addRow x r
 have r2' : RowN w' w0.heap.size t2 size2 v2 n2 xs2 := by
  obtain ⟨q1, q2 | ⟨g, cap, rest, a, b, c⟩⟩ := r2
  ·exact ⟨q1, .inl q2⟩
  exact ⟨q1, .inr ⟨g, cap, rest, a, Nat.le_trans h.ext.size b, c⟩⟩
 refine h1.add r2' (fun i f hf k hk e => ?_)
 rcases List.mem_append.1 (List.mem_of_getElem? hf) with hm | hm
 ·obtain ⟨j, hj⟩ := List.mem_iff_getElem?.1 hm
  have q1 := h.lt hj hk
  have q2 := RowN.block r2 k e
  omega
 simp at hm
 subst hm
 obtain ⟨_, ⟨rfl, _⟩ | ⟨g2, c2, rest2, rfl, _, hb2, _⟩⟩ := r2
 ·simp [Ent.own, Value.ownBlock] at e
 have hk2 : g2 = k := by simpa [Ent.own, Value.ownBlock] using e
 subst hk2
 exact hne (h1.typ hf hb2 hk)
theorem SpR.up {L M : Nat} {w : World} {b : Nat} {v : Value} {es : List SpE} (h : SpR L w b v es) (hl : L ≤ M) : SpR M w b v es := ⟨h.1, fun e he => ⟨(h.2 e he).1, (h.2 e he).2.1, Nat.le_trans (h.2 e he).2.2.1 hl, Nat.le_trans (h.2 e he).2.2.2 hl⟩⟩
def exR : List Ring := [[(0, 0), (4, 0), (4, 4), (0, 4)]]
theorem ex_marks : marksV (((1 : Int)) : Rat) exR = [((0 : Rat), -1), ((4 : Rat), 1)] := by decide +kernel
theorem ex_spans : spansV 1 [((0 : Rat), -1), ((4 : Rat), 1)] = [((0 : Rat), (4 : Rat))] := by decide +kernel
theorem exRings {w0 w : World} {m : List Ent} {X1 X2 : Nat} (h : Hp w0 w m) (h1 : m[0]? = some (.blk X1 53 [.int .i64 0, .int .i64 0, .int .i64 4, .int .i64 0, .int .i64 4, .int .i64 4, .int .i64 0, .int .i64 4]))
  (h2 : m[1]? = some (.blk X2 54 [.slice (some ⟨X1, 0, none⟩) 4 4])) : RingsV w (.slice (some ⟨X2, 0, none⟩) 1 1) exR := by
 refine ⟨_, 1, rfl, fun _ => ⟨X2, 0, rfl, fun i r hr => ?_⟩⟩
 have hi : i = 0 := by have := (List.getElem?_eq_some_iff.1 hr).1; simp [exR] at this; omega
 subst hi
 have hr2 : r = [(0, 0), (4, 0), (4, 4), (0, 4)] := by simpa [exR] using hr.symm
 subst hr2
 refine ⟨_, 4, h.cell h2 0 rfl, ⟨_, 4, rfl, fun _ => ⟨X1, 0, rfl, fun i hi => ?_⟩⟩⟩
 have hi : i < 4 := hi
 have : i = 0 ∨ i = 1 ∨ i = 2 ∨ i = 3 := by omega
 rcases this with rfl | rfl | rfl | rfl
 ·exact ⟨h.cell h1 0 rfl, h.cell h1 1 rfl⟩
 ·exact ⟨h.cell h1 2 rfl, h.cell h1 3 rfl⟩
 ·exact ⟨h.cell h1 4 rfl, h.cell h1 5 rfl⟩
 exact ⟨h.cell h1 6 rfl, h.cell h1 7 rfl⟩
theorem Hp.litRow {w0 w : World} {m : List Ent} {i X n size : Nat} {t : TypeId} {cs : List Value} (h : Hp w0 w m) (hi : m[i]? = some (.blk X t cs)) (hl : cs.length = n * size) (hn : n ≤ maxLen) : RowN w w0.heap.size t size (.slice (some ⟨X, 0, none⟩) n n) n cs :=
  ⟨hl, .inr ⟨X, n, [], rfl, h.ge hi rfl, by rw [List.append_nil]; exact h.blk hi, Nat.le_refl _, hn, by simp [hl], by rw [List.append_nil]; exact h.noU hi⟩⟩
theorem RsV.of_row {α : Type} {L : Nat} {w : World} {b n : Nat} {t : TypeId} {v : Value} {es : List α} (f : α → RV) (q : α → Rat) (h : RowN w b t 4 v n (es.flatMap fun e => [.bool (f e).n, .slice (f e).p (f e).l (f e).c, .bool (f e).m, .slice (f e).p2 (f e).l2 (f e).c2])) (hn : n = es.length)
  (hok : ∀ e, e ∈ es → (f e).Is w (q e) ∧ Nm.rl (q e) ≤ L) : RsV L w v (es.map q) := by
 obtain ⟨A, c, rfl, hA⟩ := h.form
 refine ⟨A, c, by rw [List.length_map, hn], fun k x hx => ?_⟩
 rw [List.getElem?_map] at hx
 obtain ⟨e, he, rfl⟩ := Option.map_eq_some_iff.1 hx
 have hk := (List.getElem?_eq_some_iff.1 he).1
 obtain ⟨g, rfl⟩ := hA (by omega)
 obtain ⟨h1, h2⟩ := hok e (List.mem_of_getElem? he)
 exact ⟨g, 0, f e, rfl, by rw [Nat.zero_add]; exact h.rangeAt _ _ (fun j v hj => flat_get (c := 4) (fun _ => rfl) es k e he j v hj), h1, h2⟩
theorem two_of_map {α β : Type} {f : α → β} {l : List α} {x y : β} (h : l.map f = [x, y]) : ∃ a b, l = [a, b] ∧ f a = x ∧ f b = y := by
  rcases l with _ | ⟨a, _ | ⟨b, _ | ⟨c, t⟩⟩⟩
  · cases h
  · simp at h
  · simp at h; exact ⟨a, b, rfl, h.1, h.2⟩
  simp at h
end Go.Proofs.YtaeeeailoiioaabGreat

namespace Go.Proofs.YtaeeeailoiioaabGreat
open Go.RowKit
attribute [local go_sem ↓] Go.wp_at_zero Go.wp_at_succ run_max_ii run_min_ii
set_option maxRecDepth 20000 in
set_option maxHeartbeats 4000000 in
theorem example_any (w : World) : Calls Tryz.prog 8 #[] w fun e w' => e = .returned (.bool true) ∧ Ext w w' := by
 go_enter Tryz.func8, Tryz.ntmps8
 have H0 := zH (Hp.start w)
 go_upto_region 0 with fail
 refine wp_region_lit ?_
 refine qV (.bool false) ?_
 (try simp only [Act.put, List.setIfInBounds_toArray, List.set_cons_zero])
 go_upto_region 1 with fail
 refine wp_region_lit ?_
 refine qV (.agg #[.int .i64 0, .int .i64 0]) ?_
 refine zq (.agg #[.int .i64 4, .int .i64 0]) ?_
 refine qV (.agg #[.int .i64 4, .int .i64 4]) ?_
 refine zq (.agg #[.int .i64 0, .int .i64 4]) ?_
 refine mv_lit (T := 53) (zs := [.int .i64 0, .int .i64 0, .int .i64 4, .int .i64 0, .int .i64 4, .int .i64 4, .int .i64 0, .int .i64 4]) (n := 4) (by rfl) (by go_simp) H0.out (by simp [NoUL]) ?_
 intro X6 w7 hh hx hge
 have H8 := zH (show Hp w w7 [.blk X6 53 [.int .i64 0, .int .i64 0, .int .i64 4, .int .i64 0, .int .i64 4, .int .i64 4, .int .i64 0, .int .i64 4]] from hh)
 clear hh hx hge
 try simp only [Act.put, zA, zB, zC]
 refine mv_lit (T := 54) (zs := [.slice (some ⟨X6, 0, none⟩) 4 4]) (n := 1) (by rfl) (by go_simp) H8.out (by simp [NoUL]) ?_
 intro X10 w11 hh hx hge
 have H12 := zH (show Hp w w11 [.blk X6 53 [.int .i64 0, .int .i64 0, .int .i64 4, .int .i64 0, .int .i64 4, .int .i64 4, .int .i64 0, .int .i64 4], .blk X10 54 [.slice (some ⟨X6, 0, none⟩) 4 4]] from hh)
 clear hh hx hge
 try simp only [Act.put, zA, zB, zC]
 refine zq (.slice (some ⟨X10, 0, none⟩) 1 1) ?_
 go_upto_region 2 with fail
 refine wp_region_lit ?_
 refine qV (.slice (some ⟨X10, 0, none⟩) 1 1) ?_
 refine zc (q03From 1 _ (by omega) (by omega)) ?_
 rintro e w16 ⟨c_, rfl, hc_, hx⟩
 have H18 := zH (H12.out.step hx)
 obtain ⟨r17, rfl, hr_⟩ := hc_
 have R17 := zH hr_
 have B17 := zH (rl_i64 1 (by omega) (by omega))
 clear hr_
 clear hx
 refine zn ?_
 refine zc (spans_any 3 (.slice (some ⟨X10, 0, none⟩) 1 1) exR 1 r17 (((1) : Int) : Rat) _ (exRings (X1 := X6) (X2 := X10) H18.out (by rfl) (by rfl)) (RV.Is.isIn R17.out (Nat.le_trans B17.out (by decide))) (by decide) (by decide) (by decide) (by decide) (by decide)) ?_
 rintro e w20 ⟨v_, es21, rfl, hv1_, hv2_, hv3_, hx⟩
 have VL21 := zH hv2_
 have LN21 := zH hv3_
 have OK21 := zH hv1_.2
 obtain ⟨A21, c21, rfl, hA_⟩ := RowN.form hv1_.1
 have HA21 := zH hA_
 clear hv2_ hv3_ hA_
 have H22 := zH (show Hp w w20 [.blk X6 53 [.int .i64 0, .int .i64 0, .int .i64 4, .int .i64 0, .int .i64 4, .int .i64 4, .int .i64 0, .int .i64 4], .blk X10 54 [.slice (some ⟨X6, 0, none⟩) 4 4], ro 51 8 A21 es21.length c21 SpE.cells es21] from H18.out.addRow hx hv1_.1)
 clear hv1_
 clear hx
 refine zn ?_
 refine zq (.slice A21 es21.length c21) ?_
 go_upto_region 3 with fail
 refine wp_region_lit ?_
 refine qV (.slice (some ⟨X10, 0, none⟩) 1 1) ?_
 refine zc (q03From 1 _ (by omega) (by omega)) ?_
 rintro e w26 ⟨c_, rfl, hc_, hx⟩
 have H28 := zH (H22.out.step hx)
 have D28 := zH (Dig.of_ext hx)
 obtain ⟨r27, rfl, hr_⟩ := hc_
 have R27 := zH hr_
 have B27 := zH (rl_i64 1 (by omega) (by omega))
 clear hr_
 clear hx
 refine zn ?_
 refine zc (crossings_any 3 _ exR r27 (((1) : Int) : Rat) _ (exRings (X1 := X6) (X2 := X10) H28.out (by rfl) (by rfl)) (RV.Is.isIn R27.out (Nat.le_trans B27.out (by decide))) (by decide) (by decide) (by decide) (by decide)) ?_
 rintro e w30 ⟨A1, c1, A2, c2, n_, em, rfl, rfl, hr1_, hr2_, hok_, hcv_, hx⟩
 obtain ⟨ea, eb, rfl, hva_, hvb_⟩ := two_of_map (hcv_.trans ex_marks)
 have HVA := zH hva_
 have HVB := zH hvb_
 have HOKX := zH hok_
 clear hcv_ hva_ hvb_ hok_
 obtain ⟨g1, rfl⟩ : ∃ g, A1 = some ⟨g, 0, none⟩ := by obtain ⟨A_, c_, h1_, h2_⟩ := RowN.form hr1_; injection h1_ with h1_ _ _; rw [h1_]; exact h2_ (by simp)
 obtain ⟨g2, rfl⟩ : ∃ g, A2 = some ⟨g, 0, none⟩ := by obtain ⟨A_, c_, h1_, h2_⟩ := RowN.form hr2_; injection h1_ with h1_ _ _; rw [h1_]; exact h2_ (by simp)
 have H31 := zH (show Hp w w30 [.blk X6 53 [.int .i64 0, .int .i64 0, .int .i64 4, .int .i64 0, .int .i64 4, .int .i64 4, .int .i64 0, .int .i64 4], .blk X10 54 [.slice (some ⟨X6, 0, none⟩) 4 4], ro 51 8 A21 es21.length c21 SpE.cells es21, ro 27 4 (some ⟨g1, 0, none⟩) 2 c1 MkE.cx ([ea, eb]), ro 3 1 (some ⟨g2, 0, none⟩) 2 c2 MkE.cu ([ea, eb])] from H28.out.addRow2 hx hr1_ hr2_ (by decide))
 have D31 := zH (Dig.of_ext hx)
 clear hx hr1_ hr2_
 refine zn ?_
 refine qV (.tuple #[.slice (some ⟨g1, 0, none⟩) 2 c1, .slice (some ⟨g2, 0, none⟩) 2 c2]) ?_
 refine zq (.slice (some ⟨g1, 0, none⟩) 2 c1) ?_
 refine qV (.slice (some ⟨g2, 0, none⟩) 2 c2) ?_
 refine zq (.slice (some ⟨g1, 0, none⟩) 2 c1) ?_
 refine zq (.slice (some ⟨g2, 0, none⟩) 2 c2) ?_
 have HEA := zH (show [ea, eb][0]? = some ea from rfl)
 have HEB := zH (show [ea, eb][1]? = some eb from rfl)
 have hua := (HOKX.out ea (by simp)).2.2
 have hub := (HOKX.out eb (by simp)).2.2
 have hsum : ea.up = -1 ∧ eb.up = 1 := ⟨congrArg Prod.snd HVA.out, congrArg Prod.snd HVB.out⟩
 go_upto_region 4 with fail
 refine zy ?_
 have H38 := zH (H31.out.step (Ext.refl w30).drew)
 have D38 := zH (Dig.of_ext (w := w30) zb)
 refine zx 0 (bs 29 1) (.slice A21 es21.length c21) zb ?_
 refine mC 1 (bs 29 3) (q03From 0 _ (by have ob0 := hua.1; have ob1 := hua.2; have ob2 := hub.1; have ob3 := hub.2; have ob4 := hsum.1; have ob5 := hsum.2; omega) (by have ob0 := hua.1; have ob1 := hua.2; have ob2 := hub.1; have ob3 := hub.2; have ob4 := hsum.1; have ob5 := hsum.2; omega)) ?_
 rintro e w41 ⟨c_, rfl, hc_, hx⟩
 have H43 := zH (H38.out.step hx)
 have D43 := zH (show Dig w30.drew w41 from Dig.of_ext hx)
 have S45 := zH (show Ext w30 w41 from zb.trans hx)
 obtain ⟨r42, rfl, hr_⟩ := hc_
 have R42 := zH hr_
 have B42 := zH (rl_i64 0 (by have ob0 := hua.1; have ob1 := hua.2; have ob2 := hub.1; have ob3 := hub.2; have ob4 := hsum.1; have ob5 := hsum.2; omega) (by have ob0 := hua.1; have ob1 := hua.2; have ob2 := hub.1; have ob3 := hub.2; have ob4 := hsum.1; have ob5 := hsum.2; omega))
 clear hr_
 clear hx
 refine zm S45.out ?_
 refine mC 2 (bs 29 7) (q03From 4 _ (by have ob0 := hua.1; have ob1 := hua.2; have ob2 := hub.1; have ob3 := hub.2; have ob4 := hsum.1; have ob5 := hsum.2; omega) (by have ob0 := hua.1; have ob1 := hua.2; have ob2 := hub.1; have ob3 := hub.2; have ob4 := hsum.1; have ob5 := hsum.2; omega)) ?_
 rintro e w46 ⟨c_, rfl, hc_, hx⟩
 have H48 := zH (H43.out.step hx)
 have D48 := zH (Dig.of_ext hx)
 have S50 := zH (S45.out.trans hx)
 obtain ⟨r47, rfl, hr_⟩ := hc_
 have R47 := zH hr_
 have B47 := zH (rl_i64 4 (by have ob0 := hua.1; have ob1 := hua.2; have ob2 := hub.1; have ob3 := hub.2; have ob4 := hsum.1; have ob5 := hsum.2; omega) (by have ob0 := hua.1; have ob1 := hua.2; have ob2 := hub.1; have ob3 := hub.2; have ob4 := hsum.1; have ob5 := hsum.2; omega))
 clear hr_
 clear hx
 refine zm S50.out ?_
 refine zx 3 (bs 29 15) (.agg #[.bool r42.n, .slice r42.p r42.l r42.c, .bool r42.m, .slice r42.p2 r42.l2 r42.c2, .bool r47.n, .slice r47.p r47.l r47.c, .bool r47.m, .slice r47.p2 r47.l2 r47.c2]) S50.out ?_
 refine md_lit (T := 51) (zs := [.bool r42.n, .slice r42.p r42.l r42.c, .bool r42.m, .slice r42.p2 r42.l2 r42.c2, .bool r47.n, .slice r47.p r47.l r47.c, .bool r47.m, .slice r47.p2 r47.l2 r47.c2]) (n := 1) (i := 4) (listed' := (bs 29 31)) (by rfl) (by kernel_rfl) (by rfl) (by go_simp) (by kernel_rfl) H48.out (by simp [NoUL]) ?_
 intro X52 w53 hh hx hge
 have H54 := zH (show Hp w w53 [.blk X6 53 [.int .i64 0, .int .i64 0, .int .i64 4, .int .i64 0, .int .i64 4, .int .i64 4, .int .i64 0, .int .i64 4], .blk X10 54 [.slice (some ⟨X6, 0, none⟩) 4 4], ro 51 8 A21 es21.length c21 SpE.cells es21, ro 27 4 (some ⟨g1, 0, none⟩) 2 c1 MkE.cx ([ea, eb]), ro 3 1 (some ⟨g2, 0, none⟩) 2 c2 MkE.cu ([ea, eb]), .blk X52 51 [.bool r42.n, .slice r42.p r42.l r42.c, .bool r42.m, .slice r42.p2 r42.l2 r42.c2, .bool r47.n, .slice r47.p r47.l r47.c, .bool r47.m, .slice r47.p2 r47.l2 r47.c2]] from hh)
 have D54 := zH (Dig.of_ext hx)
 have S56 := zH (S50.out.trans hx)
 clear hh hx hge
 refine ⟨S56.out, ?_⟩
 try simp only [Act.put, zA, zB, zC]
 have DD59 := zH ((((((D28.out.trans D31.out).trans D38.out).trans D43.out).trans D48.out).trans D54.out))
 have DD60 := zH ((D48.out.trans D54.out))
 refine mC 5 (bs 29 63) (r18same_any 60000 (.slice A21 es21.length c21) (.slice (some ⟨X52, 0, none⟩) 1 1) _ _ es21 ([(⟨r42, r47, (((0) : Int) : Rat), (((4) : Int) : Rat)⟩ : SpE)]) _ (SpR.up (L := (3 + 8)) ⟨H54.out.row (i := 2) (by rfl), (fun e_ he_ => (OK21.out e_ he_).dig DD59.out)⟩ (by omega)) ⟨H54.out.litRow (i := 5) (n := 1) (by rfl) (by rfl) (by decide), (by simp only [List.forall_mem_cons, List.not_mem_nil, false_imp_iff, implies_true, and_true]; exact ⟨(R42.out.dig DD60.out), (R47.out.dig D54.out), (Nat.le_trans B42.out (by omega)), (Nat.le_trans B47.out (by omega))⟩)⟩ (by rw [VL21.out, ex_marks, ex_spans]; rfl) (by omega) (Nat.le_trans LN21.out (by decide))) ?_
 rintro e w58 ⟨rfl, hx⟩
 have H61 := zH (H54.out.step hx)
 have D61 := zH (Dig.of_ext hx)
 have S63 := zH (S56.out.trans hx)
 clear hx
 refine zm S63.out ?_
 refine zx 6 (bs 29 127) (.bool true) S63.out ?_
 refine zx 7 (bs 29 255) (.slice (some ⟨g1, 0, none⟩) 2 c1) S63.out ?_
 refine mC 8 (bs 29 511) (q03From 0 _ (by have ob0 := hua.1; have ob1 := hua.2; have ob2 := hub.1; have ob3 := hub.2; have ob4 := hsum.1; have ob5 := hsum.2; omega) (by have ob0 := hua.1; have ob1 := hua.2; have ob2 := hub.1; have ob3 := hub.2; have ob4 := hsum.1; have ob5 := hsum.2; omega)) ?_
 rintro e w66 ⟨c_, rfl, hc_, hx⟩
 have H68 := zH (H61.out.step hx)
 have D68 := zH (Dig.of_ext hx)
 have S70 := zH (S63.out.trans hx)
 obtain ⟨r67, rfl, hr_⟩ := hc_
 have R67 := zH hr_
 have B67 := zH (rl_i64 0 (by have ob0 := hua.1; have ob1 := hua.2; have ob2 := hub.1; have ob3 := hub.2; have ob4 := hsum.1; have ob5 := hsum.2; omega) (by have ob0 := hua.1; have ob1 := hua.2; have ob2 := hub.1; have ob3 := hub.2; have ob4 := hsum.1; have ob5 := hsum.2; omega))
 clear hr_
 clear hx
 refine zm S70.out ?_
 refine mC 9 (bs 29 1023) (q03From 4 _ (by have ob0 := hua.1; have ob1 := hua.2; have ob2 := hub.1; have ob3 := hub.2; have ob4 := hsum.1; have ob5 := hsum.2; omega) (by have ob0 := hua.1; have ob1 := hua.2; have ob2 := hub.1; have ob3 := hub.2; have ob4 := hsum.1; have ob5 := hsum.2; omega)) ?_
 rintro e w71 ⟨c_, rfl, hc_, hx⟩
 have H73 := zH (H68.out.step hx)
 have D73 := zH (Dig.of_ext hx)
 have S75 := zH (S70.out.trans hx)
 obtain ⟨r72, rfl, hr_⟩ := hc_
 have R72 := zH hr_
 have B72 := zH (rl_i64 4 (by have ob0 := hua.1; have ob1 := hua.2; have ob2 := hub.1; have ob3 := hub.2; have ob4 := hsum.1; have ob5 := hsum.2; omega) (by have ob0 := hua.1; have ob1 := hua.2; have ob2 := hub.1; have ob3 := hub.2; have ob4 := hsum.1; have ob5 := hsum.2; omega))
 clear hr_
 clear hx
 refine zm S75.out ?_
 refine md_lit (T := 27) (zs := [.bool r67.n, .slice r67.p r67.l r67.c, .bool r67.m, .slice r67.p2 r67.l2 r67.c2, .bool r72.n, .slice r72.p r72.l r72.c, .bool r72.m, .slice r72.p2 r72.l2 r72.c2]) (n := 2) (i := 10) (listed' := (bs 29 2047)) (by rfl) (by kernel_rfl) (by rfl) (by go_simp) (by kernel_rfl) H73.out (by simp [NoUL]) ?_
 intro X76 w77 hh hx hge
 have H78 := zH (show Hp w w77 [.blk X6 53 [.int .i64 0, .int .i64 0, .int .i64 4, .int .i64 0, .int .i64 4, .int .i64 4, .int .i64 0, .int .i64 4], .blk X10 54 [.slice (some ⟨X6, 0, none⟩) 4 4], ro 51 8 A21 es21.length c21 SpE.cells es21, ro 27 4 (some ⟨g1, 0, none⟩) 2 c1 MkE.cx ([ea, eb]), ro 3 1 (some ⟨g2, 0, none⟩) 2 c2 MkE.cu ([ea, eb]), .blk X52 51 [.bool r42.n, .slice r42.p r42.l r42.c, .bool r42.m, .slice r42.p2 r42.l2 r42.c2, .bool r47.n, .slice r47.p r47.l r47.c, .bool r47.m, .slice r47.p2 r47.l2 r47.c2], .blk X76 27 [.bool r67.n, .slice r67.p r67.l r67.c, .bool r67.m, .slice r67.p2 r67.l2 r67.c2, .bool r72.n, .slice r72.p r72.l r72.c, .bool r72.m, .slice r72.p2 r72.l2 r72.c2]] from hh)
 have D78 := zH (Dig.of_ext hx)
 have S80 := zH (S75.out.trans hx)
 clear hh hx hge
 refine ⟨S80.out, ?_⟩
 try simp only [Act.put, zA, zB, zC]
 have DD83 := zH ((((((((D38.out.trans D43.out).trans D48.out).trans D54.out).trans D61.out).trans D68.out).trans D73.out).trans D78.out))
 have DD84 := zH ((D73.out.trans D78.out))
 refine mC 11 (bs 29 4095) (sameAll_any 60000 (.slice (some ⟨g1, 0, none⟩) 2 c1) (.slice (some ⟨X76, 0, none⟩) 2 2) [(0 : Rat), (4 : Rat)] _ (by have hr_ : RowN w77 _ 27 4 (.slice (some ⟨g1, 0, none⟩) 2 c1) 2 (List.flatMap MkE.cx [ea, eb]) := H78.out.row (i := 3) (by rfl); have h := RsV.of_row (L := 60000) MkE.a MkE.q hr_ rfl (fun e_ he_ => by have h1 := ((HOKX.out e_ he_).dig DD83.out); exact ⟨h1.1, Nat.le_trans h1.2.1 (by decide)⟩); rwa [show List.map MkE.q [ea, eb] = [(0 : Rat), (4 : Rat)] from by have q1 : ea.q = 0 := congrArg Prod.fst HVA.out; have q2 : eb.q = 4 := congrArg Prod.fst HVB.out; simp [q1, q2]] at h) (by have hr_ : RowN w77 _ 27 4 (.slice (some ⟨X76, 0, none⟩) 2 2) 2 [.bool r67.n, .slice r67.p r67.l r67.c, .bool r67.m, .slice r67.p2 r67.l2 r67.c2, .bool r72.n, .slice r72.p r72.l r72.c, .bool r72.m, .slice r72.p2 r72.l2 r72.c2] := H78.out.litRow (i := 6) (by rfl) (by rfl) (by decide); have h := RsV.of_row (L := 60000) (es := [(⟨r67, 0, 0⟩ : MkE), ⟨r72, 4, 0⟩]) MkE.a MkE.q hr_ rfl (by simp only [List.forall_mem_cons, List.not_mem_nil, false_imp_iff, implies_true, and_true]; exact ⟨⟨(R67.out.dig DD84.out), (Nat.le_trans B67.out (by omega))⟩, (R72.out.dig D78.out), (Nat.le_trans B72.out (by omega))⟩); exact h) (by decide) (by decide)) ?_
 rintro e w82 ⟨rfl, hx⟩
 have H85 := zH (H78.out.step hx)
 have S87 := zH (S80.out.trans hx)
 clear hx
 refine zm S87.out ?_
 refine zx 12 (bs 29 8191) (.bool true) S87.out ?_
 refine zx 13 (bs 29 16383) (.bool true) S87.out ?_
 refine zx 14 (bs 29 32767) (.slice (some ⟨g2, 0, none⟩) 2 c2) S87.out ?_
 refine zx 15 (bs 29 65535) (.int .i64 2) S87.out ?_
 refine zu 16 (bs 29 131071) (v := .bool true) S87.out ?_ (hv := by intro w hSw; exact ezq (e := (dec_t (by have ob0 := hua.1; have ob1 := hua.2; have ob2 := hub.1; have ob3 := hub.2; have ob4 := hsum.1; have ob5 := hsum.2; omega))))
 refine zx 17 (bs 29 262143) (.bool true) S87.out ?_
 refine zx 18 (bs 29 524287) (.bool true) S87.out ?_
 refine zx 19 (bs 29 1048575) (.slice (some ⟨g2, 0, none⟩) 2 c2) S87.out ?_
 refine zu 20 (bs 29 2097151) (v := .pointer (some ⟨g2, 0 * 1, none⟩)) S87.out ?_ (hv := by intro w hSw; exact ezi (k := 0) Tryz.underlying42 (l := (by decide)) (f := (Nat.zero_add _).symm))
 refine zf 21 (bs 29 4194303) g2 (0 * 1) (.int .i64 ea.up) (H31.out.elem (f := MkE.cu) (i := 4) (by rfl) MkE.cu_len HEA.out) S87.out ?_
 refine zx 22 (bs 29 8388607) (.slice (some ⟨g2, 0, none⟩) 2 c2) S87.out ?_
 refine zu 23 (bs 29 16777215) (v := .pointer (some ⟨g2, 1 * 1, none⟩)) S87.out ?_ (hv := by intro w hSw; exact ezi (k := 1) Tryz.underlying42 (l := (by decide)) (f := (Nat.zero_add _).symm))
 refine zf 24 (bs 29 33554431) g2 (1 * 1) (.int .i64 eb.up) (H31.out.elem (f := MkE.cu) (i := 4) (by rfl) MkE.cu_len HEB.out) S87.out ?_
 refine zu 25 (bs 29 67108863) (v := .int .i64 (ea.up + eb.up)) S87.out ?_ (hv := by intro w hSw; exact ez1 (by have ob0 := hua.1; have ob1 := hua.2; have ob2 := hub.1; have ob3 := hub.2; have ob4 := hsum.1; have ob5 := hsum.2; omega))
 refine zu 26 (bs 29 134217727) (v := .bool true) S87.out ?_ (hv := by intro w hSw; exact ezq (e := (dec_t (by have ob0 := hua.1; have ob1 := hua.2; have ob2 := hub.1; have ob3 := hub.2; have ob4 := hsum.1; have ob5 := hsum.2; omega))))
 refine zx 27 (bs 29 268435455) (.bool true) S87.out ?_
 refine mX 28 (bs 29 536870911) (.bool true) S87.out ?_
 (try simp only [Act.put, List.setIfInBounds_toArray, List.set_cons_zero])
 refine wpAnyH_done (by kernel_rfl) ?_ _
 go_wp2_with fail
 go_ret
 exact ⟨rfl, H85.out.ext⟩
end Go.Proofs.YtaeeeailoiioaabGreat

namespace Go.Proofs.YtaeeeailoiioaabGreat
open Go.RowKit Go.Deep

theorem grown_refl (w : World) (r : Option Nat) : w.grownBy w r := ⟨rfl, rfl, rfl, Nat.le_refl _, fun _ _ _ => rfl⟩
theorem run_appendS {P : Program} {w : World} {base : Nat} {t ty e : TypeId} {size bytes : Nat} (el : ElT P t e size bytes) {v : Value} {n : Nat} {xs : List Value} (hown : RowN w base e size v n xs)
    (A : Option Addr) (k c : Nat) (news : List Value) (hl : news.length = k * size) (hA : 0 < k → ∃ ad, A = some ad ∧ ∀ j u, news[j]? = some u → w.cell? (ad.add j) = some u) (h1 : ∀ u ∈ news, u.oneCell' = true) (hnu : NoUL news)
    (h63 : n + k ≤ maxLen) (hbytes : (n + k) * bytes ≤ 140737488355328) (hbase : base ≤ w.heap.size) :
    ∃ A' c' w', (Builtin.append_ #[t, t] ty #[v, .slice A k c]).run P w = .ok (.slice A' (n + k) c') w' ∧ RowN w' base e size (.slice A' (n + k) c') (n + k) (xs ++ news) ∧ w.grownBy w' v.ownBlock ∧
      ∀ g, (Value.slice A' (n + k) c').ownBlock = some g → v.ownBlock = some g ∨ w.heap.size ≤ g := by
  obtain ⟨ht, i, z, e1, e2, e3, e4, e5, e6, e7⟩ := el
  by_cases hk : 0 < k
  · obtain ⟨ad, rfl, hnews⟩ := hA hk
    obtain ⟨v', w', hr, q2, q3, q4, g, cap, rfl, hf⟩ := run_append_rowN (P := P) w base t ty e i z size bytes ht e1 e2 e3 e4 e5 e7 e6 v n xs hown ad k c news hl hnews h1 hnu hk h63 hbytes hbase
    exact ⟨_, _, w', hr, q2, q3, fun g' hg' => by obtain rfl : g = g' := by simpa [Value.ownBlock] using hg'
                                                  exact hf⟩
  obtain rfl : k = 0 := by omega
  obtain rfl : news = [] := List.eq_nil_of_length_eq_zero (by simpa using hl)
  have hs : Src P i.size t (.slice A 0 c) 0 [] w := by
    cases A with
    | none => exact Src.ofNil w ht c
    | some ad => exact Src.ofSlice w ht ad 0 c [] (by simp) (by simp) (by simp)
  obtain ⟨hx1, hx2⟩ := hown
  rcases hx2 with ⟨rfl, rfl⟩ | ⟨g, cap, rest, rfl, q1, q2, q3, q4, q5, q6⟩
  · refine ⟨none, 0, w, run_append_nothing w t t ty e i ht e1 none 0 0 (Nat.le_refl _) _ hs, ⟨by simpa using hx1, .inl ⟨rfl, rfl⟩⟩, grown_refl _ _, fun g hg => .inl hg⟩
  refine ⟨some ⟨g, 0, none⟩, cap, w, run_append_nothing w t t ty e i ht e1 (some ⟨g, 0, none⟩) n cap q3 _ hs, ⟨by simpa using hx1, .inr ⟨g, cap, rest, rfl, q1, by simpa using q2, q3, q4, by simpa using q5, by simpa using q6⟩⟩, grown_refl _ _, fun g hg => .inl hg⟩
section
variable {P : Program} {w0 w : World} {m : List Ent} {ix : Nat} {a : Act} {Q : Exit → Act → World → Prop}
theorem mv_appS {rest : List Oper} {o : Oper} {ops : Array Oper} (hw : Region.wanted o (yielded ops a.tmps) = true) (s x : Operand) (t : TypeId)
  (ho : o.op = .call { callee := .builtin .append, args := #[s, x], argTypes := #[t, t] }) {e : TypeId} {size bytes : Nat} (el : ElT P t e size bytes) {v : Value} {n : Nat} {xs : List Value} (hs : a.eval s = v)
  (hH : Hp w0 w m) (hi : m[ix]? = some (.row e size v n xs)) (A : Option Addr) (k c : Nat) (news : List Value) (hx : a.eval x = .slice A k c) (hl : news.length = k * size)
  (hA : 0 < k → ∃ ad, A = some ad ∧ ∀ j u, news[j]? = some u → w.cell? (ad.add j) = some u) (h1 : ∀ u ∈ news, u.oneCell' = true) (hnu : NoUL news)
  (h63 : n + k ≤ maxLen) (hbytes : (n + k) * bytes ≤ 140737488355328)
  (h : ∀ A' c' w', Hp w0 w' (m.set ix (.row e size (.slice A' (n + k) c') (n + k) (xs ++ news))) → Dig w w' → w.grownBy w' v.ownBlock → (∀ g, (Value.slice A' (n + k) c').ownBlock = some g → v.ownBlock = some g ∨ w.heap.size ≤ g) →
   wpList P ops Q rest (a.put o.dst (.slice A' (n + k) c')) w') : wpList P ops Q (o :: rest) a w := by
 obtain ⟨A', c', w', hr, h2, h3, h4⟩ := run_appendS (P := P) (ty := o.type) el (hH.row hi) A k c news hl hA h1 hnu h63 hbytes hH.ext.size
 refine wpList_if hw ?_
 unfold Oper.wp execOp
 simp only [ho, resolve, invoke, builtin, Sem.run_bind, Sem.run_pure, Result.andThen_ok, List.map_toArray, List.map_cons, List.map_nil, hs, hx, hr]
 exact h A' c' w' (hH.turn hi (fun k hk => hk) h3 h2 h4) (Dig.grown (hH.row hi) h3) h3 h4
end

def SpE.OkI (L : Nat) (w : World) (e : SpE) : Prop := e.a.In L w e.p ∧ e.b.In L w e.q
theorem SpE.Ok.i {L : Nat} {w : World} {e : SpE} (h : e.Ok L w) : e.OkI L w := ⟨h.1.isIn h.2.2.1, h.2.1.isIn h.2.2.2⟩
theorem SpE.OkI.ext {L : Nat} {w w' : World} {e : SpE} (h : e.OkI L w) (x : Ext w w') : e.OkI L w' := ⟨h.1.ext x, h.2.ext x⟩
theorem spans_of_in {L : Nat} {w : World} {b n : Nat} {t : TypeId} {v : Value} {es : List SpE} (h : RowN w b t 8 v n (es.flatMap SpE.cells)) (hn : n = es.length) (hin : ∀ e, e ∈ es → e.OkI L w) : SpansV L w v (es.map SpE.vl) := by
 obtain ⟨A, c, rfl, hA⟩ := RowN.form h
 refine ⟨A, c, by rw [hn, List.length_map], fun h0 => ?_⟩
 rw [List.length_map] at h0
 obtain ⟨g, rfl⟩ := hA (by omega)
 refine ⟨g, 0, rfl, fun i p hp => ?_⟩
 rw [List.getElem?_map] at hp
 obtain ⟨e, he, rfl⟩ := Option.map_eq_some_iff.1 hp
 have h1 := hin e (List.mem_of_getElem? he)
 refine ⟨e.cells, ?_, e.a, e.b, rfl, h1.1, h1.2⟩
 rw [Nat.zero_add]
 exact h.rangeAt _ _ (fun j v hj => flat_get SpE.len es i e he j v hj)
theorem choose_list {α : Type} [Inhabited α] (n : Nat) (p : Nat → α → Prop) (h : ∀ i, i < n → ∃ x, p i x) : ∃ l : List α, l.length = n ∧ ∀ i x, l[i]? = some x → p i x := by
 induction n with
 | zero => exact ⟨[], rfl, fun i x hx => by simp at hx⟩
 | succ n ih =>
  obtain ⟨l, h1, h2⟩ := ih (fun i hi => h i (by omega))
  obtain ⟨x, hx⟩ := h n (by omega)
  refine ⟨l ++ [x], by simp [h1], fun i y hy => ?_⟩
  by_cases hi : i < l.length
  ·rw [List.getElem?_append_left hi] at hy
   exact h2 i y hy
  rw [List.getElem?_append_right (by omega)] at hy
  have : i - l.length = 0 := by
   have := (List.getElem?_eq_some_iff.1 hy).1
   simp at this
   omega
  rw [this] at hy
  obtain rfl : x = y := by simpa using hy
  obtain rfl : i = n := by omega
  exact hx
instance : Inhabited SpE := ⟨⟨⟨false, none, 0, 0, false, none, 0, 0⟩, ⟨false, none, 0, 0, false, none, 0, 0⟩, 0, 0⟩⟩
theorem SpansV.list {L : Nat} {w : World} {v : Value} {ps : List (Rat × Rat)} (h : SpansV L w v ps) :
  ∃ (A : Option Addr) (cap : Nat) (es : List SpE), v = .slice A es.length cap ∧ es.map SpE.vl = ps ∧ (0 < es.length → ∃ ad, A = some ad ∧ ∀ j u, (es.flatMap SpE.cells)[j]? = some u → w.cell? (ad.add j) = some u) ∧ ∀ e, e ∈ es → e.OkI L w := by
 obtain ⟨A, cap, rfl, hA⟩ := h
 by_cases h0 : 0 < ps.length
 ·obtain ⟨g, off, rfl, hp⟩ := hA h0
  obtain ⟨es, hl, he⟩ := choose_list (α := SpE) ps.length (fun i e => ps[i]? = some e.vl ∧ w.rangeAt g (off + i * 8) e.cells ∧ e.OkI L w) (fun i hi => by
   obtain ⟨cs, h1, a, b, h2, h3, h4⟩ := hp i ps[i] (List.getElem?_eq_getElem hi)
   refine ⟨⟨a, b, ps[i].1, ps[i].2⟩, List.getElem?_eq_getElem hi, ?_, h3, h4⟩
   have e : cs = SpE.cells ⟨a, b, ps[i].1, ps[i].2⟩ := by
    have h5 := congrArg Array.toList h2
    simpa [SpE.cells] using h5
   rw [← e]
   exact h1)
  refine ⟨_, cap, es, by rw [hl], ?_, fun _ => ⟨_, rfl, fun j u hj => ?_⟩, fun e hm => ?_⟩
  ·refine List.ext_getElem? fun i => ?_
   rw [List.getElem?_map]
   by_cases hi : i < es.length
   ·rw [List.getElem?_eq_getElem hi]
    exact (he i _ (List.getElem?_eq_getElem hi)).1.symm
   rw [List.getElem?_eq_none (by omega), List.getElem?_eq_none (by omega)]; rfl
  ·have hj2 : j < es.length * 8 := by
    have := (List.getElem?_eq_some_iff.1 hj).1
    rwa [flat_len SpE.len] at this
   have hi : j / 8 < es.length := by omega
   have h1 := (he (j / 8) _ (List.getElem?_eq_getElem hi)).2.1
   have h2 : (SpE.cells es[j / 8])[j % 8]? = some u := by
    have hl8 : j % 8 < (SpE.cells es[j / 8]).length := by show _ < 8; omega
    have h6 := flat_get SpE.len es (j / 8) _ (List.getElem?_eq_getElem hi) (j % 8) _ (List.getElem?_eq_getElem hl8)
    rw [show j / 8 * 8 + j % 8 = j by omega, hj] at h6
    rw [List.getElem?_eq_getElem hl8]
    exact h6.symm
   have h3 := h1 (j % 8) u h2
   have e : (⟨g, off, none⟩ : Addr).add j = ⟨g, off + j / 8 * 8 + j % 8, none⟩ := by
    unfold Addr.add
    by_cases hz : j = 0
    ·subst hz; simp
    rw [if_neg hz]
    congr 1
    show off + j = _
    omega
   rw [e]
   exact h3
  obtain ⟨i, hi⟩ := List.mem_iff_getElem?.1 hm
  exact (he i e hi).2.2
 have h1 : ps = [] := List.eq_nil_of_length_eq_zero (by omega)
 subst h1
 exact ⟨A, cap, [], rfl, rfl, fun h2 => absurd h2 (by simp), fun e he => by simp at he⟩
theorem sp_ones (es : List SpE) : ∀ u, u ∈ es.flatMap SpE.cells → u.oneCell' = true := by
  intro u hu
  obtain ⟨e, _, he⟩ := List.mem_flatMap.1 hu
  exact SpE.one e u he

theorem Ent.Holds.fr {b : Nat} {w w' : World} {e : Ent} {G : Nat → Prop} (h : e.Holds b w) (x : Fr G w w') (hn : ∀ k, e.own = some k → ¬ G k) : e.Holds b w' := by
 have hb : ∀ (g : Nat) (t : TypeId) (cs : Array Value), Blk w g t cs → ¬ G g → Blk w' g t cs := by
  intro g t cs h1 h2
  unfold Blk
  rw [x.block g h1.lt h2]
  exact h1
 cases e with
 | blk g t cs => exact ⟨h.1, hb _ _ _ h.2.1 (hn g rfl), h.2.2⟩
 | row t size v n xs =>
  obtain ⟨h1, h2 | ⟨g, cap, rest, rfl, a, h3, c⟩⟩ := h
  ·exact ⟨h1, .inl h2⟩
  exact ⟨h1, .inr ⟨g, cap, rest, rfl, a, hb _ _ _ h3 (hn g rfl), c⟩⟩
section
variable {w0 w w' : World} {m : List Ent}
theorem two_get {e f : Ent} {i : Nat} {x : Ent} (h : [e, f][i]? = some x) : (i = 0 ∧ x = e) ∨ (i = 1 ∧ x = f) := by
  match i, h with
  | 0, h => injection h with h; exact .inl ⟨rfl, h.symm⟩
  | 1, h => injection h with h; exact .inr ⟨rfl, h.symm⟩
  | k + 2, h => simp at h
theorem Hp.pick2 {ib ir : Nat} {e f : Ent} (h : Hp w0 w m) (hb : m[ib]? = some e) (hr : m[ir]? = some f) (hne : ib ≠ ir) : Hp w0 w [e, f] := by
  refine ⟨h.ext, fun i x hx => ?_, fun i j x y hx hy hij => ?_⟩
  · rcases two_get hx with ⟨_, rfl⟩ | ⟨_, rfl⟩
    · exact h.all _ _ hb
    exact h.all _ _ hr
  rcases two_get hx with ⟨e1, rfl⟩ | ⟨e1, rfl⟩ <;> rcases two_get hy with ⟨e2, rfl⟩ | ⟨e2, rfl⟩
  · omega
  · exact h.apart _ _ _ _ hb hr hne
  · exact h.apart _ _ _ _ hr hb (Ne.symm hne)
  omega
theorem Hp.call2 {ib ir : Nat} {e f e' f' : Ent} {G : Nat → Prop} (h : Hp w0 w m) (hb : m[ib]? = some e) (hr : m[ir]? = some f) (_hne : ib ≠ ir) (x : Fr G w w') (hG : ∀ k, G k → e.own = some k ∨ f.own = some k) (h2 : Hp w0 w' [e', f'])
  (he : ∀ k, e'.own = some k → e.own = some k ∨ w.heap.size ≤ k) (hf : ∀ k, f'.own = some k → f.own = some k ∨ w.heap.size ≤ k) : Hp w0 w' ((m.set ib e').set ir f') := by
 have hbl : ib < m.length := (List.getElem?_eq_some_iff.1 hb).1
 have hrl : ir < m.length := (List.getElem?_eq_some_iff.1 hr).1
 have hget : ∀ (j : Nat) (y : Ent), ((m.set ib e').set ir f')[j]? = some y → (j = ir ∧ y = f') ∨ (j = ib ∧ y = e') ∨ (j ≠ ir ∧ j ≠ ib ∧ m[j]? = some y) := by
  intro j y hj
  rw [List.getElem?_set] at hj
  by_cases h1 : ir = j
  ·rw [if_pos h1, if_pos (by simpa using h1 ▸ hrl)] at hj
   injection hj with hj
   exact .inl ⟨h1.symm, hj.symm⟩
  rw [if_neg h1, List.getElem?_set] at hj
  by_cases h3 : ib = j
  ·rw [if_pos h3, if_pos (by omega)] at hj
   injection hj with hj
   exact .inr (.inl ⟨h3.symm, hj.symm⟩)
  rw [if_neg h3] at hj
  exact .inr (.inr ⟨fun q => h1 q.symm, fun q => h3 q.symm, hj⟩)
 have offG : ∀ (j : Nat) (y : Ent), j ≠ ir → j ≠ ib → m[j]? = some y → ∀ k, y.own = some k → ¬ G k := by
  intro j y hj1 hj2 hy k hk hg
  rcases hG k hg with h1 | h1
  ·exact h.apart j ib y e hy hb hj2 k hk h1
  exact h.apart j ir y f hy hr hj1 k hk h1
 have offE : ∀ (j : Nat) (y : Ent), j ≠ ir → j ≠ ib → m[j]? = some y → ∀ k, y.own = some k → e'.own ≠ some k := by
  intro j y hj1 hj2 hy k hk hq
  rcases he k hq with h1 | h1
  ·exact h.apart j ib y e hy hb hj2 k hk h1
  have := h.lt hy hk; omega
 have offF : ∀ (j : Nat) (y : Ent), j ≠ ir → j ≠ ib → m[j]? = some y → ∀ k, y.own = some k → f'.own ≠ some k := by
  intro j y hj1 hj2 hy k hk hq
  rcases hf k hq with h1 | h1
  ·exact h.apart j ir y f hy hr hj1 k hk h1
  have := h.lt hy hk; omega
 refine ⟨h2.ext, fun j y hj => ?_, fun i j x y hi hj hij k hk => ?_⟩
 ·rcases hget j y hj with ⟨_, rfl⟩ | ⟨_, rfl⟩ | ⟨h3, h4, h5⟩
  ·exact h2.all 1 _ rfl
  ·exact h2.all 0 _ rfl
  exact (h.all j y h5).fr x (offG j y h3 h4 h5)
 rcases hget i x hi with ⟨e1, rfl⟩ | ⟨e1, rfl⟩ | ⟨a1, a2, a3⟩ <;> rcases hget j y hj with ⟨e2, rfl⟩ | ⟨e2, rfl⟩ | ⟨b1, b2, b3⟩
 ·omega
 ·exact h2.apart 1 0 _ _ rfl rfl (by decide) k hk
 ·exact fun q => offF j y b1 b2 b3 k q hk
 ·exact h2.apart 0 1 _ _ rfl rfl (by decide) k hk
 ·omega
 ·exact fun q => offE j y b1 b2 b3 k q hk
 ·exact offF i x a1 a2 a3 k hk
 ·exact offE i x a1 a2 a3 k hk
 exact h.apart i j x y a3 b3 hij k hk
end
theorem RowN.cap {w : World} {base : Nat} {e : TypeId} {size : Nat} {A : Option Addr} {n c : Nat} {xs : List Value} (h : RowN w base e size (.slice A n c) n xs) : n ≤ c := by
  obtain ⟨_, ⟨hv, rfl⟩ | ⟨g, cap, rest, hv, _, _, h3, _⟩⟩ := h
  · exact Nat.zero_le _
  injection hv with e1 e2 e3
  omega
section
variable {P : Program} {w0 w : World} {m : List Ent} {ix : Nat} {a : Act} {Q : Exit → Act → World → Prop} {rest : List Oper} {op : Oper} {ops : Array Oper}
end
def tailA (g off c size : Nat) : Option Addr := if c = 1 then some ⟨g, off, none⟩ else some ⟨g, off + size, none⟩
theorem tailA_some {g off c size n : Nat} (h0 : 0 < n) (hc : n + 1 ≤ c) : tailA g off c size = some ⟨g, off + size, none⟩ := if_neg (by omega)
theorem ev_tail {P : Program} {ρ : Operand → Value} {o : Oper} {w : World} {g off n c size : Nat} {t e : TypeId} {x y : Operand} (ho : o.op = .slice t x (some y) none none) (ht : P.underlying t = some (.slice e)) (hs : (P.info? e).map (·.size) = some size)
  (hx : ρ x = .slice (some ⟨g, off, none⟩) (n + 1) c) (hy : ρ y = .int .i64 1) (hsz : 0 < size) : (execOp ρ o).run P w = .ok (.value (.slice (tailA g off c size) n (c - 1))) w := by
 have hel : P.elem t = e := by simp [Program.elem, ht]
 have h1 : P.underlying t = some (.slice (P.elem t)) := by rw [hel]; exact ht
 unfold execOp
 simp only [ho, hx, hy, Option.map_some, Option.map_none, Sem.run_bind, run_sliceAt_slice _ _ _ _ _ _ h1, run_slice_l w t _ _ _ h1 .i64 1 (by decide) (by omega : (1 : Int) ≤ ((n + 1 : Nat) : Int)), hel]
 cases hq : P.info? e with
 | none => simp [hq] at hs
 | some i =>
  have h2 : i.size = size := by simpa [hq] using hs
  have hz : ¬ (size = 0) := by omega
  simp [sizeOf, typeInfo, hq, h2, sliced, tailA, Addr.add, hz]
end Go.Proofs.YtaeeeailoiioaabGreat

namespace Go.Proofs.YtaeeeailoiioaabGreat
open Go.RowKit
attribute [local go_sem ↓] Go.wp_at_zero Go.wp_at_succ run_max_ii run_min_ii



theorem lenV_take {f t : Rat} {es : List SpE} {k : Nat} {e : SpE} (h : es[k]? = some e) : lenV f t ((es.map SpE.vl).take (k + 1)) = lenV f t ((es.map SpE.vl).take k) + len1 f t (e.p, e.q) := by
  rw [List.take_add_one, List.getElem?_map, h]
  simp only [Option.map_some, Option.toList_some]
  rw [lenV_app, lenV_cons, lenV_nil]
  show _ + (len1 f t (e.p, e.q) + 0) = _
  grind
theorem len1_case {f t p q a b : Rat} (ha : a = if p < f then f else p) (hb : b = if t < q then t else q) : len1 f t (p, q) = if a < b then b - a else 0 := by subst ha hb; unfold len1; grind

set_option maxRecDepth 20000 in
set_option maxHeartbeats 4000000 in
theorem union_any (L : Nat) (u v : Value) (ps qs : List QQ) (w : World) (hu : SpansV L w u ps) (hv : SpansV L w v qs) (h1L : 1 ≤ L) (hL : L ≤ 60000) (hn : ps.length + qs.length ≤ 20000) :
  Calls Tryz.prog 10 #[u, v] w fun e w' => ∃ v es, e = .returned v ∧ SpR L w' w.heap.size v es ∧ es.map SpE.vl = mergeV (ps ++ qs) ∧ es.length ≤ ps.length + qs.length ∧ Ext w w' := by
 obtain ⟨Aa, ca, ea, rfl, he_, hc_, ho_⟩ := SpansV.list hu
 have HEa := zH he_
 have HCa := zH hc_
 have HOa := zH ho_
 have HLa := zH (show ea.length = ps.length by rw [← he_, List.length_map])
 have HUa := zH hu
 clear he_ hc_ ho_
 obtain ⟨Ab, cb, eb, rfl, he_, hc_, ho_⟩ := SpansV.list hv
 have HEb := zH he_
 have HCb := zH hc_
 have HOb := zH ho_
 have HLb := zH (show eb.length = qs.length by rw [← he_, List.length_map])
 have HUb := zH hv
 clear he_ hc_ ho_
 clear hu hv
 go_enter Tryz.func10, Tryz.ntmps10
 have H0 := zH (Hp.start w)
 go_upto_region 0 with fail
 refine wp_region_lit ?_
 refine zq (.slice none 0 0) ?_
 go_upto_region 1 with fail
 refine wp_region_lit ?_
 refine qV (.slice Aa ea.length ca) ?_
 refine zc (merge_any L (.slice Aa ea.length ca) ps _ (HUa.out.ext H0.out.ext) h1L (by omega) (by omega)) ?_
 rintro e w29 ⟨v_, es30, rfl, hv1_, hv2_, hv3_, hx⟩
 have VL30 := zH hv2_
 have LN30 := zH hv3_
 have OK30 := zH hv1_.2
 obtain ⟨A30, c30, rfl, hA_⟩ := RowN.form hv1_.1
 have HA30 := zH hA_
 clear hv2_ hv3_ hA_
 have H31 := zH (show Hp w w29 [ro 51 8 A30 es30.length c30 SpE.cells es30] from H0.out.addRow hx hv1_.1)
 clear hv1_
 clear hx
 refine zn ?_
 refine zq (.slice Ab eb.length cb) ?_
 refine mv_appS (by rfl) _ _ _ (by rfl) elSpan (by rfl) H31.out (ix := 0) (by rfl) Ab eb.length cb (List.flatMap SpE.cells eb) (by rfl) (flat_len SpE.len eb) (fun h0_ => by obtain ⟨ad_, h1_, h2_⟩ := HCb.out h0_; exact ⟨ad_, h1_, fun j_ u_ hj_ => H31.out.ext.get (h2_ j_ u_ hj_)⟩) (sp_ones eb) (noUL_sp eb) (by unfold maxLen; exact (by have ob0 := HLa.out; have ob1 := HLb.out; have ob3 := LN30.out; omega)) (by have ob0 := HLa.out; have ob1 := HLb.out; have ob3 := LN30.out; omega) ?_
 intro A35 c36 w34 hh hd hg hf
 clear hf
 rw [show List.flatMap SpE.cells es30 ++ List.flatMap SpE.cells eb = List.flatMap SpE.cells (es30 ++ eb) from List.flatMap_append.symm] at hh
 have H37 := zH (show Hp w w34 [ro 51 8 A35 (es30.length + eb.length) c36 SpE.cells (es30 ++ eb)] from hh)
 have D37 := zH (hd)
 clear hh hd hg
 try simp only [Act.put, zA, zB, zC]
 refine zc (merge_any L (.slice A35 (es30.length + eb.length) c36) (List.map SpE.vl (es30 ++ eb)) _ (spans_of_in (H37.out.row (i := 0) (by rfl)) (by rw [List.length_append]) (fun e_ he_ => (List.mem_append.1 he_).elim (fun he_ => ((OK30.out e_ he_).dig D37.out).i) (fun he_ => (HOb.out e_ he_).ext H37.out.ext))) h1L (by omega) (by rw [List.length_map, List.length_append]; have q0_ := LN30.out; have q1_ := HLa.out; have q2_ := HLb.out; omega)) ?_
 rintro e w39 ⟨v_, es40, rfl, hv1_, hv2_, hv3_, hx⟩
 have VL40 := zH hv2_
 have LN40 := zH hv3_
 have OK40 := zH hv1_.2
 obtain ⟨A40, c40, rfl, hA_⟩ := RowN.form hv1_.1
 have HA40 := zH hA_
 clear hv2_ hv3_ hA_
 have H41 := zH (show Hp w w39 [ro 51 8 A35 (es30.length + eb.length) c36 SpE.cells (es30 ++ eb), ro 51 8 A40 es40.length c40 SpE.cells es40] from H37.out.addRow hx hv1_.1)
 clear hv1_
 clear hx
 refine zn ?_
 refine zq (.slice A40 es40.length c40) ?_
 go_wp2_with fail
 go_ret
 exact ⟨_, es40, rfl, ⟨H41.out.row (i := 1) (by rfl), OK40.out⟩, (by rw [VL40.out, List.map_append, VL30.out, HEb.out, union_eq]), (Nat.le_trans LN40.out (by rw [List.length_map, List.length_append]; have q0_ := LN30.out; have q1_ := HLa.out; have q2_ := HLb.out; omega)), H41.out.ext⟩

def interD (pl ql : List SpE) (i j : Nat) : List QQ := interV ((pl.drop i).map SpE.vl) ((ql.drop j).map SpE.vl)
theorem interD_step {pl ql : List SpE} {i j : Nat} {x y : SpE} (hx : pl[i]? = some x) (hy : ql[j]? = some y) :
    interD pl ql i j = (if (cut2 x.vl y.vl).1 < (cut2 x.vl y.vl).2 then [cut2 x.vl y.vl] else []) ++ (if x.q < y.q then interD pl ql (i + 1) j else interD pl ql i (j + 1)) := by
  obtain ⟨hi, rfl⟩ := List.getElem?_eq_some_iff.1 hx
  obtain ⟨hj, rfl⟩ := List.getElem?_eq_some_iff.1 hy
  unfold interD
  rw [List.drop_eq_getElem_cons hi, List.drop_eq_getElem_cons hj, List.map_cons, List.map_cons, interV]
  rfl
theorem interD_end1 {pl ql : List SpE} {i j : Nat} (h : pl.length ≤ i) : interD pl ql i j = [] := by
  unfold interD
  rw [List.drop_of_length_le h, List.map_nil, interV]
theorem interD_end2 {pl ql : List SpE} {i j : Nat} (h : ql.length ≤ j) : interD pl ql i j = [] := by
  unfold interD
  rw [List.drop_of_length_le h, List.map_nil]
  cases (pl.drop i).map SpE.vl <;> rw [interV]
theorem head_adr {n : Nat} {A : Option Addr} (h : 0 < n → ∃ g, A = some ⟨g, 0, none⟩) : ∃ g, 0 < n → A = some ⟨g, 0, none⟩ := by
  by_cases h0 : 0 < n
  · obtain ⟨g, hg⟩ := h h0; exact ⟨g, fun _ => hg⟩
  exact ⟨0, fun h1 => absurd h1 h0⟩
set_option maxRecDepth 20000 in
set_option maxHeartbeats 4000000 in
theorem inter_any (L : Nat) (u v : Value) (ps qs : List QQ) (w : World) (hu : SpansV L w u ps) (hv : SpansV L w v qs) (h1L : 1 ≤ L) (hL : L ≤ 60000) (hn : ps.length ≤ 8000 ∧ qs.length ≤ 8000) :
  Calls Tryz.prog 9 #[u, v] w fun e w' => ∃ v es, e = .returned v ∧ SpR L w' w.heap.size v es ∧ es.map SpE.vl = interV (mergeV ps) (mergeV qs) ∧ es.length ≤ ps.length + qs.length ∧ Ext w w' := by
 obtain ⟨Aa, ca, ea, rfl, he_, hc_, ho_⟩ := SpansV.list hu
 have HEa := zH he_
 have HCa := zH hc_
 have HOa := zH ho_
 have HUa := zH hu
 clear he_ hc_ ho_
 obtain ⟨Ab, cb, eb, rfl, he_, hc_, ho_⟩ := SpansV.list hv
 have HEb := zH he_
 have HCb := zH hc_
 have HOb := zH ho_
 have HUb := zH hv
 clear he_ hc_ ho_
 clear hu hv
 go_enter Tryz.func9, Tryz.ntmps9
 have H0 := zH (Hp.start w)
 go_upto_region 0 with fail
 refine wp_region_lit ?_
 refine zq (.slice none 0 0) ?_
 go_upto_region 1 with fail
 refine wp_region_lit ?_
 refine qV (.slice Aa ea.length ca) ?_
 refine zc (merge_any L (.slice Aa ea.length ca) ps _ (HUa.out.ext H0.out.ext) h1L (by omega) (by omega)) ?_
 rintro e w3 ⟨v_, es4, rfl, hv1_, hv2_, hv3_, hx⟩
 have VL4 := zH hv2_
 have LN4 := zH hv3_
 have OK4 := zH hv1_.2
 obtain ⟨A4, c4, rfl, hA_⟩ := RowN.form hv1_.1
 have HA4 := zH hA_
 clear hv2_ hv3_ hA_
 have H5 := zH (show Hp w w3 [ro 51 8 A4 es4.length c4 SpE.cells es4] from H0.out.addRow hx hv1_.1)
 clear hv1_
 clear hx
 refine zn ?_
 refine qV (.slice Ab eb.length cb) ?_
 refine zc (merge_any L (.slice Ab eb.length cb) qs _ (HUb.out.ext H5.out.ext) h1L (by omega) (by omega)) ?_
 rintro e w8 ⟨v_, es9, rfl, hv1_, hv2_, hv3_, hx⟩
 have VL9 := zH hv2_
 have LN9 := zH hv3_
 have OK9 := zH hv1_.2
 obtain ⟨A9, c9, rfl, hA_⟩ := RowN.form hv1_.1
 have HA9 := zH hA_
 clear hv2_ hv3_ hA_
 have H10 := zH (show Hp w w8 [ro 51 8 A4 es4.length c4 SpE.cells es4, ro 51 8 A9 es9.length c9 SpE.cells es9] from H5.out.addRow hx hv1_.1)
 have D10 := zH (Dig.of_ext hx)
 clear hv1_
 clear hx
 refine zn ?_
 refine qV (.slice A4 es4.length c4) ?_
 refine zq (.slice A9 es9.length c9) ?_
 have hpl : es4.length ≤ ps.length := LN4.out
 have hql : es9.length ≤ qs.length := LN9.out
 obtain ⟨gp, hgp_⟩ := head_adr HA4.out
 obtain ⟨gq, hgq_⟩ := head_adr HA9.out
 have HGP := zH hgp_
 have HGQ := zH hgq_
 clear hgp_ hgq_
 have HCP := zH (show es4.length ≤ c4 from RowN.cap (H10.out.row (i := 0) (by rfl)))
 have HCQ := zH (show es9.length ≤ c9 from RowN.cap (H10.out.row (i := 1) (by rfl)))
 go_upto_region 2 with fail
 refine wp_region_lit ?_
 refine zq (.slice none 0 0) ?_
 have H15 := zH (show Hp w w8 [ro 51 8 A4 es4.length c4 SpE.cells es4, ro 51 8 A9 es9.length c9 SpE.cells es9, ro 51 8 none 0 0 SpE.cells ([])] from H10.out.addNil 51 8)
 go_wp2_with fail
 go_loopg [5, 6, 7] (es4.length + es9.length) (fun cq v16 v17 v18 wr => ∃ (k : Nat) (i : Nat) (j : Nat) (n1 : Nat) (n2 : Nat) (m : Nat) (es : List SpE) (A1 : Option Addr) (c1 : Nat) (A2 : Option Addr) (c2 : Nat) (A3 : Option Addr) (c3 : Nat), cq = (es4.length + es9.length) - k ∧ v16 = .slice A1 n1 c1 ∧ v17 = .slice A2 n2 c2 ∧ v18 = .slice A3 m c3 ∧ (k = i + j) ∧ (i + n1 = es4.length ∧ j + n2 = es9.length) ∧ (n1 ≤ c1 ∧ n2 ≤ c2) ∧ (0 < n1 → A1 = some ⟨gp, i * 8, none⟩) ∧ (0 < n2 → A2 = some ⟨gq, j * 8, none⟩) ∧ (es.map SpE.vl ++ interD es4 es9 i j = interV (es4.map SpE.vl) (es9.map SpE.vl)) ∧ (m = es.length ∧ m ≤ i + j) ∧ (∀ e, e ∈ es → e.Ok L wr) ∧ Hp w wr [.row 51 8 (.slice A4 es4.length c4) (es4.length) (List.flatMap SpE.cells es4), .row 51 8 (.slice A9 es9.length c9) (es9.length) (List.flatMap SpE.cells es9), .row 51 8 (.slice A3 m c3) (m) (List.flatMap SpE.cells es)] ∧ Dig w8 wr)
 case atStart => exact ⟨0, 0, 0, es4.length, es9.length, 0, [], A4, c4, A9, c9, none, 0, rfl, rfl, rfl, rfl, rfl, ⟨Nat.zero_add _, Nat.zero_add _⟩, ⟨HCP.out, HCQ.out⟩, (fun h_ => by rw [HGP.out h_, Nat.zero_mul]), (fun h_ => by rw [HGQ.out h_, Nat.zero_mul]), rfl, ⟨rfl, Nat.le_refl _⟩, (by simp), H15.out, Dig.refl _⟩
 case round =>
  obtain ⟨k, i, j, n1, n2, m, es, A1, c1, A2, c2, A3, c3, rfl, rfl, rfl, rfl, q_HK, q_HIJ, q_HC, q_HA1, q_HA2, q_HV, q_HM, q_HOE, hh_, hd_⟩ := hrel
  generalize wr = w19 at *
  have HK := zH q_HK
  clear q_HK
  have HIJ := zH q_HIJ
  clear q_HIJ
  have HC := zH q_HC
  clear q_HC
  have HA1 := zH q_HA1
  clear q_HA1
  have HA2 := zH q_HA2
  clear q_HA2
  have HV := zH q_HV
  clear q_HV
  have HM := zH q_HM
  clear q_HM
  have HOE := zH q_HOE
  clear q_HOE
  have H21 := zH hh_
  have D21 := zH hd_
  clear hh_ hd_ H15
  by_cases c22 : 0 < n1 ∧ 0 < n2
  ·have HLT := zH c22
   clear c22
   have h1 := HLT.out.1
   have h2 := HLT.out.2
   obtain ⟨n1, rfl⟩ : ∃ n, n1 = n + 1 := ⟨n1 - 1, by omega⟩
   obtain ⟨n2, rfl⟩ : ∃ n, n2 = n + 1 := ⟨n2 - 1, by omega⟩
   have hij := HIJ.out
   have HAP := zH (HA1.out h1)
   have HAQ := zH (HA2.out h2)
   obtain rfl := HAP.out
   obtain rfl := HAQ.out
   obtain rfl := HGP.out (by omega)
   obtain rfl := HGQ.out (by omega)
   have hil : i < es4.length := by omega
   have hjl : j < es9.length := by omega
   obtain ⟨ex, he_⟩ : ∃ ex, es4[i]? = some ex := ⟨_, List.getElem?_eq_getElem hil⟩
   have HEex := zH he_
   have HOex := zH (OK4.out ex (List.mem_of_getElem? he_))
   have RAex := zH HOex.out.1
   have RBex := zH HOex.out.2.1
   have BAex := zH HOex.out.2.2.1
   have BBex := zH HOex.out.2.2.2
   clear he_
   obtain ⟨ey, he_⟩ : ∃ ey, es9[j]? = some ey := ⟨_, List.getElem?_eq_getElem hjl⟩
   have HEey := zH he_
   have HOey := zH (OK9.out ey (List.mem_of_getElem? he_))
   have RAey := zH HOey.out.1
   have RBey := zH HOey.out.2.1
   have BAey := zH HOey.out.2.2.1
   have BBey := zH HOey.out.2.2.2
   clear he_
   have HST := zH (interD_step HEex.out HEey.out)
   go_upto_region 3 with fail
   refine wp_region_lit ?_
   refine qV (.slice (some ⟨gp, i * 8, none⟩) (n1 + 1) c1) ?_
   refine zq (.int .i64 ((n1 + 1 : Nat) : Int)) ?_
   refine zp (w' := w19) (.bool true) (by exact ezg (e := (dec_t (by have ob4 := HM.out.2; have ob5 := HK.out; have ob6 := HC.out; omega)))) ?_
   refine qV (.bool true) ?_
   refine zq (.slice (some ⟨gq, j * 8, none⟩) (n2 + 1) c2) ?_
   refine zq (.int .i64 ((n2 + 1 : Nat) : Int)) ?_
   refine zp (w' := w19) (.bool true) (by exact ezg (e := (dec_t (by have ob4 := HM.out.2; have ob5 := HK.out; have ob6 := HC.out; omega)))) ?_
   refine zq (.bool true) ?_
   go_upto_region 4 with fail
   refine zy ?_
   have H31 := zH (H21.out.step (Ext.refl w19).drew)
   have D31 := zH (Dig.of_ext (w := w19) zb)
   refine zx 0 (bs 21 1) (.slice (some ⟨gp, i * 8, none⟩) (n1 + 1) c1) zb ?_
   refine zu 1 (bs 21 3) (v := .pointer (some ⟨gp, i * 8, none⟩)) zb ?_ (hv := by intro w hSw; exact ezi (k := 0) Tryz.underlying22 (l := (by omega)) (f := (show i * 8 = i * 8 + 0 * 8 by omega)))
   refine mX 2 (bs 21 7) (.pointer (some ⟨gp, i * 8, none⟩)) zb ?_
   refine zg 3 (bs 21 15) gp (i * 8) (rc ex.a) (range_part (H21.out.elem (f := SpE.cells) (i := 0) (by rfl) SpE.len HEex.out) 0 4) Tryz.underlying27 zb ?_
   refine zx 4 (bs 21 31) (.slice (some ⟨gq, j * 8, none⟩) (n2 + 1) c2) zb ?_
   refine zu 5 (bs 21 63) (v := .pointer (some ⟨gq, j * 8, none⟩)) zb ?_ (hv := by intro w hSw; exact ezi (k := 0) Tryz.underlying22 (l := (by omega)) (f := (show j * 8 = j * 8 + 0 * 8 by omega)))
   refine mX 6 (bs 21 127) (.pointer (some ⟨gq, j * 8, none⟩)) zb ?_
   refine zg 7 (bs 21 255) gq (j * 8) (rc ey.a) (range_part (H21.out.elem (f := SpE.cells) (i := 1) (by rfl) SpE.len HEey.out) 0 4) Tryz.underlying27 zb ?_
   refine zx 9 (bs 21 767) (.slice (some ⟨gp, i * 8, none⟩) (n1 + 1) c1) zb ?_
   refine zu 10 (bs 21 1791) (v := .pointer (some ⟨gp, i * 8, none⟩)) zb ?_ (hv := by intro w hSw; exact ezi (k := 0) Tryz.underlying22 (l := (by omega)) (f := (show i * 8 = i * 8 + 0 * 8 by omega)))
   refine mX 11 (bs 21 3839) (.pointer (some ⟨gp, i * 8 + 4, none⟩)) zb ?_
   refine zg 12 (bs 21 7935) gp (i * 8 + 4) (rc ex.b) (range_part (H21.out.elem (f := SpE.cells) (i := 0) (by rfl) SpE.len HEex.out) 4 4) Tryz.underlying27 zb ?_
   refine zx 13 (bs 21 16127) (.slice (some ⟨gq, j * 8, none⟩) (n2 + 1) c2) zb ?_
   refine zu 14 (bs 21 32511) (v := .pointer (some ⟨gq, j * 8, none⟩)) zb ?_ (hv := by intro w hSw; exact ezi (k := 0) Tryz.underlying22 (l := (by omega)) (f := (show j * 8 = j * 8 + 0 * 8 by omega)))
   refine mX 15 (bs 21 65279) (.pointer (some ⟨gq, j * 8 + 4, none⟩)) zb ?_
   refine zg 16 (bs 21 130815) gq (j * 8 + 4) (rc ey.b) (range_part (H21.out.elem (f := SpE.cells) (i := 1) (by rfl) SpE.len HEey.out) 4 4) Tryz.underlying27 zb ?_
   refine Fl.go (j := 19) (dj := some 8) (T := 51) (zs := [.bool false, .slice none 0 0, .bool false, .slice none 0 0, .bool false, .slice none 0 0, .bool false, .slice none 0 0]) (b := w19) (w0 := w) (m := [.row 51 8 (.slice (some ⟨gp, 0, none⟩) es4.length c4) (es4.length) (List.flatMap SpE.cells es4), .row 51 8 (.slice (some ⟨gq, 0, none⟩) es9.length c9) (es9.length) (List.flatMap SpE.cells es9), .row 51 8 (.slice A3 m c3) (m) (List.flatMap SpE.cells es)]) ?_
   have DD47 := zH (((D10.out.trans D21.out).trans D31.out))
   have DD48 := zH ((D21.out.trans D31.out))
   refine fl_call (i := 8) (lj := (bs 21 655103)) (li := (bs 21 131071)) (by rfl) (by rfl) (by kernel_rfl) (by kernel_rfl) (by kernel_rfl) (by kernel_rfl) (by kernel_rfl) (by decide) (by kernel_rfl) (by rfl) (by rfl) (by intro r_ x_; go_simp) (fun x y h1 h2 => h1.trans h2) zb.size H31.out (by simp [NoUL]) zb (by rfl) (by intro x_; go_simp) (by kernel_rfl) (fun xq hxq => upper_any L _ _ ex.p ey.p _ (RV.Is.nis (RAex.out.dig (DD47.out.trans (Dig.of_ext hxq)))) (RV.Is.nis (RAey.out.dig (DD48.out.trans (Dig.of_ext hxq)))) BAex.out BAey.out (by omega)) (by rintro x_ e x2_ ⟨c_, rfl, hc_, hx⟩; exact hx) ?_
   rintro xq e w45 hxq ⟨c_, rfl, hc_, hx⟩
   replace hx := hxq.trans hx
   clear hxq
   have H49 := zH (H31.out.step hx)
   have D49 := zH (show Dig w19.drew w45 from Dig.of_ext hx)
   have S51 := zH (show Ext w19 w45 from zb.trans hx)
   obtain ⟨q46, hq_⟩ : ∃ q_ : Rat, q_ = (if ex.p < ey.p then ey.p else ex.p) := ⟨_, rfl⟩
   rw [← hq_] at hc_
   obtain ⟨r46, rfl, hr_⟩ := hc_
   have R46 := zH hr_
   have B46 := zH (show Nm.rl q46 ≤ L from by rw [hq_]; have h1 := BAex.out; have h2 := BAey.out; split <;> assumption)
   have Q46 := zH hq_
   clear hr_ hq_
   clear hx
   refine ⟨_, rfl, ?_⟩
   try simp only [Act.put, zA, zB, zC]
   have DD54 := zH ((((D10.out.trans D21.out).trans D31.out).trans D49.out))
   have DD55 := zH (((D21.out.trans D31.out).trans D49.out))
   refine fl_call (i := 17) (lj := (bs 21 655359)) (li := (bs 21 262143)) (by rfl) (by rfl) (by kernel_rfl) (by kernel_rfl) (by kernel_rfl) (by kernel_rfl) (by kernel_rfl) (by decide) (by kernel_rfl) (by rfl) (by rfl) (by intro r_ x_; go_simp) (fun x y h1 h2 => h1.trans h2) S51.out.size H49.out (by simp [NoUL]) S51.out (by rfl) (by intro x_; go_simp) (by kernel_rfl) (fun xq hxq => lower_any L _ _ ex.q ey.q _ (RV.Is.nis (RBex.out.dig (DD54.out.trans (Dig.of_ext hxq)))) (RV.Is.nis (RBey.out.dig (DD55.out.trans (Dig.of_ext hxq)))) BBex.out BBey.out (by omega)) (by rintro x_ e x2_ ⟨c_, rfl, hc_, hx⟩; exact hx) ?_
   rintro xq e w52 hxq ⟨c_, rfl, hc_, hx⟩
   replace hx := hxq.trans hx
   clear hxq
   have H56 := zH (H49.out.step hx)
   have D56 := zH (Dig.of_ext hx)
   have S58 := zH (S51.out.trans hx)
   obtain ⟨q53, hq_⟩ : ∃ q_ : Rat, q_ = (if ey.q < ex.q then ey.q else ex.q) := ⟨_, rfl⟩
   rw [← hq_] at hc_
   obtain ⟨r53, rfl, hr_⟩ := hc_
   have R53 := zH hr_
   have B53 := zH (show Nm.rl q53 ≤ L from by rw [hq_]; have h1 := BBex.out; have h2 := BBey.out; split <;> assumption)
   have Q53 := zH hq_
   clear hr_ hq_
   clear hx
   refine ⟨_, rfl, ?_⟩
   try simp only [Act.put, zA, zB, zC]
   refine fl_take (i := 18) (lj := (bs 21 786431)) (li := (bs 21 524287)) (v := .agg #[.bool r46.n, .slice r46.p r46.l r46.c, .bool r46.m, .slice r46.p2 r46.l2 r46.c2, .bool r53.n, .slice r53.p r53.l r53.c, .bool r53.m, .slice r53.p2 r53.l2 r53.c2]) (by rfl) (by kernel_rfl) (by kernel_rfl) (by kernel_rfl) (by kernel_rfl) (by kernel_rfl) (by kernel_rfl) (by decide) (by kernel_rfl) (by intro _ _ _ h; exact h) (y_val (by rfl) (by intro w hSw; go_simp <;> with_reducible rfl)) S58.out (by kernel_rfl) ?_
   try simp only [Act.put, zA, zB, zC]
   refine fl_end (by rfl) (by kernel_rfl) (by rfl) (by rfl) (by intro r_ x_; go_simp) (fun x y h1 h2 => h1.trans h2) S58.out.size H56.out (by simp [NoUL]) S58.out (show _ = (bs 21 1048575) by kernel_rfl) ?_
   intro X60 w61 hx hh hs hge
   have H62 := zH (show Hp w w61 [ro 51 8 (some ⟨gp, 0, none⟩) es4.length c4 SpE.cells es4, ro 51 8 (some ⟨gq, 0, none⟩) es9.length c9 SpE.cells es9, ro 51 8 A3 m c3 SpE.cells es, .blk X60 51 [.bool false, .slice none 0 0, .bool false, .slice none 0 0, .bool false, .slice none 0 0, .bool false, .slice none 0 0]] from hh)
   have D62 := zH (Dig.of_ext hx)
   have S64 := zH (show Ext w19 w61 from hs)
   have G65 := zH (show w19.heap.size ≤ X60 from hge)
   clear hh hx hge hs
   try simp only [Act.put, zA, zB, zC]
   refine md_st (i := 20) (listed' := (bs 21 2097151)) (by rfl) (by kernel_rfl) (by rfl) (by kernel_rfl) _ _ _ (by rfl) H62.out (ix := 3) (by rfl) 0 [.bool r46.n, .slice r46.p r46.l r46.c, .bool r46.m, .slice r46.p2 r46.l2 r46.c2, .bool r53.n, .slice r53.p r53.l r53.c, .bool r53.m, .slice r53.p2 r53.l2 r53.c2] (by rfl) (by rfl) (by simp) (by kernel_rfl) (by simp [Value.oneCell']) (by simp [NoUL]) ?_
   intro w66 hh hd ho
   have H67 := zH (show Hp w w66 [ro 51 8 (some ⟨gp, 0, none⟩) es4.length c4 SpE.cells es4, ro 51 8 (some ⟨gq, 0, none⟩) es9.length c9 SpE.cells es9, ro 51 8 A3 m c3 SpE.cells es, .blk X60 51 [.bool r46.n, .slice r46.p r46.l r46.c, .bool r46.m, .slice r46.p2 r46.l2 r46.c2, .bool r53.n, .slice r53.p r53.l r53.c, .bool r53.m, .slice r53.p2 r53.l2 r53.c2]] from hh)
   have D67 := zH (hd)
   have S69 := zH (show Ext w19 w66 from Own.ext ho S64.out G65.out)
   clear hh hd ho
   refine ⟨S69.out, ?_⟩
   (try simp only [Act.put])
   refine wpAnyH_done (by kernel_rfl) ?_ _
   have HCU := zH (show cut2 ex.vl ey.vl = (q46, q53) from by unfold cut2; rw [Q46.out, Q53.out]; rfl)
   by_cases c70 : q46 < q53
   ·have CS := zH c70
    clear c70
    go_upto_region 5 with fail
    refine wp_region_lit ?_
    refine qV (.pointer (some ⟨X60, 0, none⟩)) ?_
    refine zd X60 (0) (rc r46) (H67.out.range (i := 3) (by rfl) 0 4) Tryz.underlying27 ?_
    refine qV (.pointer (some ⟨X60, 4, none⟩)) ?_
    refine zd X60 (4) (rc r53) (H67.out.range (i := 3) (by rfl) 4 4) Tryz.underlying27 ?_
    have DD74 := zH (((D56.out.trans D62.out).trans D67.out))
    have DD75 := zH ((D62.out.trans D67.out))
    refine zc (pCmp (L := 60000) (RV.Is.nin (R46.out.dig DD74.out) (Nat.le_trans B46.out (by omega))) (RV.Is.nin (R53.out.dig DD75.out) (Nat.le_trans B53.out (by omega))) (by omega)) ?_
    rintro e w73 ⟨rfl, hx⟩
    have H76 := zH (H67.out.step hx)
    have D76 := zH (Dig.of_ext hx)
    clear hx
    refine zn ?_
    refine zp (w' := w73) (.bool true) (by exact ezl (e := (dec_t (rcmp_lt.2 CS.out)))) ?_
    go_upto_region 6 with fail
    refine wp_region_lit ?_
    refine qV (.slice A3 m c3) ?_
    refine zd X60 (0) [.bool r46.n, .slice r46.p r46.l r46.c, .bool r46.m, .slice r46.p2 r46.l2 r46.c2, .bool r53.n, .slice r53.p r53.l r53.c, .bool r53.m, .slice r53.p2 r53.l2 r53.c2] (H76.out.range (i := 3) (by rfl) 0 8) Tryz.underlying51 ?_
    refine zp (w' := (w73.alloc (.cells ([.bool r46.n, .slice r46.p r46.l r46.c, .bool r46.m, .slice r46.p2 r46.l2 r46.c2, .bool r53.n, .slice r53.p r53.l r53.c, .bool r53.m, .slice r53.p2 r53.l2 r53.c2] : List Value).toArray 51))) (.slice (some ⟨w73.heap.size, 0, none⟩) 1 1) (by go_simp) ?_
    refine mv_app (by rfl) _ _ _ (by rfl) elSpan (by rfl) H76.out (ix := 2) (by rfl) 1 1 [.bool r46.n, .slice r46.p r46.l r46.c, .bool r46.m, .slice r46.p2 r46.l2 r46.c2, .bool r53.n, .slice r53.p r53.l r53.c, .bool r53.m, .slice r53.p2 r53.l2 r53.c2] (by rfl) rfl (by simp [Value.oneCell']) (by simp [NoUL]) (by decide) (by unfold maxLen; exact (by have ob4 := HM.out.2; have ob5 := HK.out; have ob6 := HC.out; omega)) (by have ob4 := HM.out.2; have ob5 := HK.out; have ob6 := HC.out; omega) ?_
    intro g81 cp82 w80 hf hh hd hg
    have Fg81 := zH hf
    clear hf
    rw [show List.flatMap SpE.cells es ++ [.bool r46.n, .slice r46.p r46.l r46.c, .bool r46.m, .slice r46.p2 r46.l2 r46.c2, .bool r53.n, .slice r53.p r53.l r53.c, .bool r53.m, .slice r53.p2 r53.l2 r53.c2] = _ from flat_snoc SpE.cells _ (⟨r46, r53, q46, q53⟩ : SpE)] at hh
    have H83 := zH (show Hp w w80 [ro 51 8 (some ⟨gp, 0, none⟩) es4.length c4 SpE.cells es4, ro 51 8 (some ⟨gq, 0, none⟩) es9.length c9 SpE.cells es9, ro 51 8 (some ⟨g81, 0, none⟩) (m + 1) cp82 SpE.cells (es ++ [(⟨r46, r53, q46, q53⟩ : SpE)]), .blk X60 51 [.bool r46.n, .slice r46.p r46.l r46.c, .bool r46.m, .slice r46.p2 r46.l2 r46.c2, .bool r53.n, .slice r53.p r53.l r53.c, .bool r53.m, .slice r53.p2 r53.l2 r53.c2]] from hh)
    have D83 := zH (hd)
    clear hh hd hg
    try simp only [Act.put, zA, zB, zC]
    refine zq (.slice (some ⟨g81, 0, none⟩) (m + 1) cp82) ?_
    by_cases c86 : ex.q < ey.q
    ·have CE := zH c86
     clear c86
     go_upto_region 7 with fail
     refine zy ?_
     have H87 := zH (H83.out.step (Ext.refl w80).drew)
     have D87 := zH (Dig.of_ext (w := w80) zb)
     refine zx 0 (bs 10 1) (.slice (some ⟨gp, i * 8, none⟩) (n1 + 1) c1) zb ?_
     refine zu 1 (bs 10 3) (v := .pointer (some ⟨gp, i * 8, none⟩)) zb ?_ (hv := by intro w hSw; exact ezi (k := 0) Tryz.underlying22 (l := (by omega)) (f := (show i * 8 = i * 8 + 0 * 8 by omega)))
     refine mX 2 (bs 10 7) (.pointer (some ⟨gp, i * 8 + 4, none⟩)) zb ?_
     refine zg 3 (bs 10 15) gp (i * 8 + 4) (rc ex.b) (range_part (H83.out.elem (f := SpE.cells) (i := 0) (by rfl) SpE.len HEex.out) 4 4) Tryz.underlying27 zb ?_
     refine zx 4 (bs 10 31) (.slice (some ⟨gq, j * 8, none⟩) (n2 + 1) c2) zb ?_
     refine zu 5 (bs 10 63) (v := .pointer (some ⟨gq, j * 8, none⟩)) zb ?_ (hv := by intro w hSw; exact ezi (k := 0) Tryz.underlying22 (l := (by omega)) (f := (show j * 8 = j * 8 + 0 * 8 by omega)))
     refine mX 6 (bs 10 127) (.pointer (some ⟨gq, j * 8 + 4, none⟩)) zb ?_
     refine zg 7 (bs 10 255) gq (j * 8 + 4) (rc ey.b) (range_part (H83.out.elem (f := SpE.cells) (i := 1) (by rfl) SpE.len HEey.out) 4 4) Tryz.underlying27 zb ?_
     have DD96 := zH ((((((((((D10.out.trans D21.out).trans D31.out).trans D49.out).trans D56.out).trans D62.out).trans D67.out).trans D76.out).trans D83.out).trans D87.out))
     have DD97 := zH (((((((((D21.out.trans D31.out).trans D49.out).trans D56.out).trans D62.out).trans D67.out).trans D76.out).trans D83.out).trans D87.out))
     refine mC 8 (bs 10 511) (pCmp (L := 60000) (RV.Is.nin (RBex.out.dig DD96.out) (Nat.le_trans BBex.out (by omega))) (RV.Is.nin (RBey.out.dig DD97.out) (Nat.le_trans BBey.out (by omega))) (by omega)) ?_
     rintro e w95 ⟨rfl, hx⟩
     have H98 := zH (H87.out.step hx)
     have D98 := zH (show Dig w80.drew w95 from Dig.of_ext hx)
     have S100 := zH (show Ext w80 w95 from zb.trans hx)
     clear hx
     refine zm S100.out ?_
     refine zu 9 (bs 10 1023) (v := .bool true) S100.out ?_ (hv := by intro w hSw; exact ezl (e := (dec_t (rcmp_lt.2 CE.out))))
     refine wpAnyH_done (by kernel_rfl) ?_ _
     go_upto_region 8 with fail
     refine wp_region_lit ?_
     refine zq (.slice (some ⟨gp, i * 8, none⟩) (n1 + 1) c1) ?_
     refine zp (w' := w95) (.slice (tailA gp (i * 8) c1 8) n1 (c1 - 1)) (by exact ev_tail (by rfl) Tryz.underlying22 (by kernel_rfl) (by rfl) (by rfl) (by decide)) ?_
     refine zq (.slice (tailA gp (i * 8) c1 8) n1 (c1 - 1)) ?_
     have DD105 := zH (((((((((D31.out.trans D49.out).trans D56.out).trans D62.out).trans D67.out).trans D76.out).trans D83.out).trans D87.out).trans D98.out))
     have DD106 := zH (((((((D56.out.trans D62.out).trans D67.out).trans D76.out).trans D83.out).trans D87.out).trans D98.out))
     have DD107 := zH ((((((D62.out.trans D67.out).trans D76.out).trans D83.out).trans D87.out).trans D98.out))
     have DD108 := zH ((((((((((D21.out.trans D31.out).trans D49.out).trans D56.out).trans D62.out).trans D67.out).trans D76.out).trans D83.out).trans D87.out).trans D98.out))
     go_wp2_with fail
     go_roundg (es4.length + es9.length - (k + 1))
     case measure => exact (by have ob4 := HM.out.2; have ob5 := HK.out; have ob6 := HC.out; have ob7 := (show k < es4.length + es9.length from by have q1_ := HIJ.out; have q2_ := HK.out; omega); omega)
     case rel => exact ⟨k + 1, i + 1, j, n1, n2 + 1, m + 1, es ++ [(⟨r46, r53, q46, q53⟩ : SpE)], tailA gp (i * 8) c1 8, (c1 - 1), some ⟨gq, j * 8, none⟩, c2, some ⟨g81, 0, none⟩, cp82, rfl, rfl, rfl, rfl, (by have q1_ := HK.out; omega), (by have q1_ := HIJ.out; omega), (by have q1_ := HC.out; exact ⟨by omega, q1_.2⟩), (fun h_ => by have q1_ := HC.out; rw [tailA_some h_ (by omega)]; congr 2; omega), (fun h_ => rfl), (by rw [← HV.out, HST.out, HCU.out, if_pos CS.out, List.map_append, List.append_assoc]; rw [if_pos CE.out]; rfl), ⟨by rw [List.length_append, ← HM.out.1]; rfl, by have q1_ := HM.out.2; omega⟩, (fun g_ hg_ => (List.mem_append.1 hg_).elim (fun hg_ => (HOE.out g_ hg_).dig DD105.out) (fun hg_ => by rw [List.mem_singleton.1 hg_]; exact ⟨(R46.out.dig DD106.out), (R53.out.dig DD107.out), B46.out, B53.out⟩)), H98.out.take 3, DD108.out⟩
    have CE := zH c86
    clear c86
    go_upto_region 7 with fail
    refine zy ?_
    have H109 := zH (H83.out.step (Ext.refl w80).drew)
    have D109 := zH (Dig.of_ext (w := w80) zb)
    refine zx 0 (bs 10 1) (.slice (some ⟨gp, i * 8, none⟩) (n1 + 1) c1) zb ?_
    refine zu 1 (bs 10 3) (v := .pointer (some ⟨gp, i * 8, none⟩)) zb ?_ (hv := by intro w hSw; exact ezi (k := 0) Tryz.underlying22 (l := (by omega)) (f := (show i * 8 = i * 8 + 0 * 8 by omega)))
    refine mX 2 (bs 10 7) (.pointer (some ⟨gp, i * 8 + 4, none⟩)) zb ?_
    refine zg 3 (bs 10 15) gp (i * 8 + 4) (rc ex.b) (range_part (H83.out.elem (f := SpE.cells) (i := 0) (by rfl) SpE.len HEex.out) 4 4) Tryz.underlying27 zb ?_
    refine zx 4 (bs 10 31) (.slice (some ⟨gq, j * 8, none⟩) (n2 + 1) c2) zb ?_
    refine zu 5 (bs 10 63) (v := .pointer (some ⟨gq, j * 8, none⟩)) zb ?_ (hv := by intro w hSw; exact ezi (k := 0) Tryz.underlying22 (l := (by omega)) (f := (show j * 8 = j * 8 + 0 * 8 by omega)))
    refine mX 6 (bs 10 127) (.pointer (some ⟨gq, j * 8 + 4, none⟩)) zb ?_
    refine zg 7 (bs 10 255) gq (j * 8 + 4) (rc ey.b) (range_part (H83.out.elem (f := SpE.cells) (i := 1) (by rfl) SpE.len HEey.out) 4 4) Tryz.underlying27 zb ?_
    have DD118 := zH ((((((((((D10.out.trans D21.out).trans D31.out).trans D49.out).trans D56.out).trans D62.out).trans D67.out).trans D76.out).trans D83.out).trans D109.out))
    have DD119 := zH (((((((((D21.out.trans D31.out).trans D49.out).trans D56.out).trans D62.out).trans D67.out).trans D76.out).trans D83.out).trans D109.out))
    refine mC 8 (bs 10 511) (pCmp (L := 60000) (RV.Is.nin (RBex.out.dig DD118.out) (Nat.le_trans BBex.out (by omega))) (RV.Is.nin (RBey.out.dig DD119.out) (Nat.le_trans BBey.out (by omega))) (by omega)) ?_
    rintro e w117 ⟨rfl, hx⟩
    have H120 := zH (H109.out.step hx)
    have D120 := zH (show Dig w80.drew w117 from Dig.of_ext hx)
    have S122 := zH (show Ext w80 w117 from zb.trans hx)
    clear hx
    refine zm S122.out ?_
    refine zu 9 (bs 10 1023) (v := .bool false) S122.out ?_ (hv := by intro w hSw; exact ezl (e := (dec_f (fun hh => CE.out (rcmp_lt.1 hh)))))
    refine wpAnyH_done (by kernel_rfl) ?_ _
    go_upto_region 9 with fail
    refine wp_region_lit ?_
    refine zq (.slice (some ⟨gq, j * 8, none⟩) (n2 + 1) c2) ?_
    refine zp (w' := w117) (.slice (tailA gq (j * 8) c2 8) n2 (c2 - 1)) (by exact ev_tail (by rfl) Tryz.underlying22 (by kernel_rfl) (by rfl) (by rfl) (by decide)) ?_
    refine zq (.slice (tailA gq (j * 8) c2 8) n2 (c2 - 1)) ?_
    have DD127 := zH (((((((((D31.out.trans D49.out).trans D56.out).trans D62.out).trans D67.out).trans D76.out).trans D83.out).trans D109.out).trans D120.out))
    have DD128 := zH (((((((D56.out.trans D62.out).trans D67.out).trans D76.out).trans D83.out).trans D109.out).trans D120.out))
    have DD129 := zH ((((((D62.out.trans D67.out).trans D76.out).trans D83.out).trans D109.out).trans D120.out))
    have DD130 := zH ((((((((((D21.out.trans D31.out).trans D49.out).trans D56.out).trans D62.out).trans D67.out).trans D76.out).trans D83.out).trans D109.out).trans D120.out))
    go_wp2_with fail
    go_roundg (es4.length + es9.length - (k + 1))
    case measure => exact (by have ob4 := HM.out.2; have ob5 := HK.out; have ob6 := HC.out; have ob7 := (show k < es4.length + es9.length from by have q1_ := HIJ.out; have q2_ := HK.out; omega); omega)
    case rel => exact ⟨k + 1, i, j + 1, n1 + 1, n2, m + 1, es ++ [(⟨r46, r53, q46, q53⟩ : SpE)], some ⟨gp, i * 8, none⟩, c1, tailA gq (j * 8) c2 8, (c2 - 1), some ⟨g81, 0, none⟩, cp82, rfl, rfl, rfl, rfl, (by have q1_ := HK.out; omega), (by have q1_ := HIJ.out; omega), (by have q1_ := HC.out; exact ⟨q1_.1, by omega⟩), (fun h_ => rfl), (fun h_ => by have q1_ := HC.out; rw [tailA_some h_ (by omega)]; congr 2; omega), (by rw [← HV.out, HST.out, HCU.out, if_pos CS.out, List.map_append, List.append_assoc]; rw [if_neg CE.out]; rfl), ⟨by rw [List.length_append, ← HM.out.1]; rfl, by have q1_ := HM.out.2; omega⟩, (fun g_ hg_ => (List.mem_append.1 hg_).elim (fun hg_ => (HOE.out g_ hg_).dig DD127.out) (fun hg_ => by rw [List.mem_singleton.1 hg_]; exact ⟨(R46.out.dig DD128.out), (R53.out.dig DD129.out), B46.out, B53.out⟩)), H120.out.take 3, DD130.out⟩
   have CS := zH c70
   clear c70
   go_upto_region 5 with fail
   refine wp_region_lit ?_
   refine qV (.pointer (some ⟨X60, 0, none⟩)) ?_
   refine zd X60 (0) (rc r46) (H67.out.range (i := 3) (by rfl) 0 4) Tryz.underlying27 ?_
   refine qV (.pointer (some ⟨X60, 4, none⟩)) ?_
   refine zd X60 (4) (rc r53) (H67.out.range (i := 3) (by rfl) 4 4) Tryz.underlying27 ?_
   have DD134 := zH (((D56.out.trans D62.out).trans D67.out))
   have DD135 := zH ((D62.out.trans D67.out))
   refine zc (pCmp (L := 60000) (RV.Is.nin (R46.out.dig DD134.out) (Nat.le_trans B46.out (by omega))) (RV.Is.nin (R53.out.dig DD135.out) (Nat.le_trans B53.out (by omega))) (by omega)) ?_
   rintro e w133 ⟨rfl, hx⟩
   have H136 := zH (H67.out.step hx)
   have D136 := zH (Dig.of_ext hx)
   clear hx
   refine zn ?_
   refine zp (w' := w133) (.bool false) (by exact ezl (e := (dec_f (fun hh => CS.out (rcmp_lt.1 hh))))) ?_
   by_cases c139 : ex.q < ey.q
   ·have CE := zH c139
    clear c139
    go_upto_region 7 with fail
    refine zy ?_
    have H140 := zH (H136.out.step (Ext.refl w133).drew)
    have D140 := zH (Dig.of_ext (w := w133) zb)
    refine zx 0 (bs 10 1) (.slice (some ⟨gp, i * 8, none⟩) (n1 + 1) c1) zb ?_
    refine zu 1 (bs 10 3) (v := .pointer (some ⟨gp, i * 8, none⟩)) zb ?_ (hv := by intro w hSw; exact ezi (k := 0) Tryz.underlying22 (l := (by omega)) (f := (show i * 8 = i * 8 + 0 * 8 by omega)))
    refine mX 2 (bs 10 7) (.pointer (some ⟨gp, i * 8 + 4, none⟩)) zb ?_
    refine zg 3 (bs 10 15) gp (i * 8 + 4) (rc ex.b) (range_part (H136.out.elem (f := SpE.cells) (i := 0) (by rfl) SpE.len HEex.out) 4 4) Tryz.underlying27 zb ?_
    refine zx 4 (bs 10 31) (.slice (some ⟨gq, j * 8, none⟩) (n2 + 1) c2) zb ?_
    refine zu 5 (bs 10 63) (v := .pointer (some ⟨gq, j * 8, none⟩)) zb ?_ (hv := by intro w hSw; exact ezi (k := 0) Tryz.underlying22 (l := (by omega)) (f := (show j * 8 = j * 8 + 0 * 8 by omega)))
    refine mX 6 (bs 10 127) (.pointer (some ⟨gq, j * 8 + 4, none⟩)) zb ?_
    refine zg 7 (bs 10 255) gq (j * 8 + 4) (rc ey.b) (range_part (H136.out.elem (f := SpE.cells) (i := 1) (by rfl) SpE.len HEey.out) 4 4) Tryz.underlying27 zb ?_
    have DD149 := zH (((((((((D10.out.trans D21.out).trans D31.out).trans D49.out).trans D56.out).trans D62.out).trans D67.out).trans D136.out).trans D140.out))
    have DD150 := zH ((((((((D21.out.trans D31.out).trans D49.out).trans D56.out).trans D62.out).trans D67.out).trans D136.out).trans D140.out))
    refine mC 8 (bs 10 511) (pCmp (L := 60000) (RV.Is.nin (RBex.out.dig DD149.out) (Nat.le_trans BBex.out (by omega))) (RV.Is.nin (RBey.out.dig DD150.out) (Nat.le_trans BBey.out (by omega))) (by omega)) ?_
    rintro e w148 ⟨rfl, hx⟩
    have H151 := zH (H140.out.step hx)
    have D151 := zH (show Dig w133.drew w148 from Dig.of_ext hx)
    have S153 := zH (show Ext w133 w148 from zb.trans hx)
    clear hx
    refine zm S153.out ?_
    refine zu 9 (bs 10 1023) (v := .bool true) S153.out ?_ (hv := by intro w hSw; exact ezl (e := (dec_t (rcmp_lt.2 CE.out))))
    refine wpAnyH_done (by kernel_rfl) ?_ _
    go_upto_region 8 with fail
    refine wp_region_lit ?_
    refine zq (.slice (some ⟨gp, i * 8, none⟩) (n1 + 1) c1) ?_
    refine zp (w' := w148) (.slice (tailA gp (i * 8) c1 8) n1 (c1 - 1)) (by exact ev_tail (by rfl) Tryz.underlying22 (by kernel_rfl) (by rfl) (by rfl) (by decide)) ?_
    refine zq (.slice (tailA gp (i * 8) c1 8) n1 (c1 - 1)) ?_
    have DD158 := zH ((((((((D31.out.trans D49.out).trans D56.out).trans D62.out).trans D67.out).trans D136.out).trans D140.out).trans D151.out))
    have DD159 := zH (((((((((D21.out.trans D31.out).trans D49.out).trans D56.out).trans D62.out).trans D67.out).trans D136.out).trans D140.out).trans D151.out))
    go_wp2_with fail
    go_roundg (es4.length + es9.length - (k + 1))
    case measure => exact (by have ob4 := HM.out.2; have ob5 := HK.out; have ob6 := HC.out; have ob7 := (show k < es4.length + es9.length from by have q1_ := HIJ.out; have q2_ := HK.out; omega); omega)
    case rel => exact ⟨k + 1, i + 1, j, n1, n2 + 1, m, es, tailA gp (i * 8) c1 8, (c1 - 1), some ⟨gq, j * 8, none⟩, c2, A3, c3, rfl, rfl, rfl, rfl, (by have q1_ := HK.out; omega), (by have q1_ := HIJ.out; omega), (by have q1_ := HC.out; exact ⟨by omega, q1_.2⟩), (fun h_ => by have q1_ := HC.out; rw [tailA_some h_ (by omega)]; congr 2; omega), (fun h_ => rfl), (by rw [← HV.out, HST.out, HCU.out, if_neg CS.out, List.nil_append]; rw [if_pos CE.out]), ⟨HM.out.1, by have q1_ := HM.out.2; omega⟩, (fun g_ hg_ => (HOE.out g_ hg_).dig DD158.out), H151.out.take 3, DD159.out⟩
   have CE := zH c139
   clear c139
   go_upto_region 7 with fail
   refine zy ?_
   have H160 := zH (H136.out.step (Ext.refl w133).drew)
   have D160 := zH (Dig.of_ext (w := w133) zb)
   refine zx 0 (bs 10 1) (.slice (some ⟨gp, i * 8, none⟩) (n1 + 1) c1) zb ?_
   refine zu 1 (bs 10 3) (v := .pointer (some ⟨gp, i * 8, none⟩)) zb ?_ (hv := by intro w hSw; exact ezi (k := 0) Tryz.underlying22 (l := (by omega)) (f := (show i * 8 = i * 8 + 0 * 8 by omega)))
   refine mX 2 (bs 10 7) (.pointer (some ⟨gp, i * 8 + 4, none⟩)) zb ?_
   refine zg 3 (bs 10 15) gp (i * 8 + 4) (rc ex.b) (range_part (H136.out.elem (f := SpE.cells) (i := 0) (by rfl) SpE.len HEex.out) 4 4) Tryz.underlying27 zb ?_
   refine zx 4 (bs 10 31) (.slice (some ⟨gq, j * 8, none⟩) (n2 + 1) c2) zb ?_
   refine zu 5 (bs 10 63) (v := .pointer (some ⟨gq, j * 8, none⟩)) zb ?_ (hv := by intro w hSw; exact ezi (k := 0) Tryz.underlying22 (l := (by omega)) (f := (show j * 8 = j * 8 + 0 * 8 by omega)))
   refine mX 6 (bs 10 127) (.pointer (some ⟨gq, j * 8 + 4, none⟩)) zb ?_
   refine zg 7 (bs 10 255) gq (j * 8 + 4) (rc ey.b) (range_part (H136.out.elem (f := SpE.cells) (i := 1) (by rfl) SpE.len HEey.out) 4 4) Tryz.underlying27 zb ?_
   have DD169 := zH (((((((((D10.out.trans D21.out).trans D31.out).trans D49.out).trans D56.out).trans D62.out).trans D67.out).trans D136.out).trans D160.out))
   have DD170 := zH ((((((((D21.out.trans D31.out).trans D49.out).trans D56.out).trans D62.out).trans D67.out).trans D136.out).trans D160.out))
   refine mC 8 (bs 10 511) (pCmp (L := 60000) (RV.Is.nin (RBex.out.dig DD169.out) (Nat.le_trans BBex.out (by omega))) (RV.Is.nin (RBey.out.dig DD170.out) (Nat.le_trans BBey.out (by omega))) (by omega)) ?_
   rintro e w168 ⟨rfl, hx⟩
   have H171 := zH (H160.out.step hx)
   have D171 := zH (show Dig w133.drew w168 from Dig.of_ext hx)
   have S173 := zH (show Ext w133 w168 from zb.trans hx)
   clear hx
   refine zm S173.out ?_
   refine zu 9 (bs 10 1023) (v := .bool false) S173.out ?_ (hv := by intro w hSw; exact ezl (e := (dec_f (fun hh => CE.out (rcmp_lt.1 hh)))))
   refine wpAnyH_done (by kernel_rfl) ?_ _
   go_upto_region 9 with fail
   refine wp_region_lit ?_
   refine zq (.slice (some ⟨gq, j * 8, none⟩) (n2 + 1) c2) ?_
   refine zp (w' := w168) (.slice (tailA gq (j * 8) c2 8) n2 (c2 - 1)) (by exact ev_tail (by rfl) Tryz.underlying22 (by kernel_rfl) (by rfl) (by rfl) (by decide)) ?_
   refine zq (.slice (tailA gq (j * 8) c2 8) n2 (c2 - 1)) ?_
   have DD178 := zH ((((((((D31.out.trans D49.out).trans D56.out).trans D62.out).trans D67.out).trans D136.out).trans D160.out).trans D171.out))
   have DD179 := zH (((((((((D21.out.trans D31.out).trans D49.out).trans D56.out).trans D62.out).trans D67.out).trans D136.out).trans D160.out).trans D171.out))
   go_wp2_with fail
   go_roundg (es4.length + es9.length - (k + 1))
   case measure => exact (by have ob4 := HM.out.2; have ob5 := HK.out; have ob6 := HC.out; have ob7 := (show k < es4.length + es9.length from by have q1_ := HIJ.out; have q2_ := HK.out; omega); omega)
   case rel => exact ⟨k + 1, i, j + 1, n1 + 1, n2, m, es, some ⟨gp, i * 8, none⟩, c1, tailA gq (j * 8) c2 8, (c2 - 1), A3, c3, rfl, rfl, rfl, rfl, (by have q1_ := HK.out; omega), (by have q1_ := HIJ.out; omega), (by have q1_ := HC.out; exact ⟨q1_.1, by omega⟩), (fun h_ => rfl), (fun h_ => by have q1_ := HC.out; rw [tailA_some h_ (by omega)]; congr 2; omega), (by rw [← HV.out, HST.out, HCU.out, if_neg CS.out, List.nil_append]; rw [if_neg CE.out]), ⟨HM.out.1, by have q1_ := HM.out.2; omega⟩, (fun g_ hg_ => (HOE.out g_ hg_).dig DD178.out), H171.out.take 3, DD179.out⟩
  have HLT := zH c22
  clear c22
  by_cases c180 : n1 = 0
  ·have HZ := zH c180
   clear c180
   obtain rfl : n1 = 0 := HZ.out
   go_upto_region 3 with fail
   refine wp_region_lit ?_
   refine qV (.slice A1 0 c1) ?_
   refine zq (.int .i64 0) ?_
   refine zp (w' := w19) (.bool false) (by exact ezg (e := (dec_f (by have ob3 := HIJ.out; have ob4 := HM.out.2; have ob5 := HK.out; have ob6 := HC.out; omega)))) ?_
   refine zq (.bool false) ?_
   refine zk ?_
   refine zk ?_
   refine zk ?_
   refine zq (.bool false) ?_
   go_upto_region 10 with fail
   refine wp_region_lit ?_
   refine qV (.slice A3 m c3) ?_
   refine zq (.slice A3 m c3) ?_
   have hme := HM.out.1
   subst hme
   go_wp2_with fail
   go_ret
   first | exact ⟨_, es, rfl, ⟨H21.out.row (i := 2) (by rfl), (fun e_ he_ => (HOE.out e_ he_))⟩, (by have h := HV.out; rw [interD_end1 (by have q1_ := HIJ.out; omega), List.append_nil] at h; rw [h, VL4.out, VL9.out]), (by have q1_ := HM.out.2; have q2_ := HIJ.out; omega), H21.out.ext⟩ | exact ⟨_, rfl, es, ⟨H21.out.row (i := 2) (by rfl), (fun e_ he_ => (HOE.out e_ he_))⟩, (by have h := HV.out; rw [interD_end1 (by have q1_ := HIJ.out; omega), List.append_nil] at h; rw [h, VL4.out, VL9.out]), (by have q1_ := HM.out.2; have q2_ := HIJ.out; omega), H21.out.ext⟩
  have HZ := zH c180
  clear c180
  obtain rfl : n2 = 0 := by have q1_ := HZ.out; have q2_ := HLT.out; omega
  have hz1 := HZ.out
  go_upto_region 3 with fail
  refine wp_region_lit ?_
  refine qV (.slice A1 n1 c1) ?_
  refine zq (.int .i64 (n1 : Int)) ?_
  refine zp (w' := w19) (.bool true) (by exact ezg (e := (dec_t (by have ob3 := HIJ.out; have ob4 := HM.out.2; have ob5 := HK.out; have ob6 := HC.out; omega)))) ?_
  refine qV (.bool true) ?_
  refine zq (.slice A2 0 c2) ?_
  refine zq (.int .i64 0) ?_
  refine zp (w' := w19) (.bool false) (by exact ezg (e := (dec_f (by have ob3 := HIJ.out; have ob4 := HM.out.2; have ob5 := HK.out; have ob6 := HC.out; omega)))) ?_
  refine zq (.bool false) ?_
  go_upto_region 10 with fail
  refine wp_region_lit ?_
  refine qV (.slice A3 m c3) ?_
  refine zq (.slice A3 m c3) ?_
  have hme := HM.out.1
  subst hme
  go_wp2_with fail
  go_ret
  first | exact ⟨_, es, rfl, ⟨H21.out.row (i := 2) (by rfl), (fun e_ he_ => (HOE.out e_ he_))⟩, (by have h := HV.out; rw [interD_end2 (by have q1_ := HIJ.out; omega), List.append_nil] at h; rw [h, VL4.out, VL9.out]), (by have q1_ := HM.out.2; have q2_ := HIJ.out; omega), H21.out.ext⟩ | exact ⟨_, rfl, es, ⟨H21.out.row (i := 2) (by rfl), (fun e_ he_ => (HOE.out e_ he_))⟩, (by have h := HV.out; rw [interD_end2 (by have q1_ := HIJ.out; omega), List.append_nil] at h; rw [h, VL4.out, VL9.out]), (by have q1_ := HM.out.2; have q2_ := HIJ.out; omega), H21.out.ext⟩

def subSt (e : Rat) (st : List QQ × Rat) (c : QQ) : List QQ × Rat := if st.2 < c.2 ∧ c.1 < e then (st.1 ++ [(st.2, c.1)], c.2) else st
def subF (x : SpE) (ql : List SpE) (k : Nat) : List QQ × Rat := ((ql.take k).map SpE.vl).foldl (subSt x.q) ([], x.p)
def subRow (pl ql : List SpE) (i : Nat) : List QQ := subL ((pl.take i).map SpE.vl) (ql.map SpE.vl)
theorem cuts_fold (e : Rat) : ∀ (cs : List QQ) (pre : List QQ) (f : Rat), pre ++ cutsV e f cs = (cs.foldl (subSt e) (pre, f)).1 ++ [((cs.foldl (subSt e) (pre, f)).2, e)]
  | [], pre, f => by rw [cutsV]; rfl
  | c :: cs, pre, f => by
    rw [cutsV, List.foldl_cons]
    unfold subSt
    dsimp only
    split
    · have h := cuts_fold e cs (pre ++ [(f, c.1)]) c.2
      unfold subSt at h
      rw [← h]
      simp
    have h := cuts_fold e cs pre f
    unfold subSt at h
    exact h
theorem subF_zero (x : SpE) (ql : List SpE) : subF x ql 0 = ([], x.p) := rfl
theorem subF_yes {x y : SpE} {ql : List SpE} {k : Nat} (h : ql[k]? = some y) (hc : (subF x ql k).2 < y.q ∧ y.p < x.q) : subF x ql (k + 1) = ((subF x ql k).1 ++ [((subF x ql k).2, y.p)], y.q) := by
  have e : subF x ql (k + 1) = subSt x.q (subF x ql k) y.vl := by unfold subF; rw [List.take_add_one, h]; simp
  rw [e]
  unfold subSt
  exact if_pos hc
theorem subF_no {x y : SpE} {ql : List SpE} {k : Nat} (h : ql[k]? = some y) (hc : ¬ ((subF x ql k).2 < y.q ∧ y.p < x.q)) : subF x ql (k + 1) = subF x ql k := by
  have e : subF x ql (k + 1) = subSt x.q (subF x ql k) y.vl := by unfold subF; rw [List.take_add_one, h]; simp
  rw [e]
  unfold subSt
  exact if_neg hc
theorem subRow_succ {x : SpE} {pl ql : List SpE} {i : Nat} (h : pl[i]? = some x) : subRow pl ql (i + 1) = subRow pl ql i ++ ((subF x ql ql.length).1 ++ [((subF x ql ql.length).2, x.q)]) := by
  unfold subRow subL
  rw [List.take_add_one, h]
  simp only [Option.toList_some, List.map_append, List.map_cons, List.map_nil, List.flatMap_append, List.flatMap_cons, List.flatMap_nil, List.append_nil]
  congr 1
  have h2 := cuts_fold x.q (ql.map SpE.vl) [] x.p
  rw [List.nil_append] at h2
  unfold subF
  rw [List.take_of_length_le (Nat.le_refl _)]
  exact h2
theorem nodup_le {α : Type} : ∀ {l m : List α}, l.Pairwise (fun a b => a ≠ b) → (∀ a, a ∈ l → a ∈ m) → l.length ≤ m.length
  | [], m, _, _ => Nat.zero_le _
  | a :: l, m, h, hs => by
    obtain ⟨m1, m2, rfl⟩ := List.append_of_mem (hs a (List.mem_cons_self ..))
    obtain ⟨h1, h2⟩ := List.pairwise_cons.1 h
    have h3 := nodup_le (m := m1 ++ m2) h2 (fun b hb => by
      have h4 := hs b (List.mem_cons_of_mem _ hb)
      have h5 := h1 b hb
      simp only [List.mem_append, List.mem_cons] at h4 ⊢
      rcases h4 with h4 | rfl | h4
      · exact .inl h4
      · exact absurd rfl h5
      exact .inr h4)
    simp only [List.length_append, List.length_cons] at h3 ⊢
    omega
theorem cuts_left (e : Rat) : ∀ (cs : List QQ) (f : Rat) (p : QQ), p ∈ cutsV e f cs → p.1 = f ∨ ∃ c, c ∈ cs ∧ p.1 = c.2
  | [], f, p, h => by
    rw [cutsV, List.mem_singleton] at h
    exact .inl (by rw [h])
  | c :: cs, f, p, h => by
    rw [cutsV] at h
    split at h
    · rcases List.mem_cons.1 h with rfl | h
      · exact .inl rfl
      rcases cuts_left e cs c.2 p h with h1 | ⟨d, h1, h2⟩
      · exact .inr ⟨c, List.mem_cons_self .., h1⟩
      exact .inr ⟨d, List.mem_cons_of_mem _ h1, h2⟩
    rcases cuts_left e cs f p h with h1 | ⟨d, h1, h2⟩
    · exact .inl h1
    exact .inr ⟨d, List.mem_cons_of_mem _ h1, h2⟩
theorem subV_len {x y : List QQ} (hx : Sep x) (hy : Sep y) : (subV x y).length ≤ x.length + y.length := by
 have hs := subV_sep hx hy
 have h := nodup_le (l := (subV x y).map Prod.fst) (m := x.map Prod.fst ++ y.map Prod.snd) (by
  rw [List.pairwise_map]
  have h1 : (subV x y).Pairwise (fun a b => a.1 < b.1) := by
   refine List.Pairwise.imp_of_mem ?_ hs.1
   intro a b ha hb hab
   have := hs.2 a ha
   grind
  exact List.Pairwise.imp (fun hab => by grind) h1) (fun a ha => by
  obtain ⟨p, hp, rfl⟩ := List.mem_map.1 ha
  have h2 := (mem_some2.1 hp).1
  obtain ⟨s, hs1, hs2⟩ := List.mem_flatMap.1 h2
  rw [List.mem_append]
  rcases cuts_left _ _ _ _ hs2 with h3 | ⟨c, h3, h4⟩
  ·exact .inl (List.mem_map.2 ⟨s, hs1, h3.symm⟩)
  exact .inr (List.mem_map.2 ⟨c, h3, h4.symm⟩))
 simpa using h
theorem subRow_all (pl ql : List SpE) : subRow pl ql pl.length = subL (pl.map SpE.vl) (ql.map SpE.vl) := by
  unfold subRow
  rw [List.take_of_length_le (Nat.le_refl _)]

def KeepRet (L : Nat) (p q : Rat) (Bo : Nat) (A : Option Addr) (n c : Nat) (es : List SpE) (w0 w w' : World) : Prop :=
  ∃ A' c' n' es', Hp w0 w' [.blk Bo 22 [.slice A' n' c'], .row 51 8 (.slice A' n' c') n' (List.flatMap SpE.cells es')] ∧ Dig w w' ∧ Fr (fun kz => kz = Bo ∨ Value.ownBlock (.slice A n c) = some kz) w w' ∧
    (∀ k, Value.ownBlock (.slice A' n' c') = some k → Value.ownBlock (.slice A n c) = some k ∨ w.heap.size ≤ k) ∧ List.map SpE.vl es' = List.map SpE.vl es ++ some2 [(p, q)] ∧ n' = es'.length ∧ n' ≤ n + 1 ∧ ∀ e, e ∈ es' → e.Ok L w'
theorem some2_one {p q : Rat} : some2 [(p, q)] = if p < q then [(p, q)] else [] := by rw [some2_cons]; rfl
set_option maxRecDepth 20000 in
set_option maxHeartbeats 4000000 in
theorem keep_any (L : Nat) (hL : L ≤ 60000) (a b : RV) (p q : Rat) (Bo : Nat) (A : Option Addr) (n c : Nat) (es : List SpE) (w0 w : World) (hh : Hp w0 w [.blk Bo 22 [.slice A n c], .row 51 8 (.slice A n c) n (List.flatMap SpE.cells es)])
  (ha : a.Is w p) (hb : b.Is w q) (h1 : Nm.rl p ≤ L) (h2 : Nm.rl q ≤ L) (hn : n = es.length) (hn2 : n ≤ 20000) (hok : ∀ e, e ∈ es → e.Ok L w) :
  Calls Tryz.prog 28 #[.agg #[.bool a.n, .slice a.p a.l a.c, .bool a.m, .slice a.p2 a.l2 a.c2], .agg #[.bool b.n, .slice b.p b.l b.c, .bool b.m, .slice b.p2 b.l2 b.c2], .pointer (some ⟨Bo, 0, none⟩)] w fun e w' => e = .returned (.tuple #[]) ∧ KeepRet L p q Bo A n c es w0 w w' := by
 have RA := zH ha
 have RB := zH hb
 have BA := zH h1
 have BB := zH h2
 have HN := zH hn
 have HOK := zH hok
 have H0 := zH hh
 have HN2 := zH hn2
 clear ha hb h1 h2 hn hn2 hok hh
 go_enter Tryz.func28, Tryz.ntmps28
 go_upto_region 0 with fail
 refine wp_region_lit ?_
 refine mv_alloc (T := 27) (zs := [.bool a.n, .slice a.p a.l a.c, .bool a.m, .slice a.p2 a.l2 a.c2]) (by rfl) (by go_simp) H0.out (by simp [NoUL]) ?_
 intro X1 w2 hh hx hge
 have H4 := zH (show Hp w0 w2 [.blk Bo 22 [.slice A n c], ro 51 8 A n c SpE.cells es, .blk X1 27 (rc a)] from hh)
 have D4 := zH (Dig.of_ext hx)
 have K6 := zH (show Fr (fun kz => kz = Bo ∨ Value.ownBlock (.slice A n c) = some kz) w w2 from (Fr.of_ext (G := fun kz => kz = Bo ∨ Value.ownBlock (.slice A n c) = some kz) (Ext.refl w)).trans (Fr.of_ext hx))
 clear hh hx hge
 try simp only [Act.put, zA, zB, zC]
 refine mv_alloc (T := 27) (zs := [.bool b.n, .slice b.p b.l b.c, .bool b.m, .slice b.p2 b.l2 b.c2]) (by rfl) (by go_simp) H4.out (by simp [NoUL]) ?_
 intro X8 w9 hh hx hge
 have H11 := zH (show Hp w0 w9 [.blk Bo 22 [.slice A n c], ro 51 8 A n c SpE.cells es, .blk X1 27 (rc a), .blk X8 27 (rc b)] from hh)
 have D11 := zH (Dig.of_ext hx)
 have K13 := zH (show Fr (fun kz => kz = Bo ∨ Value.ownBlock (.slice A n c) = some kz) w w9 from K6.out.trans (Fr.of_ext hx))
 clear hh hx hge
 try simp only [Act.put, zA, zB, zC]
 by_cases c15 : p < q
 ·have CL := zH c15
  clear c15
  go_upto_region 1 with fail
  refine wp_region_lit ?_
  refine zd X1 (0) (rc a) (H11.out.range (i := 2) (by rfl) 0 4) Tryz.underlying27 ?_
  refine zd X8 (0) (rc b) (H11.out.range (i := 3) (by rfl) 0 4) Tryz.underlying27 ?_
  have DD17 := zH ((D4.out.trans D11.out))
  refine zc (pCmp (L := 60000) (RV.Is.nin (RA.out.dig DD17.out) (Nat.le_trans BA.out (by omega))) (RV.Is.nin (RB.out.dig DD17.out) (Nat.le_trans BB.out (by omega))) (by omega)) ?_
  rintro e w16 ⟨rfl, hx⟩
  have H18 := zH (H11.out.step hx)
  have D18 := zH (Dig.of_ext hx)
  have K20 := zH (show Fr (fun kz => kz = Bo ∨ Value.ownBlock (.slice A n c) = some kz) w w16 from K13.out.trans (Fr.of_ext hx))
  clear hx
  refine zn ?_
  refine zp (w' := w16) (.bool true) (by exact ezl (e := (dec_t (rcmp_lt.2 CL.out)))) ?_
  go_upto_region 2 with fail
  refine wp_region_lit ?_
  refine ze Bo 0 (.slice A n c) (H18.out.range (i := 0) (by rfl) 0 1) ?_
  refine zd X1 (0) (rc a) (H18.out.range (i := 2) (by rfl) 0 4) Tryz.underlying27 ?_
  refine zd X8 (0) (rc b) (H18.out.range (i := 3) (by rfl) 0 4) Tryz.underlying27 ?_
  refine zq (.agg #[.bool a.n, .slice a.p a.l a.c, .bool a.m, .slice a.p2 a.l2 a.c2, .bool b.n, .slice b.p b.l b.c, .bool b.m, .slice b.p2 b.l2 b.c2]) ?_
  refine zp (w' := (w16.alloc (.cells ([.bool a.n, .slice a.p a.l a.c, .bool a.m, .slice a.p2 a.l2 a.c2, .bool b.n, .slice b.p b.l b.c, .bool b.m, .slice b.p2 b.l2 b.c2] : List Value).toArray 51))) (.slice (some ⟨w16.heap.size, 0, none⟩) 1 1) (by go_simp) ?_
  refine mv_app (by rfl) _ _ _ (by rfl) elSpan (by rfl) H18.out (ix := 1) (by rfl) 1 1 [.bool a.n, .slice a.p a.l a.c, .bool a.m, .slice a.p2 a.l2 a.c2, .bool b.n, .slice b.p b.l b.c, .bool b.m, .slice b.p2 b.l2 b.c2] (by rfl) rfl (by simp [Value.oneCell']) (by simp [NoUL]) (by decide) (by unfold maxLen; exact (by have ob0 := HN2.out; omega)) (by have ob0 := HN2.out; omega) ?_
  intro g24 cp25 w23 hf hh hd hg
  have Fg24 := zH hf
  clear hf
  rw [show List.flatMap SpE.cells es ++ [.bool a.n, .slice a.p a.l a.c, .bool a.m, .slice a.p2 a.l2 a.c2, .bool b.n, .slice b.p b.l b.c, .bool b.m, .slice b.p2 b.l2 b.c2] = _ from flat_snoc SpE.cells _ (⟨a, b, p, q⟩ : SpE)] at hh
  have H26 := zH (show Hp w0 w23 [.blk Bo 22 [.slice A n c], ro 51 8 (some ⟨g24, 0, none⟩) (n + 1) cp25 SpE.cells (es ++ [(⟨a, b, p, q⟩ : SpE)]), .blk X1 27 (rc a), .blk X8 27 (rc b)] from hh)
  have D26 := zH (hd)
  have K28 := zH (show Fr (fun kz => kz = Bo ∨ Value.ownBlock (.slice A n c) = some kz) w w23 from (K20.out.trans (Fr.of_ext ((Ext.refl _).alloc _))).trans_new hg (fun j hj => .inl (.inr hj)))
  clear hh hd hg
  try simp only [Act.put, zA, zB, zC]
  refine mv_st1 (by rfl) _ _ _ (by rfl) H26.out (ix := 0) (by rfl) 0 (.slice (some ⟨g24, 0, none⟩) (n + 1) cp25) (by rfl) (by rfl) (by simp) (by kernel_rfl) (by simp [Value.cells]) (by simp [Value.oneCell']) (by simp [NoUL]) ?_
  intro w29 hh hd ho
  have H30 := zH (show Hp w0 w29 [.blk Bo 22 [.slice (some ⟨g24, 0, none⟩) (n + 1) cp25], ro 51 8 (some ⟨g24, 0, none⟩) (n + 1) cp25 SpE.cells (es ++ [(⟨a, b, p, q⟩ : SpE)]), .blk X1 27 (rc a), .blk X8 27 (rc b)] from hh)
  have D30 := zH (hd)
  have K32 := zH (show Fr (fun kz => kz = Bo ∨ Value.ownBlock (.slice A n c) = some kz) w w29 from K28.out.trans_new ho (fun j hj => .inl (.inl (by injection hj with hj; exact hj.symm))))
  clear hh hd ho
  (try simp only [Act.put])
  have DD33 := zH (((((D4.out.trans D11.out).trans D18.out).trans D26.out).trans D30.out))
  go_wp2_with fail
  first | refine bodyPost_end (v := .tuple #[]) (results_none rfl _ _ _) rfl ?_ | refine bodyPost_ret (v := .tuple #[]) (results_none rfl _ _ _) rfl ?_
  exact ⟨rfl, some ⟨g24, 0, none⟩, cp25, n + 1, es ++ [(⟨a, b, p, q⟩ : SpE)], H30.out.take 2, DD33.out, K32.out, (fun k_ hk_ => by have e_ : g24 = k_ := (by simpa [Value.ownBlock] using hk_); subst e_; exact Fg24.out.imp id (fun h_ => Nat.le_trans K20.out.size h_)), (by rw [List.map_append, some2_one, if_pos CL.out]; rfl), (by rw [List.length_append, ← HN.out]; rfl), Nat.le_refl _, (fun g_ hg_ => (List.mem_append.1 hg_).elim (fun hg_ => (HOK.out g_ hg_).dig DD33.out) (fun hg_ => by rw [List.mem_singleton.1 hg_]; exact ⟨(RA.out.dig DD33.out), (RB.out.dig DD33.out), BA.out, BB.out⟩))⟩
 have CL := zH c15
 clear c15
 go_upto_region 1 with fail
 refine wp_region_lit ?_
 refine zd X1 (0) (rc a) (H11.out.range (i := 2) (by rfl) 0 4) Tryz.underlying27 ?_
 refine zd X8 (0) (rc b) (H11.out.range (i := 3) (by rfl) 0 4) Tryz.underlying27 ?_
 have DD35 := zH ((D4.out.trans D11.out))
 refine zc (pCmp (L := 60000) (RV.Is.nin (RA.out.dig DD35.out) (Nat.le_trans BA.out (by omega))) (RV.Is.nin (RB.out.dig DD35.out) (Nat.le_trans BB.out (by omega))) (by omega)) ?_
 rintro e w34 ⟨rfl, hx⟩
 have H36 := zH (H11.out.step hx)
 have D36 := zH (Dig.of_ext hx)
 have K38 := zH (show Fr (fun kz => kz = Bo ∨ Value.ownBlock (.slice A n c) = some kz) w w34 from K13.out.trans (Fr.of_ext hx))
 clear hx
 refine zn ?_
 refine zp (w' := w34) (.bool false) (by exact ezl (e := (dec_f (fun hh => CL.out (rcmp_lt.1 hh))))) ?_
 have DD40 := zH (((D4.out.trans D11.out).trans D36.out))
 go_wp2_with fail
 first | refine bodyPost_end (v := .tuple #[]) (results_none rfl _ _ _) rfl ?_ | refine bodyPost_ret (v := .tuple #[]) (results_none rfl _ _ _) rfl ?_
 exact ⟨rfl, A, c, n, es, H36.out.take 2, DD40.out, K38.out, (fun k_ hk_ => .inl hk_), (by rw [some2_one, if_neg CL.out, List.append_nil]), HN.out, Nat.le_succ _, (fun g_ hg_ => (HOK.out g_ hg_).dig DD40.out)⟩

set_option maxRecDepth 20000 in
set_option maxHeartbeats 4000000 in
theorem subt_any (L : Nat) (u v : Value) (ps qs : List QQ) (w : World) (hu : SpansV L w u ps) (hv : SpansV L w v qs) (h1L : 1 ≤ L) (hL : L ≤ 60000) (hn : ps.length ≤ 60 ∧ qs.length ≤ 60) :
  Calls Tryz.prog 11 #[u, v] w fun e w' => ∃ v es, e = .returned v ∧ SpR L w' w.heap.size v es ∧ es.map SpE.vl = subV (mergeV ps) (mergeV qs) ∧ es.length ≤ ps.length + qs.length ∧ Ext w w' := by
 obtain ⟨Aa, ca, ea, rfl, he_, hc_, ho_⟩ := SpansV.list hu
 have HEa := zH he_
 have HCa := zH hc_
 have HOa := zH ho_
 have HUa := zH hu
 clear he_ hc_ ho_
 obtain ⟨Ab, cb, eb, rfl, he_, hc_, ho_⟩ := SpansV.list hv
 have HEb := zH he_
 have HCb := zH hc_
 have HOb := zH ho_
 have HUb := zH hv
 clear he_ hc_ ho_
 clear hu hv
 go_enter Tryz.func11, Tryz.ntmps11
 have H0 := zH (Hp.start w)
 go_upto_region 0 with fail
 refine wp_region_lit ?_
 refine zq (.slice none 0 0) ?_
 go_upto_region 1 with fail
 refine wp_region_lit ?_
 refine qV (.slice Ab eb.length cb) ?_
 refine zc (merge_any L (.slice Ab eb.length cb) qs _ (HUb.out.ext H0.out.ext) h1L (by omega) (by omega)) ?_
 rintro e w3 ⟨v_, es4, rfl, hv1_, hv2_, hv3_, hx⟩
 have VL4 := zH hv2_
 have LN4 := zH hv3_
 have OK4 := zH hv1_.2
 obtain ⟨A4, c4, rfl, hA_⟩ := RowN.form hv1_.1
 have HA4 := zH hA_
 clear hv2_ hv3_ hA_
 have H5 := zH (show Hp w w3 [ro 51 8 A4 es4.length c4 SpE.cells es4] from H0.out.addRow hx hv1_.1)
 clear hv1_
 clear hx
 refine zn ?_
 refine zq (.slice A4 es4.length c4) ?_
 go_upto_region 2 with fail
 refine wp_region_lit ?_
 refine mv_alloc (T := 22) (zs := [.slice none 0 0]) (by rfl) (by go_simp) H5.out (by simp [NoUL]) ?_
 intro X8 w9 hh hx hge
 have H10 := zH (show Hp w w9 [ro 51 8 A4 es4.length c4 SpE.cells es4, .blk X8 22 [.slice none 0 0]] from hh)
 have D10 := zH (Dig.of_ext hx)
 clear hh hx hge
 try simp only [Act.put, zA, zB, zC]
 have H13 := zH (show Hp w w9 [ro 51 8 A4 es4.length c4 SpE.cells es4, .blk X8 22 [.slice none 0 0], ro 51 8 none 0 0 SpE.cells ([])] from H10.out.addNil 51 8)
 go_upto_region 3 with fail
 refine wp_region_lit ?_
 refine qV (.func (.func 28) #[] #[.pointer (some ⟨X8, 0, none⟩)]) ?_
 refine zq (.func (.func 28) #[] #[.pointer (some ⟨X8, 0, none⟩)]) ?_
 go_upto_region 4 with fail
 refine wp_region_lit ?_
 refine qV (.slice Aa ea.length ca) ?_
 refine zc (merge_any L (.slice Aa ea.length ca) ps _ (HUa.out.ext H13.out.ext) h1L (by omega) (by omega)) ?_
 rintro e w17 ⟨v_, es18, rfl, hv1_, hv2_, hv3_, hx⟩
 have VL18 := zH hv2_
 have LN18 := zH hv3_
 have OK18 := zH hv1_.2
 obtain ⟨A18, c18, rfl, hA_⟩ := RowN.form hv1_.1
 have HA18 := zH hA_
 clear hv2_ hv3_ hA_
 have H19 := zH (show Hp w w17 [ro 51 8 A4 es4.length c4 SpE.cells es4, .blk X8 22 [.slice none 0 0], ro 51 8 none 0 0 SpE.cells ([]), ro 51 8 A18 es18.length c18 SpE.cells es18] from H13.out.addRow hx hv1_.1)
 have D19 := zH (Dig.of_ext hx)
 clear hv1_
 clear hx
 refine zn ?_
 refine qV (.int .i64 ((es18.length : Nat) : Int)) ?_
 refine zq (.int .i64 0) ?_
 have hpl : es18.length ≤ 60 := by have := LN18.out; omega
 have hql : es4.length ≤ 60 := by have := LN4.out; omega
 go_wp2_with fail
 go_loopg [19] (es18.length) (fun cq v23 wr => ∃ (i : Nat) (m : Nat) (es : List SpE) (A1 : Option Addr) (c1 : Nat), cq = es18.length - i ∧ v23 = .int .i64 (i : Int) ∧ (i ≤ es18.length) ∧ (m = es.length ∧ m ≤ i * 61) ∧ (es.map SpE.vl = some2 (subRow es18 es4 i)) ∧ (∀ e, e ∈ es → e.Ok L wr) ∧ Hp w wr [.row 51 8 (.slice A4 es4.length c4) (es4.length) (List.flatMap SpE.cells es4), .blk X8 22 [.slice A1 m c1], .row 51 8 (.slice A1 m c1) (m) (List.flatMap SpE.cells es), .row 51 8 (.slice A18 es18.length c18) (es18.length) (List.flatMap SpE.cells es18)] ∧ Dig w17 wr)
 case atStart => exact ⟨0, 0, [], none, 0, rfl, rfl, Nat.zero_le _, ⟨rfl, Nat.le_refl _⟩, rfl, (by simp), H19.out, Dig.refl _⟩
 case round =>
  obtain ⟨i, m, es, A1, c1, rfl, rfl, q_HKI, q_HM, q_HV, q_HOE, hh_, hd_⟩ := hrel
  generalize wr = w24 at *
  have HKI := zH q_HKI
  clear q_HKI
  have HM := zH q_HM
  clear q_HM
  have HV := zH q_HV
  clear q_HV
  have HOE := zH q_HOE
  clear q_HOE
  have H26 := zH hh_
  have D26 := zH hd_
  clear hh_ hd_ H19
  by_cases c27 : i < es18.length
  ·have HLT := zH c27
   clear c27
   have hlt := HLT.out
   have hlt2 : (i : Int) < (es18.length : Int) := by omega
   obtain ⟨gp, rfl⟩ := HA18.out (by omega)
   obtain ⟨ex, he_⟩ : ∃ ex, es18[i]? = some ex := ⟨_, List.getElem?_eq_getElem hlt⟩
   have HEex := zH he_
   have HOex := zH (OK18.out ex (List.mem_of_getElem? he_))
   have RAex := zH HOex.out.1
   have RBex := zH HOex.out.2.1
   have BAex := zH HOex.out.2.2.1
   have BBex := zH HOex.out.2.2.2
   clear he_
   go_upto_region 6 with fail
   refine wp_region_lit ?_
   refine zp (w' := w24) (.pointer (some ⟨gp, i * 8, none⟩)) (by exact ezi (k := i) Tryz.underlying22 (l := hlt) (f := (Nat.zero_add _).symm)) ?_
   refine zd gp (i * 8) [.bool ex.a.n, .slice ex.a.p ex.a.l ex.a.c, .bool ex.a.m, .slice ex.a.p2 ex.a.l2 ex.a.c2, .bool ex.b.n, .slice ex.b.p ex.b.l ex.b.c, .bool ex.b.m, .slice ex.b.p2 ex.b.l2 ex.b.c2] (H26.out.elem (f := SpE.cells) (i := 3) (by rfl) SpE.len HEex.out) Tryz.underlying51 ?_
   refine mv_alloc (T := 51) (zs := [.bool false, .slice none 0 0, .bool false, .slice none 0 0, .bool false, .slice none 0 0, .bool false, .slice none 0 0]) (by rfl) (by go_simp) H26.out (by simp [NoUL]) ?_
   intro X29 w30 hh hx hge
   have H31 := zH (show Hp w w30 [ro 51 8 A4 es4.length c4 SpE.cells es4, .blk X8 22 [.slice A1 m c1], ro 51 8 A1 m c1 SpE.cells es, ro 51 8 (some ⟨gp, 0, none⟩) es18.length c18 SpE.cells es18, .blk X29 51 [.bool false, .slice none 0 0, .bool false, .slice none 0 0, .bool false, .slice none 0 0, .bool false, .slice none 0 0]] from hh)
   have D31 := zH (Dig.of_ext hx)
   clear hh hx hge
   try simp only [Act.put, zA, zB, zC]
   refine mv_st (by rfl) _ _ _ (by rfl) H31.out (ix := 4) (by rfl) 0 [.bool ex.a.n, .slice ex.a.p ex.a.l ex.a.c, .bool ex.a.m, .slice ex.a.p2 ex.a.l2 ex.a.c2, .bool ex.b.n, .slice ex.b.p ex.b.l ex.b.c, .bool ex.b.m, .slice ex.b.p2 ex.b.l2 ex.b.c2] (by rfl) (by rfl) (by simp) (by kernel_rfl) (by simp [Value.oneCell']) (by simp [NoUL]) ?_
   intro w34 hh hd ho
   have H35 := zH (show Hp w w34 [ro 51 8 A4 es4.length c4 SpE.cells es4, .blk X8 22 [.slice A1 m c1], ro 51 8 A1 m c1 SpE.cells es, ro 51 8 (some ⟨gp, 0, none⟩) es18.length c18 SpE.cells es18, .blk X29 51 [.bool ex.a.n, .slice ex.a.p ex.a.l ex.a.c, .bool ex.a.m, .slice ex.a.p2 ex.a.l2 ex.a.c2, .bool ex.b.n, .slice ex.b.p ex.b.l ex.b.c, .bool ex.b.m, .slice ex.b.p2 ex.b.l2 ex.b.c2]] from hh)
   have D35 := zH (hd)
   clear hh hd ho
   (try simp only [Act.put])
   go_upto_region 7 with fail
   refine wp_region_lit ?_
   refine qV (.pointer (some ⟨X29, 0, none⟩)) ?_
   refine zd X29 (0) (rc ex.a) (H35.out.range (i := 4) (by rfl) 0 4) Tryz.underlying27 ?_
   refine mv_alloc (T := 27) (zs := [.bool false, .slice none 0 0, .bool false, .slice none 0 0]) (by rfl) (by go_simp) H35.out (by simp [NoUL]) ?_
   intro X38 w39 hh hx hge
   have H40 := zH (show Hp w w39 [ro 51 8 A4 es4.length c4 SpE.cells es4, .blk X8 22 [.slice A1 m c1], ro 51 8 A1 m c1 SpE.cells es, ro 51 8 (some ⟨gp, 0, none⟩) es18.length c18 SpE.cells es18, .blk X29 51 [.bool ex.a.n, .slice ex.a.p ex.a.l ex.a.c, .bool ex.a.m, .slice ex.a.p2 ex.a.l2 ex.a.c2, .bool ex.b.n, .slice ex.b.p ex.b.l ex.b.c, .bool ex.b.m, .slice ex.b.p2 ex.b.l2 ex.b.c2], .blk X38 27 rz] from hh)
   have D40 := zH (Dig.of_ext hx)
   clear hh hx hge
   try simp only [Act.put, zA, zB, zC]
   refine mv_st (by rfl) _ _ _ (by rfl) H40.out (ix := 5) (by rfl) 0 [.bool ex.a.n, .slice ex.a.p ex.a.l ex.a.c, .bool ex.a.m, .slice ex.a.p2 ex.a.l2 ex.a.c2] (by rfl) (by rfl) (by simp) (by kernel_rfl) (by simp [Value.oneCell']) (by simp [NoUL]) ?_
   intro w43 hh hd ho
   have H44 := zH (show Hp w w43 [ro 51 8 A4 es4.length c4 SpE.cells es4, .blk X8 22 [.slice A1 m c1], ro 51 8 A1 m c1 SpE.cells es, ro 51 8 (some ⟨gp, 0, none⟩) es18.length c18 SpE.cells es18, .blk X29 51 [.bool ex.a.n, .slice ex.a.p ex.a.l ex.a.c, .bool ex.a.m, .slice ex.a.p2 ex.a.l2 ex.a.c2, .bool ex.b.n, .slice ex.b.p ex.b.l ex.b.c, .bool ex.b.m, .slice ex.b.p2 ex.b.l2 ex.b.c2], .blk X38 27 (rc ex.a)] from hh)
   have D44 := zH (hd)
   clear hh hd ho
   (try simp only [Act.put])
   go_upto_region 8 with fail
   refine wp_region_lit ?_
   refine qV (.slice A4 es4.length c4) ?_
   refine zq (.int .i64 ((es4.length : Nat) : Int)) ?_
   refine zq (.int .i64 0) ?_
   have DD49 := zH ((((D31.out.trans D35.out).trans D40.out).trans D44.out))
   have DD50 := zH (((((D26.out.trans D31.out).trans D35.out).trans D40.out).trans D44.out))
   go_wp2_with fail
   go_loopg [27] (es4.length) (fun cq v51 wr => ∃ (k : Nat) (m2 : Nat) (es2 : List SpE) (A2 : Option Addr) (c2 : Nat) (rf : RV) (f : Rat), cq = es4.length - k ∧ v51 = .int .i64 (k : Int) ∧ (k ≤ es4.length) ∧ (m2 = es2.length ∧ m2 ≤ i * 61 + k) ∧ (es2.map SpE.vl = some2 (subRow es18 es4 i ++ (subF ex es4 k).1)) ∧ (∀ e, e ∈ es2 → e.Ok L wr) ∧ (rf.Is wr f) ∧ (Nm.rl f ≤ L) ∧ (f = (subF ex es4 k).2) ∧ Hp w wr [.row 51 8 (.slice A4 es4.length c4) (es4.length) (List.flatMap SpE.cells es4), .blk X8 22 [.slice A2 m2 c2], .row 51 8 (.slice A2 m2 c2) (m2) (List.flatMap SpE.cells es2), .row 51 8 (.slice (some ⟨gp, 0, none⟩) es18.length c18) (es18.length) (List.flatMap SpE.cells es18), .blk X29 51 [.bool ex.a.n, .slice ex.a.p ex.a.l ex.a.c, .bool ex.a.m, .slice ex.a.p2 ex.a.l2 ex.a.c2, .bool ex.b.n, .slice ex.b.p ex.b.l ex.b.c, .bool ex.b.m, .slice ex.b.p2 ex.b.l2 ex.b.c2], .blk X38 27 [.bool rf.n, .slice rf.p rf.l rf.c, .bool rf.m, .slice rf.p2 rf.l2 rf.c2]] ∧ Dig w43 wr)
   case atStart => exact ⟨0, m, es, A1, c1, ex.a, ex.p, rfl, rfl, Nat.zero_le _, HM.out, (by rw [HV.out, subF_zero, List.append_nil]), (fun e_ he_ => (HOE.out e_ he_).dig DD49.out), (RAex.out.dig DD50.out), BAex.out, rfl, H44.out, Dig.refl _⟩
   case round =>
    obtain ⟨k, m2, es2, A2, c2, rf, f, rfl, rfl, q_HKU, q_HM2, q_HV2, q_HOE2, q_RF, q_BF, q_HFV, hh_, hd_⟩ := hrel
    generalize wr = w52 at *
    have HKU := zH q_HKU
    clear q_HKU
    have HM2 := zH q_HM2
    clear q_HM2
    have HV2 := zH q_HV2
    clear q_HV2
    have HOE2 := zH q_HOE2
    clear q_HOE2
    have RF := zH q_RF
    clear q_RF
    have BF := zH q_BF
    clear q_BF
    have HFV := zH q_HFV
    clear q_HFV
    have H54 := zH hh_
    have D54 := zH hd_
    clear hh_ hd_ H44
    by_cases c55 : k < es4.length
    ·have HLU := zH c55
     clear c55
     have hlu := HLU.out
     have hlu2 : (k : Int) < (es4.length : Int) := by omega
     obtain ⟨gq, rfl⟩ := HA4.out (by omega)
     obtain ⟨ey, he_⟩ : ∃ ey, es4[k]? = some ey := ⟨_, List.getElem?_eq_getElem hlu⟩
     have HEey := zH he_
     have HOey := zH (OK4.out ey (List.mem_of_getElem? he_))
     have RAey := zH HOey.out.1
     have RBey := zH HOey.out.2.1
     have BAey := zH HOey.out.2.2.1
     have BBey := zH HOey.out.2.2.2
     clear he_
     go_upto_region 10 with fail
     refine wp_region_lit ?_
     refine zp (w' := w52) (.pointer (some ⟨gq, k * 8, none⟩)) (by exact ezi (k := k) Tryz.underlying22 (l := hlu) (f := (Nat.zero_add _).symm)) ?_
     refine zd gq (k * 8) [.bool ey.a.n, .slice ey.a.p ey.a.l ey.a.c, .bool ey.a.m, .slice ey.a.p2 ey.a.l2 ey.a.c2, .bool ey.b.n, .slice ey.b.p ey.b.l ey.b.c, .bool ey.b.m, .slice ey.b.p2 ey.b.l2 ey.b.c2] (H54.out.elem (f := SpE.cells) (i := 0) (by rfl) SpE.len HEey.out) Tryz.underlying51 ?_
     refine mv_alloc (T := 51) (zs := [.bool false, .slice none 0 0, .bool false, .slice none 0 0, .bool false, .slice none 0 0, .bool false, .slice none 0 0]) (by rfl) (by go_simp) H54.out (by simp [NoUL]) ?_
     intro X57 w58 hh hx hge
     have H59 := zH (show Hp w w58 [ro 51 8 (some ⟨gq, 0, none⟩) es4.length c4 SpE.cells es4, .blk X8 22 [.slice A2 m2 c2], ro 51 8 A2 m2 c2 SpE.cells es2, ro 51 8 (some ⟨gp, 0, none⟩) es18.length c18 SpE.cells es18, .blk X29 51 [.bool ex.a.n, .slice ex.a.p ex.a.l ex.a.c, .bool ex.a.m, .slice ex.a.p2 ex.a.l2 ex.a.c2, .bool ex.b.n, .slice ex.b.p ex.b.l ex.b.c, .bool ex.b.m, .slice ex.b.p2 ex.b.l2 ex.b.c2], .blk X38 27 (rc rf), .blk X57 51 [.bool false, .slice none 0 0, .bool false, .slice none 0 0, .bool false, .slice none 0 0, .bool false, .slice none 0 0]] from hh)
     have D59 := zH (Dig.of_ext hx)
     clear hh hx hge
     try simp only [Act.put, zA, zB, zC]
     refine mv_st (by rfl) _ _ _ (by rfl) H59.out (ix := 6) (by rfl) 0 [.bool ey.a.n, .slice ey.a.p ey.a.l ey.a.c, .bool ey.a.m, .slice ey.a.p2 ey.a.l2 ey.a.c2, .bool ey.b.n, .slice ey.b.p ey.b.l ey.b.c, .bool ey.b.m, .slice ey.b.p2 ey.b.l2 ey.b.c2] (by rfl) (by rfl) (by simp) (by kernel_rfl) (by simp [Value.oneCell']) (by simp [NoUL]) ?_
     intro w62 hh hd ho
     have H63 := zH (show Hp w w62 [ro 51 8 (some ⟨gq, 0, none⟩) es4.length c4 SpE.cells es4, .blk X8 22 [.slice A2 m2 c2], ro 51 8 A2 m2 c2 SpE.cells es2, ro 51 8 (some ⟨gp, 0, none⟩) es18.length c18 SpE.cells es18, .blk X29 51 [.bool ex.a.n, .slice ex.a.p ex.a.l ex.a.c, .bool ex.a.m, .slice ex.a.p2 ex.a.l2 ex.a.c2, .bool ex.b.n, .slice ex.b.p ex.b.l ex.b.c, .bool ex.b.m, .slice ex.b.p2 ex.b.l2 ex.b.c2], .blk X38 27 (rc rf), .blk X57 51 [.bool ey.a.n, .slice ey.a.p ey.a.l ey.a.c, .bool ey.a.m, .slice ey.a.p2 ey.a.l2 ey.a.c2, .bool ey.b.n, .slice ey.b.p ey.b.l ey.b.c, .bool ey.b.m, .slice ey.b.p2 ey.b.l2 ey.b.c2]] from hh)
     have D63 := zH (hd)
     clear hh hd ho
     (try simp only [Act.put])
     by_cases c65 : ey.q ≤ f
     ·have C1 := zH c65
      clear c65
      go_upto_region 11 with fail
      refine wp_region_lit ?_
      refine qV (.pointer (some ⟨X57, 4, none⟩)) ?_
      refine zd X57 (4) (rc ey.b) (H63.out.range (i := 6) (by rfl) 4 4) Tryz.underlying27 ?_
      refine zd X38 (0) (rc rf) (H63.out.range (i := 5) (by rfl) 0 4) Tryz.underlying27 ?_
      have DD68 := zH ((((((((((D10.out.trans D19.out).trans D26.out).trans D31.out).trans D35.out).trans D40.out).trans D44.out).trans D54.out).trans D59.out).trans D63.out))
      have DD69 := zH ((D59.out.trans D63.out))
      refine zc (pCmp (L := 60000) (RV.Is.nin (RBey.out.dig DD68.out) (Nat.le_trans BBey.out (by omega))) (RV.Is.nin (RF.out.dig DD69.out) (Nat.le_trans BF.out (by omega))) (by omega)) ?_
      rintro e w67 ⟨rfl, hx⟩
      have H70 := zH (H63.out.step hx)
      have D70 := zH (Dig.of_ext hx)
      clear hx
      refine zn ?_
      refine zp (w' := w67) (.bool true) (by exact eze (e := (dec_t (rcmp_le_i.2 C1.out)))) ?_
      refine zq (.bool true) ?_
      refine zk ?_
      refine zk ?_
      refine zk ?_
      refine zk ?_
      refine zk ?_
      refine zk ?_
      refine zq (.bool true) ?_
      have DD75 := zH (((D59.out.trans D63.out).trans D70.out))
      have DD76 := zH ((((D54.out.trans D59.out).trans D63.out).trans D70.out))
      go_wp2_with fail
      go_roundg (es4.length - (k + 1))
      case measure => exact (by have ob4 := HM2.out.2; omega)
      case rel => exact ⟨k + 1, m2, es2, A2, c2, rf, f, rfl, (by go_num), hlu, ⟨HM2.out.1, by have := HM2.out.2; omega⟩, (by rw [HV2.out, subF_no HEey.out (fun h_ => absurd h_.1 (by rw [← HFV.out]; exact Rat.not_lt.2 C1.out))]), (fun e_ he_ => (HOE2.out e_ he_).dig DD75.out), (RF.out.dig DD75.out), BF.out, (by rw [HFV.out, subF_no HEey.out (fun h_ => absurd h_.1 (by rw [← HFV.out]; exact Rat.not_lt.2 C1.out))]), H70.out.take 6, DD76.out⟩
     have C1 := zH c65
     clear c65
     by_cases c77 : ex.q ≤ ey.p
     ·have C2 := zH c77
      clear c77
      go_upto_region 11 with fail
      refine wp_region_lit ?_
      refine qV (.pointer (some ⟨X57, 4, none⟩)) ?_
      refine zd X57 (4) (rc ey.b) (H63.out.range (i := 6) (by rfl) 4 4) Tryz.underlying27 ?_
      refine zd X38 (0) (rc rf) (H63.out.range (i := 5) (by rfl) 0 4) Tryz.underlying27 ?_
      have DD80 := zH ((((((((((D10.out.trans D19.out).trans D26.out).trans D31.out).trans D35.out).trans D40.out).trans D44.out).trans D54.out).trans D59.out).trans D63.out))
      have DD81 := zH ((D59.out.trans D63.out))
      refine zc (pCmp (L := 60000) (RV.Is.nin (RBey.out.dig DD80.out) (Nat.le_trans BBey.out (by omega))) (RV.Is.nin (RF.out.dig DD81.out) (Nat.le_trans BF.out (by omega))) (by omega)) ?_
      rintro e w79 ⟨rfl, hx⟩
      have H82 := zH (H63.out.step hx)
      have D82 := zH (Dig.of_ext hx)
      clear hx
      refine zn ?_
      refine zp (w' := w79) (.bool false) (by exact eze (e := (dec_f (fun hh => C1.out (rcmp_le_i.1 hh))))) ?_
      refine qV (.bool false) ?_
      refine zq (.pointer (some ⟨X57, 0, none⟩)) ?_
      refine zd X57 (0) (rc ey.a) (H82.out.range (i := 6) (by rfl) 0 4) Tryz.underlying27 ?_
      refine qV (.pointer (some ⟨X29, 4, none⟩)) ?_
      refine zd X29 (4) (rc ex.b) (H82.out.range (i := 4) (by rfl) 4 4) Tryz.underlying27 ?_
      have DD89 := zH (((((((((((D10.out.trans D19.out).trans D26.out).trans D31.out).trans D35.out).trans D40.out).trans D44.out).trans D54.out).trans D59.out).trans D63.out).trans D82.out))
      have DD90 := zH (((((((((D26.out.trans D31.out).trans D35.out).trans D40.out).trans D44.out).trans D54.out).trans D59.out).trans D63.out).trans D82.out))
      refine zc (pCmp (L := 60000) (RV.Is.nin (RAey.out.dig DD89.out) (Nat.le_trans BAey.out (by omega))) (RV.Is.nin (RBex.out.dig DD90.out) (Nat.le_trans BBex.out (by omega))) (by omega)) ?_
      rintro e w88 ⟨rfl, hx⟩
      have H91 := zH (H82.out.step hx)
      have D91 := zH (Dig.of_ext hx)
      clear hx
      refine zn ?_
      refine zp (w' := w88) (.bool true) (by exact ezo (e := (dec_t (rcmp_ge_i.2 C2.out)))) ?_
      refine zq (.bool true) ?_
      have DD95 := zH ((((D59.out.trans D63.out).trans D82.out).trans D91.out))
      have DD96 := zH (((((D54.out.trans D59.out).trans D63.out).trans D82.out).trans D91.out))
      go_wp2_with fail
      go_roundg (es4.length - (k + 1))
      case measure => exact (by have ob4 := HM2.out.2; omega)
      case rel => exact ⟨k + 1, m2, es2, A2, c2, rf, f, rfl, (by go_num), hlu, ⟨HM2.out.1, by have := HM2.out.2; omega⟩, (by rw [HV2.out, subF_no HEey.out (fun h_ => absurd h_.2 (Rat.not_lt.2 C2.out))]), (fun e_ he_ => (HOE2.out e_ he_).dig DD95.out), (RF.out.dig DD95.out), BF.out, (by rw [HFV.out, subF_no HEey.out (fun h_ => absurd h_.2 (Rat.not_lt.2 C2.out))]), H91.out.take 6, DD96.out⟩
     have C2 := zH c77
     clear c77
     go_upto_region 11 with fail
     refine wp_region_lit ?_
     refine qV (.pointer (some ⟨X57, 4, none⟩)) ?_
     refine zd X57 (4) (rc ey.b) (H63.out.range (i := 6) (by rfl) 4 4) Tryz.underlying27 ?_
     refine zd X38 (0) (rc rf) (H63.out.range (i := 5) (by rfl) 0 4) Tryz.underlying27 ?_
     have DD99 := zH ((((((((((D10.out.trans D19.out).trans D26.out).trans D31.out).trans D35.out).trans D40.out).trans D44.out).trans D54.out).trans D59.out).trans D63.out))
     have DD100 := zH ((D59.out.trans D63.out))
     refine zc (pCmp (L := 60000) (RV.Is.nin (RBey.out.dig DD99.out) (Nat.le_trans BBey.out (by omega))) (RV.Is.nin (RF.out.dig DD100.out) (Nat.le_trans BF.out (by omega))) (by omega)) ?_
     rintro e w98 ⟨rfl, hx⟩
     have H101 := zH (H63.out.step hx)
     have D101 := zH (Dig.of_ext hx)
     clear hx
     refine zn ?_
     refine zp (w' := w98) (.bool false) (by exact eze (e := (dec_f (fun hh => C1.out (rcmp_le_i.1 hh))))) ?_
     refine qV (.bool false) ?_
     refine zq (.pointer (some ⟨X57, 0, none⟩)) ?_
     refine zd X57 (0) (rc ey.a) (H101.out.range (i := 6) (by rfl) 0 4) Tryz.underlying27 ?_
     refine qV (.pointer (some ⟨X29, 4, none⟩)) ?_
     refine zd X29 (4) (rc ex.b) (H101.out.range (i := 4) (by rfl) 4 4) Tryz.underlying27 ?_
     have DD108 := zH (((((((((((D10.out.trans D19.out).trans D26.out).trans D31.out).trans D35.out).trans D40.out).trans D44.out).trans D54.out).trans D59.out).trans D63.out).trans D101.out))
     have DD109 := zH (((((((((D26.out.trans D31.out).trans D35.out).trans D40.out).trans D44.out).trans D54.out).trans D59.out).trans D63.out).trans D101.out))
     refine zc (pCmp (L := 60000) (RV.Is.nin (RAey.out.dig DD108.out) (Nat.le_trans BAey.out (by omega))) (RV.Is.nin (RBex.out.dig DD109.out) (Nat.le_trans BBex.out (by omega))) (by omega)) ?_
     rintro e w107 ⟨rfl, hx⟩
     have H110 := zH (H101.out.step hx)
     have D110 := zH (Dig.of_ext hx)
     clear hx
     refine zn ?_
     refine zp (w' := w107) (.bool false) (by exact ezo (e := (dec_f (fun hh => C2.out (rcmp_ge_i.1 hh))))) ?_
     refine zq (.bool false) ?_
     go_upto_region 12 with fail
     refine wp_region_lit ?_
     refine qV (.func (.func 28) #[] #[.pointer (some ⟨X8, 0, none⟩)]) ?_
     refine zd X38 (0) (rc rf) (H110.out.range (i := 5) (by rfl) 0 4) Tryz.underlying27 ?_
     refine qV (.pointer (some ⟨X57, 0, none⟩)) ?_
     refine zd X57 (0) (rc ey.a) (H110.out.range (i := 6) (by rfl) 0 4) Tryz.underlying27 ?_
     have DD118 := zH ((((D59.out.trans D63.out).trans D101.out).trans D110.out))
     have DD119 := zH ((((((((((((D10.out.trans D19.out).trans D26.out).trans D31.out).trans D35.out).trans D40.out).trans D44.out).trans D54.out).trans D59.out).trans D63.out).trans D101.out).trans D110.out))
     refine zc (keep_any L (by omega) rf ey.a f ey.p X8 A2 m2 c2 es2 w _ (H110.out.pick2 (ib := 1) (ir := 2) (by rfl) (by rfl) (by decide)) (RF.out.dig DD118.out) (RAey.out.dig DD119.out) BF.out BAey.out HM2.out.1 (by have q1_ := HM2.out.2; omega) (fun e_ he_ => (HOE2.out e_ he_).dig DD118.out)) ?_
     rintro e w116 ⟨rfl, hkr_⟩
     unfold KeepRet at hkr_
     obtain ⟨A117, c117, n117, es117, h1_, h2_, h3_, h4_, h5_, h6_, h7_, h8_⟩ := hkr_
     have HVK117 := zH h5_
     have HNK117 := zH (And.intro h6_ h7_)
     have HOK117 := zH h8_
     have H120 := zH (show Hp w w116 [ro 51 8 (some ⟨gq, 0, none⟩) es4.length c4 SpE.cells es4, .blk X8 22 [.slice A117 n117 c117], ro 51 8 A117 n117 c117 SpE.cells es117, ro 51 8 (some ⟨gp, 0, none⟩) es18.length c18 SpE.cells es18, .blk X29 51 [.bool ex.a.n, .slice ex.a.p ex.a.l ex.a.c, .bool ex.a.m, .slice ex.a.p2 ex.a.l2 ex.a.c2, .bool ex.b.n, .slice ex.b.p ex.b.l ex.b.c, .bool ex.b.m, .slice ex.b.p2 ex.b.l2 ex.b.c2], .blk X38 27 (rc rf), .blk X57 51 [.bool ey.a.n, .slice ey.a.p ey.a.l ey.a.c, .bool ey.a.m, .slice ey.a.p2 ey.a.l2 ey.a.c2, .bool ey.b.n, .slice ey.b.p ey.b.l ey.b.c, .bool ey.b.m, .slice ey.b.p2 ey.b.l2 ey.b.c2]] from H110.out.call2 (ib := 1) (ir := 2) (e := .blk X8 22 [.slice A2 m2 c2]) (f := .row 51 8 (.slice A2 m2 c2) (m2) (List.flatMap SpE.cells es2)) (e' := .blk X8 22 [.slice A117 n117 c117]) (f' := .row 51 8 (.slice A117 n117 c117) (n117) (List.flatMap SpE.cells es117)) (by rfl) (by rfl) (by decide) h3_ (fun k_ hk_ => hk_.elim (fun h_ => .inl (by rw [h_]; rfl)) .inr) h1_ (fun k_ hk_ => .inl hk_) h4_)
     have D120 := zH (show Dig w107 w116 from h2_)
     clear h1_ h2_ h3_ h4_ h5_ h6_ h7_ h8_
     have hx := True.intro
     clear hx
     refine zn ?_
     go_upto_region 13 with fail
     refine wp_region_lit ?_
     refine zd X38 (0) (rc rf) (H120.out.range (i := 5) (by rfl) 0 4) Tryz.underlying27 ?_
     refine qV (.pointer (some ⟨X57, 4, none⟩)) ?_
     refine zd X57 (4) (rc ey.b) (H120.out.range (i := 6) (by rfl) 4 4) Tryz.underlying27 ?_
     have DD125 := zH (((((D59.out.trans D63.out).trans D101.out).trans D110.out).trans D120.out))
     have DD126 := zH (((((((((((((D10.out.trans D19.out).trans D26.out).trans D31.out).trans D35.out).trans D40.out).trans D44.out).trans D54.out).trans D59.out).trans D63.out).trans D101.out).trans D110.out).trans D120.out))
     refine zc (upper_any L _ _ f ey.q _ (RV.Is.nis (RF.out.dig DD125.out)) (RV.Is.nis (RBey.out.dig DD126.out)) BF.out BBey.out (by omega)) ?_
     rintro e w123 ⟨c_, rfl, hc_, hx⟩
     have H127 := zH (H120.out.step hx)
     have D127 := zH (Dig.of_ext hx)
     obtain ⟨q124, hq_⟩ : ∃ q_ : Rat, q_ = (if f < ey.q then ey.q else f) := ⟨_, rfl⟩
     rw [← hq_] at hc_
     obtain ⟨r124, rfl, hr_⟩ := hc_
     have R124 := zH hr_
     have B124 := zH (show Nm.rl q124 ≤ L from by rw [hq_]; have h1 := BF.out; have h2 := BBey.out; split <;> assumption)
     have Q124 := zH hq_
     clear hr_ hq_
     clear hx
     refine zn ?_
     refine mv_st (by rfl) _ _ _ (by rfl) H127.out (ix := 5) (by rfl) 0 [.bool r124.n, .slice r124.p r124.l r124.c, .bool r124.m, .slice r124.p2 r124.l2 r124.c2] (by rfl) (by rfl) (by simp) (by kernel_rfl) (by simp [Value.oneCell']) (by simp [NoUL]) ?_
     intro w129 hh hd ho
     have H130 := zH (show Hp w w129 [ro 51 8 (some ⟨gq, 0, none⟩) es4.length c4 SpE.cells es4, .blk X8 22 [.slice A117 n117 c117], ro 51 8 A117 n117 c117 SpE.cells es117, ro 51 8 (some ⟨gp, 0, none⟩) es18.length c18 SpE.cells es18, .blk X29 51 [.bool ex.a.n, .slice ex.a.p ex.a.l ex.a.c, .bool ex.a.m, .slice ex.a.p2 ex.a.l2 ex.a.c2, .bool ex.b.n, .slice ex.b.p ex.b.l ex.b.c, .bool ex.b.m, .slice ex.b.p2 ex.b.l2 ex.b.c2], .blk X38 27 (rc r124), .blk X57 51 [.bool ey.a.n, .slice ey.a.p ey.a.l ey.a.c, .bool ey.a.m, .slice ey.a.p2 ey.a.l2 ey.a.c2, .bool ey.b.n, .slice ey.b.p ey.b.l ey.b.c, .bool ey.b.m, .slice ey.b.p2 ey.b.l2 ey.b.c2]] from hh)
     have D130 := zH (hd)
     clear hh hd ho
     (try simp only [Act.put])
     have DD132 := zH ((D127.out.trans D130.out))
     have DD133 := zH ((((((((D54.out.trans D59.out).trans D63.out).trans D101.out).trans D110.out).trans D120.out).trans D127.out).trans D130.out))
     go_wp2_with fail
     go_roundg (es4.length - (k + 1))
     case measure => exact (by have ob4 := HM2.out.2; omega)
     case rel => exact ⟨k + 1, n117, es117, A117, c117, r124, q124, rfl, (by go_num), hlu, ⟨HNK117.out.1, by have q1_ := HM2.out.2; have q2_ := HNK117.out.2; omega⟩, (by rw [HVK117.out, HV2.out, (subF_yes HEey.out ⟨by rw [← HFV.out]; exact Rat.not_le.1 C1.out, Rat.not_le.1 C2.out⟩), ← some2_app, List.append_assoc, ← HFV.out]), (fun g_ hg_ => (HOK117.out g_ hg_).dig DD132.out), (R124.out.dig D130.out), B124.out, (by rw [(subF_yes HEey.out ⟨by rw [← HFV.out]; exact Rat.not_le.1 C1.out, Rat.not_le.1 C2.out⟩), Q124.out, if_pos (Rat.not_le.1 C1.out)]), H130.out.take 6, DD133.out⟩
    have HLU := zH c55
    clear c55
    have hlu := HLU.out
    have hku := HKU.out
    obtain rfl : k = es4.length := by omega
    have hge : ¬ (es4.length : Int) < (es4.length : Int) := by omega
    go_upto_region 15 with fail
    refine wp_region_lit ?_
    refine qV (.func (.func 28) #[] #[.pointer (some ⟨X8, 0, none⟩)]) ?_
    refine zd X38 (0) (rc rf) (H54.out.range (i := 5) (by rfl) 0 4) Tryz.underlying27 ?_
    refine qV (.pointer (some ⟨X29, 4, none⟩)) ?_
    refine zd X29 (4) (rc ex.b) (H54.out.range (i := 4) (by rfl) 4 4) Tryz.underlying27 ?_
    have DD138 := zH ((((((D26.out.trans D31.out).trans D35.out).trans D40.out).trans D44.out).trans D54.out))
    refine zc (keep_any L (by omega) rf ex.b f ex.q X8 A2 m2 c2 es2 w _ (H54.out.pick2 (ib := 1) (ir := 2) (by rfl) (by rfl) (by decide)) RF.out (RBex.out.dig DD138.out) BF.out BBex.out HM2.out.1 (by have q1_ := HM2.out.2; omega) (fun e_ he_ => (HOE2.out e_ he_))) ?_
    rintro e w136 ⟨rfl, hkr_⟩
    unfold KeepRet at hkr_
    obtain ⟨A137, c137, n137, es137, h1_, h2_, h3_, h4_, h5_, h6_, h7_, h8_⟩ := hkr_
    have HVK137 := zH h5_
    have HNK137 := zH (And.intro h6_ h7_)
    have HOK137 := zH h8_
    have H139 := zH (show Hp w w136 [ro 51 8 A4 es4.length c4 SpE.cells es4, .blk X8 22 [.slice A137 n137 c137], ro 51 8 A137 n137 c137 SpE.cells es137, ro 51 8 (some ⟨gp, 0, none⟩) es18.length c18 SpE.cells es18, .blk X29 51 [.bool ex.a.n, .slice ex.a.p ex.a.l ex.a.c, .bool ex.a.m, .slice ex.a.p2 ex.a.l2 ex.a.c2, .bool ex.b.n, .slice ex.b.p ex.b.l ex.b.c, .bool ex.b.m, .slice ex.b.p2 ex.b.l2 ex.b.c2], .blk X38 27 (rc rf)] from H54.out.call2 (ib := 1) (ir := 2) (e := .blk X8 22 [.slice A2 m2 c2]) (f := .row 51 8 (.slice A2 m2 c2) (m2) (List.flatMap SpE.cells es2)) (e' := .blk X8 22 [.slice A137 n137 c137]) (f' := .row 51 8 (.slice A137 n137 c137) (n137) (List.flatMap SpE.cells es137)) (by rfl) (by rfl) (by decide) h3_ (fun k_ hk_ => hk_.elim (fun h_ => .inl (by rw [h_]; rfl)) .inr) h1_ (fun k_ hk_ => .inl hk_) h4_)
    have D139 := zH (show Dig w52 w136 from h2_)
    clear h1_ h2_ h3_ h4_ h5_ h6_ h7_ h8_
    have hx := True.intro
    clear hx
    refine zn ?_
    have DD141 := zH (((((((D26.out.trans D31.out).trans D35.out).trans D40.out).trans D44.out).trans D54.out).trans D139.out))
    go_wp2_with fail
    go_roundg (es18.length - (i + 1))
    case measure => exact (by have ob3 := HM2.out.2; omega)
    case rel => exact ⟨i + 1, n137, es137, A137, c137, rfl, (by go_num), hlt, ⟨HNK137.out.1, by have q1_ := HM2.out.2; have q2_ := HNK137.out.2; omega⟩, (by rw [HVK137.out, HV2.out, subRow_succ HEex.out, ← some2_app, List.append_assoc, ← HFV.out]), HOK137.out, H139.out.take 4, DD141.out⟩
  have HLT := zH c27
  clear c27
  have hlt := HLT.out
  have hki := HKI.out
  obtain rfl : i = es18.length := by omega
  have hge : ¬ (es18.length : Int) < (es18.length : Int) := by omega
  have hme := HM.out.1
  subst hme
  go_upto_region 17 with fail
  refine wp_region_lit ?_
  refine ze X8 0 (.slice A1 es.length c1) (H26.out.range (i := 1) (by rfl) 0 1) ?_
  refine zq (.slice A1 es.length c1) ?_
  go_wp2_with fail
  go_ret
  first | exact ⟨_, es, rfl, ⟨H26.out.row (i := 2) (by rfl), (fun e_ he_ => (HOE.out e_ he_))⟩, (by rw [HV.out, subRow_all, VL18.out, VL4.out]; rfl), (by have h := congrArg List.length (HV.out.trans (congrArg some2 (subRow_all es18 es4))); rw [List.length_map] at h; have h2 := subV_len (x := List.map SpE.vl es18) (y := List.map SpE.vl es4) (by rw [VL18.out]; exact (mergeV_law ps).1) (by rw [VL4.out]; exact (mergeV_law qs).1); rw [List.length_map, List.length_map] at h2; rw [h]; have q1_ := LN18.out; have q2_ := LN4.out; exact Nat.le_trans h2 (by omega)), H26.out.ext⟩ | exact ⟨_, rfl, es, ⟨H26.out.row (i := 2) (by rfl), (fun e_ he_ => (HOE.out e_ he_))⟩, (by rw [HV.out, subRow_all, VL18.out, VL4.out]; rfl), (by have h := congrArg List.length (HV.out.trans (congrArg some2 (subRow_all es18 es4))); rw [List.length_map] at h; have h2 := subV_len (x := List.map SpE.vl es18) (y := List.map SpE.vl es4) (by rw [VL18.out]; exact (mergeV_law ps).1) (by rw [VL4.out]; exact (mergeV_law qs).1); rw [List.length_map, List.length_map] at h2; rw [h]; have q1_ := LN18.out; have q2_ := LN4.out; exact Nat.le_trans h2 (by omega)), H26.out.ext⟩

set_option maxRecDepth 20000 in
set_option maxHeartbeats 4000000 in
theorem lengthB_any (L : Nat) (u : Value) (ps : List QQ) (rf rt : RV) (f t : Rat) (w : World) (hu : SpansV L w u ps) (hf : rf.In L w f) (ht : rt.In L w t) (h1L : 1 ≤ L) (hL : L ≤ 20) (hn : ps.length ≤ 1200) :
  Calls Tryz.prog 12 #[u, .agg #[.bool rf.n, .slice rf.p rf.l rf.c, .bool rf.m, .slice rf.p2 rf.l2 rf.c2], .agg #[.bool rt.n, .slice rt.p rt.l rt.c, .bool rt.m, .slice rt.p2 rt.l2 rt.c2]] w fun e w' => ∃ r : RV, e = .returned (.agg #[.bool r.n, .slice r.p r.l r.c, .bool r.m, .slice r.p2 r.l2 r.c2]) ∧ r.Is w' (lenV f t (mergeV ps)) ∧ Nm.rl (lenV f t (mergeV ps)) ≤ 60000 ∧ Ext w w' := by
 have HU := zH hu
 have RF := zH hf
 have RT := zH ht
 clear hu hf ht
 go_enter Tryz.func12, Tryz.ntmps12
 have H0 := zH (Hp.start w)
 go_upto_region 0 with fail
 refine wp_region_lit ?_
 refine mv_alloc (T := 27) (zs := [.bool rf.n, .slice rf.p rf.l rf.c, .bool rf.m, .slice rf.p2 rf.l2 rf.c2]) (by rfl) (by go_simp) H0.out (by simp [NoUL]) ?_
 intro X232 w233 hh hx hge
 have H234 := zH (show Hp w w233 [.blk X232 27 (rc rf)] from hh)
 clear hh hx hge
 try simp only [Act.put, zA, zB, zC]
 refine mv_alloc (T := 27) (zs := [.bool rt.n, .slice rt.p rt.l rt.c, .bool rt.m, .slice rt.p2 rt.l2 rt.c2]) (by rfl) (by go_simp) H234.out (by simp [NoUL]) ?_
 intro X237 w238 hh hx hge
 have H239 := zH (show Hp w w238 [.blk X232 27 (rc rf), .blk X237 27 (rc rt)] from hh)
 clear hh hx hge
 try simp only [Act.put, zA, zB, zC]
 refine mv_alloc (T := 27) (zs := [.bool false, .slice none 0 0, .bool false, .slice none 0 0]) (by rfl) (by go_simp) H239.out (by simp [NoUL]) ?_
 intro X242 w243 hh hx hge
 have H244 := zH (show Hp w w243 [.blk X232 27 (rc rf), .blk X237 27 (rc rt), .blk X242 27 rz] from hh)
 clear hh hx hge
 try simp only [Act.put, zA, zB, zC]
 go_upto_region 1 with fail
 refine wp_region_lit ?_
 refine zc (pFrom 0 _ (by omega) (by omega)) ?_
 rintro e w247 ⟨c_, rfl, hc_, hx⟩
 have H249 := zH (H244.out.step hx)
 obtain ⟨r248, rfl, hr_⟩ := hc_
 have R248 := zH hr_
 have B248 := zH (rl_i64 0 (by omega) (by omega))
 clear hr_
 clear hx
 refine zn ?_
 refine mv_alloc (T := 27) (zs := [.bool false, .slice none 0 0, .bool false, .slice none 0 0]) (by rfl) (by go_simp) H249.out (by simp [NoUL]) ?_
 intro X251 w252 hh hx hge
 have H253 := zH (show Hp w w252 [.blk X232 27 (rc rf), .blk X237 27 (rc rt), .blk X242 27 rz, .blk X251 27 rz] from hh)
 have D253 := zH (Dig.of_ext hx)
 clear hh hx hge
 try simp only [Act.put, zA, zB, zC]
 refine mv_st (by rfl) _ _ _ (by rfl) H253.out (ix := 3) (by rfl) 0 [.bool r248.n, .slice r248.p r248.l r248.c, .bool r248.m, .slice r248.p2 r248.l2 r248.c2] (by rfl) (by rfl) (by simp) (by kernel_rfl) (by simp [Value.oneCell']) (by simp [NoUL]) ?_
 intro w256 hh hd ho
 have H257 := zH (show Hp w w256 [.blk X232 27 (rc rf), .blk X237 27 (rc rt), .blk X242 27 rz, .blk X251 27 (rc r248)] from hh)
 have D257 := zH (hd)
 clear hh hd ho
 (try simp only [Act.put])
 go_upto_region 2 with fail
 refine wp_region_lit ?_
 refine zq (.func (.func 30) #[] #[]) ?_
 go_upto_region 3 with fail
 refine wp_region_lit ?_
 refine qV (u) ?_
 refine zc (merge_any L u ps _ (HU.out.ext H257.out.ext) h1L (by omega) (by omega)) ?_
 rintro e w261 ⟨v_, es, rfl, hes_, hval_, hel_, hx⟩
 have HVAL := zH hval_
 have HEL := zH hel_
 have HOK := zH hes_.2
 obtain ⟨Am, cm, rfl, hA_⟩ := RowN.form hes_.1
 have HA := zH hA_
 clear hval_ hel_ hA_
 have H262 := zH (show Hp w w261 [.blk X232 27 (rc rf), .blk X237 27 (rc rt), .blk X242 27 rz, .blk X251 27 (rc r248), ro 51 8 Am es.length cm SpE.cells es] from H257.out.addRow hx hes_.1)
 have D262 := zH (Dig.of_ext hx)
 clear hes_
 clear hx
 refine zn ?_
 refine qV (.int .i64 ((es.length : Nat) : Int)) ?_
 refine zq (.int .i64 0) ?_
 have hel3 : es.length ≤ 1200 := by have := HEL.out; omega
 have DD266 := zH (((D253.out.trans D257.out).trans D262.out))
 go_wp2_with fail
 go_loopg [17] (es.length) (fun cq v267 wr => ∃ (k : Nat) (rs : RV), cq = es.length - k ∧ v267 = .int .i64 (k : Int) ∧ (k ≤ es.length) ∧ (rs.Is wr (lenV f t ((es.map SpE.vl).take k))) ∧ (Nm.rl (lenV f t ((es.map SpE.vl).take k)) ≤ 2 + k * (2 * L + 2)) ∧ Hp w wr [.blk X232 27 [.bool rf.n, .slice rf.p rf.l rf.c, .bool rf.m, .slice rf.p2 rf.l2 rf.c2], .blk X237 27 [.bool rt.n, .slice rt.p rt.l rt.c, .bool rt.m, .slice rt.p2 rt.l2 rt.c2], .blk X242 27 [.bool false, .slice none 0 0, .bool false, .slice none 0 0], .blk X251 27 [.bool rs.n, .slice rs.p rs.l rs.c, .bool rs.m, .slice rs.p2 rs.l2 rs.c2], .row 51 8 (.slice Am es.length cm) (es.length) (List.flatMap SpE.cells es)] ∧ Dig w261 wr)
 case atStart => exact ⟨0, r248, rfl, rfl, Nat.zero_le _, (by have h := (R248.out.dig DD266.out); simpa [lenV] using h), (by have h := B248.out; simpa [lenV] using h), H262.out, Dig.refl _⟩
 case round =>
  obtain ⟨k, rs, rfl, rfl, q_HK, q_RS, q_BS, hh_, hd_⟩ := hrel
  generalize wr = w268 at *
  have HK := zH q_HK
  clear q_HK
  have RS := zH q_RS
  clear q_RS
  have BS := zH q_BS
  clear q_BS
  have H270 := zH hh_
  have D270 := zH hd_
  clear hh_ hd_ H262
  by_cases c271 : k < es.length
  ·have HLT := zH c271
   clear c271
   have hlt := HLT.out
   have hlt2 : (k : Int) < (es.length : Int) := by omega
   obtain ⟨gm, rfl⟩ := HA.out (by omega)
   have hbk : k * (2 * L + 2) ≤ 1200 * 42 := Nat.mul_le_mul (by omega) (by omega)
   have hbk2 : (k + 1) * (2 * L + 2) = k * (2 * L + 2) + (2 * L + 2) := by rw [Nat.add_mul, Nat.one_mul]
   generalize hkq : (k + 1) * (2 * L + 2) = KQ at *
   generalize hkq2 : k * (2 * L + 2) = KP at *
   obtain ⟨e, he_⟩ : ∃ e, es[k]? = some e := ⟨_, List.getElem?_eq_getElem hlt⟩
   have HEe := zH he_
   have HOe := zH (HOK.out e (List.mem_of_getElem? he_))
   have RAe := zH HOe.out.1
   have RBe := zH HOe.out.2.1
   have BAe := zH HOe.out.2.2.1
   have BBe := zH HOe.out.2.2.2
   clear he_
   have HTK := zH (lenV_take (f := f) (t := t) HEe.out)
   have HKQ := zH hkq
   have HKP := zH hkq2
   clear hkq hkq2 hlt
   go_upto_region 5 with fail
   refine wp_region_lit ?_
   refine zp (w' := w268) (.pointer (some ⟨gm, k * 8, none⟩)) (by exact ezi (k := k) Tryz.underlying22 (l := HLT.out) (f := (Nat.zero_add _).symm)) ?_
   refine zd gm (k * 8) [.bool e.a.n, .slice e.a.p e.a.l e.a.c, .bool e.a.m, .slice e.a.p2 e.a.l2 e.a.c2, .bool e.b.n, .slice e.b.p e.b.l e.b.c, .bool e.b.m, .slice e.b.p2 e.b.l2 e.b.c2] (H270.out.elem (f := SpE.cells) (i := 4) (by rfl) SpE.len HEe.out) Tryz.underlying51 ?_
   refine mv_alloc (T := 51) (zs := [.bool false, .slice none 0 0, .bool false, .slice none 0 0, .bool false, .slice none 0 0, .bool false, .slice none 0 0]) (by rfl) (by go_simp) H270.out (by simp [NoUL]) ?_
   intro X273 w274 hh hx hge
   have H275 := zH (show Hp w w274 [.blk X232 27 (rc rf), .blk X237 27 (rc rt), .blk X242 27 rz, .blk X251 27 (rc rs), ro 51 8 (some ⟨gm, 0, none⟩) es.length cm SpE.cells es, .blk X273 51 [.bool false, .slice none 0 0, .bool false, .slice none 0 0, .bool false, .slice none 0 0, .bool false, .slice none 0 0]] from hh)
   have D275 := zH (Dig.of_ext hx)
   clear hh hx hge
   try simp only [Act.put, zA, zB, zC]
   refine mv_st (by rfl) _ _ _ (by rfl) H275.out (ix := 5) (by rfl) 0 [.bool e.a.n, .slice e.a.p e.a.l e.a.c, .bool e.a.m, .slice e.a.p2 e.a.l2 e.a.c2, .bool e.b.n, .slice e.b.p e.b.l e.b.c, .bool e.b.m, .slice e.b.p2 e.b.l2 e.b.c2] (by rfl) (by rfl) (by simp) (by kernel_rfl) (by simp [Value.oneCell']) (by simp [NoUL]) ?_
   intro w278 hh hd ho
   have H279 := zH (show Hp w w278 [.blk X232 27 (rc rf), .blk X237 27 (rc rt), .blk X242 27 rz, .blk X251 27 (rc rs), ro 51 8 (some ⟨gm, 0, none⟩) es.length cm SpE.cells es, .blk X273 51 [.bool e.a.n, .slice e.a.p e.a.l e.a.c, .bool e.a.m, .slice e.a.p2 e.a.l2 e.a.c2, .bool e.b.n, .slice e.b.p e.b.l e.b.c, .bool e.b.m, .slice e.b.p2 e.b.l2 e.b.c2]] from hh)
   have D279 := zH (hd)
   clear hh hd ho
   (try simp only [Act.put])
   go_upto_region 6 with fail
   refine zy ?_
   have H281 := zH (H279.out.step (Ext.refl w278).drew)
   have D281 := zH (Dig.of_ext (w := w278) zb)
   refine zx 0 (bs 14 1) (.func (.func 30) #[] #[]) zb ?_
   refine mX 1 (bs 14 3) (.pointer (some ⟨X273, 0, none⟩)) zb ?_
   refine mR 2 (bs 14 7) X273 (0) [.bool e.a.n, .slice e.a.p e.a.l e.a.c, .bool e.a.m, .slice e.a.p2 e.a.l2 e.a.c2] (fun x hx => range_ext (show World.rangeAt w278 X273 (0) [.bool e.a.n, .slice e.a.p e.a.l e.a.c, .bool e.a.m, .slice e.a.p2 e.a.l2 e.a.c2] from (H279.out.range (i := 5) (by rfl) 0 4)) hx) Tryz.underlying27 zb ?_
   refine zg 3 (bs 14 15) X232 (0) (rc rf) (H279.out.range (i := 0) (by rfl) 0 4) Tryz.underlying27 zb ?_
   refine zx 5 (bs 14 47) (.func (.func 30) #[] #[]) zb ?_
   refine mX 6 (bs 14 111) (.pointer (some ⟨X273, 4, none⟩)) zb ?_
   refine mR 7 (bs 14 239) X273 (4) [.bool e.b.n, .slice e.b.p e.b.l e.b.c, .bool e.b.m, .slice e.b.p2 e.b.l2 e.b.c2] (fun x hx => range_ext (show World.rangeAt w278 X273 (4) [.bool e.b.n, .slice e.b.p e.b.l e.b.c, .bool e.b.m, .slice e.b.p2 e.b.l2 e.b.c2] from (H279.out.range (i := 5) (by rfl) 4 4)) hx) Tryz.underlying27 zb ?_
   refine zg 8 (bs 14 495) X237 (0) (rc rt) (H279.out.range (i := 1) (by rfl) 0 4) Tryz.underlying27 zb ?_
   have DD289 := zH ((((D270.out.trans D275.out).trans D279.out).trans D281.out))
   refine tuple2 (f := 2) 4 9 10 11 25 30 11 12 27 z4 (fun v w => ∃ c, v = .agg c ∧ NIn 60000 w c (if e.p < f then f else e.p)) (fun v w => ∃ c, v = .agg c ∧ NIn 60000 w c (if t < e.q then t else e.q)) rfl rfl rfl rfl (by decide) (by decide) (by kernel_rfl) (fun _ hx => zb.trans hx) (fun _ _ _ h e => by obtain ⟨c, h1, h2⟩ := h; exact ⟨c, h1, h2.ext e⟩) (fun _ _ _ h e => by obtain ⟨c, h1, h2⟩ := h; exact ⟨c, h1, h2.ext e⟩) ?ht287c1 ?ht287c2 ?ht287c3 ?ht287c4 ?ht287e _ _ _ _ (by kernel_rfl) rfl
   case ht287c1 =>
    intro v1 v2 v3 v4 w1 K hxq hSw hK
    try simp only [Act.put, zA, zB, zC]
    rw [if_pos (by rfl)]
    refine wp_call_op (by go_simp) (inner_low 60000 _ _ e.p f _ (RV.Is.nin (RAe.out.dig (DD289.out.trans (Dig.of_ext hxq))) (Nat.le_trans BAe.out (by omega))) (RV.In.nin (RV.In.mono (RF.out.dig (H281.out.dig0.trans (Dig.of_ext hxq))) (by omega))) (by omega)) ?_
    rintro e w' ⟨c_, rfl, hc_, hx⟩
    refine ⟨_, rfl, ?_⟩
    have hk := hK.out _ _ ⟨c_, rfl, hc_⟩ hx
    try simp only [Act.put, zA, zB, zC]
    simp only [Act.put, zA, zB, zC] at hk
    exact hk
   case ht287c2 =>
    intro v1 v2 v3 v4 w1 K hxq hSw hK
    try simp only [Act.put, zA, zB, zC]
    rw [if_pos (by rfl)]
    refine wp_call_op (by go_simp) (inner_high 60000 _ _ e.q t _ (RV.Is.nin (RBe.out.dig (DD289.out.trans (Dig.of_ext hxq))) (Nat.le_trans BBe.out (by omega))) (RV.In.nin (RV.In.mono (RT.out.dig (H281.out.dig0.trans (Dig.of_ext hxq))) (by omega))) (by omega)) ?_
    rintro e w' ⟨c_, rfl, hc_, hx⟩
    refine ⟨_, rfl, ?_⟩
    have hk := hK.out _ _ ⟨c_, rfl, hc_⟩ hx
    try simp only [Act.put, zA, zB, zC]
    simp only [Act.put, zA, zB, zC] at hk
    exact hk
   case ht287c3 =>
    intro v1 v2 v3 v4 w1 K hxq hSw hK
    try simp only [Act.put, zA, zB, zC]
    go_simp
    have hk := hK.out
    simp only [Act.put, zA, zB, zC] at hk
    exact hk
   case ht287c4 =>
    intro v1 v2 v3 v4 w1 K hxq hSw hK
    try simp only [Act.put, zA, zB, zC]
    go_simp
    have hk := hK.out
    simp only [Act.put, zA, zB, zC] at hk
    exact hk
   case ht287e =>
   intro v1_ v2_ X291 Y292 w293 hx hSw xp1 xp2 xb1 xb2 xz1 xz2 n12
   have hh := H281.out.add2 hx xb1 xb2 xz1 xz2 n12 (by simp [NoUL]) (by simp [NoUL])
   have H294 := zH (show Hp w w293 [.blk X232 27 (rc rf), .blk X237 27 (rc rt), .blk X242 27 rz, .blk X251 27 (rc rs), ro 51 8 (some ⟨gm, 0, none⟩) es.length cm SpE.cells es, .blk X273 51 [.bool e.a.n, .slice e.a.p e.a.l e.a.c, .bool e.a.m, .slice e.a.p2 e.a.l2 e.a.c2, .bool e.b.n, .slice e.b.p e.b.l e.b.c, .bool e.b.m, .slice e.b.p2 e.b.l2 e.b.c2], .blk X291 27 rz, .blk Y292 27 rz] from hh)
   have D294 := zH (show Dig w278.drew w293 from Dig.of_ext hx)
   have S296 := zH (show Ext w278 w293 from zb.trans hx)
   have G297 := zH (show w278.heap.size ≤ X291 from Nat.le_trans zb.size xz1)
   have G298 := zH (show w278.heap.size ≤ Y292 from Nat.le_trans zb.size xz2)
   obtain ⟨c_, rfl, hc_⟩ := xp1
   obtain ⟨r288, rfl, hr_⟩ := hc_
   have R288 := zH hr_
   have B288 := zH (show Nm.rl (if e.p < f then f else e.p) ≤ L from by have h1 := BAe.out; have h2 := (show Nm.rl f ≤ L from by have h := (RF.out.dig H294.out.dig0).rl; omega); split <;> omega)
   clear hr_
   generalize hq_ : (if e.p < f then f else e.p) = q288 at R288 B288 ⊢
   have Q288 := zH hq_
   clear hq_
   obtain ⟨c_, rfl, hc_⟩ := xp2
   obtain ⟨r290, rfl, hr_⟩ := hc_
   have R290 := zH hr_
   have B290 := zH (show Nm.rl (if t < e.q then t else e.q) ≤ L from by have h1 := BBe.out; have h2 := (show Nm.rl t ≤ L from by have h := (RT.out.dig H294.out.dig0).rl; omega); split <;> omega)
   clear hr_
   generalize hq_ : (if t < e.q then t else e.q) = q290 at R290 B290 ⊢
   have Q290 := zH hq_
   clear hq_
   clear hh hx hSw xb1 xb2 xz1 xz2 n12
   try simp only [Act.put, zA, zB, zC]
   refine md_st (i := 12) (listed' := (bs 14 8191)) (by rfl) (by kernel_rfl) (by rfl) (by kernel_rfl) _ _ _ (by rfl) H294.out (ix := 6) (by rfl) 0 [.bool r288.n, .slice r288.p r288.l r288.c, .bool r288.m, .slice r288.p2 r288.l2 r288.c2] (by rfl) (by rfl) (by simp) (by kernel_rfl) (by simp [Value.oneCell']) (by simp [NoUL]) ?_
   intro w299 hh hd ho
   have H300 := zH (show Hp w w299 [.blk X232 27 (rc rf), .blk X237 27 (rc rt), .blk X242 27 rz, .blk X251 27 (rc rs), ro 51 8 (some ⟨gm, 0, none⟩) es.length cm SpE.cells es, .blk X273 51 [.bool e.a.n, .slice e.a.p e.a.l e.a.c, .bool e.a.m, .slice e.a.p2 e.a.l2 e.a.c2, .bool e.b.n, .slice e.b.p e.b.l e.b.c, .bool e.b.m, .slice e.b.p2 e.b.l2 e.b.c2], .blk X291 27 (rc r288), .blk Y292 27 rz] from hh)
   have D300 := zH (hd)
   have S302 := zH (show Ext w278 w299 from Own.ext ho S296.out G297.out)
   clear hh hd ho
   refine ⟨S302.out, ?_⟩
   (try simp only [Act.put])
   refine md_st (i := 13) (listed' := (bs 14 16383)) (by rfl) (by kernel_rfl) (by rfl) (by kernel_rfl) _ _ _ (by rfl) H300.out (ix := 7) (by rfl) 0 [.bool r290.n, .slice r290.p r290.l r290.c, .bool r290.m, .slice r290.p2 r290.l2 r290.c2] (by rfl) (by rfl) (by simp) (by kernel_rfl) (by simp [Value.oneCell']) (by simp [NoUL]) ?_
   intro w303 hh hd ho
   have H304 := zH (show Hp w w303 [.blk X232 27 (rc rf), .blk X237 27 (rc rt), .blk X242 27 rz, .blk X251 27 (rc rs), ro 51 8 (some ⟨gm, 0, none⟩) es.length cm SpE.cells es, .blk X273 51 [.bool e.a.n, .slice e.a.p e.a.l e.a.c, .bool e.a.m, .slice e.a.p2 e.a.l2 e.a.c2, .bool e.b.n, .slice e.b.p e.b.l e.b.c, .bool e.b.m, .slice e.b.p2 e.b.l2 e.b.c2], .blk X291 27 (rc r288), .blk Y292 27 (rc r290)] from hh)
   have D304 := zH (hd)
   have S306 := zH (show Ext w278 w303 from Own.ext ho S302.out G298.out)
   clear hh hd ho
   refine ⟨S306.out, ?_⟩
   (try simp only [Act.put])
   refine wpAnyH_done (by kernel_rfl) ?_ _
   by_cases c307 : q288 < q290
   ·have CL := zH c307
    clear c307
    go_upto_region 7 with fail
    refine wp_region_lit ?_
    refine zd X291 (0) (rc r288) (H304.out.range (i := 6) (by rfl) 0 4) Tryz.underlying27 ?_
    refine zd Y292 (0) (rc r290) (H304.out.range (i := 7) (by rfl) 0 4) Tryz.underlying27 ?_
    have DD309 := zH ((D300.out.trans D304.out))
    refine zc (pCmp (L := 60000) (RV.In.nin (RV.In.mono (R288.out.dig DD309.out) (by omega))) (RV.In.nin (RV.In.mono (R290.out.dig DD309.out) (by omega))) (by omega)) ?_
    rintro e w308 ⟨rfl, hx⟩
    have H310 := zH (H304.out.step hx)
    have D310 := zH (Dig.of_ext hx)
    clear hx
    refine zn ?_
    refine zp (w' := w308) (.bool true) (by exact ezl (e := (dec_t (rcmp_lt.2 CL.out)))) ?_
    go_upto_region 8 with fail
    refine wp_region_held_drew (S := fun x => Fr (fun kz => kz = X251) w308 x) (by kernel_rfl) (Fr.of_ext zb) (fun _ => ?_)
    have H313 := zH (H310.out.step (Ext.refl w308).drew)
    have D313 := zH (Dig.of_ext (w := w308) zb)
    refine mR 1 (bs 6 2) Y292 (0) [.bool r290.n, .slice r290.p r290.l r290.c, .bool r290.m, .slice r290.p2 r290.l2 r290.c2] (fun x hx => Fr.range hx (show World.rangeAt w308 Y292 (0) [.bool r290.n, .slice r290.p r290.l r290.c, .bool r290.m, .slice r290.p2 r290.l2 r290.c2] from (H310.out.range (i := 7) (by rfl) 0 4)) (H310.out.offBlk (i := 7) (j := 3) (by rfl) (by rfl) (by decide) (by rfl))) Tryz.underlying27 (Fr.of_ext zb) ?_
    refine zr 2 (bs 6 6) X291 (0) [.bool r288.n, .slice r288.p r288.l r288.c, .bool r288.m, .slice r288.p2 r288.l2 r288.c2] (fun x hx => Fr.range hx (show World.rangeAt w308 X291 (0) [.bool r288.n, .slice r288.p r288.l r288.c, .bool r288.m, .slice r288.p2 r288.l2 r288.c2] from (H310.out.range (i := 6) (by rfl) 0 4)) (H310.out.offBlk (i := 6) (j := 3) (by rfl) (by rfl) (by decide) (by rfl))) Tryz.underlying27 (Fr.of_ext zb) ?_
    refine Fd.go (j := 0) (dj := some 35) (u := .agg #[.bool rs.n, .slice rs.p rs.l rs.c, .bool rs.m, .slice rs.p2 rs.l2 rs.c2]) ?_
    have DD317 := zH ((((D300.out.trans D304.out).trans D310.out).trans D313.out))
    refine fd_call (b := w308) (i := 3) (lj := (bs 6 7)) (li := (bs 6 14)) (by rfl) (by rfl) (by kernel_rfl) (by kernel_rfl) (by kernel_rfl) (by kernel_rfl) (by kernel_rfl) (by decide) (by kernel_rfl) (by rfl) (by rfl) (fun x_ h_ => Fr.of_ext h_) (Ext.refl w308).drew (fun x_ h_ => ev_ld _ _ (by rfl) X251 (0) [.bool rs.n, .slice rs.p rs.l rs.c, .bool rs.m, .slice rs.p2 rs.l2 rs.c2] (by rfl) (range_ext (show World.rangeAt w308 X251 (0) [.bool rs.n, .slice rs.p rs.l rs.c, .bool rs.m, .slice rs.p2 rs.l2 rs.c2] from H310.out.range (i := 3) (by rfl) 0 4) h_) Tryz.underlying27 (by rfl) (by kernel_rfl)) (by rfl) (by go_simp) (by kernel_rfl) (pSub (L := 60000) (RV.In.nin (RV.In.mono (R290.out.dig DD317.out) (by omega))) (RV.In.nin (RV.In.mono (R288.out.dig DD317.out) (by omega))) (by omega)) ?_
    rintro e w315 ⟨c_, rfl, hc_, hx⟩
    have H318 := zH (H313.out.step hx)
    have D318 := zH (show Dig w308.drew w315 from Dig.of_ext hx)
    have X320 := zH (show Ext w308 w315 from (Ext.refl w308).drew.trans hx)
    have S321 := zH (show Fr (fun kz => kz = X251) w308 w315 from (Fr.of_ext zb).trans (Fr.of_ext hx))
    obtain ⟨r316, rfl, hr_⟩ := hc_
    have R316 := zH hr_
    clear hr_
    have B316 := zH (show Nm.rl (q290 - q288) ≤ L + L + 1 from by have h1 := B290.out; have h2 := B288.out; have h3 := Nm.rl_sub q290 q288; omega)
    have hx_ := hx
    clear hx
    refine ⟨_, rfl, hx_, ?_⟩
    try simp only [Act.put, zA, zB, zC]
    clear hx_
    refine fd_end (by rfl) (by kernel_rfl) (by rfl) (by rfl) S321.out (ev_ld _ _ (by rfl) X251 (0) [.bool rs.n, .slice rs.p rs.l rs.c, .bool rs.m, .slice rs.p2 rs.l2 rs.c2] (by rfl) (range_ext (show World.rangeAt w308 X251 (0) [.bool rs.n, .slice rs.p rs.l rs.c, .bool rs.m, .slice rs.p2 rs.l2 rs.c2] from H310.out.range (i := 3) (by rfl) 0 4) X320.out) Tryz.underlying27 (by rfl) (by kernel_rfl)) (show _ = (bs 6 15) by kernel_rfl) ?_
    try simp only [Act.put, zA, zB, zC]
    have DD324 := zH (((((((((D275.out.trans D279.out).trans D281.out).trans D294.out).trans D300.out).trans D304.out).trans D310.out).trans D313.out).trans D318.out))
    refine mC 4 (bs 6 31) (pAdd (L := 60000) (RV.Is.nin (RS.out.dig DD324.out) (Nat.le_trans BS.out (by omega))) (RV.Is.nin R316.out (Nat.le_trans B316.out (by omega))) (by omega)) ?_
    rintro e w322 ⟨c_, rfl, hc_, hx⟩
    have H325 := zH (H318.out.step hx)
    have D325 := zH (Dig.of_ext hx)
    have S328 := zH (show Fr (fun kz => kz = X251) w308 w322 from S321.out.trans (Fr.of_ext hx))
    obtain ⟨r323, rfl, hr_⟩ := hc_
    have R323 := zH hr_
    clear hr_
    have B323 := zH (show Nm.rl ((lenV f t ((es.map SpE.vl).take k)) + (q290 - q288)) ≤ (2 + KP) + (L + L + 1) + 1 from by have h1 := BS.out; have h2 := B316.out; have h3 := Nm.rl_add (lenV f t ((es.map SpE.vl).take k)) (q290 - q288); omega)
    clear hx
    refine zm S328.out ?_
    refine md_st (i := 5) (listed' := (bs 6 63)) (by rfl) (by kernel_rfl) (by rfl) (by kernel_rfl) _ _ _ (by rfl) H325.out (ix := 3) (by rfl) 0 [.bool r323.n, .slice r323.p r323.l r323.c, .bool r323.m, .slice r323.p2 r323.l2 r323.c2] (by rfl) (by rfl) (by simp) (by kernel_rfl) (by simp [Value.oneCell']) (by simp [NoUL]) ?_
    intro w329 hh hd ho
    have H330 := zH (show Hp w w329 [.blk X232 27 (rc rf), .blk X237 27 (rc rt), .blk X242 27 rz, .blk X251 27 (rc r323), ro 51 8 (some ⟨gm, 0, none⟩) es.length cm SpE.cells es, .blk X273 51 [.bool e.a.n, .slice e.a.p e.a.l e.a.c, .bool e.a.m, .slice e.a.p2 e.a.l2 e.a.c2, .bool e.b.n, .slice e.b.p e.b.l e.b.c, .bool e.b.m, .slice e.b.p2 e.b.l2 e.b.c2], .blk X291 27 (rc r288), .blk Y292 27 (rc r290)] from hh)
    have D330 := zH (hd)
    have S332 := zH (show Fr (fun kz => kz = X251) w308 w329 from Fr.trans_new S328.out ho (fun j hj => .inl (by simpa using hj.symm)))
    clear hh hd ho
    refine ⟨S332.out, ?_⟩
    (try simp only [Act.put])
    refine wpAnyH_done (by kernel_rfl) ?_ _
    have HL1 := zH ((len1_case (p := e.p) (q := e.q) (f := f) (t := t) Q288.out.symm Q290.out.symm).trans (if_pos CL.out))
    have DD333 := zH ((((((((((((D270.out.trans D275.out).trans D279.out).trans D281.out).trans D294.out).trans D300.out).trans D304.out).trans D310.out).trans D313.out).trans D318.out).trans D325.out).trans D330.out))
    go_wp2_with fail
    go_roundg (es.length - (k + 1))
    case measure => exact (by have ob0 := HLT.out; omega)
    case rel => exact ⟨k + 1, r323, rfl, (by go_num), HLT.out, (by rw [HTK.out, HL1.out]; exact (R323.out.dig D330.out)), (by rw [HTK.out, HL1.out, HKQ.out]; exact Nat.le_trans B323.out (by omega)), H330.out.take 5, DD333.out⟩
   have CL := zH c307
   clear c307
   go_upto_region 7 with fail
   refine wp_region_lit ?_
   refine zd X291 (0) (rc r288) (H304.out.range (i := 6) (by rfl) 0 4) Tryz.underlying27 ?_
   refine zd Y292 (0) (rc r290) (H304.out.range (i := 7) (by rfl) 0 4) Tryz.underlying27 ?_
   have DD335 := zH ((D300.out.trans D304.out))
   refine zc (pCmp (L := 60000) (RV.In.nin (RV.In.mono (R288.out.dig DD335.out) (by omega))) (RV.In.nin (RV.In.mono (R290.out.dig DD335.out) (by omega))) (by omega)) ?_
   rintro e w334 ⟨rfl, hx⟩
   have H336 := zH (H304.out.step hx)
   have D336 := zH (Dig.of_ext hx)
   clear hx
   refine zn ?_
   refine zp (w' := w334) (.bool false) (by exact ezl (e := (dec_f (fun hh => CL.out (rcmp_lt.1 hh))))) ?_
   have HL1 := zH ((len1_case (p := e.p) (q := e.q) (f := f) (t := t) Q288.out.symm Q290.out.symm).trans (if_neg CL.out))
   have DD339 := zH (((((((D275.out.trans D279.out).trans D281.out).trans D294.out).trans D300.out).trans D304.out).trans D336.out))
   have DD340 := zH ((((((((D270.out.trans D275.out).trans D279.out).trans D281.out).trans D294.out).trans D300.out).trans D304.out).trans D336.out))
   go_wp2_with fail
   go_roundg (es.length - (k + 1))
   case measure => exact (by have ob0 := HLT.out; omega)
   case rel => exact ⟨k + 1, rs, rfl, (by go_num), HLT.out, (by rw [HTK.out, HL1.out, Rat.add_zero]; exact (RS.out.dig DD339.out)), (by rw [HTK.out, HL1.out, HKQ.out, Rat.add_zero]; exact Nat.le_trans BS.out (by have := HKP.out; omega)), H336.out.take 5, DD340.out⟩
  have HLT := zH c271
  clear c271
  obtain rfl : k = es.length := by have := HK.out; have := HLT.out; omega
  have hge : ¬ (es.length : Int) < (es.length : Int) := by omega
  have HR := zH (show lenV f t ((es.map SpE.vl).take es.length) = lenV f t (mergeV ps) by rw [List.take_of_length_le (by simp), HVAL.out])
  go_upto_region 10 with fail
  refine wp_region_lit ?_
  refine zd X251 (0) (rc rs) (H270.out.range (i := 3) (by rfl) 0 4) Tryz.underlying27 ?_
  refine mv_st (by rfl) _ _ _ (by rfl) H270.out (ix := 2) (by rfl) 0 [.bool rs.n, .slice rs.p rs.l rs.c, .bool rs.m, .slice rs.p2 rs.l2 rs.c2] (by rfl) (by rfl) (by simp) (by kernel_rfl) (by simp [Value.oneCell']) (by simp [NoUL]) ?_
  intro w341 hh hd ho
  have H342 := zH (show Hp w w341 [.blk X232 27 (rc rf), .blk X237 27 (rc rt), .blk X242 27 (rc rs), .blk X251 27 (rc rs), ro 51 8 Am es.length cm SpE.cells es] from hh)
  have D342 := zH (hd)
  clear hh hd ho
  (try simp only [Act.put])
  go_wp2_with fail
  refine bodyPost_ret (v := .agg #[.bool rs.n, .slice rs.p rs.l rs.c, .bool rs.m, .slice rs.p2 rs.l2 rs.c2]) ?_ rfl ⟨rs, rfl, by rw [← HR.out]; exact (RS.out.dig D342.out), by rw [← HR.out]; exact Nat.le_trans BS.out (by have := Nat.mul_le_mul (show es.length ≤ 1200 by omega) (show 2 * L + 2 ≤ 42 by omega); omega), H342.out.ext⟩
  exact results_cell1 rfl rfl ((H342.out.blk (i := 2) (by rfl)).loadVar rfl rfl (by rfl))
end Go.Proofs.YtaeeeailoiioaabGreat
