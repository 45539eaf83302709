/- Contracts that the claim stands on: XSpans to XApS. -/
import Derived.Deep.Upon
import Derived.Test.YtmgibncehlpfkaaGreatM6
namespace Go.Proofs.YtmgibncehlpfkaaGreat
open Go.RowKit
attribute [local go_sem ↓] Go.wp_at_zero Go.wp_at_succ run_max_ii run_min_ii
set_option maxRecDepth 20000 in
set_option maxHeartbeats 4000000 in
theorem spans_any (L : Nat) (u : Value) (rs : List Ring) (rule : Int) (ry : RV) (y : Rat) (w : World) (hu : RingsV w u rs) (hy : ry.In L w y) (h1L : 1 ≤ L) (hL : L ≤ 2000) (hn : rs.length ≤ 100000) (hr : ∀ r, r ∈ rs → r.length ≤ 100000) (hru : -9223372036854775808 ≤ rule ∧ rule ≤ 9223372036854775807) :
  Calls Tryz.prog 13 #[u, .int .i64 rule, .agg #[.bool ry.n, .slice ry.p ry.l ry.c, .bool ry.m, .slice ry.p2 ry.l2 ry.c2]] w fun e w' => ∃ v es, e = .returned v ∧ SpR (L + 8) w' w.heap.size v es ∧ es.map SpE.vl = spansV rule (marksV y rs) ∧ es.length ≤ 4096 ∧ Ext w w' := by
 have HU := zH hu
 have RY := zH hy
 have HRU := zH hru
 clear hu hy hru
 go_enter Tryz.func13, Tryz.ntmps13
 have H0 := zH (Hp.start w)
 go_upto_region 0 with fail
 refine wp_region_lit ?_
 refine mv_alloc (T := 27) (zs := [.bool ry.n, .slice ry.p ry.l ry.c, .bool ry.m, .slice ry.p2 ry.l2 ry.c2]) (by rfl) (by go_simp) H0.out (by simp [NoUL]) ?_
 intro X1 w2 hh hx hge
 have H3 := zH (show Hp w w2 [.blk X1 27 (rc ry)] from hh)
 clear hh hx hge
 try simp only [Act.put, zA, zB, zC]
 refine zq (.slice none 0 0) ?_
 go_upto_region 3 with fail
 refine wp_region_lit ?_
 refine qV (u) ?_
 refine zd X1 (0) (rc ry) (H3.out.range (i := 0) (by rfl) 0 4) Tryz.underlying27 ?_
 refine zc (marks_any L u rs ry y _ (HU.out.ext H3.out.ext) (RY.out.dig H3.out.dig0) h1L (by omega) hn hr) ?_
 rintro e w8 ⟨Am, nm_, cm, ms, rfl, rfl, hrow_, hok_, hval_, hx⟩
 have HVAL := zH hval_
 have HOK := zH hok_
 obtain ⟨Am2_, cm2_, hv_, hA_⟩ := RowN.form hrow_
 injection hv_ with e1_ _ _
 subst e1_
 have HA := zH hA_
 clear hval_ hok_ hA_
 have H9 := zH (show Hp w w8 [.blk X1 27 (rc ry), ro 54 5 Am ms.length cm MkE.cells ms] from H3.out.addRow hx hrow_)
 clear hrow_
 have hms4 : ms.length ≤ 4096 := by have h := marksV_len y rs; rw [← HVAL.out, List.length_map] at h; exact h
 clear hx
 refine zn ?_
 refine zq (.slice Am ms.length cm) ?_
 have H12 := zH (show Hp w w8 [.blk X1 27 (rc ry), ro 54 5 Am ms.length cm MkE.cells ms, ro 39 8 none 0 0 SpE.cells ([])] from H9.out.addNil 39 8)
 obtain ⟨qs, hqs⟩ : ∃ qs, qs = ms.map MkE.vl := ⟨_, rfl⟩
 have HQS := zH hqs
 have hql : qs.length = ms.length := by rw [hqs, List.length_map]
 clear hqs
 go_wp2_with fail
 go_loopg [7, 8, 17] (ms.length) (fun cq v13 v14 v15 wr => ∃ (k : Nat) (m : Nat) (es : List SpE) (A1 : Option Addr) (c1 : Nat) (s : Int), cq = ms.length - k ∧ v13 = .slice A1 m c1 ∧ v14 = .int .i64 s ∧ v15 = .int .i64 (k : Int) ∧ (k ≤ ms.length) ∧ (psum qs k = s) ∧ (-(k : Int) ≤ s ∧ s ≤ k) ∧ (m = es.length ∧ m ≤ k) ∧ (es.map SpE.vl = sel rule ((runs 0 qs).take k)) ∧ (∀ e, e ∈ es → e.Ok (L + 8) wr) ∧ Hp w wr [.blk X1 27 [.bool ry.n, .slice ry.p ry.l ry.c, .bool ry.m, .slice ry.p2 ry.l2 ry.c2], .row 54 5 (.slice Am ms.length cm) (ms.length) (List.flatMap MkE.cells ms), .row 39 8 (.slice A1 m c1) (m) (List.flatMap SpE.cells es)] ∧ Dig w8 wr)
 case atStart => exact ⟨0, 0, [], none, 0, 0, rfl, rfl, rfl, rfl, Nat.zero_le _, rfl, ⟨by decide, by decide⟩, ⟨rfl, Nat.le_refl _⟩, rfl, (by simp), H12.out, Dig.refl _⟩
 case round =>
  obtain ⟨k, m, es, A1, c1, s, rfl, rfl, rfl, rfl, q_HK, q_HPV, q_HSM, q_HM, q_HSEL, q_HOE, hh_, hd_⟩ := hrel
  generalize wr = w16 at *
  have HK := zH q_HK
  clear q_HK
  have HPV := zH q_HPV
  clear q_HPV
  have HSM := zH q_HSM
  clear q_HSM
  have HM := zH q_HM
  clear q_HM
  have HSEL := zH q_HSEL
  clear q_HSEL
  have HOE := zH q_HOE
  clear q_HOE
  have H18 := zH hh_
  have D18 := zH hd_
  clear hh_ hd_ H12
  by_cases c19 : k < ms.length
  ·have HLT := zH c19
   clear c19
   have hlt := HLT.out
   have hlt2 : (k : Int) < (ms.length : Int) := by omega
   obtain ⟨gm, rfl⟩ := HA.out (by omega)
   have hk4 : k ≤ 4096 := by omega
   have hm4 : m ≤ 4096 := by have := HM.out.2; omega
   have hsm := HSM.out
   obtain ⟨e, he_⟩ : ∃ e, ms[k]? = some e := ⟨_, List.getElem?_eq_getElem hlt⟩
   have HEe := zH he_
   have HOe := zH (HOK.out e (List.mem_of_getElem? he_))
   have RAe := zH HOe.out.1
   have BAe := zH HOe.out.2.1
   clear he_
   have hup := HOe.out.2.2
   have hqk : qs[k]? = some e.vl := by rw [HQS.out, List.getElem?_map, HEe.out]; rfl
   have HPS := zH (show psum qs (k + 1) = s + e.up from by rw [psum_succ hqk, HPV.out]; rfl)
   have HQK := zH hqk
   clear hqk
   go_upto_region 6 with fail
   refine wp_region_lit ?_
   refine zq (.int .i64 (k : Int)) ?_
   refine zp (w' := w16) (.pointer (some ⟨gm, k * 5, none⟩)) (by exact ezi (k := k) Tryz.underlying51 (l := HLT.out) (f := (Nat.zero_add _).symm)) ?_
   refine zd gm (k * 5) [.bool e.a.n, .slice e.a.p e.a.l e.a.c, .bool e.a.m, .slice e.a.p2 e.a.l2 e.a.c2, .int .i64 e.up] (H18.out.elem (f := MkE.cells) (i := 1) (by rfl) MkE.len HEe.out) Tryz.underlying54 ?_
   refine mv_alloc (T := 54) (zs := [.bool false, .slice none 0 0, .bool false, .slice none 0 0, .int .i64 0]) (by rfl) (by go_simp) H18.out (by simp [NoUL]) ?_
   intro X22 w23 hh hx hge
   have H24 := zH (show Hp w w23 [.blk X1 27 (rc ry), ro 54 5 (some ⟨gm, 0, none⟩) ms.length cm MkE.cells ms, ro 39 8 A1 m c1 SpE.cells es, .blk X22 54 [.bool false, .slice none 0 0, .bool false, .slice none 0 0, .int .i64 0]] from hh)
   have D24 := zH (Dig.of_ext hx)
   clear hh hx hge
   try simp only [Act.put, zA, zB, zC]
   refine zq (.int .i64 (k : Int)) ?_
   refine mv_st (by rfl) _ _ _ (by rfl) H24.out (ix := 3) (by rfl) 0 [.bool e.a.n, .slice e.a.p e.a.l e.a.c, .bool e.a.m, .slice e.a.p2 e.a.l2 e.a.c2, .int .i64 e.up] (by rfl) (by rfl) (by simp) (by kernel_rfl) (by simp [Value.oneCell']) (by simp [NoUL]) ?_
   intro w28 hh hd ho
   have H29 := zH (show Hp w w28 [.blk X1 27 (rc ry), ro 54 5 (some ⟨gm, 0, none⟩) ms.length cm MkE.cells ms, ro 39 8 A1 m c1 SpE.cells es, .blk X22 54 [.bool e.a.n, .slice e.a.p e.a.l e.a.c, .bool e.a.m, .slice e.a.p2 e.a.l2 e.a.c2, .int .i64 e.up]] from hh)
   have D29 := zH (hd)
   clear hh hd ho
   (try simp only [Act.put])
   go_upto_region 7 with fail
   refine wp_region_lit ?_
   refine qV (.int .i64 s) ?_
   refine zq (.pointer (some ⟨X22, 4, none⟩)) ?_
   refine ze X22 4 (.int .i64 e.up) (H29.out.range (i := 3) (by rfl) 4 1) ?_
   refine zp (w' := w28) (.int .i64 (s + e.up)) (by exact ez1 (by have ob0 := hsm.1; have ob1 := hsm.2; have ob4 := hup.1; have ob5 := hup.2; omega)) ?_
   refine zq (.int .i64 (s + e.up)) ?_
   by_cases c35 : k + 1 < ms.length
   ·have CK := zH c35
    clear c35
    have hk1 := CK.out
    obtain ⟨f, he_⟩ : ∃ f, ms[k + 1]? = some f := ⟨_, List.getElem?_eq_getElem hk1⟩
    have HEf := zH he_
    have HOf := zH (HOK.out f (List.mem_of_getElem? he_))
    have RAf := zH HOf.out.1
    have BAf := zH HOf.out.2.1
    clear he_
    have HRG := zH (runs_get qs 0 k e.vl f.vl HQK.out (by rw [HQS.out, List.getElem?_map, HEf.out]; rfl))
    have HRN := zH (show 0 + psum qs (k + 1) = s + e.up by rw [HPS.out]; omega)
    rcases hcf : fillsV (s + e.up) rule with _ | _
    ·have CF := zH hcf
     clear hcf
     go_upto_region 8 with fail
     refine wp_region_lit ?_
     refine zq (.int .i64 (k : Int)) ?_
     refine zp (w' := w28) (.int .i64 ((k + 1 : Nat) : Int)) (by exact ez1 (by have ob0 := hsm.1; have ob1 := hsm.2; have ob4 := hup.1; have ob5 := hup.2; omega)) ?_
     refine qV (.slice (some ⟨gm, 0, none⟩) ms.length cm) ?_
     refine zq (.int .i64 ((ms.length : Nat) : Int)) ?_
     refine zp (w' := w28) (.bool true) (by exact ezl (e := (dec_t (by have ob0 := hsm.1; have ob1 := hsm.2; have ob4 := hup.1; have ob5 := hup.2; omega)))) ?_
     refine qV (.bool true) ?_
     refine zq (.int .i64 (s + e.up)) ?_
     refine qV (.int .i64 rule) ?_
     refine zc (fills_any (s + e.up) rule _ ⟨(by have ob0 := hsm.1; have ob1 := hsm.2; have ob4 := hup.1; have ob5 := hup.2; omega), (by have ob0 := hsm.1; have ob1 := hsm.2; have ob4 := hup.1; have ob5 := hup.2; omega)⟩ HRU.out) ?_
     rintro e w44 ⟨rfl, hx⟩
     have H45 := zH (H29.out.step hx)
     have D45 := zH (Dig.of_ext hx)
     clear hx
     refine ⟨.bool false, by rw [CF.out], ?_⟩
     try simp only [Act.put, zA, zB, zC]
     refine zq (.bool false) ?_
     have DD48 := zH (((D24.out.trans D29.out).trans D45.out))
     have DD49 := zH ((((D18.out.trans D24.out).trans D29.out).trans D45.out))
     go_wp2_with fail
     go_roundg (ms.length - (k + 1))
     case measure => exact (by have ob0 := hsm.1; have ob1 := hsm.2; have ob4 := hup.1; have ob5 := hup.2; have ob7 := HLT.out; omega)
     case rel => exact ⟨k + 1, m, es, A1, c1, s + e.up, rfl, rfl, rfl, (by go_num), HLT.out, HPS.out, ⟨by omega, by omega⟩, ⟨HM.out.1, by have := HM.out.2; omega⟩, (by rw [HSEL.out, sel_take HRG.out, if_neg (by rw [HRN.out, CF.out]; decide), List.append_nil]), (fun g hg => (HOE.out g hg).dig DD48.out), H45.out.take 3, DD49.out⟩
    have CF := zH hcf
    clear hcf
    go_upto_region 8 with fail
    refine wp_region_lit ?_
    refine zq (.int .i64 (k : Int)) ?_
    refine zp (w' := w28) (.int .i64 ((k + 1 : Nat) : Int)) (by exact ez1 (by have ob0 := hsm.1; have ob1 := hsm.2; have ob4 := hup.1; have ob5 := hup.2; omega)) ?_
    refine qV (.slice (some ⟨gm, 0, none⟩) ms.length cm) ?_
    refine zq (.int .i64 ((ms.length : Nat) : Int)) ?_
    refine zp (w' := w28) (.bool true) (by exact ezl (e := (dec_t (by have ob0 := hsm.1; have ob1 := hsm.2; have ob4 := hup.1; have ob5 := hup.2; omega)))) ?_
    refine qV (.bool true) ?_
    refine zq (.int .i64 (s + e.up)) ?_
    refine qV (.int .i64 rule) ?_
    refine zc (fills_any (s + e.up) rule _ ⟨(by have ob0 := hsm.1; have ob1 := hsm.2; have ob4 := hup.1; have ob5 := hup.2; omega), (by have ob0 := hsm.1; have ob1 := hsm.2; have ob4 := hup.1; have ob5 := hup.2; omega)⟩ HRU.out) ?_
    rintro e w58 ⟨rfl, hx⟩
    have H59 := zH (H29.out.step hx)
    have D59 := zH (Dig.of_ext hx)
    clear hx
    refine ⟨.bool true, by rw [CF.out], ?_⟩
    try simp only [Act.put, zA, zB, zC]
    refine zq (.bool true) ?_
    go_upto_region 9 with fail
    refine wp_region_held_drew (S := fun x => Fr (fun kz => Value.ownBlock (.slice A1 m c1) = some kz) w58 x) (by kernel_rfl) (Fr.of_ext zb) (fun _ => ?_)
    have H62 := zH (H59.out.step (Ext.refl w58).drew)
    have D62 := zH (Dig.of_ext (w := w58) zb)
    refine zx 0 (bs 13 1) (.slice A1 m c1) (Fr.of_ext zb) ?_
    refine mX 1 (bs 13 3) (.pointer (some ⟨X22, 0, none⟩)) (Fr.of_ext zb) ?_
    refine zr 2 (bs 13 7) X22 (0) [.bool e.a.n, .slice e.a.p e.a.l e.a.c, .bool e.a.m, .slice e.a.p2 e.a.l2 e.a.c2] (fun x hx => Fr.range hx (show World.rangeAt w58 X22 (0) [.bool e.a.n, .slice e.a.p e.a.l e.a.c, .bool e.a.m, .slice e.a.p2 e.a.l2 e.a.c2] from (H59.out.range (i := 3) (by rfl) 0 4)) (H59.out.offRow (i := 3) (j := 2) (by rfl) (by rfl) (by decide) (by rfl))) Tryz.underlying27 (Fr.of_ext zb) ?_
    refine zx 3 (bs 13 15) (.slice (some ⟨gm, 0, none⟩) ms.length cm) (Fr.of_ext zb) ?_
    refine zx 4 (bs 13 31) (.int .i64 (k : Int)) (Fr.of_ext zb) ?_
    refine zu 5 (bs 13 63) (v := .int .i64 ((k + 1 : Nat) : Int)) (Fr.of_ext zb) ?_ (hv := by intro w hSw; exact ez1 (by have ob0 := hsm.1; have ob1 := hsm.2; have ob4 := hup.1; have ob5 := hup.2; omega))
    refine zu 6 (bs 13 127) (v := .pointer (some ⟨gm, (k + 1) * 5, none⟩)) (Fr.of_ext zb) ?_ (hv := by intro w hSw; exact ezi (k := k + 1) Tryz.underlying51 (l := CK.out) (f := (Nat.zero_add _).symm))
    refine mX 7 (bs 13 255) (.pointer (some ⟨gm, (k + 1) * 5, none⟩)) (Fr.of_ext zb) ?_
    refine zr 8 (bs 13 511) gm ((k + 1) * 5) [.bool f.a.n, .slice f.a.p f.a.l f.a.c, .bool f.a.m, .slice f.a.p2 f.a.l2 f.a.c2] (fun x hx => Fr.range hx (show World.rangeAt w58 gm ((k + 1) * 5) [.bool f.a.n, .slice f.a.p f.a.l f.a.c, .bool f.a.m, .slice f.a.p2 f.a.l2 f.a.c2] from (range_part (H59.out.elem (f := MkE.cells) (i := 1) (by rfl) MkE.len HEf.out) 0 4)) (H59.out.offRow (i := 1) (j := 2) (by rfl) (by rfl) (by decide) (by rfl))) Tryz.underlying27 (Fr.of_ext zb) ?_
    refine zx 9 (bs 13 1023) (.agg #[.bool e.a.n, .slice e.a.p e.a.l e.a.c, .bool e.a.m, .slice e.a.p2 e.a.l2 e.a.c2, .bool f.a.n, .slice f.a.p f.a.l f.a.c, .bool f.a.m, .slice f.a.p2 f.a.l2 f.a.c2]) (Fr.of_ext zb) ?_
    refine mU 10 (bs 13 2047) (v := .slice (some ⟨w58.drew.heap.size, 0, none⟩) 1 1) (w' := (w58.drew.alloc (.cells ([.bool e.a.n, .slice e.a.p e.a.l e.a.c, .bool e.a.m, .slice e.a.p2 e.a.l2 e.a.c2, .bool f.a.n, .slice f.a.p f.a.l f.a.c, .bool f.a.m, .slice f.a.p2 f.a.l2 f.a.c2] : List Value).toArray 39))) ((Fr.of_ext zb).trans (Fr.of_ext ((Ext.refl w58.drew).alloc _))) ?_
    try simp only [Act.put, zA, zB, zC]
    refine md_app (j := 11) (listed' := (bs 13 4095)) (by rfl) (by kernel_rfl) (by rfl) _ _ _ (by rfl) elSpan (by rfl) H62.out (ix := 2) (by rfl) 1 1 [.bool e.a.n, .slice e.a.p e.a.l e.a.c, .bool e.a.m, .slice e.a.p2 e.a.l2 e.a.c2, .bool f.a.n, .slice f.a.p f.a.l f.a.c, .bool f.a.m, .slice f.a.p2 f.a.l2 f.a.c2] (by rfl) rfl (by simp [Value.oneCell']) (by simp [NoUL]) (by decide) (by unfold maxLen; exact (by have ob0 := hsm.1; have ob1 := hsm.2; have ob4 := hup.1; have ob5 := hup.2; omega)) (by have ob0 := hsm.1; have ob1 := hsm.2; have ob4 := hup.1; have ob5 := hup.2; omega) (by kernel_rfl) ?_
    intro g73 cp74 w72 hf hh hd hg
    have Fg73 := zH hf
    clear hf
    rw [show List.flatMap SpE.cells es ++ [.bool e.a.n, .slice e.a.p e.a.l e.a.c, .bool e.a.m, .slice e.a.p2 e.a.l2 e.a.c2, .bool f.a.n, .slice f.a.p f.a.l f.a.c, .bool f.a.m, .slice f.a.p2 f.a.l2 f.a.c2] = _ from flat_snoc SpE.cells _ (⟨e.a, f.a, e.q, f.q⟩ : SpE)] at hh
    have H75 := zH (show Hp w w72 [.blk X1 27 (rc ry), ro 54 5 (some ⟨gm, 0, none⟩) ms.length cm MkE.cells ms, ro 39 8 (some ⟨g73, 0, none⟩) (m + 1) cp74 SpE.cells (es ++ [(⟨e.a, f.a, e.q, f.q⟩ : SpE)]), .blk X22 54 [.bool e.a.n, .slice e.a.p e.a.l e.a.c, .bool e.a.m, .slice e.a.p2 e.a.l2 e.a.c2, .int .i64 e.up]] from hh)
    have D75 := zH (show Dig w58.drew w72 from hd)
    have S77 := zH (show Fr (fun kz => Value.ownBlock (.slice A1 m c1) = some kz) w58 w72 from Fr.trans_new ((Fr.of_ext zb).trans (Fr.of_ext ((Ext.refl _).alloc _))) hg (fun j hj => .inl hj))
    clear hh hd hg
    refine ⟨S77.out, ?_⟩
    try simp only [Act.put, zA, zB, zC]
    refine zx 12 (bs 13 8191) (.slice (some ⟨g73, 0, none⟩) (m + 1) cp74) S77.out ?_
    refine wpAnyH_done (by kernel_rfl) ?_ _
    have DD79 := zH (((((D24.out.trans D29.out).trans D59.out).trans D62.out).trans D75.out))
    have DD80 := zH ((((((D18.out.trans D24.out).trans D29.out).trans D59.out).trans D62.out).trans D75.out))
    have HOKN := zH (show SpE.Ok (L + 8) w72 (⟨e.a, f.a, e.q, f.q⟩ : SpE) from ⟨(RAe.out.dig DD80.out), (RAf.out.dig DD80.out), BAe.out, BAf.out⟩)
    go_wp2_with fail
    go_roundg (ms.length - (k + 1))
    case measure => exact (by have ob0 := hsm.1; have ob1 := hsm.2; have ob4 := hup.1; have ob5 := hup.2; have ob7 := HLT.out; omega)
    case rel => exact ⟨k + 1, m + 1, es ++ [(⟨e.a, f.a, e.q, f.q⟩ : SpE)], some ⟨g73, 0, none⟩, cp74, s + e.up, rfl, rfl, rfl, (by go_num), HLT.out, HPS.out, ⟨by omega, by omega⟩, ⟨by rw [List.length_append, ← HM.out.1]; rfl, by have := HM.out.2; omega⟩, (by rw [List.map_append, HSEL.out, sel_take HRG.out, if_pos (by rw [HRN.out]; exact CF.out)]; rfl), (fun g hg => (List.mem_append.1 hg).elim (fun hg => (HOE.out g hg).dig DD79.out) (fun hg => by rw [List.mem_singleton.1 hg]; exact HOKN.out)), H75.out.take 3, DD80.out⟩
   have CK := zH c35
   clear c35
   have hk1 := CK.out
   go_upto_region 8 with fail
   refine wp_region_lit ?_
   refine zq (.int .i64 (k : Int)) ?_
   refine zp (w' := w28) (.int .i64 ((k + 1 : Nat) : Int)) (by exact ez1 (by have ob0 := hsm.1; have ob1 := hsm.2; have ob4 := hup.1; have ob5 := hup.2; omega)) ?_
   refine qV (.slice (some ⟨gm, 0, none⟩) ms.length cm) ?_
   refine zq (.int .i64 ((ms.length : Nat) : Int)) ?_
   refine zp (w' := w28) (.bool false) (by exact ezl (e := (dec_f (by have ob0 := hsm.1; have ob1 := hsm.2; have ob4 := hup.1; have ob5 := hup.2; omega)))) ?_
   refine zq (.bool false) ?_
   refine zk ?_
   refine zk ?_
   refine zk ?_
   refine zq (.bool false) ?_
   have DD88 := zH ((D24.out.trans D29.out))
   have DD89 := zH (((D18.out.trans D24.out).trans D29.out))
   go_wp2_with fail
   go_roundg (ms.length - (k + 1))
   case measure => exact (by have ob0 := hsm.1; have ob1 := hsm.2; have ob4 := hup.1; have ob5 := hup.2; have ob7 := HLT.out; omega)
   case rel => exact ⟨k + 1, m, es, A1, c1, s + e.up, rfl, rfl, rfl, (by go_num), HLT.out, HPS.out, ⟨by omega, by omega⟩, ⟨HM.out.1, by have := HM.out.2; omega⟩, (by rw [HSEL.out, List.take_of_length_le (show (runs 0 qs).length ≤ k by rw [runs_len]; omega), List.take_of_length_le (show (runs 0 qs).length ≤ k + 1 by rw [runs_len]; omega)]), (fun g hg => (HOE.out g hg).dig DD88.out), H29.out.take 3, DD89.out⟩
  have HLT := zH c19
  clear c19
  obtain rfl : k = ms.length := by have := HK.out; have := HLT.out; omega
  have hge : ¬ (ms.length : Int) < (ms.length : Int) := by omega
  have HRW := zH (H18.out.row (i := 2) (by rfl))
  have hm4 : m ≤ 4096 := by have := HM.out.2; omega
  have hme := HM.out.1
  subst hme
  go_upto_region 11 with fail
  refine wp_region_lit ?_
  refine qV (.slice A1 es.length c1) ?_
  refine zc (merge_any (L + 8) _ (List.map SpE.vl es) _ (SpR.reads ⟨HRW.out, HOE.out⟩) (by omega) (by omega) (by rw [List.length_map]; omega)) ?_
  rintro e w91 ⟨vm, em, rfl, hm1, hm2, hm3, hx⟩
  have H92 := zH (H18.out.step hx)
  clear hx
  refine zn ?_
  refine zq (vm) ?_
  go_wp2_with fail
  go_ret
  exact ⟨_, rfl, em, SpR.base hm1 H18.out.ext.size, by rw [hm2, HSEL.out, List.take_of_length_le (by rw [runs_len]; omega), HQS.out, HVAL.out]; rfl, Nat.le_trans hm3 (by rw [List.length_map]; exact hm4), H92.out.ext⟩

def RsV (L : Nat) (w : World) (v : Value) (qs : List Rat) : Prop :=
  ∃ A c, v = .slice A qs.length c ∧ ∀ (k : Nat) (q : Rat), qs[k]? = some q → ∃ (g off : Nat) (r : RV), A = some ⟨g, off, none⟩ ∧ w.rangeAt g (off + k * 4) [.bool r.n, .slice r.p r.l r.c, .bool r.m, .slice r.p2 r.l2 r.c2] ∧ r.Is w q ∧ Nm.rl q ≤ L
theorem RsV.ext {L : Nat} {w w' : World} {v : Value} {qs : List Rat} (h : RsV L w v qs) (x : Ext w w') : RsV L w' v qs := by
  obtain ⟨A, c, rfl, h⟩ := h
  refine ⟨A, c, rfl, fun k q hq => ?_⟩
  obtain ⟨g, off, r, e, h1, h2, h3⟩ := h k q hq
  exact ⟨g, off, r, e, range_ext h1 x, h2.ext x, h3⟩
set_option maxRecDepth 20000 in
set_option maxHeartbeats 4000000 in
theorem sameAll_any (L : Nat) (u v : Value) (qs : List Rat) (w : World) (hu : RsV L w u qs) (hv : RsV L w v qs) (hL : L ≤ 60000) (hn : qs.length ≤ 100000) :
  Calls Tryz.prog 16 #[u, v] w fun e w' => e = .returned (.bool true) ∧ Ext w w' := by
 obtain ⟨Au, cu, rfl, hu⟩ := hu
 obtain ⟨Av, cv, rfl, hv⟩ := hv
 have HU := zH hu
 have HV := zH hv
 have hne : ((qs.length : Int) != (qs.length : Int)) = false := by simp
 clear hu hv
 go_enter Tryz.func16, Tryz.ntmps16
 go_wp2_with fail
 go_loopg [5] qs.length (fun c i wr => ∃ k : Nat, k ≤ qs.length ∧ c = qs.length - k ∧ i = .int .i64 k ∧ Ext w wr)
 case atStart => exact ⟨0, Nat.zero_le _, rfl, rfl, Ext.refl _⟩
 case round =>
  obtain ⟨k, hk, rfl, rfl, hx⟩ := hrel
  have HX := zH hx
  clear hx
  by_cases hlt : k < qs.length
  ·have hlt2 : (k : Int) < (qs.length : Int) := by omega
   obtain ⟨q, hq⟩ : ∃ q, qs[k]? = some q := ⟨_, List.getElem?_eq_getElem hlt⟩
   obtain ⟨gu, ou, a, rfl, hu1, hu2, hu3⟩ := HU.out k q hq
   obtain ⟨gv, ov, b, rfl, hv1, hv2, hv3⟩ := HV.out k q hq
   have HRU := zH (range_ext hu1 HX.out)
   have HRV := zH (range_ext hv1 HX.out)
   have HA := zH (hu2.ext HX.out)
   have HB := zH (hv2.ext HX.out)
   have HQ := zH hu3
   have HLT := zH hlt
   clear hq hu1 hu2 hu3 hv1 hv2 hv3 hlt
   go_upto_region 6 with fail
   refine wp_region_held_drew (S := fun x => Ext wr x) (by kernel_rfl) (Ext.refl _).drew (fun _ => ?_)
   refine zv 0 (bs 10 1) (Ext.refl wr).drew ?_
   refine zv 1 (bs 10 3) (Ext.refl wr).drew ?_
   refine mV 2 (bs 10 7) (Ext.refl wr).drew ?_
   refine zr 3 (bs 10 15) gu (ou + k * 4) [.bool a.n, .slice a.p a.l a.c, .bool a.m, .slice a.p2 a.l2 a.c2] (fun wX hwX => range_ext HRU.out hwX) Tryz.underlying27 (Ext.refl wr).drew ?_
   refine zv 4 (bs 10 31) (Ext.refl wr).drew ?_
   refine zv 5 (bs 10 63) (Ext.refl wr).drew ?_
   refine mV 6 (bs 10 127) (Ext.refl wr).drew ?_
   refine zr 7 (bs 10 255) gv (ov + k * 4) [.bool b.n, .slice b.p b.l b.c, .bool b.m, .slice b.p2 b.l2 b.c2] (fun wX hwX => range_ext HRV.out hwX) Tryz.underlying27 (Ext.refl wr).drew ?_
   refine mC 8 (bs 10 511) (same_any a b q L _ (HA.out.ext (Ext.refl _).drew) (HB.out.ext (Ext.refl _).drew) HQ.out (by omega)) ?_
   rintro e w5 ⟨rfl, hx⟩
   have HEw5 := zH (show Ext wr w5 from ((Ext.refl wr).drew).trans hx)
   clear hx
   refine ⟨_, rfl, HEw5.out, ?_⟩
   try simp only [Act.put, zA, zB, zC]
   refine zv 9 (bs 10 1023) HEw5.out ?_
   refine wpAnyH_done (by kernel_rfl) ?_ _
   go_wp2_with fail
   go_roundg (qs.length - (k + 1))
   case measure => have := HLT.out; omega
   case rel => exact ⟨k + 1, HLT.out, rfl, by go_num, HX.out.trans HEw5.out⟩
  obtain rfl : k = qs.length := by omega
  have hge : ¬ (qs.length : Int) < (qs.length : Int) := by omega
  go_wp2_with fail
  go_ret
  exact ⟨rfl, HX.out⟩

set_option maxRecDepth 20000 in
set_option maxHeartbeats 4000000 in
theorem r18same_any (L : Nat) (u v : Value) (b1 b2 : Nat) (es fs : List SpE) (w : World) (hu : SpR L w b1 u es) (hv : SpR L w b2 v fs) (he : es.map SpE.vl = fs.map SpE.vl) (hL : L ≤ 60000) (hn : es.length ≤ 100000) :
  Calls Tryz.prog 9 #[u, v] w fun e w' => e = .returned (.bool true) ∧ Ext w w' := by
 have hlen : es.length = fs.length := by have h := congrArg List.length he; simpa using h
 obtain ⟨Au, cu, rfl⟩ := row_slice hu.1
 obtain ⟨Av, cv, rfl⟩ := row_slice hv.1
 rw [← hlen] at hv ⊢
 have HU := zH hu
 have HV := zH hv
 have HE := zH he
 have HLN := zH hlen
 have hne : ((es.length : Int) != (es.length : Int)) = false := by simp
 clear hu hv he hlen
 go_enter Tryz.func9, Tryz.ntmps9
 go_wp2_with fail
 go_loopg [5] es.length (fun c i wr => ∃ k : Nat, k ≤ es.length ∧ c = es.length - k ∧ i = .int .i64 k ∧ Ext w wr)
 case atStart => exact ⟨0, Nat.zero_le _, rfl, rfl, Ext.refl _⟩
 case round =>
  obtain ⟨k, hk, rfl, rfl, hx⟩ := hrel
  have HX := zH hx
  clear hx
  by_cases hlt : k < es.length
  ·have hlt2 : (k : Int) < (es.length : Int) := by omega
   obtain ⟨e, hee⟩ : ∃ e, es[k]? = some e := ⟨_, List.getElem?_eq_getElem hlt⟩
   obtain ⟨f, hff⟩ : ∃ f, fs[k]? = some f := ⟨_, List.getElem?_eq_getElem (by have := HLN.out; omega)⟩
   have hvl : e.vl = f.vl := by
    have h1 : (es.map SpE.vl)[k]? = some e.vl := by rw [List.getElem?_map, hee]; rfl
    rw [HE.out, List.getElem?_map, hff] at h1
    injection h1 with h1
    exact h1.symm
   have hpq : e.p = f.p ∧ e.q = f.q := by have h1 := congrArg Prod.fst hvl; have h2 := congrArg Prod.snd hvl; exact ⟨h1, h2⟩
   have HOE := zH ((HU.out.2 e (List.mem_of_getElem? hee)).ext HX.out)
   have HOF := zH ((HV.out.2 f (List.mem_of_getElem? hff)).ext HX.out)
   obtain ⟨gu, rfl⟩ : ∃ g, Au = some ⟨g, 0, none⟩ := by
    rcases HU.out.form with ⟨_, hn⟩ | ⟨g, cap, rest, hv, _⟩
    ·rw [hn] at hlt; simp at hlt
    injection hv with e1 _ _; exact ⟨g, e1⟩
   obtain ⟨gv, rfl⟩ : ∃ g, Av = some ⟨g, 0, none⟩ := by
    rcases HV.out.form with ⟨_, hn⟩ | ⟨g, cap, rest, hv, _⟩
    ·rw [hn] at hff; simp at hff
    injection hv with e1 _ _; exact ⟨g, e1⟩
   have HRU := zH (range_ext (HU.out.read hee) HX.out)
   have HRV := zH (range_ext (HV.out.read hff) HX.out)
   have HPQ := zH hpq
   have HLT := zH hlt
   clear hee hff hvl hpq hlt
   go_upto_region 6 with fail
   refine wp_region_held_drew (S := fun x => Ext wr x) (by kernel_rfl) (Ext.refl _).drew (fun _ => ?_)
   refine zv 0 (bs 26 1) (Ext.refl wr).drew ?_
   refine zv 1 (bs 26 3) (Ext.refl wr).drew ?_
   refine zv 2 (bs 26 7) (Ext.refl wr).drew ?_
   refine mV 3 (bs 26 15) (Ext.refl wr).drew ?_
   refine zr 4 (bs 26 31) gu (k * 8) [.bool e.a.n, .slice e.a.p e.a.l e.a.c, .bool e.a.m, .slice e.a.p2 e.a.l2 e.a.c2] (fun wX hwX => range_ext (range_left (a := [.bool e.a.n, .slice e.a.p e.a.l e.a.c, .bool e.a.m, .slice e.a.p2 e.a.l2 e.a.c2]) (b := [.bool e.b.n, .slice e.b.p e.b.l e.b.c, .bool e.b.m, .slice e.b.p2 e.b.l2 e.b.c2]) HRU.out) hwX) Tryz.underlying27 (Ext.refl wr).drew ?_
   refine zv 5 (bs 26 63) (Ext.refl wr).drew ?_
   refine zv 6 (bs 26 127) (Ext.refl wr).drew ?_
   refine zv 7 (bs 26 255) (Ext.refl wr).drew ?_
   refine mV 8 (bs 26 511) (Ext.refl wr).drew ?_
   refine zr 9 (bs 26 1023) gv (k * 8) [.bool f.a.n, .slice f.a.p f.a.l f.a.c, .bool f.a.m, .slice f.a.p2 f.a.l2 f.a.c2] (fun wX hwX => range_ext (range_left (a := [.bool f.a.n, .slice f.a.p f.a.l f.a.c, .bool f.a.m, .slice f.a.p2 f.a.l2 f.a.c2]) (b := [.bool f.b.n, .slice f.b.p f.b.l f.b.c, .bool f.b.m, .slice f.b.p2 f.b.l2 f.b.c2]) HRV.out) hwX) Tryz.underlying27 (Ext.refl wr).drew ?_
   refine mC 10 (bs 26 2047) (same_any e.a f.a e.p L _ (HOE.out.ext (Ext.refl _).drew).1 (by rw [HPQ.out.1]; exact (HOF.out.ext (Ext.refl _).drew).1) HOE.out.2.2.1 (by omega)) ?_
   rintro e w5 ⟨rfl, hx⟩
   have HEw5 := zH (show Ext wr w5 from ((Ext.refl wr).drew).trans hx)
   clear hx
   refine ⟨_, rfl, HEw5.out, ?_⟩
   try simp only [Act.put, zA, zB, zC]
   refine zv 11 (bs 26 4095) HEw5.out ?_
   refine zv 12 (bs 26 8191) HEw5.out ?_
   refine zv 13 (bs 26 16383) HEw5.out ?_
   refine zv 14 (bs 26 32767) HEw5.out ?_
   refine zv 15 (bs 26 65535) HEw5.out ?_
   refine mV 16 (bs 26 131071) HEw5.out ?_
   refine zr 17 (bs 26 262143) gu (k * 8 + 4) [.bool e.b.n, .slice e.b.p e.b.l e.b.c, .bool e.b.m, .slice e.b.p2 e.b.l2 e.b.c2] (fun wX hwX => range_ext (range_right (a := [.bool e.a.n, .slice e.a.p e.a.l e.a.c, .bool e.a.m, .slice e.a.p2 e.a.l2 e.a.c2]) (b := [.bool e.b.n, .slice e.b.p e.b.l e.b.c, .bool e.b.m, .slice e.b.p2 e.b.l2 e.b.c2]) (n := 4) HRU.out rfl) hwX) Tryz.underlying27 HEw5.out ?_
   refine zv 18 (bs 26 524287) HEw5.out ?_
   refine zv 19 (bs 26 1048575) HEw5.out ?_
   refine zv 20 (bs 26 2097151) HEw5.out ?_
   refine mV 21 (bs 26 4194303) HEw5.out ?_
   refine zr 22 (bs 26 8388607) gv (k * 8 + 4) [.bool f.b.n, .slice f.b.p f.b.l f.b.c, .bool f.b.m, .slice f.b.p2 f.b.l2 f.b.c2] (fun wX hwX => range_ext (range_right (a := [.bool f.a.n, .slice f.a.p f.a.l f.a.c, .bool f.a.m, .slice f.a.p2 f.a.l2 f.a.c2]) (b := [.bool f.b.n, .slice f.b.p f.b.l f.b.c, .bool f.b.m, .slice f.b.p2 f.b.l2 f.b.c2]) (n := 4) HRV.out rfl) hwX) Tryz.underlying27 HEw5.out ?_
   refine mC 23 (bs 26 16777215) (same_any e.b f.b e.q L _ (HOE.out.ext HEw5.out).2.1 (by rw [HPQ.out.2]; exact (HOF.out.ext HEw5.out).2.1) HOE.out.2.2.2 (by omega)) ?_
   rintro e w6 ⟨rfl, hx⟩
   have HEw6 := zH (show Ext wr w6 from (HEw5.out).trans hx)
   clear hx
   refine ⟨_, rfl, HEw6.out, ?_⟩
   try simp only [Act.put, zA, zB, zC]
   refine zv 24 (bs 26 33554431) HEw6.out ?_
   refine zv 25 (bs 26 67108863) HEw6.out ?_
   refine wpAnyH_done (by kernel_rfl) ?_ _
   go_wp2_with fail
   go_roundg (es.length - (k + 1))
   case measure => have := HLT.out; omega
   case rel => exact ⟨k + 1, HLT.out, rfl, by go_num, HX.out.trans HEw6.out⟩
  obtain rfl : k = es.length := by omega
  have hge : ¬ (es.length : Int) < (es.length : Int) := by omega
  go_wp2_with fail
  go_ret
  exact ⟨rfl, HX.out⟩
end Go.Proofs.YtmgibncehlpfkaaGreat

namespace Go.Proofs.YtmgibncehlpfkaaGreat
open Go.RowKit

theorem Hp.addRow2 {w0 w w' : World} {m : List Ent} {t t2 : TypeId} {size size2 : Nat} {v v2 : Value} {n n2 : Nat} {xs xs2 : List Value} (h : Hp w0 w m) (x : Ext w w') (r : RowN w' w.heap.size t size v n xs) (r2 : RowN w' w.heap.size t2 size2 v2 n2 xs2) (hne : t ≠ t2) :
  Hp w0 w' (m ++ [.row t size v n xs] ++ [.row t2 size2 v2 n2 xs2]) := by
 have h1 := h.addRow x r
 have r2' : RowN w' w0.heap.size t2 size2 v2 n2 xs2 := by
  obtain ⟨q1, q2 | ⟨g, cap, rest, a, b, c⟩⟩ := r2
  ·exact ⟨q1, .inl q2⟩
  exact ⟨q1, .inr ⟨g, cap, rest, a, Nat.le_trans h.ext.size b, c⟩⟩
 refine h1.add r2' (fun i f hf k hk e => ?_)
 rcases List.mem_append.1 (List.mem_of_getElem? hf) with hm | hm
 ·obtain ⟨j, hj⟩ := List.mem_iff_getElem?.1 hm
  have q1 := h.lt hj hk
  have q2 := RowN.block r2 k e
  omega
 simp at hm
 subst hm
 obtain ⟨_, ⟨rfl, _⟩ | ⟨g2, c2, rest2, rfl, _, hb2, _⟩⟩ := r2
 ·simp [Ent.own, Value.ownBlock] at e
 have hk2 : g2 = k := by simpa [Ent.own, Value.ownBlock] using e
 subst hk2
 exact hne (h1.typ hf hb2 hk)
theorem SpR.up {L M : Nat} {w : World} {b : Nat} {v : Value} {es : List SpE} (h : SpR L w b v es) (hl : L ≤ M) : SpR M w b v es := ⟨h.1, fun e he => ⟨(h.2 e he).1, (h.2 e he).2.1, Nat.le_trans (h.2 e he).2.2.1 hl, Nat.le_trans (h.2 e he).2.2.2 hl⟩⟩
def exR : List Ring := [[(0, 0), (4, 0), (4, 4), (0, 4)]]
theorem ex_marks : marksV (((1 : Int)) : Rat) exR = [((0 : Rat), -1), ((4 : Rat), 1)] := by decide +kernel
theorem ex_spans : spansV 1 [((0 : Rat), -1), ((4 : Rat), 1)] = [((0 : Rat), (4 : Rat))] := by decide +kernel
theorem exRings {w0 w : World} {m : List Ent} {X1 X2 : Nat} (h : Hp w0 w m) (h1 : m[0]? = some (.blk X1 45 [.int .i64 0, .int .i64 0, .int .i64 4, .int .i64 0, .int .i64 4, .int .i64 4, .int .i64 0, .int .i64 4]))
  (h2 : m[1]? = some (.blk X2 43 [.slice (some ⟨X1, 0, none⟩) 4 4])) : RingsV w (.slice (some ⟨X2, 0, none⟩) 1 1) exR := by
 refine ⟨_, 1, rfl, fun _ => ⟨X2, 0, rfl, fun i r hr => ?_⟩⟩
 have hi : i = 0 := by have := (List.getElem?_eq_some_iff.1 hr).1; simp [exR] at this; omega
 subst hi
 have hr2 : r = [(0, 0), (4, 0), (4, 4), (0, 4)] := by simpa [exR] using hr.symm
 subst hr2
 refine ⟨_, 4, h.cell h2 0 rfl, ⟨_, 4, rfl, fun _ => ⟨X1, 0, rfl, fun i hi => ?_⟩⟩⟩
 have hi : i < 4 := hi
 have : i = 0 ∨ i = 1 ∨ i = 2 ∨ i = 3 := by omega
 rcases this with rfl | rfl | rfl | rfl
 ·exact ⟨h.cell h1 0 rfl, h.cell h1 1 rfl⟩
 ·exact ⟨h.cell h1 2 rfl, h.cell h1 3 rfl⟩
 ·exact ⟨h.cell h1 4 rfl, h.cell h1 5 rfl⟩
 exact ⟨h.cell h1 6 rfl, h.cell h1 7 rfl⟩
theorem Hp.litRow {w0 w : World} {m : List Ent} {i X n size : Nat} {t : TypeId} {cs : List Value} (h : Hp w0 w m) (hi : m[i]? = some (.blk X t cs)) (hl : cs.length = n * size) (hn : n ≤ maxLen) : RowN w w0.heap.size t size (.slice (some ⟨X, 0, none⟩) n n) n cs :=
  ⟨hl, .inr ⟨X, n, [], rfl, h.ge hi rfl, by rw [List.append_nil]; exact h.blk hi, Nat.le_refl _, hn, by simp [hl], by rw [List.append_nil]; exact h.noU hi⟩⟩
theorem RsV.of_row {α : Type} {L : Nat} {w : World} {b n : Nat} {t : TypeId} {v : Value} {es : List α} (f : α → RV) (q : α → Rat) (h : RowN w b t 4 v n (es.flatMap fun e => [.bool (f e).n, .slice (f e).p (f e).l (f e).c, .bool (f e).m, .slice (f e).p2 (f e).l2 (f e).c2])) (hn : n = es.length)
  (hok : ∀ e, e ∈ es → (f e).Is w (q e) ∧ Nm.rl (q e) ≤ L) : RsV L w v (es.map q) := by
 obtain ⟨A, c, rfl, hA⟩ := h.form
 refine ⟨A, c, by rw [List.length_map, hn], fun k x hx => ?_⟩
 rw [List.getElem?_map] at hx
 obtain ⟨e, he, rfl⟩ := Option.map_eq_some_iff.1 hx
 have hk := (List.getElem?_eq_some_iff.1 he).1
 obtain ⟨g, rfl⟩ := hA (by omega)
 obtain ⟨h1, h2⟩ := hok e (List.mem_of_getElem? he)
 exact ⟨g, 0, f e, rfl, by rw [Nat.zero_add]; exact h.rangeAt _ _ (fun j v hj => flat_get (c := 4) (fun _ => rfl) es k e he j v hj), h1, h2⟩
theorem two_of_map {α β : Type} {f : α → β} {l : List α} {x y : β} (h : l.map f = [x, y]) : ∃ a b, l = [a, b] ∧ f a = x ∧ f b = y := by
  rcases l with _ | ⟨a, _ | ⟨b, _ | ⟨c, t⟩⟩⟩
  · cases h
  · simp at h
  · simp at h; exact ⟨a, b, rfl, h.1, h.2⟩
  simp at h
end Go.Proofs.YtmgibncehlpfkaaGreat

namespace Go.Proofs.YtmgibncehlpfkaaGreat
open Go.RowKit
attribute [local go_sem ↓] Go.wp_at_zero Go.wp_at_succ run_max_ii run_min_ii
set_option maxRecDepth 20000 in
set_option maxHeartbeats 4000000 in
theorem example_any (w : World) : Calls Tryz.prog 6 #[] w fun e w' => e = .returned (.bool true) ∧ Ext w w' := by
 go_enter Tryz.func6, Tryz.ntmps6
 have H0 := zH (Hp.start w)
 go_upto_region 0 with fail
 refine wp_region_lit ?_
 refine qV (.bool false) ?_
 (try simp only [Act.put, List.setIfInBounds_toArray, List.set_cons_zero])
 go_upto_region 1 with fail
 refine wp_region_lit ?_
 refine qV (.agg #[.int .i64 0, .int .i64 0]) ?_
 refine zq (.agg #[.int .i64 4, .int .i64 0]) ?_
 refine qV (.agg #[.int .i64 4, .int .i64 4]) ?_
 refine zq (.agg #[.int .i64 0, .int .i64 4]) ?_
 refine mv_lit (T := 45) (zs := [.int .i64 0, .int .i64 0, .int .i64 4, .int .i64 0, .int .i64 4, .int .i64 4, .int .i64 0, .int .i64 4]) (n := 4) (by rfl) (by go_simp) H0.out (by simp [NoUL]) ?_
 intro X6 w7 hh hx hge
 have H8 := zH (show Hp w w7 [.blk X6 45 [.int .i64 0, .int .i64 0, .int .i64 4, .int .i64 0, .int .i64 4, .int .i64 4, .int .i64 0, .int .i64 4]] from hh)
 clear hh hx hge
 try simp only [Act.put, zA, zB, zC]
 refine mv_lit (T := 43) (zs := [.slice (some ⟨X6, 0, none⟩) 4 4]) (n := 1) (by rfl) (by go_simp) H8.out (by simp [NoUL]) ?_
 intro X10 w11 hh hx hge
 have H12 := zH (show Hp w w11 [.blk X6 45 [.int .i64 0, .int .i64 0, .int .i64 4, .int .i64 0, .int .i64 4, .int .i64 4, .int .i64 0, .int .i64 4], .blk X10 43 [.slice (some ⟨X6, 0, none⟩) 4 4]] from hh)
 clear hh hx hge
 try simp only [Act.put, zA, zB, zC]
 refine zq (.slice (some ⟨X10, 0, none⟩) 1 1) ?_
 go_upto_region 2 with fail
 refine wp_region_lit ?_
 refine qV (.slice (some ⟨X10, 0, none⟩) 1 1) ?_
 refine zc (q03From 1 _ (by omega) (by omega)) ?_
 rintro e w16 ⟨c_, rfl, hc_, hx⟩
 have H18 := zH (H12.out.step hx)
 obtain ⟨r17, rfl, hr_⟩ := hc_
 have R17 := zH hr_
 have B17 := zH (rl_i64 1 (by omega) (by omega))
 clear hr_
 clear hx
 refine zn ?_
 refine zc (spans_any 3 (.slice (some ⟨X10, 0, none⟩) 1 1) exR 1 r17 (((1) : Int) : Rat) _ (exRings (X1 := X6) (X2 := X10) H18.out (by rfl) (by rfl)) (RV.Is.isIn R17.out (Nat.le_trans B17.out (by decide))) (by decide) (by decide) (by decide) (by decide) (by decide)) ?_
 rintro e w20 ⟨v_, es21, rfl, hv1_, hv2_, hv3_, hx⟩
 have VL21 := zH hv2_
 have LN21 := zH hv3_
 have OK21 := zH hv1_.2
 obtain ⟨A21, c21, rfl, hA_⟩ := RowN.form hv1_.1
 have HA21 := zH hA_
 clear hv2_ hv3_ hA_
 have H22 := zH (show Hp w w20 [.blk X6 45 [.int .i64 0, .int .i64 0, .int .i64 4, .int .i64 0, .int .i64 4, .int .i64 4, .int .i64 0, .int .i64 4], .blk X10 43 [.slice (some ⟨X6, 0, none⟩) 4 4], ro 39 8 A21 es21.length c21 SpE.cells es21] from H18.out.addRow hx hv1_.1)
 clear hv1_
 clear hx
 refine zn ?_
 refine zq (.slice A21 es21.length c21) ?_
 go_upto_region 3 with fail
 refine wp_region_lit ?_
 refine qV (.slice (some ⟨X10, 0, none⟩) 1 1) ?_
 refine zc (q03From 1 _ (by omega) (by omega)) ?_
 rintro e w26 ⟨c_, rfl, hc_, hx⟩
 have H28 := zH (H22.out.step hx)
 have D28 := zH (Dig.of_ext hx)
 obtain ⟨r27, rfl, hr_⟩ := hc_
 have R27 := zH hr_
 have B27 := zH (rl_i64 1 (by omega) (by omega))
 clear hr_
 clear hx
 refine zn ?_
 refine zc (crossings_any 3 _ exR r27 (((1) : Int) : Rat) _ (exRings (X1 := X6) (X2 := X10) H28.out (by rfl) (by rfl)) (RV.Is.isIn R27.out (Nat.le_trans B27.out (by decide))) (by decide) (by decide) (by decide) (by decide)) ?_
 rintro e w30 ⟨A1, c1, A2, c2, n_, em, rfl, rfl, hr1_, hr2_, hok_, hcv_, hx⟩
 obtain ⟨ea, eb, rfl, hva_, hvb_⟩ := two_of_map (hcv_.trans ex_marks)
 have HVA := zH hva_
 have HVB := zH hvb_
 have HOKX := zH hok_
 clear hcv_ hva_ hvb_ hok_
 obtain ⟨g1, rfl⟩ : ∃ g, A1 = some ⟨g, 0, none⟩ := by obtain ⟨A_, c_, h1_, h2_⟩ := RowN.form hr1_; injection h1_ with h1_ _ _; rw [h1_]; exact h2_ (by simp)
 obtain ⟨g2, rfl⟩ : ∃ g, A2 = some ⟨g, 0, none⟩ := by obtain ⟨A_, c_, h1_, h2_⟩ := RowN.form hr2_; injection h1_ with h1_ _ _; rw [h1_]; exact h2_ (by simp)
 have H31 := zH (show Hp w w30 [.blk X6 45 [.int .i64 0, .int .i64 0, .int .i64 4, .int .i64 0, .int .i64 4, .int .i64 4, .int .i64 0, .int .i64 4], .blk X10 43 [.slice (some ⟨X6, 0, none⟩) 4 4], ro 39 8 A21 es21.length c21 SpE.cells es21, ro 27 4 (some ⟨g1, 0, none⟩) 2 c1 MkE.cx ([ea, eb]), ro 3 1 (some ⟨g2, 0, none⟩) 2 c2 MkE.cu ([ea, eb])] from H28.out.addRow2 hx hr1_ hr2_ (by decide))
 have D31 := zH (Dig.of_ext hx)
 clear hx hr1_ hr2_
 refine zn ?_
 refine qV (.tuple #[.slice (some ⟨g1, 0, none⟩) 2 c1, .slice (some ⟨g2, 0, none⟩) 2 c2]) ?_
 refine zq (.slice (some ⟨g1, 0, none⟩) 2 c1) ?_
 refine qV (.slice (some ⟨g2, 0, none⟩) 2 c2) ?_
 refine zq (.slice (some ⟨g1, 0, none⟩) 2 c1) ?_
 refine zq (.slice (some ⟨g2, 0, none⟩) 2 c2) ?_
 have HEA := zH (show [ea, eb][0]? = some ea from rfl)
 have HEB := zH (show [ea, eb][1]? = some eb from rfl)
 have hua := (HOKX.out ea (by simp)).2.2
 have hub := (HOKX.out eb (by simp)).2.2
 have hsum : ea.up = -1 ∧ eb.up = 1 := ⟨congrArg Prod.snd HVA.out, congrArg Prod.snd HVB.out⟩
 go_upto_region 4 with fail
 refine zy ?_
 have H38 := zH (H31.out.step (Ext.refl w30).drew)
 have D38 := zH (Dig.of_ext (w := w30) zb)
 refine zx 0 (bs 29 1) (.slice A21 es21.length c21) zb ?_
 refine mC 1 (bs 29 3) (q03From 0 _ (by have ob0 := hua.1; have ob1 := hua.2; have ob2 := hub.1; have ob3 := hub.2; have ob4 := hsum.1; have ob5 := hsum.2; omega) (by have ob0 := hua.1; have ob1 := hua.2; have ob2 := hub.1; have ob3 := hub.2; have ob4 := hsum.1; have ob5 := hsum.2; omega)) ?_
 rintro e w41 ⟨c_, rfl, hc_, hx⟩
 have H43 := zH (H38.out.step hx)
 have D43 := zH (show Dig w30.drew w41 from Dig.of_ext hx)
 have S45 := zH (show Ext w30 w41 from zb.trans hx)
 obtain ⟨r42, rfl, hr_⟩ := hc_
 have R42 := zH hr_
 have B42 := zH (rl_i64 0 (by have ob0 := hua.1; have ob1 := hua.2; have ob2 := hub.1; have ob3 := hub.2; have ob4 := hsum.1; have ob5 := hsum.2; omega) (by have ob0 := hua.1; have ob1 := hua.2; have ob2 := hub.1; have ob3 := hub.2; have ob4 := hsum.1; have ob5 := hsum.2; omega))
 clear hr_
 clear hx
 refine zm S45.out ?_
 refine mC 2 (bs 29 7) (q03From 4 _ (by have ob0 := hua.1; have ob1 := hua.2; have ob2 := hub.1; have ob3 := hub.2; have ob4 := hsum.1; have ob5 := hsum.2; omega) (by have ob0 := hua.1; have ob1 := hua.2; have ob2 := hub.1; have ob3 := hub.2; have ob4 := hsum.1; have ob5 := hsum.2; omega)) ?_
 rintro e w46 ⟨c_, rfl, hc_, hx⟩
 have H48 := zH (H43.out.step hx)
 have D48 := zH (Dig.of_ext hx)
 have S50 := zH (S45.out.trans hx)
 obtain ⟨r47, rfl, hr_⟩ := hc_
 have R47 := zH hr_
 have B47 := zH (rl_i64 4 (by have ob0 := hua.1; have ob1 := hua.2; have ob2 := hub.1; have ob3 := hub.2; have ob4 := hsum.1; have ob5 := hsum.2; omega) (by have ob0 := hua.1; have ob1 := hua.2; have ob2 := hub.1; have ob3 := hub.2; have ob4 := hsum.1; have ob5 := hsum.2; omega))
 clear hr_
 clear hx
 refine zm S50.out ?_
 refine zx 3 (bs 29 15) (.agg #[.bool r42.n, .slice r42.p r42.l r42.c, .bool r42.m, .slice r42.p2 r42.l2 r42.c2, .bool r47.n, .slice r47.p r47.l r47.c, .bool r47.m, .slice r47.p2 r47.l2 r47.c2]) S50.out ?_
 refine md_lit (T := 39) (zs := [.bool r42.n, .slice r42.p r42.l r42.c, .bool r42.m, .slice r42.p2 r42.l2 r42.c2, .bool r47.n, .slice r47.p r47.l r47.c, .bool r47.m, .slice r47.p2 r47.l2 r47.c2]) (n := 1) (i := 4) (listed' := (bs 29 31)) (by rfl) (by kernel_rfl) (by rfl) (by go_simp) (by kernel_rfl) H48.out (by simp [NoUL]) ?_
 intro X52 w53 hh hx hge
 have H54 := zH (show Hp w w53 [.blk X6 45 [.int .i64 0, .int .i64 0, .int .i64 4, .int .i64 0, .int .i64 4, .int .i64 4, .int .i64 0, .int .i64 4], .blk X10 43 [.slice (some ⟨X6, 0, none⟩) 4 4], ro 39 8 A21 es21.length c21 SpE.cells es21, ro 27 4 (some ⟨g1, 0, none⟩) 2 c1 MkE.cx ([ea, eb]), ro 3 1 (some ⟨g2, 0, none⟩) 2 c2 MkE.cu ([ea, eb]), .blk X52 39 [.bool r42.n, .slice r42.p r42.l r42.c, .bool r42.m, .slice r42.p2 r42.l2 r42.c2, .bool r47.n, .slice r47.p r47.l r47.c, .bool r47.m, .slice r47.p2 r47.l2 r47.c2]] from hh)
 have D54 := zH (Dig.of_ext hx)
 have S56 := zH (S50.out.trans hx)
 clear hh hx hge
 refine ⟨S56.out, ?_⟩
 try simp only [Act.put, zA, zB, zC]
 have DD59 := zH ((((((D28.out.trans D31.out).trans D38.out).trans D43.out).trans D48.out).trans D54.out))
 have DD60 := zH ((D48.out.trans D54.out))
 refine mC 5 (bs 29 63) (r18same_any 60000 (.slice A21 es21.length c21) (.slice (some ⟨X52, 0, none⟩) 1 1) _ _ es21 ([(⟨r42, r47, (((0) : Int) : Rat), (((4) : Int) : Rat)⟩ : SpE)]) _ (SpR.up (L := (3 + 8)) ⟨H54.out.row (i := 2) (by rfl), (fun e_ he_ => (OK21.out e_ he_).dig DD59.out)⟩ (by omega)) ⟨H54.out.litRow (i := 5) (n := 1) (by rfl) (by rfl) (by decide), (by simp only [List.forall_mem_cons, List.not_mem_nil, false_imp_iff, implies_true, and_true]; exact ⟨(R42.out.dig DD60.out), (R47.out.dig D54.out), (Nat.le_trans B42.out (by omega)), (Nat.le_trans B47.out (by omega))⟩)⟩ (by rw [VL21.out, ex_marks, ex_spans]; rfl) (by omega) (Nat.le_trans LN21.out (by decide))) ?_
 rintro e w58 ⟨rfl, hx⟩
 have H61 := zH (H54.out.step hx)
 have D61 := zH (Dig.of_ext hx)
 have S63 := zH (S56.out.trans hx)
 clear hx
 refine zm S63.out ?_
 refine zx 6 (bs 29 127) (.bool true) S63.out ?_
 refine zx 7 (bs 29 255) (.slice (some ⟨g1, 0, none⟩) 2 c1) S63.out ?_
 refine mC 8 (bs 29 511) (q03From 0 _ (by have ob0 := hua.1; have ob1 := hua.2; have ob2 := hub.1; have ob3 := hub.2; have ob4 := hsum.1; have ob5 := hsum.2; omega) (by have ob0 := hua.1; have ob1 := hua.2; have ob2 := hub.1; have ob3 := hub.2; have ob4 := hsum.1; have ob5 := hsum.2; omega)) ?_
 rintro e w66 ⟨c_, rfl, hc_, hx⟩
 have H68 := zH (H61.out.step hx)
 have D68 := zH (Dig.of_ext hx)
 have S70 := zH (S63.out.trans hx)
 obtain ⟨r67, rfl, hr_⟩ := hc_
 have R67 := zH hr_
 have B67 := zH (rl_i64 0 (by have ob0 := hua.1; have ob1 := hua.2; have ob2 := hub.1; have ob3 := hub.2; have ob4 := hsum.1; have ob5 := hsum.2; omega) (by have ob0 := hua.1; have ob1 := hua.2; have ob2 := hub.1; have ob3 := hub.2; have ob4 := hsum.1; have ob5 := hsum.2; omega))
 clear hr_
 clear hx
 refine zm S70.out ?_
 refine mC 9 (bs 29 1023) (q03From 4 _ (by have ob0 := hua.1; have ob1 := hua.2; have ob2 := hub.1; have ob3 := hub.2; have ob4 := hsum.1; have ob5 := hsum.2; omega) (by have ob0 := hua.1; have ob1 := hua.2; have ob2 := hub.1; have ob3 := hub.2; have ob4 := hsum.1; have ob5 := hsum.2; omega)) ?_
 rintro e w71 ⟨c_, rfl, hc_, hx⟩
 have H73 := zH (H68.out.step hx)
 have D73 := zH (Dig.of_ext hx)
 have S75 := zH (S70.out.trans hx)
 obtain ⟨r72, rfl, hr_⟩ := hc_
 have R72 := zH hr_
 have B72 := zH (rl_i64 4 (by have ob0 := hua.1; have ob1 := hua.2; have ob2 := hub.1; have ob3 := hub.2; have ob4 := hsum.1; have ob5 := hsum.2; omega) (by have ob0 := hua.1; have ob1 := hua.2; have ob2 := hub.1; have ob3 := hub.2; have ob4 := hsum.1; have ob5 := hsum.2; omega))
 clear hr_
 clear hx
 refine zm S75.out ?_
 refine md_lit (T := 27) (zs := [.bool r67.n, .slice r67.p r67.l r67.c, .bool r67.m, .slice r67.p2 r67.l2 r67.c2, .bool r72.n, .slice r72.p r72.l r72.c, .bool r72.m, .slice r72.p2 r72.l2 r72.c2]) (n := 2) (i := 10) (listed' := (bs 29 2047)) (by rfl) (by kernel_rfl) (by rfl) (by go_simp) (by kernel_rfl) H73.out (by simp [NoUL]) ?_
 intro X76 w77 hh hx hge
 have H78 := zH (show Hp w w77 [.blk X6 45 [.int .i64 0, .int .i64 0, .int .i64 4, .int .i64 0, .int .i64 4, .int .i64 4, .int .i64 0, .int .i64 4], .blk X10 43 [.slice (some ⟨X6, 0, none⟩) 4 4], ro 39 8 A21 es21.length c21 SpE.cells es21, ro 27 4 (some ⟨g1, 0, none⟩) 2 c1 MkE.cx ([ea, eb]), ro 3 1 (some ⟨g2, 0, none⟩) 2 c2 MkE.cu ([ea, eb]), .blk X52 39 [.bool r42.n, .slice r42.p r42.l r42.c, .bool r42.m, .slice r42.p2 r42.l2 r42.c2, .bool r47.n, .slice r47.p r47.l r47.c, .bool r47.m, .slice r47.p2 r47.l2 r47.c2], .blk X76 27 [.bool r67.n, .slice r67.p r67.l r67.c, .bool r67.m, .slice r67.p2 r67.l2 r67.c2, .bool r72.n, .slice r72.p r72.l r72.c, .bool r72.m, .slice r72.p2 r72.l2 r72.c2]] from hh)
 have D78 := zH (Dig.of_ext hx)
 have S80 := zH (S75.out.trans hx)
 clear hh hx hge
 refine ⟨S80.out, ?_⟩
 try simp only [Act.put, zA, zB, zC]
 have DD83 := zH ((((((((D38.out.trans D43.out).trans D48.out).trans D54.out).trans D61.out).trans D68.out).trans D73.out).trans D78.out))
 have DD84 := zH ((D73.out.trans D78.out))
 refine mC 11 (bs 29 4095) (sameAll_any 60000 (.slice (some ⟨g1, 0, none⟩) 2 c1) (.slice (some ⟨X76, 0, none⟩) 2 2) [(0 : Rat), (4 : Rat)] _ (by have hr_ : RowN w77 _ 27 4 (.slice (some ⟨g1, 0, none⟩) 2 c1) 2 (List.flatMap MkE.cx [ea, eb]) := H78.out.row (i := 3) (by rfl); have h := RsV.of_row (L := 60000) MkE.a MkE.q hr_ rfl (fun e_ he_ => by have h1 := ((HOKX.out e_ he_).dig DD83.out); exact ⟨h1.1, Nat.le_trans h1.2.1 (by decide)⟩); rwa [show List.map MkE.q [ea, eb] = [(0 : Rat), (4 : Rat)] from by have q1 : ea.q = 0 := congrArg Prod.fst HVA.out; have q2 : eb.q = 4 := congrArg Prod.fst HVB.out; simp [q1, q2]] at h) (by have hr_ : RowN w77 _ 27 4 (.slice (some ⟨X76, 0, none⟩) 2 2) 2 [.bool r67.n, .slice r67.p r67.l r67.c, .bool r67.m, .slice r67.p2 r67.l2 r67.c2, .bool r72.n, .slice r72.p r72.l r72.c, .bool r72.m, .slice r72.p2 r72.l2 r72.c2] := H78.out.litRow (i := 6) (by rfl) (by rfl) (by decide); have h := RsV.of_row (L := 60000) (es := [(⟨r67, 0, 0⟩ : MkE), ⟨r72, 4, 0⟩]) MkE.a MkE.q hr_ rfl (by simp only [List.forall_mem_cons, List.not_mem_nil, false_imp_iff, implies_true, and_true]; exact ⟨⟨(R67.out.dig DD84.out), (Nat.le_trans B67.out (by omega))⟩, (R72.out.dig D78.out), (Nat.le_trans B72.out (by omega))⟩); exact h) (by decide) (by decide)) ?_
 rintro e w82 ⟨rfl, hx⟩
 have H85 := zH (H78.out.step hx)
 have S87 := zH (S80.out.trans hx)
 clear hx
 refine zm S87.out ?_
 refine zx 12 (bs 29 8191) (.bool true) S87.out ?_
 refine zx 13 (bs 29 16383) (.bool true) S87.out ?_
 refine zx 14 (bs 29 32767) (.slice (some ⟨g2, 0, none⟩) 2 c2) S87.out ?_
 refine zx 15 (bs 29 65535) (.int .i64 2) S87.out ?_
 refine zu 16 (bs 29 131071) (v := .bool true) S87.out ?_ (hv := by intro w hSw; exact ezq (e := (dec_t (by have ob0 := hua.1; have ob1 := hua.2; have ob2 := hub.1; have ob3 := hub.2; have ob4 := hsum.1; have ob5 := hsum.2; omega))))
 refine zx 17 (bs 29 262143) (.bool true) S87.out ?_
 refine zx 18 (bs 29 524287) (.bool true) S87.out ?_
 refine zx 19 (bs 29 1048575) (.slice (some ⟨g2, 0, none⟩) 2 c2) S87.out ?_
 refine zu 20 (bs 29 2097151) (v := .pointer (some ⟨g2, 0 * 1, none⟩)) S87.out ?_ (hv := by intro w hSw; exact ezi (k := 0) Tryz.underlying32 (l := (by decide)) (f := (Nat.zero_add _).symm))
 refine zf 21 (bs 29 4194303) g2 (0 * 1) (.int .i64 ea.up) (H31.out.elem (f := MkE.cu) (i := 4) (by rfl) MkE.cu_len HEA.out) S87.out ?_
 refine zx 22 (bs 29 8388607) (.slice (some ⟨g2, 0, none⟩) 2 c2) S87.out ?_
 refine zu 23 (bs 29 16777215) (v := .pointer (some ⟨g2, 1 * 1, none⟩)) S87.out ?_ (hv := by intro w hSw; exact ezi (k := 1) Tryz.underlying32 (l := (by decide)) (f := (Nat.zero_add _).symm))
 refine zf 24 (bs 29 33554431) g2 (1 * 1) (.int .i64 eb.up) (H31.out.elem (f := MkE.cu) (i := 4) (by rfl) MkE.cu_len HEB.out) S87.out ?_
 refine zu 25 (bs 29 67108863) (v := .int .i64 (ea.up + eb.up)) S87.out ?_ (hv := by intro w hSw; exact ez1 (by have ob0 := hua.1; have ob1 := hua.2; have ob2 := hub.1; have ob3 := hub.2; have ob4 := hsum.1; have ob5 := hsum.2; omega))
 refine zu 26 (bs 29 134217727) (v := .bool true) S87.out ?_ (hv := by intro w hSw; exact ezq (e := (dec_t (by have ob0 := hua.1; have ob1 := hua.2; have ob2 := hub.1; have ob3 := hub.2; have ob4 := hsum.1; have ob5 := hsum.2; omega))))
 refine zx 27 (bs 29 268435455) (.bool true) S87.out ?_
 refine mX 28 (bs 29 536870911) (.bool true) S87.out ?_
 (try simp only [Act.put, List.setIfInBounds_toArray, List.set_cons_zero])
 refine wpAnyH_done (by kernel_rfl) ?_ _
 go_wp2_with fail
 go_ret
 exact ⟨rfl, H85.out.ext⟩

theorem q03FromInts (a b : Int) (w : World) (h1 : -9223372036854775808 ≤ a) (h2 : a ≤ 9223372036854775807) (h3 : -9223372036854775808 ≤ b) (h4 : b ≤ 9223372036854775807) (hb : b ≠ 0) :
    Calls Tryz.prog 69 #[.int .i64 a, .int .i64 b] w fun e w' => ∃ c, e = .returned (.tuple #[.agg c, .int .i64 0]) ∧ NIs w' c ((a : Rat) / (b : Rat)) ∧ Ext w w' := by
  refine (r3fromInts_any a b w h1 h2 h3 h4 hb).mono fun e w' h => ?_
  obtain ⟨c, rfl, h3, h4⟩ := RetRE.v h
  exact ⟨_, rfl, ⟨c, rfl, by rw [← Rat.divInt_eq_div]; exact h3⟩, h4⟩
theorem xat_other (ax ay bx bY : Int) (y : Rat) : (ax : Rat) + (((bx - ax : Int) : Rat) / ((bY - ay : Int) : Rat)) * (y - (ay : Rat)) = xatV ax ay bx bY y := by
  unfold xatV
  rw [Rat.div_def, Rat.div_def, show ((1 : Int) : Rat) = 1 from rfl]
  grind
theorem rl_quo {ax ay bx bY : Int} (ha : okPt ax ay = true) (hb : okPt bx bY = true) : Nm.rl (((bx - ax : Int) : Rat) / ((bY - ay : Int) : Rat)) ≤ 2 := by
  unfold okPt at ha hb
  simp only [Bool.and_eq_true, decide_eq_true_eq] at ha hb
  have q := Nm.rl_div ((bx - ax : Int) : Rat) ((bY - ay : Int) : Rat)
  have e3 := rlI (bY - ay) (by omega)
  have e4 := rlI (bx - ax) (by omega)
  omega
set_option maxRecDepth 20000 in
set_option maxHeartbeats 4000000 in
theorem rxat_any (L : Nat) (ax ay bx bY : Int) (ry : RV) (y : Rat) (w : World) (hy : ry.In L w y) (h1L : 1 ≤ L) (hL : L ≤ 2000) (ha : okPt ax ay = true) (hb : okPt bx bY = true) (hne : ay ≠ bY) (hlo : ((min ay bY : Int) : Rat) ≤ y) (hhi : y ≤ ((max ay bY : Int) : Rat)) :
  Calls Tryz.prog 44 #[.agg #[.int .i64 ax, .int .i64 ay], .agg #[.int .i64 bx, .int .i64 bY], .agg #[.bool ry.n, .slice ry.p ry.l ry.c, .bool ry.m, .slice ry.p2 ry.l2 ry.c2]] w fun e w' => ∃ r : RV, e = .returned (.tuple #[.agg #[.bool r.n, .slice r.p r.l r.c, .bool r.m, .slice r.p2 r.l2 r.c2], .bool true]) ∧ r.Is w' (xatV ax ay bx bY y) ∧ Ext w w' := by
 have HK := zH (show (-1048576 ≤ ax ∧ ax ≤ 1048576 ∧ -1048576 ≤ ay ∧ ay ≤ 1048576) ∧ (-1048576 ≤ bx ∧ bx ≤ 1048576 ∧ -1048576 ≤ bY ∧ bY ≤ 1048576) by have h1 := ha; have h2 := hb; unfold okPt at h1 h2; simp only [Bool.and_eq_true, decide_eq_true_eq] at h1 h2; omega)
 have RY := zH hy
 have HA := zH ha
 have HB := zH hb
 have HNE := zH hne
 have HLO := zH hlo
 have HHI := zH hhi
 clear hy ha hb hne hlo hhi
 go_enter Tryz.func44, Tryz.ntmps44
 have H0 := zH (Hp.start w)
 go_upto_region 0 with fail
 refine wp_region_lit ?_
 refine mv_alloc (T := 45) (zs := [.int .i64 ax, .int .i64 ay]) (by rfl) (by go_simp) H0.out (by simp [NoUL]) ?_
 intro X1 w2 hh hx hge
 have H3 := zH (show Hp w w2 [.blk X1 45 [.int .i64 ax, .int .i64 ay]] from hh)
 clear hh hx hge
 try simp only [Act.put, zA, zB, zC]
 refine mv_alloc (T := 45) (zs := [.int .i64 bx, .int .i64 bY]) (by rfl) (by go_simp) H3.out (by simp [NoUL]) ?_
 intro X6 w7 hh hx hge
 have H8 := zH (show Hp w w7 [.blk X1 45 [.int .i64 ax, .int .i64 ay], .blk X6 45 [.int .i64 bx, .int .i64 bY]] from hh)
 clear hh hx hge
 try simp only [Act.put, zA, zB, zC]
 refine mv_alloc (T := 27) (zs := [.bool ry.n, .slice ry.p ry.l ry.c, .bool ry.m, .slice ry.p2 ry.l2 ry.c2]) (by rfl) (by go_simp) H8.out (by simp [NoUL]) ?_
 intro X11 w12 hh hx hge
 have H13 := zH (show Hp w w12 [.blk X1 45 [.int .i64 ax, .int .i64 ay], .blk X6 45 [.int .i64 bx, .int .i64 bY], .blk X11 27 (rc ry)] from hh)
 clear hh hx hge
 try simp only [Act.put, zA, zB, zC]
 refine mv_alloc (T := 27) (zs := [.bool false, .slice none 0 0, .bool false, .slice none 0 0]) (by rfl) (by go_simp) H13.out (by simp [NoUL]) ?_
 intro X16 w17 hh hx hge
 have H18 := zH (show Hp w w17 [.blk X1 45 [.int .i64 ax, .int .i64 ay], .blk X6 45 [.int .i64 bx, .int .i64 bY], .blk X11 27 (rc ry), .blk X16 27 rz] from hh)
 clear hh hx hge
 try simp only [Act.put, zA, zB, zC]
 refine zq (.bool false) ?_
 go_upto_region 1 with fail
 refine zy ?_
 have H22 := zH (H18.out.step (Ext.refl w17).drew)
 refine zg 0 (bs 37 1) X1 (0) [.int .i64 ax, .int .i64 ay] (H18.out.range (i := 0) (by rfl) 0 2) Tryz.underlying45 zb ?_
 refine mC 1 (bs 37 3) (rvalid_any ax ay _) ?_
 rintro e w24 ⟨rfl, hx⟩
 have H25 := zH (H22.out.step hx)
 have S27 := zH (show Ext w17 w24 from zb.trans hx)
 clear hx
 refine ⟨.bool true, by rw [HA.out], S27.out, ?_⟩
 try simp only [Act.put, zA, zB, zC]
 refine zx 2 (bs 37 7) (.bool false) S27.out ?_
 refine mX 3 (bs 37 15) (.bool false) S27.out ?_
 refine zg 4 (bs 37 31) X6 (0) [.int .i64 bx, .int .i64 bY] (H18.out.range (i := 1) (by rfl) 0 2) Tryz.underlying45 S27.out ?_
 refine mC 5 (bs 37 63) (rvalid_any bx bY _) ?_
 rintro e w30 ⟨rfl, hx⟩
 have H31 := zH (H25.out.step hx)
 have S33 := zH (S27.out.trans hx)
 clear hx
 refine ⟨.bool true, by rw [HB.out], S33.out, ?_⟩
 try simp only [Act.put, zA, zB, zC]
 refine zx 6 (bs 37 127) (.bool false) S33.out ?_
 refine zx 7 (bs 37 255) (.bool false) S33.out ?_
 refine zx 8 (bs 37 511) (.bool false) S33.out ?_
 refine zx 9 (bs 37 1023) (.pointer (some ⟨X1, 1, none⟩)) S33.out ?_
 refine zf 10 (bs 37 2047) X1 1 (.int .i64 ay) (H18.out.range (i := 0) (by rfl) 1 1) S33.out ?_
 refine zx 11 (bs 37 4095) (.pointer (some ⟨X6, 1, none⟩)) S33.out ?_
 refine zf 12 (bs 37 8191) X6 1 (.int .i64 bY) (H18.out.range (i := 1) (by rfl) 1 1) S33.out ?_
 refine zu 13 (bs 37 16383) (v := .bool false) S33.out ?_ (hv := by intro w hSw; exact ezq (e := (dec_f HNE.out)))
 refine zx 14 (bs 37 32767) (.bool false) S33.out ?_
 refine mX 15 (bs 37 65535) (.bool false) S33.out ?_
 refine zg 16 (bs 37 131071) X11 (0) (rc ry) (H18.out.range (i := 2) (by rfl) 0 4) Tryz.underlying27 S33.out ?_
 refine zx 17 (bs 37 262143) (.pointer (some ⟨X1, 1, none⟩)) S33.out ?_
 refine zf 18 (bs 37 524287) X1 1 (.int .i64 ay) (H18.out.range (i := 0) (by rfl) 1 1) S33.out ?_
 refine zx 19 (bs 37 1048575) (.pointer (some ⟨X6, 1, none⟩)) S33.out ?_
 refine zf 20 (bs 37 2097151) X6 1 (.int .i64 bY) (H18.out.range (i := 1) (by rfl) 1 1) S33.out ?_
 refine zx 21 (bs 37 4194303) (.int .i64 (min ay bY)) S33.out ?_
 refine mC 22 (bs 37 8388607) (q03From (min ay bY) _ (by have ob0 := HK.out; have ob1 := HNE.out; omega) (by have ob0 := HK.out; have ob1 := HNE.out; omega)) ?_
 rintro e w45 ⟨c_, rfl, hc_, hx⟩
 have H47 := zH (H31.out.step hx)
 have S49 := zH (S33.out.trans hx)
 obtain ⟨r46, rfl, hr_⟩ := hc_
 have R46 := zH hr_
 have B46 := zH (rl_i64 (min ay bY) (by have ob0 := HK.out; have ob1 := HNE.out; omega) (by have ob0 := HK.out; have ob1 := HNE.out; omega))
 clear hr_
 clear hx
 refine zm S49.out ?_
 refine mC 23 (bs 37 16777215) (q03Cmp (L := 60000) (RV.In.nin (RV.In.mono (RY.out.dig H47.out.dig0) (by omega))) (RV.Is.nin R46.out (Nat.le_trans B46.out (by omega))) (by omega)) ?_
 rintro e w50 ⟨rfl, hx⟩
 have H51 := zH (H47.out.step hx)
 have S53 := zH (S49.out.trans hx)
 clear hx
 refine zm S53.out ?_
 refine zu 24 (bs 37 33554431) (v := .bool false) S53.out ?_ (hv := by intro w hSw; exact ezl (e := (dec_f (fun hh => (fun h_ => absurd h_ (Rat.not_lt.2 HLO.out)) (rcmp_lt.1 hh)))))
 refine zx 25 (bs 37 67108863) (.bool false) S53.out ?_
 refine mX 26 (bs 37 134217727) (.bool false) S53.out ?_
 refine zg 27 (bs 37 268435455) X11 (0) (rc ry) (H18.out.range (i := 2) (by rfl) 0 4) Tryz.underlying27 S53.out ?_
 refine zx 28 (bs 37 536870911) (.pointer (some ⟨X1, 1, none⟩)) S53.out ?_
 refine zf 29 (bs 37 1073741823) X1 1 (.int .i64 ay) (H18.out.range (i := 0) (by rfl) 1 1) S53.out ?_
 refine zx 30 (bs 37 2147483647) (.pointer (some ⟨X6, 1, none⟩)) S53.out ?_
 refine zf 31 (bs 37 4294967295) X6 1 (.int .i64 bY) (H18.out.range (i := 1) (by rfl) 1 1) S53.out ?_
 refine zx 32 (bs 37 8589934591) (.int .i64 (max ay bY)) S53.out ?_
 refine mC 33 (bs 37 17179869183) (q03From (max ay bY) _ (by have ob0 := HK.out; have ob1 := HNE.out; omega) (by have ob0 := HK.out; have ob1 := HNE.out; omega)) ?_
 rintro e w60 ⟨c_, rfl, hc_, hx⟩
 have H62 := zH (H51.out.step hx)
 have S64 := zH (S53.out.trans hx)
 obtain ⟨r61, rfl, hr_⟩ := hc_
 have R61 := zH hr_
 have B61 := zH (rl_i64 (max ay bY) (by have ob0 := HK.out; have ob1 := HNE.out; omega) (by have ob0 := HK.out; have ob1 := HNE.out; omega))
 clear hr_
 clear hx
 refine zm S64.out ?_
 refine mC 34 (bs 37 34359738367) (q03Cmp (L := 60000) (RV.In.nin (RV.In.mono (RY.out.dig H62.out.dig0) (by omega))) (RV.Is.nin R61.out (Nat.le_trans B61.out (by omega))) (by omega)) ?_
 rintro e w65 ⟨rfl, hx⟩
 have H66 := zH (H62.out.step hx)
 have S68 := zH (S64.out.trans hx)
 clear hx
 refine zm S68.out ?_
 refine zu 35 (bs 37 68719476735) (v := .bool false) S68.out ?_ (hv := by intro w hSw; exact ezg (e := (dec_f (fun hh => (fun h_ => absurd h_ (Rat.not_lt.2 HHI.out)) (rcmp_gt.1 hh)))))
 refine zx 36 (bs 37 137438953471) (.bool false) S68.out ?_
 refine wpAnyH_done (by kernel_rfl) ?_ _
 go_upto_region 3 with fail
 refine wp_region_lit ?_
 refine zq (.pointer (some ⟨X6, 0, none⟩)) ?_
 refine ze X6 0 (.int .i64 bx) (H66.out.range (i := 1) (by rfl) 0 1) ?_
 refine zq (.pointer (some ⟨X1, 0, none⟩)) ?_
 refine ze X1 0 (.int .i64 ax) (H66.out.range (i := 0) (by rfl) 0 1) ?_
 refine zp (w' := w65) (.int .i64 (bx - ax)) (by exact ez2 (by have ob0 := HK.out; have ob1 := HNE.out; omega)) ?_
 refine zq (.pointer (some ⟨X6, 1, none⟩)) ?_
 refine ze X6 1 (.int .i64 bY) (H66.out.range (i := 1) (by rfl) 1 1) ?_
 refine zq (.pointer (some ⟨X1, 1, none⟩)) ?_
 refine ze X1 1 (.int .i64 ay) (H66.out.range (i := 0) (by rfl) 1 1) ?_
 refine zp (w' := w65) (.int .i64 (bY - ay)) (by exact ez2 (by have ob0 := HK.out; have ob1 := HNE.out; omega)) ?_
 refine zc (q03FromInts (bx - ax) (bY - ay) _ (by have ob0 := HK.out; have ob1 := HNE.out; omega) (by have ob0 := HK.out; have ob1 := HNE.out; omega) (by have ob0 := HK.out; have ob1 := HNE.out; omega) (by have ob0 := HK.out; have ob1 := HNE.out; omega) (by have ob0 := HK.out; have ob1 := HNE.out; omega)) ?_
 rintro e w77 ⟨c_, rfl, hc_, hx⟩
 have H79 := zH (H66.out.step hx)
 obtain ⟨r78, rfl, hr_⟩ := hc_
 have R78 := zH hr_
 have B78 := zH (rl_quo HA.out HB.out)
 clear hr_
 clear hx
 refine zn ?_
 refine qV (.tuple #[.agg #[.bool r78.n, .slice r78.p r78.l r78.c, .bool r78.m, .slice r78.p2 r78.l2 r78.c2], .int .i64 0]) ?_
 refine zq (.agg #[.bool r78.n, .slice r78.p r78.l r78.c, .bool r78.m, .slice r78.p2 r78.l2 r78.c2]) ?_
 refine zq (.int .i64 0) ?_
 refine mv_alloc (T := 27) (zs := [.bool false, .slice none 0 0, .bool false, .slice none 0 0]) (by rfl) (by go_simp) H79.out (by simp [NoUL]) ?_
 intro X84 w85 hh hx hge
 have H86 := zH (show Hp w w85 [.blk X1 45 [.int .i64 ax, .int .i64 ay], .blk X6 45 [.int .i64 bx, .int .i64 bY], .blk X11 27 (rc ry), .blk X16 27 rz, .blk X84 27 rz] from hh)
 have D86 := zH (Dig.of_ext hx)
 clear hh hx hge
 try simp only [Act.put, zA, zB, zC]
 refine mv_st (by rfl) _ _ _ (by rfl) H86.out (ix := 4) (by rfl) 0 [.bool r78.n, .slice r78.p r78.l r78.c, .bool r78.m, .slice r78.p2 r78.l2 r78.c2] (by rfl) (by rfl) (by simp) (by kernel_rfl) (by simp [Value.oneCell']) (by simp [NoUL]) ?_
 intro w89 hh hd ho
 have H90 := zH (show Hp w w89 [.blk X1 45 [.int .i64 ax, .int .i64 ay], .blk X6 45 [.int .i64 bx, .int .i64 bY], .blk X11 27 (rc ry), .blk X16 27 rz, .blk X84 27 (rc r78)] from hh)
 have D90 := zH (hd)
 clear hh hd ho
 (try simp only [Act.put])
 refine zq (.int .i64 0) ?_
 go_upto_region 4 with fail
 refine wp_region_held_drew (S := fun x => Fr (fun kz => kz = X16) w89 x) (by kernel_rfl) (Fr.of_ext zb) (fun _ => ?_)
 have H93 := zH (H90.out.step (Ext.refl w89).drew)
 have D93 := zH (Dig.of_ext (w := w89) zb)
 refine zx 0 (bs 13 1) (.pointer (some ⟨X1, 0, none⟩)) (Fr.of_ext zb) ?_
 refine md_ld1 (g := X1) (o := 0) (v := .int .i64 ax) (i := 1) (listed' := (bs 13 3)) (by rfl) (by kernel_rfl) (by kernel_rfl) (by kernel_rfl) (by intro _ _ _ h; exact h) (by rfl) (fun x hx => Fr.cell hx (show World.cell? w89 ⟨X1, 0, none⟩ = some (.int .i64 ax) from cell_of_range (H90.out.range (i := 0) (by rfl) 0 1)) (H90.out.offBlk (i := 0) (j := 3) (by rfl) (by rfl) (by decide) (by rfl))) (by intro x hq; go_simp <;> with_reducible rfl) (Fr.of_ext zb) (by kernel_rfl) ?_
 refine mR 3 (bs 13 11) X84 (0) [.bool r78.n, .slice r78.p r78.l r78.c, .bool r78.m, .slice r78.p2 r78.l2 r78.c2] (fun x hx => Fr.range hx (show World.rangeAt w89 X84 (0) [.bool r78.n, .slice r78.p r78.l r78.c, .bool r78.m, .slice r78.p2 r78.l2 r78.c2] from (H90.out.range (i := 4) (by rfl) 0 4)) (H90.out.offBlk (i := 4) (j := 3) (by rfl) (by rfl) (by decide) (by rfl))) Tryz.underlying27 (Fr.of_ext zb) ?_
 refine zr 4 (bs 13 27) X11 (0) [.bool ry.n, .slice ry.p ry.l ry.c, .bool ry.m, .slice ry.p2 ry.l2 ry.c2] (fun x hx => Fr.range hx (show World.rangeAt w89 X11 (0) [.bool ry.n, .slice ry.p ry.l ry.c, .bool ry.m, .slice ry.p2 ry.l2 ry.c2] from (H90.out.range (i := 2) (by rfl) 0 4)) (H90.out.offBlk (i := 2) (j := 3) (by rfl) (by rfl) (by decide) (by rfl))) Tryz.underlying27 (Fr.of_ext zb) ?_
 refine zx 5 (bs 13 59) (.pointer (some ⟨X1, 1, none⟩)) (Fr.of_ext zb) ?_
 refine md_ld1 (g := X1) (o := 1) (v := .int .i64 ay) (i := 6) (listed' := (bs 13 123)) (by rfl) (by kernel_rfl) (by kernel_rfl) (by kernel_rfl) (by intro _ _ _ h; exact h) (by rfl) (fun x hx => Fr.cell hx (show World.cell? w89 ⟨X1, 1, none⟩ = some (.int .i64 ay) from cell_of_range (H90.out.range (i := 0) (by rfl) 1 1)) (H90.out.offBlk (i := 0) (j := 3) (by rfl) (by rfl) (by decide) (by rfl))) (by intro x hq; go_simp <;> with_reducible rfl) (Fr.of_ext zb) (by kernel_rfl) ?_
 try simp only [Act.put, zA, zB, zC]
 refine mC 2 (bs 13 127) (q03From ax _ (by have ob0 := HK.out; have ob1 := HNE.out; omega) (by have ob0 := HK.out; have ob1 := HNE.out; omega)) ?_
 rintro e w97 ⟨c_, rfl, hc_, hx⟩
 have H99 := zH (H93.out.step hx)
 have D99 := zH (show Dig w89.drew w97 from Dig.of_ext hx)
 have S102 := zH (show Fr (fun kz => kz = X16) w89 w97 from (Fr.of_ext zb).trans (Fr.of_ext hx))
 obtain ⟨r98, rfl, hr_⟩ := hc_
 have R98 := zH hr_
 have B98 := zH (rl_i64 ax (by have ob0 := HK.out; have ob1 := HNE.out; omega) (by have ob0 := HK.out; have ob1 := HNE.out; omega))
 clear hr_
 clear hx
 refine zm S102.out ?_
 refine mC 7 (bs 13 255) (q03From ay _ (by have ob0 := HK.out; have ob1 := HNE.out; omega) (by have ob0 := HK.out; have ob1 := HNE.out; omega)) ?_
 rintro e w103 ⟨c_, rfl, hc_, hx⟩
 have H105 := zH (H99.out.step hx)
 have D105 := zH (Dig.of_ext hx)
 have S108 := zH (show Fr (fun kz => kz = X16) w89 w103 from S102.out.trans (Fr.of_ext hx))
 obtain ⟨r104, rfl, hr_⟩ := hc_
 have R104 := zH hr_
 have B104 := zH (rl_i64 ay (by have ob0 := HK.out; have ob1 := HNE.out; omega) (by have ob0 := HK.out; have ob1 := HNE.out; omega))
 clear hr_
 clear hx
 refine zm S108.out ?_
 refine mC 8 (bs 13 511) (q03Sub (L := 60000) (RV.In.nin (RV.In.mono (RY.out.dig H105.out.dig0) (by omega))) (RV.Is.nin R104.out (Nat.le_trans B104.out (by omega))) (by omega)) ?_
 rintro e w109 ⟨c_, rfl, hc_, hx⟩
 have H111 := zH (H105.out.step hx)
 have D111 := zH (Dig.of_ext hx)
 have S114 := zH (show Fr (fun kz => kz = X16) w89 w109 from S108.out.trans (Fr.of_ext hx))
 obtain ⟨r110, rfl, hr_⟩ := hc_
 have R110 := zH hr_
 clear hr_
 have B110 := zH (show Nm.rl (y - (((ay) : Int) : Rat)) ≤ L + 2 + 1 from by have h1 := (show Nm.rl y ≤ L from by have h := (RY.out.dig H111.out.dig0).rl; omega); have h2 := B104.out; have h3 := Nm.rl_sub y (((ay) : Int) : Rat); omega)
 clear hx
 refine zm S114.out ?_
 have DD117 := zH ((((((D86.out.trans D90.out).trans D93.out).trans D99.out).trans D105.out).trans D111.out))
 refine mC 9 (bs 13 1023) (q03Mul (L := 60000) (RV.Is.nin (R78.out.dig DD117.out) (Nat.le_trans B78.out (by omega))) (RV.Is.nin R110.out (Nat.le_trans B110.out (by omega))) (by omega)) ?_
 rintro e w115 ⟨c_, rfl, hc_, hx⟩
 have H118 := zH (H111.out.step hx)
 have D118 := zH (Dig.of_ext hx)
 have S121 := zH (show Fr (fun kz => kz = X16) w89 w115 from S114.out.trans (Fr.of_ext hx))
 obtain ⟨r116, rfl, hr_⟩ := hc_
 have R116 := zH hr_
 clear hr_
 have B116 := zH (show Nm.rl ((((bx - ax : Int) : Rat) / ((bY - ay : Int) : Rat)) * (y - (((ay) : Int) : Rat))) ≤ 2 + (L + 2 + 1) from by have h1 := B78.out; have h2 := B110.out; have h3 := Nm.rl_mul (((bx - ax : Int) : Rat) / ((bY - ay : Int) : Rat)) (y - (((ay) : Int) : Rat)); omega)
 clear hx
 refine zm S121.out ?_
 have DD124 := zH (((D105.out.trans D111.out).trans D118.out))
 refine mC 10 (bs 13 2047) (q03Add (L := 60000) (RV.Is.nin (R98.out.dig DD124.out) (Nat.le_trans B98.out (by omega))) (RV.Is.nin R116.out (Nat.le_trans B116.out (by omega))) (by omega)) ?_
 rintro e w122 ⟨c_, rfl, hc_, hx⟩
 have H125 := zH (H118.out.step hx)
 have S128 := zH (show Fr (fun kz => kz = X16) w89 w122 from S121.out.trans (Fr.of_ext hx))
 obtain ⟨r123, rfl, hr_⟩ := hc_
 have R123 := zH hr_
 clear hr_
 clear hx
 refine zm S128.out ?_
 refine md_st (i := 11) (listed' := (bs 13 4095)) (by rfl) (by kernel_rfl) (by rfl) (by kernel_rfl) _ _ _ (by rfl) H125.out (ix := 3) (by rfl) 0 [.bool r123.n, .slice r123.p r123.l r123.c, .bool r123.m, .slice r123.p2 r123.l2 r123.c2] (by rfl) (by rfl) (by simp) (by kernel_rfl) (by simp [Value.oneCell']) (by simp [NoUL]) ?_
 intro w129 hh hd ho
 have H130 := zH (show Hp w w129 [.blk X1 45 [.int .i64 ax, .int .i64 ay], .blk X6 45 [.int .i64 bx, .int .i64 bY], .blk X11 27 (rc ry), .blk X16 27 (rc r123), .blk X84 27 (rc r78)] from hh)
 have D130 := zH (hd)
 have S132 := zH (show Fr (fun kz => kz = X16) w89 w129 from Fr.trans_new S128.out ho (fun j hj => .inl (by simpa using hj.symm)))
 clear hh hd ho
 refine ⟨S132.out, ?_⟩
 (try simp only [Act.put])
 refine zx 12 (bs 13 8191) (.bool true) S132.out ?_
 refine wpAnyH_done (by kernel_rfl) ?_ _
 go_wp2_with fail
 refine bodyPost_ret (v := .tuple #[.agg #[.bool r123.n, .slice r123.p r123.l r123.c, .bool r123.m, .slice r123.p2 r123.l2 r123.c2], .bool true]) ?_ rfl ⟨_, rfl, by rw [← xat_other]; exact (R123.out.dig D130.out), H130.out.ext⟩
 exact results_c1t1 rfl rfl ((H130.out.blk (i := 3) (by rfl)).loadVar rfl rfl (by rfl)) rfl
end Go.Proofs.YtmgibncehlpfkaaGreat

namespace Go.Proofs.YtmgibncehlpfkaaGreat
open Go.RowKit
attribute [local go_sem ↓] Go.wp_at_zero Go.wp_at_succ run_eql_point run_neq_point
set_option maxRecDepth 20000 in
set_option maxHeartbeats 4000000 in
theorem r16Valid_any (u : Value) (rs : List Ring) (w : World) (hu : RingsV w u rs) (hn : rs.length ≤ 100000) (hr : ∀ r, r ∈ rs → r.length ≤ 100000) :
    Calls Tryz.prog 42 #[u] w fun e w' => e = .returned (.bool (okR rs)) ∧ Ext w w' := by
  obtain ⟨A, cu, rfl, hA⟩ := hu
  have HA := zH hA
  have HR := zH hr
  clear hA hr
  go_enter Tryz.func42, Tryz.ntmps42
  go_wp2_with fail
  go_loopg [3, 4] rs.length (fun c n i wr => ∃ k m : Nat, k ≤ rs.length ∧ c = rs.length - k ∧ i = .int .i64 k ∧ n = .int .i64 m ∧ m = tot (rs.take k) ∧ m ≤ 4096 ∧ (∀ i r, i < k → rs[i]? = some r → okAll r = true) ∧ Ext w wr)
  case atStart => exact ⟨0, 0, Nat.zero_le _, rfl, rfl, rfl, rfl, Nat.zero_le _, fun i r h => absurd h (Nat.not_lt_zero _), Ext.refl _⟩
  case round =>
    obtain ⟨k, m, hk, rfl, rfl, rfl, hm, hm2, ho, hx⟩ := hrel
    have HO := zH ho
    have HX := zH hx
    have HM := zH hm
    clear ho hx hm
    by_cases hlt : k < rs.length
    · obtain ⟨r, hr⟩ : ∃ r, rs[k]? = some r := ⟨_, List.getElem?_eq_getElem hlt⟩
      obtain ⟨g, off, rfl, hp⟩ := HA.out (by omega)
      obtain ⟨B, cb, h1, h2⟩ := hp k r hr
      have c1 := HX.out.get h1
      have HC1 := zH c1
      have HP := zH (h2.ext HX.out)
      have HRL := zH (HR.out r (List.mem_of_getElem? hr))
      have HRK := zH hr
      have HTS := zH (tot_succ hr)
      have hlt2 : (k : Int) < (rs.length : Int) := by omega
      have HLT := zH hlt
      have hrl := HRL.out
      obtain ⟨m2, hm3⟩ : ∃ m2, m2 = m + r.length := ⟨_, rfl⟩
      have e1 : (m : Int) + (r.length : Int) = (m2 : Int) := by omega
      have wm : IntKind.i64.wrap (m2 : Int) = (m2 : Int) := by rw [IntKind.wrap_i64]; omega
      have ws : IntKind.i64.wrap (4096 - (m : Int)) = 4096 - (m : Int) := by rw [IntKind.wrap_i64]; omega
      have HM2 := zH (show m2 = tot (rs.take (k + 1)) by rw [HTS.out, ← HM.out]; exact hm3)
      have HM3 := zH hm3
      clear hp h1 h2 hr hlt
      by_cases hbig : 4096 < m2
      · have hbz : 4096 - (m : Int) < (r.length : Int) := by omega
        have HF := zH (okR_stop HRK.out (Or.inl (by rw [← HM2.out]; exact hbig)))
        clear hm3
        go_wp2_with fail
        go_ret
        exact ⟨by rw [HF.out]; rfl, HX.out⟩
      · have hbz : ¬ 4096 - (m : Int) < (r.length : Int) := by omega
        clear hm3
        go_wp2_with fail
        generalize wr = W0 at *
        go_loopg [5] r.length (fun c j wi => ∃ t : Nat, t ≤ r.length ∧ c = r.length - t ∧ j = .int .i64 t ∧ okAll (r.take t) = true ∧ Ext W0 wi)
        case atStart => exact ⟨0, Nat.zero_le _, rfl, rfl, rfl, Ext.refl _⟩
        case round =>
          obtain ⟨t, ht, rfl, rfl, hot, hxt⟩ := hrel
          have HOT := zH hot
          have HXT := zH hxt
          have c2 := HXT.out.get HC1.out
          clear hot hxt c1
          by_cases hlt3 : t < r.length
          · obtain ⟨A2, cap2, ev, hv⟩ := HP.out
            injection ev with ev1 ev2 ev3
            subst ev1 ev3
            clear ev2
            obtain ⟨g2, off2, rfl, hp2⟩ := hv (by rintro rfl; simp at hlt3)
            obtain ⟨d0, d1⟩ := (hp2.ext HXT.out) t hlt3
            have hgd : r.getD t (0, 0) = r[t] := by simp [List.getD, hlt3]
            rw [hgd] at d0 d1
            have HSU := zH (okAll_step r t hlt3 HOT.out)
            have HST := zH (okAll_stop r t hlt3)
            have hlt4 : (t : Int) < (r.length : Int) := by omega
            have HL3 := zH hlt3
            generalize r[t] = x at *
            clear hp2 hv hgd hlt3
            by_cases hok : okPt x.1 x.2 = true
            · have hb : (!okPt x.1 x.2) = false := by rw [hok]; rfl
              go_wp2_with (go_at_call 68; refine (rvalid_any _ _ _).mono ?_; rintro e w2 ⟨rfl, hx2⟩)
              go_roundg (r.length - (t + 1))
              case measure => have := HL3.out; omega
              case rel => exact ⟨t + 1, HL3.out, rfl, by go_num, HSU.out hok, HXT.out.trans hx2⟩
            · replace hok := eq_false_of_ne_true hok
              have hb : (!okPt x.1 x.2) = true := by rw [hok]; rfl
              have HF := zH (okR_stop HRK.out (Or.inr (HST.out hok)))
              go_wp2_with (go_at_call 68; refine (rvalid_any _ _ _).mono ?_; rintro e w2 ⟨rfl, hx2⟩)
              go_ret
              exact ⟨by rw [HF.out]; rfl, (HX.out.trans HXT.out).trans hx2⟩
          · have hge3 : ¬ (t : Int) < (r.length : Int) := by omega
            have HE := zH (okAll_end r t ht hlt3 HOT.out)
            go_wp2_with fail
            go_roundg (rs.length - (k + 1))
            case measure => have := HLT.out; omega
            case rel => exact ⟨k + 1, m2, HLT.out, rfl, by go_num, rfl, HM2.out, by omega, fun i r2 hi hr2 => by
              rcases Nat.lt_or_ge i k with h | h
              · exact HO.out i r2 h hr2
              · obtain rfl : i = k := by omega
                rw [HRK.out] at hr2
                injection hr2 with hr2
                rw [← hr2]; exact HE.out, HX.out.trans HXT.out⟩
    · obtain rfl : k = rs.length := by omega
      have HF := zH (okR_end (rs := rs) (by have h := HM.out; rw [List.take_of_length_le (Nat.le_refl _)] at h; omega) HO.out)
      have hge : ¬ (rs.length : Int) < (rs.length : Int) := by omega
      go_wp2_with fail
      go_ret
      exact ⟨by rw [HF.out]; rfl, HX.out⟩
end Go.Proofs.YtmgibncehlpfkaaGreat

namespace Go.Proofs.YtmgibncehlpfkaaGreat
open Go.RowKit
attribute [local go_sem ↓] Go.wp_at_zero Go.wp_at_succ run_max_ii run_min_ii
theorem ev_rem {P : Program} {ρ : Operand → Value} {o : Oper} {w : World} {A B E : Int} {t t' : TypeId} {x y : Operand} (ho : o.op = .binOp .rem t x y t') (hx : ρ x = .int .i64 A) (hy : ρ y = .int .i64 B) (hB : B ≠ 0) (hE : A.tmod B = E) (_h1 : -9223372036854775808 ≤ E) (_h2 : E ≤ 9223372036854775807) : (execOp ρ o).run P w = .ok (.value (.int .i64 E)) w := by
  unfold execOp
  simp only [ho, hx, hy]
  simp [go_sem, hB, hE]
theorem ev_neqpt {ρ : Operand → Value} {o : Oper} {w : World} {a b c d : Int} {bb : Bool} {t' : TypeId} {x y : Operand} (ho : o.op = .binOp .neq 45 x y t') (hx : ρ x = .agg #[.int .i64 a, .int .i64 b]) (hy : ρ y = .agg #[.int .i64 c, .int .i64 d]) (h : (!(a == c && b == d)) = bb) :
    (execOp ρ o).run Tryz.prog w = .ok (.value (.bool bb)) w := by
  subst h
  unfold execOp
  simp only [ho, hx, hy]
  simp [go_sem, run_neq_point]

def edC (e : Edge) : List Value := [.int .i64 e.1.1, .int .i64 e.1.2, .int .i64 e.2.1, .int .i64 e.2.2]
theorem edC_len (e : Edge) : (edC e).length = 4 := rfl
theorem range_one {w : World} {g o : Nat} {v : Value} (h : w.cell? ⟨g, o, none⟩ = some v) : w.rangeAt g o [v] := by
  intro j u hj
  match j, hj with
  | 0, hj => injection hj with hj; rw [← hj]; exact h
  | k + 1, hj => simp at hj
theorem range_pt {w : World} {g off i : Nat} {ps : List (Int × Int)} {a : Int × Int} (h : PtsAt w g off ps) (hi : ps[i]? = some a) : w.rangeAt g (off + i * 2) [.int .i64 a.1, .int .i64 a.2] := by
  have hl := (List.getElem?_eq_some_iff.1 hi).1
  have h1 := h i hl
  have e : ps.getD i (0, 0) = a := by rw [List.getD_eq_getElem?_getD, hi]; rfl
  rw [e] at h1
  intro j u hj
  match j, hj with
  | 0, hj => injection hj with hj; rw [← hj]; exact h1.1
  | 1, hj => injection hj with hj; rw [← hj]; exact h1.2
  | k + 2, hj => simp at hj
theorem edge_bound {rs : List Ring} {k n : Nat} {r : Ring} (hok : okR rs = true) (h : rs[k]? = some r) (hn : n ≤ r.length) : (edgesV (rs.take k) ++ ringEn r n).length ≤ 4096 :=
  Nat.le_trans (edges_pre h hn).length_le (Nat.le_trans (edgesV_len rs) (okR_tot hok))
def edgesOf (rs : List Ring) : List Edge := edgesV (if okR rs = true then rs else [])
theorem edgesOf_t {rs : List Ring} (h : okR rs = true) : edgesOf rs = edgesV rs := by unfold edgesOf; rw [if_pos h]
theorem edgesOf_f {rs : List Ring} (h : ¬ okR rs = true) : edgesOf rs = [] := by unfold edgesOf; rw [if_neg h]; rfl
theorem zo {P : Program} {l : List Oper} {Q : Exit → Act → World → Prop} {md : Region.Mode} {S : World → Prop} {oi : Oper} {fuel : Nat} {listed : Array Bool} {a : Act} {w : World} {v : Value} (i : Nat) (listed' : Array Bool) (hS : S w) (h : wpAnyH P md l.toArray Q S fuel listed' (a.put oi.dst v) w) (hi : l[i]? = some oi := by rfl) (hs : Region.noSelect l.toArray = true := by kernel_rfl) (hf : Region.free md l.toArray listed i = true := by kernel_rfl) (hr : (Region.ready md l.toArray listed).contains i = true := by kernel_rfl) (hv : ∀ w, S w → (execOp a.eval oi).run P w = .ok (.value v) w) (hQ : ∀ c a w, Q (.panic c) (a.put oi.dst v) w → Q (.panic c) a w := by intro _ _ _ h; exact h) (hw : Region.wanted oi (yielded l.toArray a.tmps) = true := by rfl) (hl : listed.setIfInBounds i true = listed' := by kernel_rfl) : wpAnyH P md l.toArray Q S (fuel + 1) listed a w := md_val hi hs hf hr hQ hw hv hS hl h
set_option maxRecDepth 20000 in
set_option maxHeartbeats 4000000 in
theorem redges_any (u : Value) (rs : List Ring) (w : World) (hu : RingsV w u rs) (hn : rs.length ≤ 100000) (hr : ∀ r, r ∈ rs → r.length ≤ 100000) :
  Calls Tryz.prog 43 #[u] w fun e w' => ∃ A n c, e = .returned (.slice A n c) ∧ n = (edgesOf rs).length ∧ RowN w' w.heap.size 80 4 (.slice A n c) n (List.flatMap edC (edgesOf rs)) ∧ Ext w w' := by
 have HU := zH hu
 have HN := zH hn
 have HR := zH hr
 obtain ⟨A, cu, rfl, hA⟩ := hu
 have HA := zH hA
 clear hA hr
 go_enter Tryz.func43, Tryz.ntmps43
 have H0 := zH (Hp.start w)
 by_cases c1 : okR rs = true
 ·have HV := zH c1
  clear c1
  go_upto_region 0 with fail
  refine wp_region_lit ?_
  refine zq (.slice none 0 0) ?_
  go_upto_region 1 with fail
  refine wp_region_lit ?_
  refine zq (.slice none 0 0) ?_
  have H4 := zH (show Hp w w [ro 80 4 none 0 0 edC ([])] from H0.out.addNil 80 4)
  go_upto_region 2 with fail
  refine wp_region_lit ?_
  refine qV (.slice A rs.length cu) ?_
  refine zc (r16Valid_any _ rs _ (HU.out.ext H4.out.ext) HN.out HR.out) ?_
  rintro e w6 ⟨rfl, hx⟩
  have H7 := zH (H4.out.step hx)
  clear hx
  refine ⟨.bool true, by rw [HV.out], ?_⟩
  try simp only [Act.put, zA, zB, zC]
  refine zq (.bool false) ?_
  go_wp2_with fail
  go_loopg [3, 4] (rs.length) (fun cq v10 v11 wr => ∃ (i : Nat) (m : Nat) (es : List Edge) (A1 : Option Addr) (c1 : Nat), cq = rs.length - i ∧ v10 = .slice A1 m c1 ∧ v11 = .int .i64 (i : Int) ∧ (i ≤ rs.length) ∧ (m = es.length) ∧ (es = edgesV (rs.take i)) ∧ Hp w wr [.row 80 4 (.slice A1 m c1) (m) (List.flatMap edC es)] ∧ Dig w6 wr)
  case atStart => exact ⟨0, 0, [], none, 0, rfl, rfl, rfl, Nat.zero_le _, rfl, rfl, H7.out, Dig.refl _⟩
  case round =>
   obtain ⟨i, m, es, A1, c1, rfl, rfl, rfl, q_HKI, q_HM, q_HES, hh_, hd_⟩ := hrel
   generalize wr = w12 at *
   have HKI := zH q_HKI
   clear q_HKI
   have HM := zH q_HM
   clear q_HM
   have HES := zH q_HES
   clear q_HES
   have H14 := zH hh_
   have D14 := zH hd_
   clear hh_ hd_ H7
   by_cases c15 : i < rs.length
   ·have HLT := zH c15
    clear c15
    have hlt := HLT.out
    have hlt2 : (i : Int) < (rs.length : Int) := by omega
    obtain ⟨r, hri_⟩ : ∃ r, rs[i]? = some r := ⟨_, List.getElem?_eq_getElem hlt⟩
    have HRI := zH hri_
    have hrl := HR.out r (List.mem_of_getElem? hri_)
    obtain ⟨g, off, rfl, hp_⟩ := HA.out (by omega)
    obtain ⟨B, cb, h1_, A2_, cb2_, hv_, h2_⟩ := hp_ i r hri_
    injection hv_ with e1_ e2_ e3_
    subst e1_
    have HRC := zH h1_
    have HPT := zH h2_
    clear hri_ hp_ h1_ h2_ e2_ e3_
    go_upto_region 7 with fail
    refine wp_region_lit ?_
    refine zq (.int .i64 0) ?_
    go_wp2_with fail
    go_loopg [3, 5] (r.length) (fun cq v17 v18 wr => ∃ (k : Nat) (m2 : Nat) (es2 : List Edge) (A2 : Option Addr) (c2 : Nat), cq = r.length - k ∧ v17 = .slice A2 m2 c2 ∧ v18 = .int .i64 (k : Int) ∧ (k ≤ r.length) ∧ (m2 = es2.length) ∧ (es2 = edgesV (rs.take i) ++ ringEn r k) ∧ Hp w wr [.row 80 4 (.slice A2 m2 c2) (m2) (List.flatMap edC es2)] ∧ Dig w12 wr)
    case atStart => exact ⟨0, m, es, A1, c1, rfl, rfl, rfl, Nat.zero_le _, HM.out, (by rw [HES.out]; simp [ringEn]), H14.out, Dig.refl _⟩
    case round =>
     obtain ⟨k, m2, es2, A2, c2, rfl, rfl, rfl, q_HKU, q_HM2, q_HES2, hh_, hd_⟩ := hrel
     generalize wr = w19 at *
     have HKU := zH q_HKU
     clear q_HKU
     have HM2 := zH q_HM2
     clear q_HM2
     have HES2 := zH q_HES2
     clear q_HES2
     have H21 := zH hh_
     have D21 := zH hd_
     clear hh_ hd_ H14
     by_cases c22 : k < r.length
     ·have HLU := zH c22
      clear c22
      have hlu := HLU.out
      have hr0 : r ≠ [] := by intro h_; rw [h_] at hlu; simp at hlu
      obtain ⟨gr, ofr, rfl, hpa_⟩ := HPT.out hr0
      have HPA := zH hpa_
      obtain ⟨⟨a0, a1⟩, ha_⟩ : ∃ a, r[k]? = some a := ⟨_, List.getElem?_eq_getElem hlu⟩
      have hmod : (k + 1) % r.length < r.length := Nat.mod_lt _ (by omega)
      obtain ⟨⟨b0, b1⟩, hb_⟩ : ∃ b, r[(k + 1) % r.length]? = some b := ⟨_, List.getElem?_eq_getElem hmod⟩
      have HED := zH (edgeAt_some ha_ hb_)
      have HPK := zH (range_pt hpa_ ha_)
      have HPJ := zH (range_pt hpa_ hb_)
      have HREM := zH (show (((k + 1 : Nat) : Int)).tmod (r.length : Int) = (((k + 1) % r.length : Nat) : Int) by rw [Int.tmod_eq_emod_of_nonneg (by omega)]; simp)
      have HLE := zH (show m2 ≤ 4096 by rw [HM2.out, HES2.out]; exact edge_bound HV.out HRI.out (Nat.le_of_lt hlu))
      clear ha_ hb_ hpa_ hr0
      dsimp only at HPK HPJ
      generalize hj_ : (k + 1) % r.length = j at *
      clear hj_
      go_upto_region 8 with fail
      refine wp_region_lit ?_
      refine qV (.int .i64 (k : Int)) ?_
      refine zq (.slice (some ⟨g, off, none⟩) rs.length cu) ?_
      refine zq (.int .i64 (i : Int)) ?_
      refine zp (w' := w19) (.pointer (some ⟨g, off + i, none⟩)) (by exact ezi (k := i) Tryz.underlying22 (l := hlt) (f := (show off + i = off + i * 1 by omega))) ?_
      refine ze g (off + i) (.slice (some ⟨gr, ofr, none⟩) r.length cb) (range_one (H21.out.ext.get HRC.out)) ?_
      refine zq (.int .i64 ((r.length : Nat) : Int)) ?_
      refine zp (w' := w19) (.bool true) (by exact ezl (e := (dec_t (by have ob5 := HLE.out; omega)))) ?_
      go_upto_region 10 with fail
      refine wp_region_lit ?_
      refine qV (.slice (some ⟨g, off, none⟩) rs.length cu) ?_
      refine zq (.int .i64 (i : Int)) ?_
      refine zp (w' := w19) (.pointer (some ⟨g, off + i, none⟩)) (by exact ezi (k := i) Tryz.underlying22 (l := hlt) (f := (show off + i = off + i * 1 by omega))) ?_
      refine ze g (off + i) (.slice (some ⟨gr, ofr, none⟩) r.length cb) (range_one (H21.out.ext.get HRC.out)) ?_
      refine zq (.int .i64 (k : Int)) ?_
      refine zp (w' := w19) (.pointer (some ⟨gr, ofr + k * 2, none⟩)) (by exact ezi (k := k) Tryz.underlying43 (l := hlu) (f := rfl)) ?_
      refine zd gr (ofr + k * 2) [.int .i64 a0, .int .i64 a1] (range_ext HPK.out H21.out.ext) Tryz.underlying45 ?_
      refine mv_alloc (T := 45) (zs := [.int .i64 0, .int .i64 0]) (by rfl) (by go_simp) H21.out (by simp [NoUL]) ?_
      intro X34 w35 hh hx hge
      have H36 := zH (show Hp w w35 [ro 80 4 A2 m2 c2 edC es2, .blk X34 45 [.int .i64 0, .int .i64 0]] from hh)
      have D36 := zH (Dig.of_ext hx)
      clear hh hx hge
      try simp only [Act.put, zA, zB, zC]
      refine mv_st (by rfl) _ _ _ (by rfl) H36.out (ix := 1) (by rfl) 0 [.int .i64 a0, .int .i64 a1] (by rfl) (by rfl) (by simp) (by kernel_rfl) (by simp [Value.oneCell']) (by simp [NoUL]) ?_
      intro w39 hh hd ho
      have H40 := zH (show Hp w w39 [ro 80 4 A2 m2 c2 edC es2, .blk X34 45 [.int .i64 a0, .int .i64 a1]] from hh)
      have D40 := zH (hd)
      clear hh hd ho
      (try simp only [Act.put])
      go_upto_region 11 with fail
      refine zy ?_
      have H42 := zH (H40.out.step (Ext.refl w39).drew)
      have D42 := zH (Dig.of_ext (w := w39) zb)
      refine zx 0 (bs 16 1) (.slice (some ⟨g, off, none⟩) rs.length cu) zb ?_
      refine zx 1 (bs 16 3) (.int .i64 (i : Int)) zb ?_
      refine zu 2 (bs 16 7) (v := .pointer (some ⟨g, off + i, none⟩)) zb ?_ (hv := by intro w hSw; exact ezi (k := i) Tryz.underlying22 (l := hlt) (f := (show off + i = off + i * 1 by omega)))
      refine zf 3 (bs 16 15) g (off + i) (.slice (some ⟨gr, ofr, none⟩) r.length cb) (range_one (H40.out.ext.get HRC.out)) zb ?_
      refine zx 4 (bs 16 31) (.int .i64 (k : Int)) zb ?_
      refine zu 5 (bs 16 63) (v := .int .i64 ((k + 1 : Nat) : Int)) zb ?_ (hv := by intro w hSw; exact ez1 (by have ob5 := HLE.out; omega))
      refine zx 6 (bs 16 127) (.slice (some ⟨g, off, none⟩) rs.length cu) zb ?_
      refine zx 7 (bs 16 255) (.int .i64 (i : Int)) zb ?_
      refine zu 8 (bs 16 511) (v := .pointer (some ⟨g, off + i, none⟩)) zb ?_ (hv := by intro w hSw; exact ezi (k := i) Tryz.underlying22 (l := hlt) (f := (show off + i = off + i * 1 by omega)))
      refine zf 9 (bs 16 1023) g (off + i) (.slice (some ⟨gr, ofr, none⟩) r.length cb) (range_one (H40.out.ext.get HRC.out)) zb ?_
      refine zx 10 (bs 16 2047) (.int .i64 ((r.length : Nat) : Int)) zb ?_
      refine zu 11 (bs 16 4095) (v := .int .i64 (j : Int)) zb ?_ (hv := by intro w hSw; exact ev_rem (by rfl) (by rfl) (by rfl) (by omega) HREM.out (by omega) (by omega))
      refine zo 12 (bs 16 8191) (v := .pointer (some ⟨gr, ofr + j * 2, none⟩)) zb ?_ (hv := by intro w hSw; exact ezi (k := j) Tryz.underlying43 (l := hmod) (f := rfl))
      refine zg 13 (bs 16 16383) gr (ofr + j * 2) [.int .i64 b0, .int .i64 b1] (range_ext HPJ.out H40.out.ext) Tryz.underlying45 zb ?_
      refine md_alloc (T := 45) (zs := [.int .i64 0, .int .i64 0]) (i := 14) (listed' := (bs 16 32767)) (by rfl) (by kernel_rfl) (by rfl) (by go_simp) (by kernel_rfl) H42.out (by simp [NoUL]) ?_
      intro X55 w56 hh hx hge
      have H57 := zH (show Hp w w56 [ro 80 4 A2 m2 c2 edC es2, .blk X34 45 [.int .i64 a0, .int .i64 a1], .blk X55 45 [.int .i64 0, .int .i64 0]] from hh)
      have D57 := zH (show Dig w39.drew w56 from Dig.of_ext hx)
      have S60 := zH (show Ext w39 w56 from zb.trans hx)
      have G59 := zH (show w39.heap.size ≤ X55 from Nat.le_trans zb.size hge)
      clear hh hx hge
      refine ⟨S60.out, ?_⟩
      try simp only [Act.put, zA, zB, zC]
      refine md_st (i := 15) (listed' := (bs 16 65535)) (by rfl) (by kernel_rfl) (by rfl) (by kernel_rfl) _ _ _ (by rfl) H57.out (ix := 2) (by rfl) 0 [.int .i64 b0, .int .i64 b1] (by rfl) (by rfl) (by simp) (by kernel_rfl) (by simp [Value.oneCell']) (by simp [NoUL]) ?_
      intro w61 hh hd ho
      have H62 := zH (show Hp w w61 [ro 80 4 A2 m2 c2 edC es2, .blk X34 45 [.int .i64 a0, .int .i64 a1], .blk X55 45 [.int .i64 b0, .int .i64 b1]] from hh)
      have D62 := zH (hd)
      have S64 := zH (show Ext w39 w61 from Own.ext ho S60.out G59.out)
      clear hh hd ho
      refine ⟨S64.out, ?_⟩
      (try simp only [Act.put])
      refine wpAnyH_done (by kernel_rfl) ?_ _
      by_cases c65 : (a0, a1) = (b0, b1)
      ·have C := zH c65
       clear c65
       go_upto_region 12 with fail
       refine wp_region_lit ?_
       refine zd X34 (0) [.int .i64 a0, .int .i64 a1] (H62.out.range (i := 1) (by rfl) 0 2) Tryz.underlying45 ?_
       refine zd X55 (0) [.int .i64 b0, .int .i64 b1] (H62.out.range (i := 2) (by rfl) 0 2) Tryz.underlying45 ?_
       refine zp (w' := w61) (.bool false) (by exact ev_neqpt (by rfl) (by rfl) (by rfl) (by have h_ := C.out; injection h_ with h1_ h2_; simp [h1_, h2_])) ?_
       have DD67 := zH ((((((D21.out.trans D36.out).trans D40.out).trans D42.out).trans D57.out).trans D62.out))
       go_wp2_with fail
       go_roundg (r.length - (k + 1))
       case measure => exact (by have ob5 := HLE.out; omega)
       case rel => exact ⟨k + 1, m2, es2, A2, c2, rfl, rfl, (by go_num), hlu, HM2.out, (by rw [HES2.out, ringEn_succ_none (HED.out.trans (if_pos C.out))]), H62.out.take 1, DD67.out⟩
      have C := zH c65
      clear c65
      go_upto_region 12 with fail
      refine wp_region_lit ?_
      refine zd X34 (0) [.int .i64 a0, .int .i64 a1] (H62.out.range (i := 1) (by rfl) 0 2) Tryz.underlying45 ?_
      refine zd X55 (0) [.int .i64 b0, .int .i64 b1] (H62.out.range (i := 2) (by rfl) 0 2) Tryz.underlying45 ?_
      refine zp (w' := w61) (.bool true) (by exact ev_neqpt (by rfl) (by rfl) (by rfl) (by have h_ := C.out; simp only [Bool.not_eq_true', Bool.and_eq_false_iff, beq_eq_false_iff_ne]; exact (Classical.em (a0 = b0)).elim (fun q_ => .inr (fun q2_ => h_ (by rw [q_, q2_]))) .inl)) ?_
      go_upto_region 13 with fail
      refine wp_region_lit ?_
      refine qV (.slice A2 m2 c2) ?_
      refine zd X34 (0) [.int .i64 a0, .int .i64 a1] (H62.out.range (i := 1) (by rfl) 0 2) Tryz.underlying45 ?_
      refine zd X55 (0) [.int .i64 b0, .int .i64 b1] (H62.out.range (i := 2) (by rfl) 0 2) Tryz.underlying45 ?_
      refine zq (.agg #[.int .i64 a0, .int .i64 a1, .int .i64 b0, .int .i64 b1]) ?_
      refine zp (w' := (w61.alloc (.cells ([.int .i64 a0, .int .i64 a1, .int .i64 b0, .int .i64 b1] : List Value).toArray 80))) (.slice (some ⟨w61.heap.size, 0, none⟩) 1 1) (by go_simp) ?_
      refine mv_app (by rfl) _ _ _ (by rfl) elPP (by rfl) H62.out (ix := 0) (by rfl) 1 1 [.int .i64 a0, .int .i64 a1, .int .i64 b0, .int .i64 b1] (by rfl) rfl (by simp [Value.oneCell']) (by simp [NoUL]) (by decide) (by unfold maxLen; exact (by have ob5 := HLE.out; omega)) (by have ob5 := HLE.out; omega) ?_
      intro g72 cp73 w71 hf hh hd hg
      have Fg72 := zH hf
      clear hf
      rw [show List.flatMap edC es2 ++ [.int .i64 a0, .int .i64 a1, .int .i64 b0, .int .i64 b1] = _ from flat_snoc edC _ ((a0, a1), (b0, b1))] at hh
      have H74 := zH (show Hp w w71 [ro 80 4 (some ⟨g72, 0, none⟩) (m2 + 1) cp73 edC (es2 ++ [((a0, a1), (b0, b1))]), .blk X34 45 [.int .i64 a0, .int .i64 a1], .blk X55 45 [.int .i64 b0, .int .i64 b1]] from hh)
      have D74 := zH (hd)
      clear hh hd hg
      try simp only [Act.put, zA, zB, zC]
      refine zq (.slice (some ⟨g72, 0, none⟩) (m2 + 1) cp73) ?_
      have DD77 := zH (((((((D21.out.trans D36.out).trans D40.out).trans D42.out).trans D57.out).trans D62.out).trans D74.out))
      go_wp2_with fail
      go_roundg (r.length - (k + 1))
      case measure => exact (by have ob5 := HLE.out; omega)
      case rel => exact ⟨k + 1, m2 + 1, es2 ++ [((a0, a1), (b0, b1))], some ⟨g72, 0, none⟩, cp73, rfl, rfl, (by go_num), hlu, (by rw [List.length_append, HM2.out]; rfl), (by rw [HES2.out, ringEn_succ_some (HED.out.trans (if_neg C.out)), List.append_assoc]), H74.out.take 1, DD77.out⟩
     have HLU := zH c22
     clear c22
     have hlu := HLU.out
     have hku := HKU.out
     obtain rfl : k = r.length := by omega
     go_upto_region 8 with fail
     refine wp_region_lit ?_
     refine qV (.int .i64 ((r.length : Nat) : Int)) ?_
     refine zq (.slice (some ⟨g, off, none⟩) rs.length cu) ?_
     refine zq (.int .i64 (i : Int)) ?_
     refine zp (w' := w19) (.pointer (some ⟨g, off + i, none⟩)) (by exact ezi (k := i) Tryz.underlying22 (l := hlt) (f := (show off + i = off + i * 1 by omega))) ?_
     refine ze g (off + i) (.slice B r.length cb) (range_one (H21.out.ext.get HRC.out)) ?_
     refine zq (.int .i64 ((r.length : Nat) : Int)) ?_
     refine zp (w' := w19) (.bool false) (by exact ezl (e := (dec_f (Int.lt_irrefl _)))) ?_
     have DD84 := zH ((D14.out.trans D21.out))
     go_wp2_with fail
     go_roundg (rs.length - (i + 1))
     case measure => exact (by omega)
     case rel => exact ⟨i + 1, m2, es2, A2, c2, rfl, rfl, (by go_num), hlt, HM2.out, (by rw [HES2.out, edgesV_take HRI.out]), H21.out, DD84.out⟩
   have HLT := zH c15
   clear c15
   have hlt := HLT.out
   have hki := HKI.out
   obtain rfl : i = rs.length := by omega
   have hge : ¬ (rs.length : Int) < (rs.length : Int) := by omega
   have HEE := zH (show es = edgesOf rs by rw [HES.out, List.take_length, edgesOf_t HV.out])
   go_upto_region 14 with fail
   refine wp_region_lit ?_
   refine qV (.slice A1 m c1) ?_
   refine zq (.slice A1 m c1) ?_
   go_wp2_with fail
   go_ret
   exact ⟨A1, m, c1, rfl, by rw [HM.out, HEE.out], by rw [← HEE.out]; exact H14.out.row (i := 0) (by rfl), H14.out.ext⟩
 have HV := zH c1
 clear c1
 go_upto_region 0 with fail
 refine wp_region_lit ?_
 refine zq (.slice none 0 0) ?_
 go_upto_region 1 with fail
 refine wp_region_lit ?_
 refine zq (.slice none 0 0) ?_
 go_upto_region 2 with fail
 refine wp_region_lit ?_
 refine qV (.slice A rs.length cu) ?_
 refine zc (r16Valid_any _ rs _ (HU.out.ext H0.out.ext) HN.out HR.out) ?_
 rintro e w90 ⟨rfl, hx⟩
 have H91 := zH (H0.out.step hx)
 clear hx
 refine ⟨.bool false, by rw [Bool.eq_false_iff.2 HV.out], ?_⟩
 try simp only [Act.put, zA, zB, zC]
 refine zq (.bool true) ?_
 go_upto_region 3 with fail
 refine wp_region_lit ?_
 refine qV (.slice none 0 0) ?_
 refine zq (.slice none 0 0) ?_
 go_wp2_with fail
 go_ret
 exact ⟨none, 0, 0, rfl, by rw [edgesOf_f HV.out]; rfl, by rw [edgesOf_f HV.out]; exact RowN.nil _ _ _ _, H91.out.ext⟩
end Go.Proofs.YtmgibncehlpfkaaGreat

namespace Go.Proofs.YtmgibncehlpfkaaGreat
open Go.RowKit Go.Deep

section
variable {P : Program} {w0 w : World} {m : List Ent} {ix : Nat} {a : Act} {Q : Exit → Act → World → Prop}
end

def SpE.OkI (L : Nat) (w : World) (e : SpE) : Prop := e.a.In L w e.p ∧ e.b.In L w e.q
theorem SpE.Ok.i {L : Nat} {w : World} {e : SpE} (h : e.Ok L w) : e.OkI L w := ⟨h.1.isIn h.2.2.1, h.2.1.isIn h.2.2.2⟩
theorem SpE.OkI.ext {L : Nat} {w w' : World} {e : SpE} (h : e.OkI L w) (x : Ext w w') : e.OkI L w' := ⟨h.1.ext x, h.2.ext x⟩
theorem choose_list {α : Type} [Inhabited α] (n : Nat) (p : Nat → α → Prop) (h : ∀ i, i < n → ∃ x, p i x) : ∃ l : List α, l.length = n ∧ ∀ i x, l[i]? = some x → p i x := by
 induction n with
 | zero => exact ⟨[], rfl, fun i x hx => by simp at hx⟩
 | succ n ih =>
  obtain ⟨l, h1, h2⟩ := ih (fun i hi => h i (by omega))
  obtain ⟨x, hx⟩ := h n (by omega)
  refine ⟨l ++ [x], by simp [h1], fun i y hy => ?_⟩
  by_cases hi : i < l.length
  ·rw [List.getElem?_append_left hi] at hy
   exact h2 i y hy
  rw [List.getElem?_append_right (by omega)] at hy
  have : i - l.length = 0 := by
   have := (List.getElem?_eq_some_iff.1 hy).1
   simp at this
   omega
  rw [this] at hy
  obtain rfl : x = y := by simpa using hy
  obtain rfl : i = n := by omega
  exact hx
instance : Inhabited SpE := ⟨⟨⟨false, none, 0, 0, false, none, 0, 0⟩, ⟨false, none, 0, 0, false, none, 0, 0⟩, 0, 0⟩⟩
theorem SpansV.list {L : Nat} {w : World} {v : Value} {ps : List (Rat × Rat)} (h : SpansV L w v ps) :
  ∃ (A : Option Addr) (cap : Nat) (es : List SpE), v = .slice A es.length cap ∧ es.map SpE.vl = ps ∧ (0 < es.length → ∃ ad, A = some ad ∧ ∀ j u, (es.flatMap SpE.cells)[j]? = some u → w.cell? (ad.add j) = some u) ∧ ∀ e, e ∈ es → e.OkI L w := by
 obtain ⟨A, cap, rfl, hA⟩ := h
 by_cases h0 : 0 < ps.length
 ·obtain ⟨g, off, rfl, hp⟩ := hA h0
  obtain ⟨es, hl, he⟩ := choose_list (α := SpE) ps.length (fun i e => ps[i]? = some e.vl ∧ w.rangeAt g (off + i * 8) e.cells ∧ e.OkI L w) (fun i hi => by
   obtain ⟨cs, h1, a, b, h2, h3, h4⟩ := hp i ps[i] (List.getElem?_eq_getElem hi)
   refine ⟨⟨a, b, ps[i].1, ps[i].2⟩, List.getElem?_eq_getElem hi, ?_, h3, h4⟩
   have e : cs = SpE.cells ⟨a, b, ps[i].1, ps[i].2⟩ := by
    have h5 := congrArg Array.toList h2
    simpa [SpE.cells] using h5
   rw [← e]
   exact h1)
  refine ⟨_, cap, es, by rw [hl], ?_, fun _ => ⟨_, rfl, fun j u hj => ?_⟩, fun e hm => ?_⟩
  ·refine List.ext_getElem? fun i => ?_
   rw [List.getElem?_map]
   by_cases hi : i < es.length
   ·rw [List.getElem?_eq_getElem hi]
    exact (he i _ (List.getElem?_eq_getElem hi)).1.symm
   rw [List.getElem?_eq_none (by omega), List.getElem?_eq_none (by omega)]; rfl
  ·have hj2 : j < es.length * 8 := by
    have := (List.getElem?_eq_some_iff.1 hj).1
    rwa [flat_len SpE.len] at this
   have hi : j / 8 < es.length := by omega
   have h1 := (he (j / 8) _ (List.getElem?_eq_getElem hi)).2.1
   have h2 : (SpE.cells es[j / 8])[j % 8]? = some u := by
    have hl8 : j % 8 < (SpE.cells es[j / 8]).length := by show _ < 8; omega
    have h6 := flat_get SpE.len es (j / 8) _ (List.getElem?_eq_getElem hi) (j % 8) _ (List.getElem?_eq_getElem hl8)
    rw [show j / 8 * 8 + j % 8 = j by omega, hj] at h6
    rw [List.getElem?_eq_getElem hl8]
    exact h6.symm
   have h3 := h1 (j % 8) u h2
   have e : (⟨g, off, none⟩ : Addr).add j = ⟨g, off + j / 8 * 8 + j % 8, none⟩ := by
    unfold Addr.add
    by_cases hz : j = 0
    ·subst hz; simp
    rw [if_neg hz]
    congr 1
    show off + j = _
    omega
   rw [e]
   exact h3
  obtain ⟨i, hi⟩ := List.mem_iff_getElem?.1 hm
  exact (he i e hi).2.2
 have h1 : ps = [] := List.eq_nil_of_length_eq_zero (by omega)
 subst h1
 exact ⟨A, cap, [], rfl, rfl, fun h2 => absurd h2 (by simp), fun e he => by simp at he⟩
section
variable {w0 w w' : World} {m : List Ent}
end
theorem RowN.cap {w : World} {base : Nat} {e : TypeId} {size : Nat} {A : Option Addr} {n c : Nat} {xs : List Value} (h : RowN w base e size (.slice A n c) n xs) : n ≤ c := by
  obtain ⟨_, ⟨hv, rfl⟩ | ⟨g, cap, rest, hv, _, _, h3, _⟩⟩ := h
  · exact Nat.zero_le _
  injection hv with e1 e2 e3
  omega
section
variable {P : Program} {w0 w : World} {m : List Ent} {ix : Nat} {a : Act} {Q : Exit → Act → World → Prop} {rest : List Oper} {op : Oper} {ops : Array Oper}
theorem mv_stElem {α : Type} {f : α → List Value} (hw : Region.wanted op (yielded ops a.tmps) = true) (ty : TypeId) (x y : Operand) (ho : op.op = .store ty x y) {g n cap size : Nat} {t : TypeId} {es : List α} (hH : Hp w0 w m) (hi : m[ix]? = some (.row t size (.slice (some ⟨g, 0, none⟩) n cap) n (es.flatMap f)))
  (hc : ∀ x, (f x).length = size) (k : Nat) (z : α) (hk : k < es.length) (vs : List Value) (hf : f z = vs) (o : Nat) (hko : o = k * size) (hx : a.eval x = .pointer (some ⟨g, o, none⟩)) (hy : a.eval y = .agg vs.toArray) (hz : (P.info? ty).map (·.size) = some vs.length) (h1 : ∀ v, v ∈ vs → v.oneCell' = true) (hn : NoUL vs)
  (h : ∀ w', Hp w0 w' (m.set ix (.row t size (.slice (some ⟨g, 0, none⟩) n cap) n ((es.set k z).flatMap f))) → Dig w w' → Own g w w' → wpList P ops Q rest (a.put op.dst undef) w') : wpList P ops Q (op :: rest) a w := by
 subst hf
 subst hko
 refine mv_stRow hw ty x y ho hH hi (k * size) (f z) hx hy ?_ hz h1 hn (fun w' h2 h3 h4 => h w' ?_ h3 h4)
 ·rw [flat_length hc, hc]
  calc k * size + size = (k + 1) * size := by rw [Nat.add_mul]; omega
   _ ≤ es.length * size := Nat.mul_le_mul_right _ hk
 rw [flat_set hc es k hk z] at h2
 exact h2
theorem mv_stElem1 {α : Type} {f : α → List Value} (hw : Region.wanted op (yielded ops a.tmps) = true) (ty : TypeId) (x y : Operand) (ho : op.op = .store ty x y) {g n cap : Nat} {t : TypeId} {es : List α} (hH : Hp w0 w m) (hi : m[ix]? = some (.row t 1 (.slice (some ⟨g, 0, none⟩) n cap) n (es.flatMap f)))
  (hc : ∀ x, (f x).length = 1) (k : Nat) (z : α) (hk : k < es.length) (v : Value) (hf : f z = [v]) (o : Nat) (hko : o = k * 1) (hx : a.eval x = .pointer (some ⟨g, o, none⟩)) (hy : a.eval y = v) (hz : (P.info? ty).map (·.size) = some 1) (hcc : v.cells = #[v]) (h1 : v.oneCell' = true) (hn : NoUL [v])
  (h : ∀ w', Hp w0 w' (m.set ix (.row t 1 (.slice (some ⟨g, 0, none⟩) n cap) n ((es.set k z).flatMap f))) → Dig w w' → Own g w w' → wpList P ops Q rest (a.put op.dst undef) w') : wpList P ops Q (op :: rest) a w := by
 subst hko
 refine mv_stRow1 hw ty x y ho hH hi (k * 1) v hx hy ?_ hz hcc h1 hn (fun w' h2 h3 h4 => h w' ?_ h3 h4)
 ·rw [flat_length hc]
  omega
 have h5 := flat_set hc es k hk z
 rw [hf] at h5
 rw [← h5]
 exact h2
end
theorem flat_part {α : Type} {f : α → List Value} {c : Nat} (hc : ∀ x, (f x).length = c) (es : List α) (k : Nat) (e z : α) (hk : es[k]? = some e) (p : Nat) (vs : List Value) (hp : p + vs.length ≤ c) (hf : f z = (f e).take p ++ vs ++ (f e).drop (p + vs.length)) :
  (es.flatMap f).take (k * c + p) ++ vs ++ (es.flatMap f).drop (k * c + p + vs.length) = (es.set k z).flatMap f := by
 obtain ⟨hl, rfl⟩ := List.getElem?_eq_some_iff.1 hk
 have e1 : es.flatMap f = (es.take k).flatMap f ++ (f es[k] ++ (es.drop (k + 1)).flatMap f) := by
  conv => lhs; rw [← List.take_append_drop k es, List.drop_eq_getElem_cons hl]
  rw [List.flatMap_append, List.flatMap_cons]
 have hlen : ((es.take k).flatMap f).length = k * c := by rw [flat_length hc, List.length_take, Nat.min_eq_left (Nat.le_of_lt hl)]
 have hfl := hc es[k]
 rw [List.set_eq_take_append_cons_drop, if_pos hl, List.flatMap_append, List.flatMap_cons, e1, hf]
 have t1 : List.take (k * c + p) ((es.take k).flatMap f ++ (f es[k] ++ (es.drop (k + 1)).flatMap f)) = (es.take k).flatMap f ++ (f es[k]).take p := by
  rw [List.take_append, hlen, List.take_of_length_le (by omega), show k * c + p - k * c = p by omega, List.take_append, show p - (f es[k]).length = 0 by omega, List.take_zero, List.append_nil]
 have t2 : List.drop (k * c + p + vs.length) ((es.take k).flatMap f ++ (f es[k] ++ (es.drop (k + 1)).flatMap f)) = (f es[k]).drop (p + vs.length) ++ (es.drop (k + 1)).flatMap f := by
  rw [List.drop_append, hlen, List.drop_of_length_le (by omega), show k * c + p + vs.length - k * c = p + vs.length by omega, List.drop_append, show p + vs.length - (f es[k]).length = 0 by omega, List.drop_zero, List.nil_append]
 rw [t1, t2]
 simp [List.append_assoc]
theorem mv_stPart {α : Type} {f : α → List Value} {P : Program} {w0 w : World} {m : List Ent} {ix : Nat} {a : Act} {Q : Exit → Act → World → Prop} {rest : List Oper} {op : Oper} {ops : Array Oper} (hw : Region.wanted op (yielded ops a.tmps) = true) (ty : TypeId) (x y : Operand) (ho : op.op = .store ty x y)
  {g n cap size : Nat} {t : TypeId} {es : List α} (hH : Hp w0 w m) (hi : m[ix]? = some (.row t size (.slice (some ⟨g, 0, none⟩) n cap) n (es.flatMap f))) (hc : ∀ x, (f x).length = size) (k : Nat) (e z : α) (hk : es[k]? = some e) (p : Nat) (vs : List Value) (hp : p + vs.length ≤ size)
  (hf : f z = (f e).take p ++ vs ++ (f e).drop (p + vs.length)) (o : Nat) (hko : o = k * size + p) (hx : a.eval x = .pointer (some ⟨g, o, none⟩)) (hy : a.eval y = .agg vs.toArray) (hz : (P.info? ty).map (·.size) = some vs.length) (h1 : ∀ v, v ∈ vs → v.oneCell' = true) (hn : NoUL vs)
  (h : ∀ w', Hp w0 w' (m.set ix (.row t size (.slice (some ⟨g, 0, none⟩) n cap) n ((es.set k z).flatMap f))) → Dig w w' → Own g w w' → wpList P ops Q rest (a.put op.dst undef) w') : wpList P ops Q (op :: rest) a w := by
 subst hko
 refine mv_stRow hw ty x y ho hH hi (k * size + p) vs hx hy ?_ hz h1 hn (fun w' h2 h3 h4 => h w' ?_ h3 h4)
 ·have hl := (List.getElem?_eq_some_iff.1 hk).1
  rw [flat_length hc]
  calc k * size + p + vs.length ≤ (k + 1) * size := by rw [Nat.add_mul]; omega
   _ ≤ es.length * size := Nat.mul_le_mul_right _ hl
 rw [flat_part hc es k e z hk p vs hp hf] at h2
 exact h2
theorem ev_neg {P : Program} {ρ : Operand → Value} {o : Oper} {w : World} {A E : Int} {t : TypeId} {x : Operand} (ho : o.op = .unOp .neg t x) (hx : ρ x = .int .i64 A) (hE : -A = E) (h1 : -9223372036854775808 ≤ E) (h2 : E ≤ 9223372036854775807) : (execOp ρ o).run P w = .ok (.value (.int .i64 E)) w := by
  have hw : IntKind.i64.wrap E = E := by rw [IntKind.wrap_i64]; omega
  unfold execOp
  simp only [ho, hx]
  simp [go_sem, hw, hE]
end Go.Proofs.YtmgibncehlpfkaaGreat
