/- IntersectEventYs. -/
import Derived.Test.YthdapkpmikeehacGreatM8
set_option maxRecDepth 100000
set_option maxHeartbeats 4000000
namespace Go.Proofs.YthdapkpmikeehacGreat
open Go.RowKit
attribute [local go_sem ↓] Go.wp_at_zero Go.wp_at_succ run_max_ii run_min_ii
namespace eventys
open Go.ChangeShapes Go.WideShapes Go.ChangeAt
theorem RowN.capMax {w : World} {b n c size : Nat} {T : TypeId} {A : Option Addr} {xs : List Value} (h : RowN w b T size (.slice A n c) n xs) : n <= 9223372036854775807 := by
  obtain ⟨_, ⟨_, h2⟩ | ⟨g, c', r, _, _, _, h3, h4, _⟩⟩ := h
  · omega
  unfold maxLen at h4; omega
theorem walk (A : Option Addr) (rs : List Ring) (cap : Nat) (a b : Int × Int) (w : World) (hv : RingsV w (.slice A rs.length cap) rs /\ ∀ r, r ∈ rs -> r.length <= maxLen) (hm : rs.length <= maxLen) :
  Calls Tryz.prog 3 #[.slice A rs.length cap, .agg #[.int .i64 a.1, .int .i64 a.2], .agg #[.int .i64 b.1, .int .i64 b.2]] w fun e w' => e = .returned (.bool true) /\ Ext w w' := by
 have HU := zH hv.1
 have HR := zH hv.2
 have HM := zH hm
 clear hv
 go_enter Tryz.func3, Tryz.ntmps3
 have H0 := zH (Hp.start w)
 go_upto_region 0 with fail
 refine wl ?_
 refine aA' 24 [.int .i64 a.1, .int .i64 a.2] H0.out ?_
 intro X1 w2 H3 _
 refine aA' 24 [.int .i64 b.1, .int .i64 b.2] H3.out ?_
 intro X6 w7 H8 _
 refine zq (.bool false) ?_
 rcases emH (fewB rs 20 = true) with HFt | HFt
 ·have hfr := few_rings HFt.out
  have HN := zH (show rs.length <= 100000 from Nat.le_trans hfr.1 (by decide))
  have HRR := zH (show ∀ r, r ∈ rs -> r.length <= 100000 from fun r_ h_ => Nat.le_trans (hfr.2 r_ h_) (by decide))
  clear hfr
  go_upto_region 1 with fail
  refine wl ?_
  refine zI1 (Hp.start _) _ ?_
  refine zc (few17_any _ rs 20 _ (HU.out.ext H8.out.ext) HM.out HR.out dC) ?_
  rintro e w14 ⟨rfl, hx⟩
  have H15 := zH (H8.out.step hx)
  clear hx
  refine ⟨.bool true, by rw [HFt.out], ?_⟩
  try simp only [Act.put, zA, zB, zC]
  refine zq (.bool false) ?_
  go_upto_region 3 with fail
  refine zy ?_
  have H18 := zH (H15.out.step (Ext.refl w14).drew)
  refine zJ6 H15.out zb (bs 10 119) 0 1 2 4 5 6 _ _ _ _ _ _ ?_
  refine mC 3 (bs 10 127) (eventYs_any _ rs a b _ (HU.out.ext H18.out.ext) HN.out HRR.out) ?_
  rintro e w22 ⟨vp_, ep, rfl, hrow_, hs_, hm_, ho_, hx⟩
  obtain ⟨Ap, cp, rfl, hfp_⟩ := hrow_.form
  have HFP := zH hfp_
  clear hfp_
  have HS1 := zH (ev_same hs_ hm_)
  clear hs_ hm_
  have HO1 := zH ho_
  clear ho_
  have H23 := zH (show Hp w w22 [.blk X1 24 [.int .i64 a.1, .int .i64 a.2], .blk X6 24 [.int .i64 b.1, .int .i64 b.2], ro 34 4 Ap ep.length cp R1E.cells ep] from H18.out.addRow hx hrow_)
  have S25 := zH (zb.trans hx)
  clear hrow_ hx
  refine zm S25.out ?_
  refine mC 7 (bs 10 255) (reventYs_any _ rs a b _ (HU.out.ext H23.out.ext) HN.out HRR.out) ?_
  rintro e w26 ⟨Aq, nq, cz, eq, rfl, hn_, hrow_, hq_, ho_, hx⟩
  have HFQ := zH hrow_.formS
  have HN2 := zH hn_
  have HS2 := zH hq_
  have HO2 := zH ho_
  clear hn_ hq_ ho_
  have H27 := zH (show Hp w w26 [.blk X1 24 [.int .i64 a.1, .int .i64 a.2], .blk X6 24 [.int .i64 b.1, .int .i64 b.2], ro 34 4 Ap ep.length cp R1E.cells ep, ro 34 4 Aq nq cz R1E.cells eq] from H23.out.addRow hx hrow_)
  have D27 := zH (Dig.of_ext hx)
  have S29 := zH (S25.out.trans hx)
  clear hrow_ hx
  refine zm S29.out ?_
  refine zJ2 (Hp.start _) S29.out (bs 10 1023) 8 9 _ _ ?_
  refine wpAnyH_done kR ?_ _
  have HQQ := zH (show eq.map R1E.q = ep.map R1E.q from HS2.out.trans HS1.out.symm)
  have HLL := zH (show nq = ep.length from by have h_ := congrArg List.length HQQ.out; rw [List.length_map, List.length_map] at h_; rw [HN2.out, h_])
  obtain rfl := HLL.out
  have hpl : ep.length <= 9223372036854775807 := by have h_ := RowN.capMax (Hp.row (i := 2) H27.out (by rfl)); exact h_
  go_upto_region 4 with fail
  refine wl ?_
  refine zI4 (Hp.start _) _ (.int .i64 ((ep.length : Nat) : Int)) _ (.int .i64 ((ep.length : Nat) : Int)) ?_
  refine zp (.bool false) (by exact ezn (e := (dec_f (by omega)))) ?_
  go_upto_region 6 with fail
  refine wl ?_
  refine zI3 (Hp.start _) _ (.int .i64 ((ep.length : Nat) : Int)) _ ?_
  go_wp2_with fail
  go_loopg [29] (ep.length) (fun cq v40 wr => ∃ (i : Nat), cq = ep.length - i /\ v40 = .int .i64 (i : Int) /\ (i <= ep.length) /\ Hp w wr [.blk X1 24 [.int .i64 a.1, .int .i64 a.2], .blk X6 24 [.int .i64 b.1, .int .i64 b.2], .row 34 4 (.slice Ap ep.length cp) (ep.length) (List.flatMap R1E.cells ep), .row 34 4 (.slice Aq ep.length cz) (ep.length) (List.flatMap R1E.cells eq)] /\ Dig w26 wr)
  case atStart => exact ⟨0, rfl, rfl, Nat.zero_le _, H27.out, Dig.refl _⟩
  obtain ⟨i, rfl, rfl, q_HKI, hh_, hd_⟩ := hrel
  generalize wr = w41 at *
  have HKI := zH q_HKI
  clear q_HKI
  have H43 := zH hh_
  have D43 := zH hd_
  clear hh_ hd_ H27
  rcases emH (i < ep.length) with HLT | HLT
  ·have hlt := HLT.out
   obtain ⟨gp, rfl⟩ := HFP.out (by omega)
   obtain ⟨gq, rfl⟩ := HFQ.out (by omega)
   obtain ⟨x, hx_⟩ : ∃ x, ep[i]? = some x := ⟨_, List.getElem?_eq_getElem hlt⟩
   obtain ⟨y, hy_⟩ : ∃ y, eq[i]? = some y := ⟨_, List.getElem?_eq_getElem (HN2.out ▸ hlt)⟩
   have HX := zH hx_
   have HY := zH hy_
   have hxy : y.q = x.q := by have h_ := congrArg (fun l_ => l_[i]?) HQQ.out; simp only [List.getElem?_map, hx_, hy_, Option.map_some] at h_; exact Option.some.inj h_
   have HX1 := zH (HO1.out x (List.mem_of_getElem? hx_)).1
   have HXB := zH (HO1.out x (List.mem_of_getElem? hx_)).2
   have HY1 := zH (show y.a.Is _ x.q from hxy ▸ (HO2.out y (List.mem_of_getElem? hy_)).1)
   clear hx_ hy_ hxy
   go_upto_region 7 with fail
   refine wl ?_
   refine zp (.bool true) (by exact ezl (e := (dec_t (by omega)))) ?_
   go_upto_region 8 with fail
   refine wl ?_
   refine zI2 (Hp.start _) (.int .i64 (i : Int)) (.int .i64 (i : Int)) ?_
   go_upto_region 9 with fail
   refine zy ?_
   have H48 := zH (H43.out.step (Ext.refl w41).drew)
   have D48 := zH (Dig.of_ext (w := w41) zb)
   refine zJ2 (Hp.start _) zb (bs 10 3) 0 1 _ (.int .i64 (i : Int)) ?_
   refine zo 2 (bs 10 7) (v := .pointer (some ⟨gp, i * 4, none⟩)) zb ?_ (hv := by intro w hSw; exact ezi (k := i) Tryz.underlying27 (l := hlt) (f := (Nat.zero_add _).symm))
   refine zg 3 (bs 10 15) gp (i * 4) (rc x.a) (H43.out.elem (f := R1E.cells) (i := 2) rR R1E.len HX.out) Tryz.underlying34 zb ?_
   refine zJ2 (Hp.start _) zb (bs 10 63) 4 5 _ (.int .i64 (i : Int)) ?_
   refine zo 6 (bs 10 127) (v := .pointer (some ⟨gq, i * 4, none⟩)) zb ?_ (hv := by intro w hSw; exact ezi (k := i) Tryz.underlying27 (l := hlt) (f := (Nat.zero_add _).symm))
   refine zg 7 (bs 10 255) gq (i * 4) (rc y.a) (H43.out.elem (f := R1E.cells) (i := 3) rR R1E.len HY.out) Tryz.underlying34 zb ?_
   have DD57 := tD (tD D27 D43) D48
   have DD58 := tD D43 D48
   refine mC 8 (bs 10 511) (same17_any x.a y.a x.q 60000 _ (HX1.out.dig DD57.out) (HY1.out.dig DD58.out) (Nat.le_trans HXB.out (by omega)) dC) ?_
   rintro e w56 ⟨rfl, hx⟩
   have H59 := zH (H48.out.step hx)
   have D59 := zH (show Dig w41.drew w56 from Dig.of_ext hx)
   have S61 := zH (zb.trans hx)
   clear hx
   refine zm S61.out ?_
   refine zx 9 (bs 10 1023) (.bool false) S61.out ?_
   refine wpAnyH_done kR ?_ _
   go_upto_region 11 with fail
   refine wl ?_
   refine zp (.int .i64 ((i + 1 : Nat) : Int)) (by exact ez1 (by omega)) ?_
   refine zq (.int .i64 ((i + 1 : Nat) : Int)) ?_
   have DD65 := tD DD58 D59
   go_wp2_with fail
   go_roundg (ep.length - (i + 1))
   case measure => exact (by omega)
   case rel => exact ⟨i + 1, rfl, (by go_num), hlt, H59.out, DD65.out⟩
  have hlt := HLT.out
  have hki := HKI.out
  obtain rfl : i = ep.length := by omega
  go_upto_region 7 with fail
  refine wl ?_
  refine zp (.bool false) (by exact ezl (e := (dec_f (Int.lt_irrefl _)))) ?_
  go_upto_region 12 with fail
  refine wl ?_
  refine aC H43.out (example17_any _) ?_
  intro w67 H68 _
  refine zq (.bool true) ?_
  go_wp2_with fail
  go_ret
  exact ⟨rfl, H68.out.ext⟩
 have HFf := zH (Bool.eq_false_iff.2 HFt.out)
 go_upto_region 1 with fail
 refine wl ?_
 refine zI1 (Hp.start _) _ ?_
 refine zc (few17_any _ rs 20 _ (HU.out.ext H8.out.ext) HM.out HR.out dC) ?_
 rintro e w72 ⟨rfl, hx⟩
 have H73 := zH (H8.out.step hx)
 clear hx
 refine ⟨.bool false, by rw [HFf.out], ?_⟩
 try simp only [Act.put, zA, zB, zC]
 refine zq (.bool true) ?_
 go_upto_region 2 with fail
 refine wl ?_
 refine aC H73.out (example17_any _) ?_
 intro w76 H77 _
 refine zq (.bool true) ?_
 go_wp2_with fail
 go_ret
 exact ⟨rfl, H77.out.ext⟩
theorem lifted (os : Os) (started : os.Started) (H : Type) (enc : TypeId × Value -> H) :
  ReturnsInHanded {} Tryz.checked os 3 .any (Rows.intersectEventYsSpec.pre6 enc Tryz.prog Tryz.f3 Rows.intersectEventYsRow.domain false) (Rows.intersectEventYsSpec.post enc Tryz.prog Tryz.f3 false true false false) := by
 refine returnsInHanded_of_change (C := Tryz.checked) own started kR Tryz.func3
  (ChangeSpec.witness6 (enc := enc) (C := Tryz.checked) false ⟨#[], #[.slice none 0 0, .agg #[.int .i64 0, .int .i64 0], .agg #[.int .i64 0, .int .i64 0]], []⟩ 8 (by kernel_rfl) (by kernel_rfl) (by kernel_rfl) (by kernel_rfl)) ?_
 intro W base args ds gs before hval0 hW hcnd _
 have hval : ∀ (j : Nat) t v, Tryz.f3.params[j]? = some t -> args[j]? = some v -> Value.okWide Tryz.prog W .any base t v := hval0
 have hW' := hW
 obtain ⟨p, q, hA0, hV, rfl, hfz, hnd⟩ := hW
 have hA : DataW.TrodAll enc Tryz.prog W 0 (fun _ => true) true Tryz.f3.params.toList args.toList ds p := hA0
 rw [Tryz.params3] at hA hval
 obtain ⟨v0, vs0, d0, ds0, p0, q0, hargs, rfl, rfl, h0, r0⟩ := trodAll_cons hA
 obtain ⟨v1, vs1, d1, ds1, p1, q1, rfl, rfl, rfl, h1, r1⟩ := trodAll_cons r0
 obtain ⟨v2, vs2, d2, ds2, p2, q2, rfl, rfl, rfl, h2, r2⟩ := trodAll_cons r1
 obtain ⟨rfl, rfl, rfl⟩ := trodAll_nil r2
 obtain rfl : args = #[v0, v1, v2] := by cases args; simp_all
 obtain ⟨rfl, rfl⟩ := trodVars_none hV
 have k0 := h0
 have lt0 : ∀ x ∈ p0, x.block < W.heap.size := by obtain ⟨m, hm⟩ := k0; exact DataW.trod_lt m _ _ _ hm
 obtain ⟨A, zl0, cap, rfl⟩ := okWide_slice Tryz.underlying22 (hval 0 22 v0 rfl rfl)
 obtain ⟨zA0, rs, zc0, ze0, g0⟩ := (by obtain ⟨m, hm⟩ := h0; exact rings_openQ hm : ∃ zB zl zc, [Value.slice A zl0 cap] = [.slice zB (List.length zl) zc] /\ zl.length <= maxLen /\ RingsV W (.slice zB zl.length zc) zl /\ ∀ r, r ∈ zl -> r.length <= maxLen)
 obtain ⟨rfl, rfl, rfl⟩ : A = zA0 /\ zl0 = rs.length /\ cap = zc0 := by simpa using ze0
 have k1 := h1
 have lt1 : ∀ x ∈ p1, x.block < W.heap.size := by obtain ⟨m, hm⟩ := k1; exact DataW.trod_lt m _ _ _ hm
 obtain ⟨⟨l1⟩, rfl, _⟩ := okWide_structQ Tryz.underlying24 (hval 1 24 v1 rfl rfl)
 obtain ⟨a, rfl⟩ : ∃ a : Int × Int, l1 = [.int .i64 a.1, .int .i64 a.2] := by
  obtain ⟨m, hm⟩ := h1
  exact pt_open hm
 have k2 := h2
 have lt2 : ∀ x ∈ p2, x.block < W.heap.size := by obtain ⟨m, hm⟩ := k2; exact DataW.trod_lt m _ _ _ hm
 obtain ⟨⟨l2⟩, rfl, _⟩ := okWide_structQ Tryz.underlying24 (hval 2 24 v2 rfl rfl)
 obtain ⟨b, rfl⟩ : ∃ b : Int × Int, l2 = [.int .i64 b.1, .int .i64 b.2] := by
  obtain ⟨m, hm⟩ := h2
  exact pt_open hm
 clear hA0 hval0
 refine (walk A rs cap a b W g0.2 g0.1).mono fun e W' ⟨he, hx⟩ => ?_
 subst he
 have bel := hx.below
 exact ⟨_, rfl, _, _, _, [], _, [], hW', trodAll_mk1 (shut_bool Tryz.underlying4 _), (trodAll_cons_mk (Below.trod laidOut (by kernel_rfl) (of_decide_eq_true (by kernel_rfl)) k0 bel lt0) (trodAll_cons_mk (Below.trod laidOut (by kernel_rfl) (of_decide_eq_true (by kernel_rfl)) k1 bel lt1) (trodAll_cons_mk (Below.trod laidOut (by kernel_rfl) (of_decide_eq_true (by kernel_rfl)) k2 bel lt2) trodAll_mk0))), rfl, bel.frame _, fun h => by cases h⟩
theorem proved : Rows.IntersectEventYsSaid :=
  OpenClaim.holds_of_wide 3 Tryz.f3 rfl rfl rfl rfl rfl rfl rfl ⟨rfl, rfl, rfl, rfl, rfl⟩ rfl rfl rfl rfl rfl (by kernel_rfl) Tryz.func3 (by kernel_rfl)
    (of_decide_eq_true (by kernel_rfl)) (by unfold Func.isWrapper; first | (rw [if_pos (by decide +kernel)]; kernel_rfl) | (rw [if_neg (by decide +kernel)]; exact ⟨rfl, rfl⟩))
    (fun os started H enc _ => lifted os started H enc)
#print axioms proved
end eventys
end Go.Proofs.YthdapkpmikeehacGreat
