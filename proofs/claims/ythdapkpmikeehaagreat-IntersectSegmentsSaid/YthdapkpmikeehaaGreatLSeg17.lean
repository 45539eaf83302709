/- IntersectSegments. -/
import Derived.Test.YthdapkpmikeehaaGreatM8
namespace Go.Proofs.YthdapkpmikeehaaGreat
open Go.RowKit
attribute [local go_sem ↓] Go.wp_at_zero Go.wp_at_succ run_max_ii run_min_ii
namespace segments
open Go.ChangeShapes Go.WideShapes Go.ChangeAt
set_option maxRecDepth 20000 in
set_option maxHeartbeats 4000000 in
theorem walk (a b c d : Int × Int) (w : World) :
  Calls Tryz.prog 3 #[.agg #[.int .i64 a.1, .int .i64 a.2, .int .i64 b.1, .int .i64 b.2, .int .i64 c.1, .int .i64 c.2, .int .i64 d.1, .int .i64 d.2]] w fun e w' => e = .returned (.bool true) ∧ Ext w w' := by
 go_enter Tryz.func3, Tryz.ntmps3
 have H0 := zH (Hp.start w)
 go_upto_region 0 with fail
 refine wp_region_lit ?_
 refine aA' 24 [.int .i64 a.1, .int .i64 a.2, .int .i64 b.1, .int .i64 b.2, .int .i64 c.1, .int .i64 c.2, .int .i64 d.1, .int .i64 d.2] H0.out ?_
 intro X1 w2 H3 _
 refine zq (.bool false) ?_
 by_cases c7 : okAll [a, b, c, d] = true
 ·have HALL := zH c7
  clear c7
  obtain ⟨ha, hb, hc, hd⟩ : okP a ∧ okP b ∧ okP c ∧ okP d := by have h_ := HALL.out; simpa [okAll, okP] using h_
  by_cases c8 : segN a b c d = 1
  ·have HSG := zH c8
   clear c8
   go_upto_region 1 with fail
   refine wp_region_lit ?_
   refine qV (.pointer (some ⟨X1, 0, none⟩)) ?_
   refine zd X1 (0) [.int .i64 a.1, .int .i64 a.2] (H3.out.range (i := 0) (by rfl) 0 2) Tryz.underlying23 ?_
   refine qV (.pointer (some ⟨X1, 2, none⟩)) ?_
   refine zd X1 (2) [.int .i64 b.1, .int .i64 b.2] (H3.out.range (i := 0) (by rfl) 2 2) Tryz.underlying23 ?_
   refine qV (.pointer (some ⟨X1, 4, none⟩)) ?_
   refine zd X1 (4) [.int .i64 c.1, .int .i64 c.2] (H3.out.range (i := 0) (by rfl) 4 2) Tryz.underlying23 ?_
   refine qV (.pointer (some ⟨X1, 6, none⟩)) ?_
   refine zd X1 (6) [.int .i64 d.1, .int .i64 d.2] (H3.out.range (i := 0) (by rfl) 6 2) Tryz.underlying23 ?_
   refine zc (((segments_any a b c d _ ha hb hc hd).mono (fun _ _ h_ => SegRet.yes h_ HSG.out))) ?_
   rintro e w13 ⟨r14, s14, rfl, hr_, hs_, hx⟩
   have H15 := zH (H3.out.step hx)
   have R14 := zH hr_
   have S14 := zH hs_
   have B14 := zH (rl_segXY ha hb hc hd).1
   have C14 := zH (rl_segXY ha hb hc hd).2
   clear hr_ hs_
   clear hx
   refine zn ?_
   refine zI4 (Hp.start _) _ _ _ _ ?_
   refine aA' 29 rz H15.out ?_
   intro X21 w22 H23 D23
   refine aA' 29 rz H23.out ?_
   intro X26 w27 H28 D28
   refine aS' 1 (rc r14) H28.out ?_
   intro w31 H32 D32
   refine aS' 2 (rc s14) H32.out ?_
   intro w34 H35 D35
   refine zq (.int .i64 1) ?_
   go_upto_region 2 with fail
   refine wp_region_lit ?_
   refine qV (.pointer (some ⟨X1, 0, none⟩)) ?_
   refine zd X1 (0) [.int .i64 a.1, .int .i64 a.2] (H35.out.range (i := 0) (by rfl) 0 2) Tryz.underlying23 ?_
   refine qV (.pointer (some ⟨X1, 2, none⟩)) ?_
   refine zd X1 (2) [.int .i64 b.1, .int .i64 b.2] (H35.out.range (i := 0) (by rfl) 2 2) Tryz.underlying23 ?_
   refine qV (.pointer (some ⟨X1, 4, none⟩)) ?_
   refine zd X1 (4) [.int .i64 c.1, .int .i64 c.2] (H35.out.range (i := 0) (by rfl) 4 2) Tryz.underlying23 ?_
   refine qV (.pointer (some ⟨X1, 6, none⟩)) ?_
   refine zd X1 (6) [.int .i64 d.1, .int .i64 d.2] (H35.out.range (i := 0) (by rfl) 6 2) Tryz.underlying23 ?_
   refine zc (((rsegments_any a b c d _ ha hb hc hd).mono (fun _ _ h_ => SegRet.yes h_ HSG.out))) ?_
   rintro e w42 ⟨r43, s43, rfl, hr_, hs_, hx⟩
   have H44 := zH (H35.out.step hx)
   have D44 := zH (Dig.of_ext hx)
   have R43 := zH hr_
   have S43 := zH hs_
   clear hr_ hs_
   clear hx
   refine zn ?_
   refine zI4 (Hp.start _) _ _ _ _ ?_
   refine aA' 29 rz H44.out ?_
   intro X50 w51 H52 D52
   refine aA' 29 rz H52.out ?_
   intro X55 w56 H57 D57
   refine aS' 3 (rc r43) H57.out ?_
   intro w60 H61 D61
   refine aS' 4 (rc s43) H61.out ?_
   intro w63 H64 D64
   refine zq (.int .i64 1) ?_
   go_upto_region 3 with fail
   refine wp_region_lit ?_
   refine zI2 (Hp.start _) _ _ ?_
   refine zp (w' := w63) (.bool true) (by exact ezq (e := (dec_t rfl))) ?_
   refine zI3 H64.out (.bool true) _ _ ?_
   have DD72 := zH (((((((((D23.out.trans D28.out).trans D32.out).trans D35.out).trans D44.out).trans D52.out).trans D57.out).trans D61.out).trans D64.out))
   have DD73 := zH ((((D52.out.trans D57.out).trans D61.out).trans D64.out))
   refine aC H64.out (same17_any r14 r43 (segX a b c d) 60000 _ (R14.out.dig DD72.out) (R43.out.dig DD73.out) (Nat.le_trans B14.out (by omega)) (by decide)) ?_
   intro w71 H74 D74
   refine zI4 H74.out (.bool true) (.bool true) _ _ ?_
   have DD79 := zH ((DD72.out.trans D74.out))
   have DD80 := zH ((DD73.out.trans D74.out))
   refine aC H74.out (same17_any s14 s43 (segY a b c d) 60000 _ (S14.out.dig DD79.out) (S43.out.dig DD80.out) (Nat.le_trans C14.out (by omega)) (by decide)) ?_
   intro w78 H81 _
   refine zI2 (Hp.start _) (.bool true) (.bool true) ?_
   refine aC H81.out (example17_any _) ?_
   intro w85 H86 _
   refine zI2 (Hp.start _) (.bool true) (.bool true) ?_
   go_wp2_with fail
   go_ret
   exact ⟨rfl, H86.out.ext⟩
  have HSG := zH c8
  clear c8
  go_upto_region 1 with fail
  refine wp_region_lit ?_
  refine qV (.pointer (some ⟨X1, 0, none⟩)) ?_
  refine zd X1 (0) [.int .i64 a.1, .int .i64 a.2] (H3.out.range (i := 0) (by rfl) 0 2) Tryz.underlying23 ?_
  refine qV (.pointer (some ⟨X1, 2, none⟩)) ?_
  refine zd X1 (2) [.int .i64 b.1, .int .i64 b.2] (H3.out.range (i := 0) (by rfl) 2 2) Tryz.underlying23 ?_
  refine qV (.pointer (some ⟨X1, 4, none⟩)) ?_
  refine zd X1 (4) [.int .i64 c.1, .int .i64 c.2] (H3.out.range (i := 0) (by rfl) 4 2) Tryz.underlying23 ?_
  refine qV (.pointer (some ⟨X1, 6, none⟩)) ?_
  refine zd X1 (6) [.int .i64 d.1, .int .i64 d.2] (H3.out.range (i := 0) (by rfl) 6 2) Tryz.underlying23 ?_
  refine aC H3.out (((segments_any a b c d _ ha hb hc hd).mono (fun _ _ h_ => SegRet.no h_ HSG.out))) ?_
  intro w94 H95 _
  refine zI4 (Hp.start _) _ _ _ (.int .i64 (segN a b c d)) ?_
  refine aA' 29 rz H95.out ?_
  intro X101 w102 H103 _
  refine aA' 29 rz H103.out ?_
  intro X106 w107 H108 _
  refine aS' 1 rz H108.out ?_
  intro w111 H112 _
  refine aS' 2 rz H112.out ?_
  intro w114 H115 _
  refine zq (.int .i64 (segN a b c d)) ?_
  go_upto_region 2 with fail
  refine wp_region_lit ?_
  refine qV (.pointer (some ⟨X1, 0, none⟩)) ?_
  refine zd X1 (0) [.int .i64 a.1, .int .i64 a.2] (H115.out.range (i := 0) (by rfl) 0 2) Tryz.underlying23 ?_
  refine qV (.pointer (some ⟨X1, 2, none⟩)) ?_
  refine zd X1 (2) [.int .i64 b.1, .int .i64 b.2] (H115.out.range (i := 0) (by rfl) 2 2) Tryz.underlying23 ?_
  refine qV (.pointer (some ⟨X1, 4, none⟩)) ?_
  refine zd X1 (4) [.int .i64 c.1, .int .i64 c.2] (H115.out.range (i := 0) (by rfl) 4 2) Tryz.underlying23 ?_
  refine qV (.pointer (some ⟨X1, 6, none⟩)) ?_
  refine zd X1 (6) [.int .i64 d.1, .int .i64 d.2] (H115.out.range (i := 0) (by rfl) 6 2) Tryz.underlying23 ?_
  refine aC H115.out (((rsegments_any a b c d _ ha hb hc hd).mono (fun _ _ h_ => SegRet.no h_ HSG.out))) ?_
  intro w122 H123 _
  refine zI4 (Hp.start _) _ _ _ (.int .i64 (segN a b c d)) ?_
  refine aA' 29 rz H123.out ?_
  intro X129 w130 H131 _
  refine aA' 29 rz H131.out ?_
  intro X134 w135 H136 _
  refine aS' 3 rz H136.out ?_
  intro w139 H140 _
  refine aS' 4 rz H140.out ?_
  intro w142 H143 _
  refine zq (.int .i64 (segN a b c d)) ?_
  go_upto_region 3 with fail
  refine wp_region_lit ?_
  refine zI2 (Hp.start _) (.int .i64 (segN a b c d)) (.int .i64 (segN a b c d)) ?_
  refine zp (w' := w142) (.bool true) (by exact ezq (e := (dec_t rfl))) ?_
  refine zI3 H143.out (.bool true) _ _ ?_
  refine aC H143.out (same17Z_any _) ?_
  intro w150 H151 _
  refine zI4 H151.out (.bool true) (.bool true) _ _ ?_
  refine aC H151.out (same17Z_any _) ?_
  intro w155 H156 _
  refine zI2 (Hp.start _) (.bool true) (.bool true) ?_
  refine aC H156.out (example17_any _) ?_
  intro w160 H161 _
  refine zI2 (Hp.start _) (.bool true) (.bool true) ?_
  go_wp2_with fail
  go_ret
  exact ⟨rfl, H161.out.ext⟩
 have HALL := zH c7
 clear c7
 have HALLF := zH (Bool.eq_false_iff.2 HALL.out)
 clear HALL
 have HALL := HALLF
 go_upto_region 1 with fail
 refine wp_region_lit ?_
 refine qV (.pointer (some ⟨X1, 0, none⟩)) ?_
 refine zd X1 (0) [.int .i64 a.1, .int .i64 a.2] (H3.out.range (i := 0) (by rfl) 0 2) Tryz.underlying23 ?_
 refine qV (.pointer (some ⟨X1, 2, none⟩)) ?_
 refine zd X1 (2) [.int .i64 b.1, .int .i64 b.2] (H3.out.range (i := 0) (by rfl) 2 2) Tryz.underlying23 ?_
 refine qV (.pointer (some ⟨X1, 4, none⟩)) ?_
 refine zd X1 (4) [.int .i64 c.1, .int .i64 c.2] (H3.out.range (i := 0) (by rfl) 4 2) Tryz.underlying23 ?_
 refine qV (.pointer (some ⟨X1, 6, none⟩)) ?_
 refine zd X1 (6) [.int .i64 d.1, .int .i64 d.2] (H3.out.range (i := 0) (by rfl) 6 2) Tryz.underlying23 ?_
 refine aC H3.out (segments_bad a b c d _ HALL.out) ?_
 intro w169 H170 _
 refine zI4 (Hp.start _) _ _ _ _ ?_
 refine aA' 29 rz H170.out ?_
 intro X176 w177 H178 _
 refine aA' 29 rz H178.out ?_
 intro X181 w182 H183 _
 refine aS' 1 rz H183.out ?_
 intro w186 H187 _
 refine aS' 2 rz H187.out ?_
 intro w189 H190 _
 refine zq (.int .i64 0) ?_
 go_upto_region 2 with fail
 refine wp_region_lit ?_
 refine qV (.pointer (some ⟨X1, 0, none⟩)) ?_
 refine zd X1 (0) [.int .i64 a.1, .int .i64 a.2] (H190.out.range (i := 0) (by rfl) 0 2) Tryz.underlying23 ?_
 refine qV (.pointer (some ⟨X1, 2, none⟩)) ?_
 refine zd X1 (2) [.int .i64 b.1, .int .i64 b.2] (H190.out.range (i := 0) (by rfl) 2 2) Tryz.underlying23 ?_
 refine qV (.pointer (some ⟨X1, 4, none⟩)) ?_
 refine zd X1 (4) [.int .i64 c.1, .int .i64 c.2] (H190.out.range (i := 0) (by rfl) 4 2) Tryz.underlying23 ?_
 refine qV (.pointer (some ⟨X1, 6, none⟩)) ?_
 refine zd X1 (6) [.int .i64 d.1, .int .i64 d.2] (H190.out.range (i := 0) (by rfl) 6 2) Tryz.underlying23 ?_
 refine aC H190.out (rsegments_bad a b c d _ HALL.out) ?_
 intro w197 H198 _
 refine zI4 (Hp.start _) _ _ _ _ ?_
 refine aA' 29 rz H198.out ?_
 intro X204 w205 H206 _
 refine aA' 29 rz H206.out ?_
 intro X209 w210 H211 _
 refine aS' 3 rz H211.out ?_
 intro w214 H215 _
 refine aS' 4 rz H215.out ?_
 intro w217 H218 _
 refine zq (.int .i64 0) ?_
 go_upto_region 3 with fail
 refine wp_region_lit ?_
 refine zI2 (Hp.start _) _ _ ?_
 refine zp (w' := w217) (.bool true) (by exact ezq (e := (dec_t rfl))) ?_
 refine zI3 H218.out (.bool true) _ _ ?_
 refine aC H218.out (same17Z_any _) ?_
 intro w225 H226 _
 refine zI4 H226.out (.bool true) (.bool true) _ _ ?_
 refine aC H226.out (same17Z_any _) ?_
 intro w230 H231 _
 refine qV (.bool true) ?_
 refine zq (.bool true) ?_
 refine aC H231.out (example17_any _) ?_
 intro w235 H236 _
 refine qV (.bool true) ?_
 refine zq (.bool true) ?_
 go_wp2_with fail
 go_ret
 exact ⟨rfl, H236.out.ext⟩
set_option maxRecDepth 100000 in
theorem lifted (os : Os) (started : os.Started) (H : Type) (enc : TypeId × Value → H) :
  ReturnsInHanded {} Tryz.checked os 3 .any (Rows.intersectSegmentsSpec.pre6 enc Tryz.prog Tryz.f3 Rows.intersectSegmentsRow.domain false) (Rows.intersectSegmentsSpec.post enc Tryz.prog Tryz.f3 false true false false) := by
 refine returnsInHanded_of_change (C := Tryz.checked) own started (by kernel_rfl) Tryz.func3
  (ChangeSpec.witness6 (enc := enc) (C := Tryz.checked) false ⟨#[], #[.agg #[.int .i64 0, .int .i64 0, .int .i64 0, .int .i64 0, .int .i64 0, .int .i64 0, .int .i64 0, .int .i64 0]], []⟩ 8 (by kernel_rfl) (by kernel_rfl) (by kernel_rfl) (by kernel_rfl)) ?_
 intro W base args ds gs before hval0 hW hcnd _
 have hval : ∀ (j : Nat) t v, Tryz.f3.params[j]? = some t → args[j]? = some v → Value.okWide Tryz.prog W .any base t v := hval0
 have hW' := hW
 obtain ⟨p, q, hA0, hV, rfl, hfz, hnd⟩ := hW
 have hA : DataW.TrodAll enc Tryz.prog W 0 (fun _ => true) true Tryz.f3.params.toList args.toList ds p := hA0
 rw [Tryz.params3] at hA hval
 obtain ⟨v0, vs0, d0, ds0, p0, q0, hargs, rfl, rfl, h0, r0⟩ := trodAll_cons hA
 obtain ⟨rfl, rfl, rfl⟩ := trodAll_nil r0
 obtain rfl : args = #[v0] := by cases args; simp_all
 obtain ⟨rfl, rfl⟩ := trodVars_none hV
 have k0 := h0
 have lt0 : ∀ x ∈ p0, x.block < W.heap.size := by obtain ⟨m, hm⟩ := k0; exact DataW.trod_lt m _ _ _ hm
 obtain ⟨⟨l0⟩, rfl, _⟩ := okWide_array Tryz.underlying24 (hval 0 24 v0 rfl rfl)
 obtain ⟨a, b, c, d, rfl⟩ : ∃ a b c d : Int × Int, l0 = [.int .i64 a.1, .int .i64 a.2, .int .i64 b.1, .int .i64 b.2, .int .i64 c.1, .int .i64 c.2, .int .i64 d.1, .int .i64 d.2] := by
  obtain ⟨m, hm⟩ := h0
  exact pts4_open hm
 clear hA0 hval0
 refine (walk a b c d W).mono fun e W' ⟨he, hx⟩ => ?_
 subst he
 have bel := hx.below
 exact ⟨_, rfl, _, _, _, [], _, [], hW', trodAll_mk1 (shut_bool Tryz.underlying4 _), (trodAll_cons_mk (Below.trod laidOut (by kernel_rfl) (of_decide_eq_true (by kernel_rfl)) k0 bel lt0) trodAll_mk0), rfl, bel.frame _, fun h => by cases h⟩

theorem proved : Rows.IntersectSegmentsSaid :=
  OpenClaim.holds_of_wide 3 Tryz.f3 rfl rfl rfl rfl rfl rfl rfl ⟨rfl, rfl, rfl, rfl, rfl⟩ rfl rfl rfl rfl rfl (by kernel_rfl) Tryz.func3 (by kernel_rfl)
    (of_decide_eq_true (by kernel_rfl)) (by unfold Func.isWrapper; first | (rw [if_pos (by decide +kernel)]; kernel_rfl) | (rw [if_neg (by decide +kernel)]; exact ⟨rfl, rfl⟩))
    (fun os started H enc _ => lifted os started H enc)
#print axioms proved
end segments
end Go.Proofs.YthdapkpmikeehaaGreat
