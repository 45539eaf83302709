/- ScanlineSets. -/
import Derived.Test.YtaeeeailoiioaadGreatM8
namespace Go.Proofs.YtaeeeailoiioaadGreat.sets
open Go.RowKit Go.ChangeShapes Go.WideShapes Go.ChangeAt
attribute [local go_sem ↓] Go.wp_at_zero Go.wp_at_succ run_max_ii run_min_ii
set_option maxRecDepth 20000 in
set_option maxHeartbeats 4000000 in
theorem walkF0 (A : Option Addr) (es : List (RV × RV)) (cap : Nat) (B : Option Addr) (fs : List (RV × RV)) (cab : Nat)  (w : World) (hs : ∀ W, Ext w W → Calls Tryz.prog 4 #[.slice A es.length cap] W fun e w' => e = .returned (.bool false) ∧ Ext W w')  :
  Calls Tryz.prog 3 #[.slice A es.length cap, .slice B fs.length cab] w fun e w' => e = .returned (.bool true) ∧ Ext w w' := by
 have HS := zH hs
 clear hs
 go_enter Tryz.func3, Tryz.ntmps3
 have H0 := zH (Hp.start w)
 go_upto_region 0 with fail
 refine wp_region_lit ?_
 refine zq (.bool false) ?_
 go_upto_region 1 with fail
 refine wp_region_lit ?_
 refine qV (.slice A es.length cap) ?_
 refine zc (HS.out _ H0.out.ext) ?_
 rintro e w3 ⟨rfl, hx⟩
 have H4 := zH (H0.out.step hx)
 clear hx
 refine zn ?_
 refine qV (.bool true) ?_
 refine zq (.bool true) ?_
 refine zk ?_
 refine zk ?_
 refine zk ?_
 refine zq (.bool true) ?_
 go_upto_region 2 with fail
 refine wp_region_lit ?_
 refine zc (example_any _) ?_
 rintro e w9 ⟨rfl, hx⟩
 have H10 := zH (H4.out.step hx)
 clear hx
 refine zn ?_
 refine zq (.bool true) ?_
 go_wp2_with fail
 go_ret
 exact ⟨rfl, H10.out.ext⟩
set_option maxRecDepth 20000 in
set_option maxHeartbeats 4000000 in
theorem walkF1 (A : Option Addr) (es : List (RV × RV)) (cap : Nat) (B : Option Addr) (fs : List (RV × RV)) (cab : Nat)  (w : World) (hs : ∀ W, Ext w W → Calls Tryz.prog 4 #[.slice A es.length cap] W fun e w' => e = .returned (.bool true) ∧ Ext W w') (ht : ∀ W, Ext w W → Calls Tryz.prog 4 #[.slice B fs.length cab] W fun e w' => e = .returned (.bool false) ∧ Ext W w')  :
  Calls Tryz.prog 3 #[.slice A es.length cap, .slice B fs.length cab] w fun e w' => e = .returned (.bool true) ∧ Ext w w' := by
 have HS := zH hs
 clear hs
 have HT := zH ht
 clear ht
 go_enter Tryz.func3, Tryz.ntmps3
 have H0 := zH (Hp.start w)
 go_upto_region 0 with fail
 refine wp_region_lit ?_
 refine zq (.bool false) ?_
 go_upto_region 1 with fail
 refine wp_region_lit ?_
 refine qV (.slice A es.length cap) ?_
 refine zc (HS.out _ H0.out.ext) ?_
 rintro e w15 ⟨rfl, hx⟩
 have H16 := zH (H0.out.step hx)
 clear hx
 refine zn ?_
 refine qV (.bool false) ?_
 refine zq (.bool false) ?_
 refine qV (.slice B fs.length cab) ?_
 refine zc (HT.out _ H16.out.ext) ?_
 rintro e w21 ⟨rfl, hx⟩
 have H22 := zH (H16.out.step hx)
 clear hx
 refine zn ?_
 refine qV (.bool true) ?_
 refine zq (.bool true) ?_
 go_upto_region 2 with fail
 refine wp_region_lit ?_
 refine zc (example_any _) ?_
 rintro e w26 ⟨rfl, hx⟩
 have H27 := zH (H22.out.step hx)
 clear hx
 refine zn ?_
 refine zq (.bool true) ?_
 go_wp2_with fail
 go_ret
 exact ⟨rfl, H27.out.ext⟩
set_option maxRecDepth 20000 in
set_option maxHeartbeats 4000000 in
theorem walkT (A : Option Addr) (es : List (RV × RV)) (cap : Nat) (B : Option Addr) (fs : List (RV × RV)) (cab : Nat) (ps qs : List QQ) (w : World) (hs : ∀ W, Ext w W → Calls Tryz.prog 4 #[.slice A es.length cap] W fun e w' => e = .returned (.bool true) ∧ Ext W w') (ht : ∀ W, Ext w W → Calls Tryz.prog 4 #[.slice B fs.length cab] W fun e w' => e = .returned (.bool true) ∧ Ext W w') (hu : SpansV 20 w (.slice A es.length cap) ps) (hv : SpansV 20 w (.slice B fs.length cab) qs) (hn : ps.length ≤ 60 ∧ qs.length ≤ 60) :
  Calls Tryz.prog 3 #[.slice A es.length cap, .slice B fs.length cab] w fun e w' => e = .returned (.bool true) ∧ Ext w w' := by
 have HS := zH hs
 clear hs
 have HT := zH ht
 clear ht
 have HU := zH hu
 have HV := zH hv
 have HN := zH hn
 clear hu hv hn
 go_enter Tryz.func3, Tryz.ntmps3
 have H0 := zH (Hp.start w)
 go_upto_region 0 with fail
 refine wp_region_lit ?_
 refine zq (.bool false) ?_
 go_upto_region 1 with fail
 refine wp_region_lit ?_
 refine qV (.slice A es.length cap) ?_
 refine zc (HS.out _ H0.out.ext) ?_
 rintro e w32 ⟨rfl, hx⟩
 have H33 := zH (H0.out.step hx)
 clear hx
 refine zn ?_
 refine qV (.bool false) ?_
 refine zq (.bool false) ?_
 refine qV (.slice B fs.length cab) ?_
 refine zc (HT.out _ H33.out.ext) ?_
 rintro e w38 ⟨rfl, hx⟩
 have H39 := zH (H33.out.step hx)
 clear hx
 refine zn ?_
 refine qV (.bool false) ?_
 refine zq (.bool false) ?_
 go_upto_region 3 with fail
 refine wp_region_lit ?_
 refine qV (.slice A es.length cap) ?_
 refine zq (.slice B fs.length cab) ?_
 refine zc (union_any 20 (.slice A es.length cap) (.slice B fs.length cab) ps qs _ (HU.out.ext H39.out.ext) (HV.out.ext H39.out.ext) (by decide) (by decide) (by have qn_ := HN.out; (try simp only [List.length_map]); omega)) ?_
 rintro e w45 ⟨v_, es46, rfl, hv1_, hv2_, hv3_, hx⟩
 have VL46 := zH hv2_
 have LN46 := zH hv3_
 have OK46 := zH hv1_.2
 obtain ⟨A46, c46, rfl, hA_⟩ := RowN.form hv1_.1
 have HA46 := zH hA_
 clear hv2_ hv3_ hA_
 have H47 := zH (show Hp w w45 [ro 34 8 A46 es46.length c46 SpE.cells es46] from H39.out.addRow hx hv1_.1)
 clear hv1_
 clear hx
 refine zn ?_
 refine qV (.slice A es.length cap) ?_
 refine zq (.slice B fs.length cab) ?_
 refine zc (runion_any 20 (.slice A es.length cap) (.slice B fs.length cab) ps qs _ (HU.out.ext H47.out.ext) (HV.out.ext H47.out.ext) (by decide) (by decide) (by have qn_ := HN.out; (try simp only [List.length_map]); omega)) ?_
 rintro e w51 ⟨v_, es52, rfl, hv1_, hv2_, hv3_, hx⟩
 have VL52 := zH hv2_
 have LN52 := zH hv3_
 have OK52 := zH hv1_.2
 obtain ⟨A52, c52, rfl, hA_⟩ := RowN.form hv1_.1
 have HA52 := zH hA_
 clear hv2_ hv3_ hA_
 have H53 := zH (show Hp w w51 [ro 34 8 A46 es46.length c46 SpE.cells es46, ro 34 8 A52 es52.length c52 SpE.cells es52] from H47.out.addRow hx hv1_.1)
 have D53 := zH (Dig.of_ext hx)
 clear hv1_
 clear hx
 refine zn ?_
 refine zc (r18same_any 60000 (.slice A46 es46.length c46) (.slice A52 es52.length c52) _ _ es46 es52 _ (SpR.up (L := 20) ⟨H53.out.row (i := 0) (by rfl), (fun e_ he_ => (OK46.out e_ he_).dig D53.out)⟩ (by omega)) (SpR.up (L := 20) ⟨H53.out.row (i := 1) (by rfl), OK52.out⟩ (by omega)) (VL46.out.trans VL52.out.symm) (by omega) (Nat.le_trans LN46.out (by have q1_ := HN.out; omega))) ?_
 rintro e w55 ⟨rfl, hx⟩
 have H56 := zH (H53.out.step hx)
 clear hx
 refine zn ?_
 refine qV (.bool true) ?_
 refine zq (.slice A es.length cap) ?_
 refine qV (.slice B fs.length cab) ?_
 refine zc (inter_any 20 (.slice A es.length cap) (.slice B fs.length cab) ps qs _ (HU.out.ext H56.out.ext) (HV.out.ext H56.out.ext) (by decide) (by decide) (by have qn_ := HN.out; (try simp only [List.length_map]); omega)) ?_
 rintro e w61 ⟨v_, es62, rfl, hv1_, hv2_, hv3_, hx⟩
 have VL62 := zH hv2_
 have LN62 := zH hv3_
 have OK62 := zH hv1_.2
 obtain ⟨A62, c62, rfl, hA_⟩ := RowN.form hv1_.1
 have HA62 := zH hA_
 clear hv2_ hv3_ hA_
 have H63 := zH (show Hp w w61 [ro 34 8 A46 es46.length c46 SpE.cells es46, ro 34 8 A52 es52.length c52 SpE.cells es52, ro 34 8 A62 es62.length c62 SpE.cells es62] from H56.out.addRow hx hv1_.1)
 clear hv1_
 clear hx
 refine zn ?_
 refine qV (.slice A es.length cap) ?_
 refine zq (.slice B fs.length cab) ?_
 refine zc (rinter_any 20 (.slice A es.length cap) (.slice B fs.length cab) ps qs _ (HU.out.ext H63.out.ext) (HV.out.ext H63.out.ext) (by decide) (by decide) (by have qn_ := HN.out; (try simp only [List.length_map]); omega)) ?_
 rintro e w67 ⟨v_, es68, rfl, hv1_, hv2_, hv3_, hx⟩
 have VL68 := zH hv2_
 have LN68 := zH hv3_
 have OK68 := zH hv1_.2
 obtain ⟨A68, c68, rfl, hA_⟩ := RowN.form hv1_.1
 have HA68 := zH hA_
 clear hv2_ hv3_ hA_
 have H69 := zH (show Hp w w67 [ro 34 8 A46 es46.length c46 SpE.cells es46, ro 34 8 A52 es52.length c52 SpE.cells es52, ro 34 8 A62 es62.length c62 SpE.cells es62, ro 34 8 A68 es68.length c68 SpE.cells es68] from H63.out.addRow hx hv1_.1)
 have D69 := zH (Dig.of_ext hx)
 clear hv1_
 have VM68 := zH (show List.map SpE.vl es68 = interV (mergeV ps) (mergeV qs) from VL68.out.trans (interV_eq (mergeV_law ps).1 (mergeV_law qs).1).symm)
 clear hx
 refine zn ?_
 refine zc (r18same_any 60000 (.slice A62 es62.length c62) (.slice A68 es68.length c68) _ _ es62 es68 _ (SpR.up (L := 20) ⟨H69.out.row (i := 2) (by rfl), (fun e_ he_ => (OK62.out e_ he_).dig D69.out)⟩ (by omega)) (SpR.up (L := 20) ⟨H69.out.row (i := 3) (by rfl), OK68.out⟩ (by omega)) (VL62.out.trans VM68.out.symm) (by omega) (Nat.le_trans LN62.out (by have q1_ := HN.out; omega))) ?_
 rintro e w71 ⟨rfl, hx⟩
 have H72 := zH (H69.out.step hx)
 clear hx
 refine zn ?_
 refine qV (.bool true) ?_
 refine zq (.bool true) ?_
 refine qV (.slice A es.length cap) ?_
 refine zq (.slice B fs.length cab) ?_
 refine zc (subt_any 20 (.slice A es.length cap) (.slice B fs.length cab) ps qs _ (HU.out.ext H72.out.ext) (HV.out.ext H72.out.ext) (by decide) (by decide) (by have qn_ := HN.out; (try simp only [List.length_map]); omega)) ?_
 rintro e w78 ⟨v_, es79, rfl, hv1_, hv2_, hv3_, hx⟩
 have VL79 := zH hv2_
 have LN79 := zH hv3_
 have OK79 := zH hv1_.2
 obtain ⟨A79, c79, rfl, hA_⟩ := RowN.form hv1_.1
 have HA79 := zH hA_
 clear hv2_ hv3_ hA_
 have H80 := zH (show Hp w w78 [ro 34 8 A46 es46.length c46 SpE.cells es46, ro 34 8 A52 es52.length c52 SpE.cells es52, ro 34 8 A62 es62.length c62 SpE.cells es62, ro 34 8 A68 es68.length c68 SpE.cells es68, ro 34 8 A79 es79.length c79 SpE.cells es79] from H72.out.addRow hx hv1_.1)
 clear hv1_
 clear hx
 refine zn ?_
 refine qV (.slice A es.length cap) ?_
 refine zq (.slice B fs.length cab) ?_
 refine zc (rsubt_any 20 (.slice A es.length cap) (.slice B fs.length cab) ps qs _ (HU.out.ext H80.out.ext) (HV.out.ext H80.out.ext) (by decide) (by decide) (by have qn_ := HN.out; (try simp only [List.length_map]); omega)) ?_
 rintro e w84 ⟨v_, es85, rfl, hv1_, hv2_, hv3_, hx⟩
 have VL85 := zH hv2_
 have LN85 := zH hv3_
 have OK85 := zH hv1_.2
 obtain ⟨A85, c85, rfl, hA_⟩ := RowN.form hv1_.1
 have HA85 := zH hA_
 clear hv2_ hv3_ hA_
 have H86 := zH (show Hp w w84 [ro 34 8 A46 es46.length c46 SpE.cells es46, ro 34 8 A52 es52.length c52 SpE.cells es52, ro 34 8 A62 es62.length c62 SpE.cells es62, ro 34 8 A68 es68.length c68 SpE.cells es68, ro 34 8 A79 es79.length c79 SpE.cells es79, ro 34 8 A85 es85.length c85 SpE.cells es85] from H80.out.addRow hx hv1_.1)
 have D86 := zH (Dig.of_ext hx)
 clear hv1_
 clear hx
 refine zn ?_
 refine zc (r18same_any 60000 (.slice A79 es79.length c79) (.slice A85 es85.length c85) _ _ es79 es85 _ (SpR.up (L := 20) ⟨H86.out.row (i := 4) (by rfl), (fun e_ he_ => (OK79.out e_ he_).dig D86.out)⟩ (by omega)) (SpR.up (L := 20) ⟨H86.out.row (i := 5) (by rfl), OK85.out⟩ (by omega)) (VL79.out.trans VL85.out.symm) (by omega) (Nat.le_trans LN79.out (by have q1_ := HN.out; omega))) ?_
 rintro e w88 ⟨rfl, hx⟩
 have H89 := zH (H86.out.step hx)
 clear hx
 refine zn ?_
 refine qV (.bool true) ?_
 refine zq (.bool true) ?_
 refine zc (example_any _) ?_
 rintro e w93 ⟨rfl, hx⟩
 have H94 := zH (H89.out.step hx)
 clear hx
 refine zn ?_
 refine qV (.bool true) ?_
 refine zq (.bool true) ?_
 go_wp2_with fail
 go_ret
 exact ⟨rfl, H94.out.ext⟩

theorem walk (A : Option Addr) (es : List (RV × RV)) (cap : Nat) (B : Option Addr) (fs : List (RV × RV)) (cab : Nat) (w : World) (hv : RawV w (.slice A es.length cap) es ∧ RawL w es) (hm : es.length ≤ maxLen) (hv2 : RawV w (.slice B fs.length cab) fs ∧ RawL w fs) (hm2 : fs.length ≤ maxLen) :
  Calls Tryz.prog 3 #[.slice A es.length cap, .slice B fs.length cab] w fun e w' => e = .returned (.bool true) ∧ Ext w w' := by
 have hs := fun W (x : Ext w W) => smallSpans_any (.slice A es.length cap) es W (hv.1.ext x) hm
 have ht := fun W (x : Ext w W) => smallSpans_any (.slice B fs.length cab) fs W (hv2.1.ext x) hm2
 cases h0 : (smAll es && decide (es.length ≤ 60)) with
 | false => rw [h0] at hs; exact walkF0 A es cap B fs cab w hs
 | true =>
  rw [h0] at hs
  cases h1 : (smAll fs && decide (fs.length ≤ 60)) with
  | false => rw [h1] at ht; exact walkF1 A es cap B fs cab w hs ht
  | true =>
   rw [h1] at ht
   simp only [Bool.and_eq_true, decide_eq_true_eq] at h0 h1
   obtain ⟨ps, hl, hp⟩ := hv.1.spans hv.2 h0.1
   obtain ⟨qs, hl2, hp2⟩ := hv2.1.spans hv2.2 h1.1
   exact walkT A es cap B fs cab ps qs w hs ht hp hp2 ⟨by rw [hl]; exact h0.2, by rw [hl2]; exact h1.2⟩
set_option maxRecDepth 100000 in
theorem lifted (os : Os) (started : os.Started) (H : Type) (enc : TypeId × Value → H) :
  ReturnsInHanded {} Tryz.checked os 3 .any (Rows.scanlineSetsSpec.pre6 enc Tryz.prog Tryz.f3 Rows.scanlineSetsRow.domain false) (Rows.scanlineSetsSpec.post enc Tryz.prog Tryz.f3 false true false false) := by
 refine returnsInHanded_of_change (C := Tryz.checked) own started (by kernel_rfl) Tryz.func3
  (ChangeSpec.witness6 (enc := enc) (C := Tryz.checked) false ⟨#[], #[.slice none 0 0, .slice none 0 0], []⟩ 8 (by kernel_rfl) (by kernel_rfl) (by kernel_rfl) (by kernel_rfl)) ?_
 intro W base args ds gs before hval0 hW hcnd _
 have hval : ∀ (j : Nat) t v, Tryz.f3.params[j]? = some t → args[j]? = some v → Value.okWide Tryz.prog W .any base t v := hval0
 have hW' := hW
 obtain ⟨p, q, hA0, hV, rfl, hfz, hnd⟩ := hW
 have hA : DataW.TrodAll enc Tryz.prog W 0 (fun _ => true) true Tryz.f3.params.toList args.toList ds p := hA0
 rw [Tryz.params3] at hA hval
 obtain ⟨v0, vs0, d0, ds0, p0, q0, hargs, rfl, rfl, h0, r0⟩ := trodAll_cons hA
 obtain ⟨v1, vs1, d1, ds1, p1, q1, rfl, rfl, rfl, h1, r1⟩ := trodAll_cons r0
 obtain ⟨rfl, rfl, rfl⟩ := trodAll_nil r1
 obtain rfl : args = #[v0, v1] := by cases args; simp_all
 obtain ⟨rfl, rfl⟩ := trodVars_none hV
 have k0 := h0
 have lt0 : ∀ x ∈ p0, x.block < W.heap.size := by obtain ⟨m, hm⟩ := k0; exact DataW.trod_lt m _ _ _ hm
 obtain ⟨yA, zl0, yc, rfl⟩ := okWide_slice Tryz.underlying22 (hval 0 22 v0 rfl rfl)
 obtain ⟨zA0, yl, zc0, ze0, g0⟩ := (by obtain ⟨m, hm⟩ := h0; exact spans_openQ hm : ∃ zB zl zc, [Value.slice yA zl0 yc] = [.slice zB (List.length zl) zc] ∧ zl.length ≤ maxLen ∧ RawV W (.slice zB zl.length zc) zl ∧ RawL W zl)
 obtain ⟨rfl, rfl, rfl⟩ : yA = zA0 ∧ zl0 = yl.length ∧ yc = zc0 := by simpa using ze0
 have k1 := h1
 have lt1 : ∀ x ∈ p1, x.block < W.heap.size := by obtain ⟨m, hm⟩ := k1; exact DataW.trod_lt m _ _ _ hm
 obtain ⟨xA, zl1, xc, rfl⟩ := okWide_slice Tryz.underlying22 (hval 1 22 v1 rfl rfl)
 obtain ⟨zA1, xl, zc1, ze1, g1⟩ := (by obtain ⟨m, hm⟩ := h1; exact spans_openQ hm : ∃ zB zl zc, [Value.slice xA zl1 xc] = [.slice zB (List.length zl) zc] ∧ zl.length ≤ maxLen ∧ RawV W (.slice zB zl.length zc) zl ∧ RawL W zl)
 obtain ⟨rfl, rfl, rfl⟩ : xA = zA1 ∧ zl1 = xl.length ∧ xc = zc1 := by simpa using ze1
 clear hA0 hval0
 refine (walk yA yl yc xA xl xc W g0.2 g0.1 g1.2 g1.1).mono fun e W' ⟨he, hx⟩ => ?_
 subst he
 have bel := hx.below
 exact ⟨_, rfl, _, _, _, [], _, [], hW', trodAll_mk1 (shut_bool Tryz.underlying4 _), (trodAll_cons_mk (Below.trod laidOut (by kernel_rfl) (of_decide_eq_true (by kernel_rfl)) k0 bel lt0) (trodAll_cons_mk (Below.trod laidOut (by kernel_rfl) (of_decide_eq_true (by kernel_rfl)) k1 bel lt1) trodAll_mk0)), rfl, bel.frame _, fun h => by cases h⟩

theorem proved : Rows.ScanlineSetsSaid :=
  OpenClaim.holds_of_wide 3 Tryz.f3 rfl rfl rfl rfl rfl rfl rfl ⟨rfl, rfl, rfl, rfl, rfl⟩ rfl rfl rfl rfl rfl (by kernel_rfl) Tryz.func3 (by kernel_rfl)
    (of_decide_eq_true (by kernel_rfl)) (by unfold Func.isWrapper; first | (rw [if_pos (by decide +kernel)]; kernel_rfl) | (rw [if_neg (by decide +kernel)]; exact ⟨rfl, rfl⟩))
    (fun os started H enc _ => lifted os started H enc)
#print axioms proved
end Go.Proofs.YtaeeeailoiioaadGreat.sets
