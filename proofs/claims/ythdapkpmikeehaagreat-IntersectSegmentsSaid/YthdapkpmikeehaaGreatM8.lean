/- Contracts that the claim stands on: XExm17 to XFrame. -/
import Derived.Deep.LoopGhost
import Derived.Deep.DeepCutAuto
import Derived.Test.YthdapkpmikeehaaGreatRows
import Derived.ProofKit
import Derived.OpenShut
import Derived.Below
import Derived.Test.YthdapkpmikeehaaGreatM7
namespace Go.Proofs.YthdapkpmikeehaaGreat
open Go.RowKit
attribute [local go_sem ↓] Go.wp_at_zero Go.wp_at_succ run_max_ii run_min_ii
theorem exq56 : segN (0, 0) (2, 2) (0, 2) (2, 0) = 1 := by decide +kernel
theorem exq57 : segX (0, 0) (2, 2) (0, 2) (2, 0) = (((1 : Int) : Rat) / ((1 : Int) : Rat)) := by decide +kernel
theorem exq58 : segY (0, 0) (2, 2) (0, 2) (2, 0) = (((1 : Int) : Rat) / ((1 : Int) : Rat)) := by decide +kernel
theorem exq103 : segN (0, 0) (3, 1) (0, 1) (3, 0) = 1 := by decide +kernel
theorem exq104 : segX (0, 0) (3, 1) (0, 1) (3, 0) = (((3 : Int) : Rat) / ((2 : Int) : Rat)) := by decide +kernel
theorem exq105 : segY (0, 0) (3, 1) (0, 1) (3, 0) = (((1 : Int) : Rat) / ((2 : Int) : Rat)) := by decide +kernel
theorem exq150 : segN (0, 0) (4, 0) (1, 0) (9, 0) = 2 := by decide +kernel
theorem exq189 : yatC (0, 0) (4, 2) 1 := ⟨by decide, by decide, by decide, by decide, by decide⟩
theorem exq190 : yatQ (0, 0) (4, 2) 1 = (((1 : Int) : Rat) / ((2 : Int) : Rat)) := by decide +kernel
theorem exq224 : xatC (0, 0) (4, 2) (((3 : Int) : Rat) / ((2 : Int) : Rat)) := ⟨by decide, by decide, by decide, by decide +kernel, by decide +kernel⟩
theorem exq225 : xatQ (0, 0) (4, 2) (((3 : Int) : Rat) / ((2 : Int) : Rat)) = (((3 : Int) : Rat) / ((1 : Int) : Rat)) := by decide +kernel
set_option maxRecDepth 20000 in
set_option maxHeartbeats 4000000 in
theorem example17_any (w : World) : Calls Tryz.prog 7 #[] w fun e w' => e = .returned (.bool true) ∧ Ext w w' := by
 refine (callsIn_wide (n := 4)).1 ?_
 refine callsIn_of_wp_marks Tryz.func7 rfl trivial ?_ rfl
 simp only [Tryz.ntmps7, List.size_toArray, List.length_cons, List.length_nil, Nat.reduceAdd, Nat.reduceSub, Array.replicate_succ, Array.replicate_zero, List.push_toArray, List.append_toArray, List.nil_append, List.cons_append]
 refine wpIn_wide.2 ?_
 refine Go.Code.wp_mono bodyPostQ.m ?_
 have H0 := zH (Hp.start w)
 go_upto_region 0 with fail
 refine wp_region_lit ?_
 refine aA' 4 [.bool false] H0.out ?_
 intro X38 w39 H40 _
 go_upto_region 1 with fail
 refine wp_region_lit ?_
 refine aC H40.out (pt17_any 0 0 _) ?_
 intro w43 H44 _
 refine aC H44.out (pt17_any 2 2 _) ?_
 intro w46 H47 _
 refine aC H47.out (pt17_any 0 2 _) ?_
 intro w49 H50 _
 refine aC H50.out (pt17_any 2 0 _) ?_
 intro w52 H53 _
 refine zc (((segments_any (0, 0) (2, 2) (0, 2) (2, 0) _ (by decide) (by decide) (by decide) (by decide)).mono (fun _ _ h_ => SegRet.yes h_ exq56))) ?_
 rintro e w55 ⟨r59, s59, rfl, hr_, hs_, hx⟩
 have H60 := zH (H53.out.step hx)
 rw [exq57] at hr_
 rw [exq58] at hs_
 have R59 := zH hr_
 have S59 := zH hs_
 clear hr_ hs_
 clear hx
 refine zn ?_
 refine zI4 (Hp.start _) _ _ _ _ ?_
 refine aA' 29 rz H60.out ?_
 intro X66 w67 H68 D68
 refine aA' 29 rz H68.out ?_
 intro X71 w72 H73 D73
 refine aA' 3 [.int .i64 0] H73.out ?_
 intro X76 w77 H78 D78
 refine aS' 1 (rc r59) H78.out ?_
 intro w81 H82 D82
 refine aS' 2 (rc s59) H82.out ?_
 intro w84 H85 D85
 refine aU' 3 (.int .i64 1) H85.out ?_
 intro w87 H88 D88
 go_upto_region 2 with fail
 refine wp_region_lit ?_
 refine aC H88.out (pt17_any 0 0 _) ?_
 intro w90 H91 D91
 refine aC H91.out (pt17_any 3 1 _) ?_
 intro w93 H94 D94
 refine aC H94.out (pt17_any 0 1 _) ?_
 intro w96 H97 D97
 refine aC H97.out (pt17_any 3 0 _) ?_
 intro w99 H100 D100
 refine zc (((segments_any (0, 0) (3, 1) (0, 1) (3, 0) _ (by decide) (by decide) (by decide) (by decide)).mono (fun _ _ h_ => SegRet.yes h_ exq103))) ?_
 rintro e w102 ⟨r106, s106, rfl, hr_, hs_, hx⟩
 have H107 := zH (H100.out.step hx)
 have D107 := zH (Dig.of_ext hx)
 rw [exq104] at hr_
 rw [exq105] at hs_
 have R106 := zH hr_
 have S106 := zH hs_
 clear hr_ hs_
 clear hx
 refine zn ?_
 refine zI4 (Hp.start _) _ _ _ _ ?_
 refine aA' 29 rz H107.out ?_
 intro X113 w114 H115 D115
 refine aA' 29 rz H115.out ?_
 intro X118 w119 H120 D120
 refine aA' 3 [.int .i64 0] H120.out ?_
 intro X123 w124 H125 D125
 refine aS' 4 (rc r106) H125.out ?_
 intro w128 H129 D129
 refine aS' 5 (rc s106) H129.out ?_
 intro w131 H132 D132
 refine aU' 6 (.int .i64 1) H132.out ?_
 intro w134 H135 D135
 go_upto_region 3 with fail
 refine wp_region_lit ?_
 refine aC H135.out (pt17_any 0 0 _) ?_
 intro w137 H138 D138
 refine aC H138.out (pt17_any 4 0 _) ?_
 intro w140 H141 D141
 refine aC H141.out (pt17_any 1 0 _) ?_
 intro w143 H144 D144
 refine aC H144.out (pt17_any 9 0 _) ?_
 intro w146 H147 D147
 refine aC H147.out (((segments_any (0, 0) (4, 0) (1, 0) (9, 0) _ (by decide) (by decide) (by decide) (by decide)).mono (fun _ _ h_ => by have h2_ := SegRet.no h_ (by rw [exq150]; decide); rw [exq150] at h2_; exact h2_))) ?_
 intro w149 H151 D151
 refine zI4 (Hp.start _) _ _ _ _ ?_
 refine aA' 29 rz H151.out ?_
 intro X157 w158 H159 D159
 refine aA' 29 rz H159.out ?_
 intro X162 w163 H164 D164
 refine aA' 3 [.int .i64 0] H164.out ?_
 intro X167 w168 H169 D169
 refine aS' 7 rz H169.out ?_
 intro w172 H173 D173
 refine aS' 8 rz H173.out ?_
 intro w175 H176 D176
 refine aU' 9 (.int .i64 2) H176.out ?_
 intro w178 H179 D179
 go_upto_region 4 with fail
 refine wp_region_lit ?_
 refine aC H179.out (pt17_any 0 0 _) ?_
 intro w181 H182 D182
 refine aC H182.out (pt17_any 4 2 _) ?_
 intro w184 H185 D185
 refine zc (((yat_any (0, 0) (4, 2) 1 _ (by decide)).mono (fun _ _ h_ => AtRet.yes h_ exq189))) ?_
 rintro e w187 ⟨r188, rfl, hr_, hx⟩
 have H191 := zH (H185.out.step hx)
 have D191 := zH (Dig.of_ext hx)
 rw [exq190] at hr_
 have R188 := zH hr_
 clear hr_
 clear hx
 refine zn ?_
 refine zI3 (Hp.start _) _ _ (.bool true) ?_
 refine aA' 29 rz H191.out ?_
 intro X196 w197 H198 D198
 refine aA' 4 [.bool false] H198.out ?_
 intro X201 w202 H203 D203
 refine aS' 10 (rc r188) H203.out ?_
 intro w206 H207 D207
 refine aU' 11 (.bool true) H207.out ?_
 intro w209 H210 D210
 go_upto_region 5 with fail
 refine wp_region_lit ?_
 refine aC H210.out (pt17_any 0 0 _) ?_
 intro w212 H213 D213
 refine aC H213.out (pt17_any 4 2 _) ?_
 intro w215 H216 D216
 refine zc (frac17_any 3 2 _ (by decide) (by decide) (by decide)) ?_
 rintro e w218 ⟨r219, rfl, hr_, hx⟩
 have H220 := zH (H216.out.step hx)
 have D220 := zH (Dig.of_ext hx)
 have R219 := zH hr_
 have B219 := zH (rl_qq 3 2 (by decide) (by decide))
 clear hr_
 clear hx
 refine zn ?_
 refine zc (((xatf_any 8 (0, 0) (4, 2) r219 (((3 : Int) : Rat) / ((2 : Int) : Rat)) _ (RV.Is.isIn R219.out B219.out) (by decide) ⟨by decide, by decide⟩ ⟨by decide, by decide⟩).mono (fun _ _ h_ => AtRet.yes h_ exq224))) ?_
 rintro e w222 ⟨r223, rfl, hr_, hx⟩
 have H226 := zH (H220.out.step hx)
 have D226 := zH (Dig.of_ext hx)
 rw [exq225] at hr_
 have R223 := zH hr_
 clear hr_
 clear hx
 refine zn ?_
 refine zI3 (Hp.start _) _ _ (.bool true) ?_
 refine aA' 29 rz H226.out ?_
 intro X231 w232 H233 D233
 refine aA' 4 [.bool false] H233.out ?_
 intro X236 w237 H238 D238
 refine aS' 12 (rc r223) H238.out ?_
 intro w241 H242 D242
 refine aU' 13 (.bool true) H242.out ?_
 intro w244 H245 D245
 go_upto_region 6 with fail
 refine wp_region_lit ?_
 refine aC H245.out (pt17_any 0 0 _) ?_
 intro w247 H248 D248
 refine aC H248.out (pt17_any 4 0 _) ?_
 intro w250 H251 D251
 refine aC H251.out (pt17_any 4 4 _) ?_
 intro w253 H254 D254
 refine aC H254.out (pt17_any 0 4 _) ?_
 intro w256 H257 D257
 refine aL' 4 23 [.int .i64 0, .int .i64 0, .int .i64 4, .int .i64 0, .int .i64 4, .int .i64 4, .int .i64 0, .int .i64 4] H257.out ?_
 intro X259 w260 H261 D261
 refine aL' 1 56 [.slice (some ⟨X259, 0, none⟩) 4 4] H261.out ?_
 intro X263 w264 H265 D265
 refine aC H265.out (pt17_any 1 1 _) ?_
 intro w267 H268 D268
 refine aC H268.out (pt17_any 3 3 _) ?_
 intro w270 H271 D271
 refine zc (((eventYs_any (.slice (some ⟨X263, 0, none⟩) 1 1) exSq (1, 1) (3, 3) _ (ringLit (i := 14) (j := 15) H271.out [(0, 0), (4, 0), (4, 4), (0, 4)] (by rfl) (by rfl)) (by decide) (by decide)).mono (fun _ _ h_ => ex_ev h_))) ?_
 rintro e w273 ⟨Al, cl, rfl, hx⟩
 have H274 := zH (H271.out.step hx)
 have D274 := zH (Dig.of_ext hx)
 clear hx
 refine zn ?_
 refine aA' 39 [.slice none 0 0] H274.out ?_
 intro X276 w277 H278 D278
 refine aU' 16 (.slice Al 2 cl) H278.out ?_
 intro w281 H282 D282
 go_upto_region 7 with fail
 refine wp_region_lit ?_
 refine aC H282.out (pt17_any 0 0 _) ?_
 intro w284 H285 D285
 refine aC H285.out (pt17_any 2 2 _) ?_
 intro w287 H288 D288
 refine aC H288.out (pt17_any 2 0 _) ?_
 intro w290 H291 D291
 refine aC H291.out (pt17_any 0 2 _) ?_
 intro w293 H294 D294
 refine aL' 4 23 [.int .i64 0, .int .i64 0, .int .i64 2, .int .i64 2, .int .i64 2, .int .i64 0, .int .i64 0, .int .i64 2] H294.out ?_
 intro X296 w297 H298 D298
 refine aL' 1 56 [.slice (some ⟨X296, 0, none⟩) 4 4] H298.out ?_
 intro X300 w301 H302 D302
 refine zq (.slice (some ⟨X300, 0, none⟩) 1 1) ?_
 go_upto_region 8 with fail
 refine wp_region_lit ?_
 refine qV (.slice (some ⟨X300, 0, none⟩) 1 1) ?_
 refine zc (((intersections_any (some ⟨X300, 0, none⟩) 1 [[(0, 0), (2, 2), (2, 0), (0, 2)]] _ (ringLit (i := 17) (j := 18) H302.out [(0, 0), (2, 2), (2, 0), (0, 2)] (by rfl) (by rfl)) (by decide) (by decide) (by decide)).mono (fun _ _ h_ => ex_isx h_))) ?_
 rintro e w306 ⟨g1, c1, g2, c2, go, co, pe, rfl, hp_, hi_, ho_, hn_, hx⟩
 have H307 := zH (H302.out.step hx)
 have D307 := zH (Dig.of_ext hx)
 have HRP := zH hp_
 have HRI := zH hi_
 have HRO := zH ho_
 have HRN := zH hn_
 clear hp_ hi_ ho_ hn_
 clear hx
 refine zn ?_
 refine zI5 (Hp.start _) _ _ _ _ _ ?_
 go_upto_region 9 with fail
 refine zy ?_
 have H314 := zH (H307.out.step (Ext.refl w306).drew)
 have D314 := zH (Dig.of_ext (w := w306) zb)
 refine zJ2 (Hp.start _) zb (bs 44 3) 0 1 _ _ ?_
 refine zu 2 (bs 44 7) (v := .bool false) zb ?_ (hv := by intro w hSw; exact ezn (e := (dec_f (by omega))))
 refine zJ3 (Hp.start _) zb (bs 44 63) 3 4 5 (.bool false) _ _ ?_
 refine zu 6 (bs 44 127) (v := .bool false) zb ?_ (hv := by intro w hSw; exact ezn (e := (dec_f (by omega))))
 refine zJ3 (Hp.start _) zb (bs 44 1023) 7 8 9 (.bool false) (.bool false) _ ?_
 refine zu 10 (bs 44 2047) (v := .pointer (some ⟨g2, 0 * 1, none⟩)) zb ?_ (hv := by intro w hSw; exact ezi (k := 0) Tryz.underlying59 (l := (by decide)) (f := (Nat.zero_add _).symm))
 refine zf 11 (bs 44 4095) g2 (0 * 1) (.slice (some ⟨go, 0, none⟩) 2 co) HRO.out zb ?_
 refine zx 12 (bs 44 8191) (.int .i64 2) zb ?_
 refine zu 13 (bs 44 16383) (v := .bool false) zb ?_ (hv := by intro w hSw; exact ezn (e := (dec_f (by omega))))
 refine zJ3 (Hp.start _) zb (bs 44 131071) 14 15 16 (.bool false) (.bool false) _ ?_
 refine zu 17 (bs 44 262143) (v := .pointer (some ⟨g2, 0 * 1, none⟩)) zb ?_ (hv := by intro w hSw; exact ezi (k := 0) Tryz.underlying59 (l := (by decide)) (f := (Nat.zero_add _).symm))
 refine zf 18 (bs 44 524287) g2 (0 * 1) (.slice (some ⟨go, 0, none⟩) 2 co) HRO.out zb ?_
 refine zu 19 (bs 44 1048575) (v := .pointer (some ⟨go, 0 * 1, none⟩)) zb ?_ (hv := by intro w hSw; exact ezi (k := 0) Tryz.underlying62 (l := (by decide)) (f := (Nat.zero_add _).symm))
 refine zf 20 (bs 44 2097151) go (0 * 1) (.int .i64 0) (range_part HRN.out 0 1) zb ?_
 refine zu 21 (bs 44 4194303) (v := .bool false) zb ?_ (hv := by intro w hSw; exact ezn (e := (dec_f (by omega))))
 refine zJ3 (Hp.start _) zb (bs 44 33554431) 22 23 24 (.bool false) (.bool false) _ ?_
 refine zu 25 (bs 44 67108863) (v := .pointer (some ⟨g2, 0 * 1, none⟩)) zb ?_ (hv := by intro w hSw; exact ezi (k := 0) Tryz.underlying59 (l := (by decide)) (f := (Nat.zero_add _).symm))
 refine zf 26 (bs 44 134217727) g2 (0 * 1) (.slice (some ⟨go, 0, none⟩) 2 co) HRO.out zb ?_
 refine zu 27 (bs 44 268435455) (v := .pointer (some ⟨go, 1 * 1, none⟩)) zb ?_ (hv := by intro w hSw; exact ezi (k := 1) Tryz.underlying62 (l := (by decide)) (f := (Nat.zero_add _).symm))
 refine zf 28 (bs 44 536870911) go (1 * 1) (.int .i64 2) (range_part HRN.out 1 1) zb ?_
 refine zu 29 (bs 44 1073741823) (v := .bool false) zb ?_ (hv := by intro w hSw; exact ezn (e := (dec_f (by omega))))
 refine zJ3 (Hp.start _) zb (bs 44 8589934591) 30 31 32 (.bool false) (.bool false) _ ?_
 refine zu 33 (bs 44 17179869183) (v := .pointer (some ⟨g1, 0 * 8, none⟩)) zb ?_ (hv := by intro w hSw; exact ezi (k := 0) Tryz.underlying58 (l := (by decide)) (f := (Nat.zero_add _).symm))
 refine mX 34 (bs 44 34359738367) (.pointer (some ⟨g1, 0 * 8, none⟩)) zb ?_
 refine zg 35 (bs 44 68719476735) g1 (0 * 8) (rc pe.a) (range_part HRP.out 0 4) Tryz.underlying29 zb ?_
 refine mC 36 (bs 44 137438953471) (frac17_any 1 1 _ (by decide) (by decide) (by decide)) ?_
 rintro e w346 ⟨r347, rfl, hr_, hx⟩
 have H348 := zH (H314.out.step hx)
 have D348 := zH (show Dig w306.drew w346 from Dig.of_ext hx)
 have S350 := zH (zb.trans hx)
 have R347 := zH hr_
 have B347 := zH (rl_qq 1 1 (by decide) (by decide))
 clear hr_
 clear hx
 refine zm S350.out ?_
 have DD352 := zH ((D314.out.trans D348.out))
 refine mC 37 (bs 44 274877906943) (same17_any pe.a r347 (((1 : Int) : Rat) / ((1 : Int) : Rat)) 8 _ (HRI.out.dig DD352.out) R347.out B347.out (by decide)) ?_
 rintro e w351 ⟨rfl, hx⟩
 have H353 := zH (H348.out.step hx)
 have D353 := zH (Dig.of_ext hx)
 have S355 := zH (S350.out.trans hx)
 clear hx
 refine zm S355.out ?_
 refine zJ4 (Hp.start _) S355.out (bs 44 4398046511103) 38 39 40 41 (.bool false) (.bool false) (.bool false) _ ?_
 refine mC 42 (bs 44 8796093022207) (isSimple_any (some ⟨X300, 0, none⟩) 1 [[(0, 0), (2, 2), (2, 0), (0, 2)]] _ (ringLit (i := 17) (j := 18) H353.out [(0, 0), (2, 2), (2, 0), (0, 2)] (by rfl) (by rfl)) (by decide) (by decide) (by decide)) ?_
 rintro e w360 ⟨rfl, hx⟩
 have H361 := zH (H353.out.step hx)
 have D361 := zH (Dig.of_ext hx)
 have S363 := zH (S355.out.trans hx)
 clear hx
 refine ⟨.bool false, by rw [show simB [[(0, 0), (2, 2), (2, 0), (0, 2)]] = false from ex_bow], S363.out, ?_⟩
 try simp only [Act.put, zA, zB, zC]
 refine zx 43 (bs 44 17592186044415) (.bool false) S363.out ?_
 refine wpAnyH_done (by kernel_rfl) ?_ _
 go_upto_region 11 with fail
 refine wp_region_lit ?_
 refine aC H361.out (pt17_any 0 0 _) ?_
 intro w365 H366 D366
 refine aC H366.out (pt17_any 4 0 _) ?_
 intro w368 H369 D369
 refine aC H369.out (pt17_any 0 4 _) ?_
 intro w371 H372 D372
 refine aL' 3 23 [.int .i64 0, .int .i64 0, .int .i64 4, .int .i64 0, .int .i64 0, .int .i64 4] H372.out ?_
 intro X374 w375 H376 D376
 refine aL' 1 56 [.slice (some ⟨X374, 0, none⟩) 3 3] H376.out ?_
 intro X378 w379 H380 D380
 refine zc (isSimple_any (some ⟨X378, 0, none⟩) 1 [[(0, 0), (4, 0), (0, 4)]] _ (ringLit (i := 19) (j := 20) H380.out [(0, 0), (4, 0), (0, 4)] (by rfl) (by rfl)) (by decide) (by decide) (by decide)) ?_
 rintro e w382 ⟨rfl, hx⟩
 have H383 := zH (H380.out.step hx)
 have D383 := zH (Dig.of_ext hx)
 clear hx
 refine ⟨.bool true, by rw [show simB [[(0, 0), (4, 0), (0, 4)]] = true from ex_tri], ?_⟩
 try simp only [Act.put, zA, zB, zC]
 refine zq (.bool false) ?_
 go_upto_region 13 with fail
 refine wp_region_lit ?_
 refine aC H383.out (pt17_any 0 0 _) ?_
 intro w386 H387 D387
 refine aC H387.out (pt17_any 1 0 _) ?_
 intro w389 H390 D390
 refine aC H390.out (pt17_any 1 0 _) ?_
 intro w392 H393 D393
 refine aL' 3 23 [.int .i64 0, .int .i64 0, .int .i64 1, .int .i64 0, .int .i64 1, .int .i64 0] H393.out ?_
 intro X395 w396 H397 D397
 refine aL' 1 56 [.slice (some ⟨X395, 0, none⟩) 3 3] H397.out ?_
 intro X399 w400 H401 D401
 refine zc (edges_any (.slice (some ⟨X399, 0, none⟩) 1 1) exDeg _ (ringLit (i := 21) (j := 22) H401.out [(0, 0), (1, 0), (1, 0)] (by rfl) (by rfl)) (by decide) (by decide)) ?_
 rintro e w403 ⟨Bx, ve, rfl, hB1, hB2, hcell, hR, hx⟩
 have HB1 := zH hB1
 have HB2 := zH hB2
 have HCL := zH hcell
 rw [if_pos (show okR exDeg = true by decide)] at hR
 have HRG := zH hR
 clear hB1 hB2 hcell hR
 have H404 := zH (H401.out.step hx)
 have D404 := zH (Dig.of_ext hx)
 clear hx
 refine zn ?_
 refine zq (.func (.func 67) #[] #[.pointer (some ⟨Bx, 0, none⟩)]) ?_
 go_upto_region 14 with fail
 refine wp_region_lit ?_
 refine zq (.func (.func 67) #[] #[.pointer (some ⟨Bx, 0, none⟩)]) ?_
 refine zp (w' := w403) (.bool false) (by go_simp <;> kernel_rfl) ?_
 go_upto_region 16 with fail
 refine wp_region_lit ?_
 refine zq (.func (.func 67) #[] #[.pointer (some ⟨Bx, 0, none⟩)]) ?_
 have hb0 := H401.out.lt (i := 0) (k := X38) (by rfl) rfl
 have HRF := zH (show RingsO (fun k_ => ¬ (fun j => j = X38 ∨ w403.heap.size ≤ j) k_) w403 ve exDeg from HRG.out.imp (fun k_ h hk => by rcases hk with rfl | hk; omega; omega))
 have HWS := zH (show w.heap.size ≤ w403.heap.size from H404.out.ext.size)
 have hgb : ¬ (fun j => j = X38 ∨ w403.heap.size ≤ j) Bx := fun hk => by have h1 := HB1.out; have h9 := HB2.out; rcases hk with hk | hk; omega; omega
 obtain ⟨J0, hJ0⟩ : ∃ J : List OkE → World → Prop, J = fun pre W => pre = [] ∧ Hp w W [.blk X38 4 [.bool false], .blk X66 29 [.bool r59.n, .slice r59.p r59.l r59.c, .bool r59.m, .slice r59.p2 r59.l2 r59.c2], .blk X71 29 [.bool s59.n, .slice s59.p s59.l s59.c, .bool s59.m, .slice s59.p2 s59.l2 s59.c2], .blk X76 3 [.int .i64 1], .blk X113 29 [.bool r106.n, .slice r106.p r106.l r106.c, .bool r106.m, .slice r106.p2 r106.l2 r106.c2], .blk X118 29 [.bool s106.n, .slice s106.p s106.l s106.c, .bool s106.m, .slice s106.p2 s106.l2 s106.c2], .blk X123 3 [.int .i64 1], .blk X157 29 [.bool false, .slice none 0 0, .bool false, .slice none 0 0], .blk X162 29 [.bool false, .slice none 0 0, .bool false, .slice none 0 0], .blk X167 3 [.int .i64 2], .blk X196 29 [.bool r188.n, .slice r188.p r188.l r188.c, .bool r188.m, .slice r188.p2 r188.l2 r188.c2], .blk X201 4 [.bool true], .blk X231 29 [.bool r223.n, .slice r223.p r223.l r223.c, .bool r223.m, .slice r223.p2 r223.l2 r223.c2], .blk X236 4 [.bool true], .blk X259 23 [.int .i64 0, .int .i64 0, .int .i64 4, .int .i64 0, .int .i64 4, .int .i64 4, .int .i64 0, .int .i64 4], .blk X263 56 [.slice (some ⟨X259, 0, none⟩) 4 4], .blk X276 39 [.slice Al 2 cl], .blk X296 23 [.int .i64 0, .int .i64 0, .int .i64 2, .int .i64 2, .int .i64 2, .int .i64 0, .int .i64 0, .int .i64 2], .blk X300 56 [.slice (some ⟨X296, 0, none⟩) 4 4], .blk X374 23 [.int .i64 0, .int .i64 0, .int .i64 4, .int .i64 0, .int .i64 0, .int .i64 4], .blk X378 56 [.slice (some ⟨X374, 0, none⟩) 3 3], .blk X395 23 [.int .i64 0, .int .i64 0, .int .i64 1, .int .i64 0, .int .i64 1, .int .i64 0], .blk X399 56 [.slice (some ⟨X395, 0, none⟩) 3 3]] ∧ Ext w403 W := ⟨_, rfl⟩
 obtain ⟨Jx, hJx⟩ : ∃ J : Code → List OkE → World → Prop, J = fun c _ W => c = .ret ∧ Blk W X38 4 ([.bool true] : List Value).toArray ∧ Ext w W := ⟨_, rfl⟩
 obtain ⟨Ja, hJa⟩ : ∃ J : OkE → Act → World → Prop, J = fun _ a' _ => ∃ J : Nat → Value, a' = { tmps := #[.pointer (some ⟨X38, 0, none⟩), .pointer (some ⟨X66, 0, none⟩), .pointer (some ⟨X71, 0, none⟩), .pointer (some ⟨X76, 0, none⟩), .pointer (some ⟨X113, 0, none⟩), .pointer (some ⟨X118, 0, none⟩), .pointer (some ⟨X123, 0, none⟩), .pointer (some ⟨X157, 0, none⟩), .pointer (some ⟨X162, 0, none⟩), .pointer (some ⟨X167, 0, none⟩), .pointer (some ⟨X196, 0, none⟩), .pointer (some ⟨X201, 0, none⟩), .pointer (some ⟨X231, 0, none⟩), .pointer (some ⟨X236, 0, none⟩), .pointer (some ⟨X276, 0, none⟩), J 15, J 16, J 17, J 18, J 19, J 20, J 21, J 22, J 23, J 24, J 25, J 26, J 27, J 28, J 29, J 30, J 31, J 32, J 33, J 34, J 35, J 36, J 37, J 38, J 39, J 40, J 41, J 42, J 43, J 44, J 45, J 46, J 47, J 48, J 49, J 50, J 51, J 52, J 53, J 54, J 55, J 56, J 57, J 58, J 59, J 60, J 61, J 62, J 63, J 64, J 65, J 66, J 67, J 68, J 69, J 70, J 71, J 72, J 73, J 74, J 75, J 76, J 77, J 78, J 79, J 80, J 81, J 82, J 83, J 84, J 85, J 86, J 87, J 88, J 89, J 90, J 91, J 92, J 93, J 94, J 95, J 96, J 97, J 98, J 99, J 100, J 101, J 102, J 103, J 104, J 105, J 106, J 107, J 108, J 109, J 110, J 111, J 112, J 113, J 114, J 115, J 116, J 117, J 118, J 119, J 120, J 121, J 122, J 123, J 124, J 125, J 126, J 127, J 128, J 129, J 130, J 131, J 132, J 133, J 134, J 135, J 136, J 137, J 138, J 139, J 140, J 141, J 142, J 143, J 144, J 145, J 146, J 147, J 148, J 149, J 150, J 151, J 152, J 153, J 154, J 155, J 156, J 157, J 158, J 159, J 160, J 161, J 162, J 163, J 164, J 165, J 166, J 167, J 168, J 169, J 170, J 171, J 172, J 173, J 174, J 175, J 176, J 177, J 178, J 179, J 180, J 181, J 182, J 183, J 184, J 185, J 186, J 187, J 188, J 189, J 190, J 191], defers := [] } := ⟨_, rfl⟩
 have DD412 := zH (((((((((((((((((((((((((((((((((((((((((((((((((((((((((((((((((((((((((((((D68.out.trans D73.out).trans D78.out).trans D82.out).trans D85.out).trans D88.out).trans D91.out).trans D94.out).trans D97.out).trans D100.out).trans D107.out).trans D115.out).trans D120.out).trans D125.out).trans D129.out).trans D132.out).trans D135.out).trans D138.out).trans D141.out).trans D144.out).trans D147.out).trans D151.out).trans D159.out).trans D164.out).trans D169.out).trans D173.out).trans D176.out).trans D179.out).trans D182.out).trans D185.out).trans D191.out).trans D198.out).trans D203.out).trans D207.out).trans D210.out).trans D213.out).trans D216.out).trans D220.out).trans D226.out).trans D233.out).trans D238.out).trans D242.out).trans D245.out).trans D248.out).trans D251.out).trans D254.out).trans D257.out).trans D261.out).trans D265.out).trans D268.out).trans D271.out).trans D274.out).trans D278.out).trans D282.out).trans D285.out).trans D288.out).trans D291.out).trans D294.out).trans D298.out).trans D302.out).trans D307.out).trans D314.out).trans D348.out).trans D353.out).trans D361.out).trans D366.out).trans D369.out).trans D372.out).trans D376.out).trans D380.out).trans D383.out).trans D387.out).trans D390.out).trans D393.out).trans D397.out).trans D401.out).trans D404.out))
 have DD415 := zH ((((((((((((((((((((((((((((((((((((((((((((((((((((((((((((((((((D115.out.trans D120.out).trans D125.out).trans D129.out).trans D132.out).trans D135.out).trans D138.out).trans D141.out).trans D144.out).trans D147.out).trans D151.out).trans D159.out).trans D164.out).trans D169.out).trans D173.out).trans D176.out).trans D179.out).trans D182.out).trans D185.out).trans D191.out).trans D198.out).trans D203.out).trans D207.out).trans D210.out).trans D213.out).trans D216.out).trans D220.out).trans D226.out).trans D233.out).trans D238.out).trans D242.out).trans D245.out).trans D248.out).trans D251.out).trans D254.out).trans D257.out).trans D261.out).trans D265.out).trans D268.out).trans D271.out).trans D274.out).trans D278.out).trans D282.out).trans D285.out).trans D288.out).trans D291.out).trans D294.out).trans D298.out).trans D302.out).trans D307.out).trans D314.out).trans D348.out).trans D353.out).trans D361.out).trans D366.out).trans D369.out).trans D372.out).trans D376.out).trans D380.out).trans D383.out).trans D387.out).trans D390.out).trans D393.out).trans D397.out).trans D401.out).trans D404.out))
 have DD418 := zH ((((((((((((((((((((((((((((((((((((((((((((((D198.out.trans D203.out).trans D207.out).trans D210.out).trans D213.out).trans D216.out).trans D220.out).trans D226.out).trans D233.out).trans D238.out).trans D242.out).trans D245.out).trans D248.out).trans D251.out).trans D254.out).trans D257.out).trans D261.out).trans D265.out).trans D268.out).trans D271.out).trans D274.out).trans D278.out).trans D282.out).trans D285.out).trans D288.out).trans D291.out).trans D294.out).trans D298.out).trans D302.out).trans D307.out).trans D314.out).trans D348.out).trans D353.out).trans D361.out).trans D366.out).trans D369.out).trans D372.out).trans D376.out).trans D380.out).trans D383.out).trans D387.out).trans D390.out).trans D393.out).trans D397.out).trans D401.out).trans D404.out))
 have DD420 := zH ((((((((((((((((((((((((((((((((((((((D233.out.trans D238.out).trans D242.out).trans D245.out).trans D248.out).trans D251.out).trans D254.out).trans D257.out).trans D261.out).trans D265.out).trans D268.out).trans D271.out).trans D274.out).trans D278.out).trans D282.out).trans D285.out).trans D288.out).trans D291.out).trans D294.out).trans D298.out).trans D302.out).trans D307.out).trans D314.out).trans D348.out).trans D353.out).trans D361.out).trans D366.out).trans D369.out).trans D372.out).trans D376.out).trans D380.out).trans D383.out).trans D387.out).trans D390.out).trans D393.out).trans D397.out).trans D401.out).trans D404.out))
 go_wp2_with fail
 refine wpIn_wide.1 (edges_loopX (n := 4) (by omega) (fun j => j = X38 ∨ w403.heap.size ≤ j) Bx ve exDeg (by rfl) HCL.out hgb HRF.out (by decide) (by decide) (fun k_ h_ => .inr h_) J0 Jx ?own ?ownx (by rw [hJ0]; exact ⟨rfl, H404.out, Ext.refl _⟩) Ja (by rw [hJa]; exact fun _ _ _ _ _ _ h _ _ => h) ?assign ?body ?done ?stop)
 case own =>
  rw [hJ0]
  rintro s W W' row ⟨h1, h2, h3⟩ hg hr
  exact ⟨h1, h2.keptQ hg (fun k hk => ⟨Nat.le_trans HWS.out (hr k hk).1, (hr k hk).2⟩), Ext.grown h3 hg (fun k hk => (hr k hk).1)⟩
 case ownx =>
  rw [hJx]
  rintro c s W W' row ⟨h1, h2, h3⟩ hg hr
  exact ⟨h1, h2.kept hg (fun k hk => (hr k hk).2), Ext.grown h3 hg (fun k hk => Nat.le_trans HWS.out (hr k hk).1)⟩
 case assign =>
  intro l pre x W K hi hK
  skip
  gi_wp2
  refine hK _ _ (KeepsFrom.refl _ _) (Fr.of_ext (Ext.refl _)) hi ?_
  rw [hJa]
  exact frame_ex (by rfl)
 case body =>
  intro l pre x a' W hi hax hlen
  rw [hJ0] at hi
  rw [hJa] at hax
  obtain ⟨hpre, hh, hxx⟩ := hi
  obtain ⟨J, rfl⟩ := hax
  have H0 := zH hh
  have HXX := zH hxx
  clear hh hxx
  have RW411 := zH (R59.out.dig (DD412.out.trans (Dig.of_ext HXX.out)))
  have RW413 := zH (S59.out.dig (DD412.out.trans (Dig.of_ext HXX.out)))
  have RW414 := zH (R106.out.dig (DD415.out.trans (Dig.of_ext HXX.out)))
  have RW416 := zH (S106.out.dig (DD415.out.trans (Dig.of_ext HXX.out)))
  have RW417 := zH (R188.out.dig (DD418.out.trans (Dig.of_ext HXX.out)))
  have RW419 := zH (R223.out.dig (DD420.out.trans (Dig.of_ext HXX.out)))
  gi_upto_region 17 with fail
  refine wpIn_region_held_drew (S := fun x => Fr (fun kz => kz = X38) W x) (by kernel_rfl) (by kernel_rfl) (fun ⟨_, _, h⟩ => h) (Fr.of_ext zb) (fun _ => ?_)
  have H421 := zH (H0.out.step (Ext.refl W).drew)
  have D421 := zH (Dig.of_ext (w := W) zb)
  have K423 := zH (show Fr (fun kz => kz = X38) W W.drew from (Fr.of_ext (G := fun kz => kz = X38) (Ext.refl W)).trans (Fr.of_ext (Ext.refl W).drew))
  refine md_ld1 (g := X76) (o := 0) (v := .int .i64 1) (i := 0) (listed' := (bs 52 1)) (by rfl) (by kernel_rfl) (by kernel_rfl) (by kernel_rfl) (by intro _ _ _ h; exact h) (by rfl) (fun x hx => Fr.cell hx (show World.cell? W ⟨X76, 0, none⟩ = some (.int .i64 1) from cell_of_range (H0.out.range (i := 3) (by rfl) 0 1)) (H0.out.offBlk (i := 3) (j := 0) (by rfl) (by rfl) (by decide) (by rfl))) (by intro x hq; go_simp <;> with_reducible rfl) (Fr.of_ext zb) (by kernel_rfl) ?_
  try simp only [Act.put, zA, zB, zC]
  refine zu 1 (bs 52 3) (v := .bool true) (Fr.of_ext zb) ?_ (hv := by intro w hSw; exact ezq (e := (dec_t (by omega))))
  refine mX 2 (bs 52 7) (.bool true) (Fr.of_ext zb) ?_
  refine zr 3 (bs 52 15) X66 (0) [.bool r59.n, .slice r59.p r59.l r59.c, .bool r59.m, .slice r59.p2 r59.l2 r59.c2] (fun x hx => Fr.range hx (show World.rangeAt W X66 (0) [.bool r59.n, .slice r59.p r59.l r59.c, .bool r59.m, .slice r59.p2 r59.l2 r59.c2] from (H0.out.range (i := 1) (by rfl) 0 4)) (H0.out.offBlk (i := 1) (j := 0) (by rfl) (by rfl) (by decide) (by rfl))) Tryz.underlying29 (Fr.of_ext zb) ?_
  refine mC 4 (bs 52 31) (frac17_any 1 1 _ (by decide) (by decide) (by decide)) ?_
  rintro e w426 ⟨r427, rfl, hr_, hx⟩
  have H428 := zH (H421.out.step hx)
  have D428 := zH (show Dig W.drew w426 from Dig.of_ext hx)
  have K430 := zH (K423.out.trans (Fr.of_ext hx))
  have S432 := zH (show Fr (fun kz => kz = X38) W w426 from (Fr.of_ext zb).trans (Fr.of_ext hx))
  have R427 := zH hr_
  have B427 := zH (rl_qq 1 1 (by decide) (by decide))
  clear hr_
  clear hx
  refine zm S432.out ?_
  have DD434 := zH ((D421.out.trans D428.out))
  refine mC 5 (bs 52 63) (same17_any r59 r427 (((1 : Int) : Rat) / ((1 : Int) : Rat)) 8 _ (RW411.out.dig DD434.out) R427.out B427.out (by decide)) ?_
  rintro e w433 ⟨rfl, hx⟩
  have H435 := zH (H428.out.step hx)
  have D435 := zH (Dig.of_ext hx)
  have K437 := zH (K430.out.trans (Fr.of_ext hx))
  have S439 := zH (show Fr (fun kz => kz = X38) W w433 from S432.out.trans (Fr.of_ext hx))
  clear hx
  refine zm S439.out ?_
  refine zx 6 (bs 52 127) (.bool true) S439.out ?_
  refine mX 7 (bs 52 255) (.bool true) S439.out ?_
  refine zr 8 (bs 52 511) X71 (0) [.bool s59.n, .slice s59.p s59.l s59.c, .bool s59.m, .slice s59.p2 s59.l2 s59.c2] (fun x hx => Fr.range hx (show World.rangeAt W X71 (0) [.bool s59.n, .slice s59.p s59.l s59.c, .bool s59.m, .slice s59.p2 s59.l2 s59.c2] from (H0.out.range (i := 2) (by rfl) 0 4)) (H0.out.offBlk (i := 2) (j := 0) (by rfl) (by rfl) (by decide) (by rfl))) Tryz.underlying29 S439.out ?_
  refine mC 9 (bs 52 1023) (frac17_any 1 1 _ (by decide) (by decide) (by decide)) ?_
  rintro e w442 ⟨r443, rfl, hr_, hx⟩
  have H444 := zH (H435.out.step hx)
  have D444 := zH (Dig.of_ext hx)
  have K446 := zH (K437.out.trans (Fr.of_ext hx))
  have S448 := zH (show Fr (fun kz => kz = X38) W w442 from S439.out.trans (Fr.of_ext hx))
  have R443 := zH hr_
  have B443 := zH (rl_qq 1 1 (by decide) (by decide))
  clear hr_
  clear hx
  refine zm S448.out ?_
  have DD450 := zH (((DD434.out.trans D435.out).trans D444.out))
  refine mC 10 (bs 52 2047) (same17_any s59 r443 (((1 : Int) : Rat) / ((1 : Int) : Rat)) 8 _ (RW413.out.dig DD450.out) R443.out B443.out (by decide)) ?_
  rintro e w449 ⟨rfl, hx⟩
  have H451 := zH (H444.out.step hx)
  have D451 := zH (Dig.of_ext hx)
  have K453 := zH (K446.out.trans (Fr.of_ext hx))
  have S455 := zH (show Fr (fun kz => kz = X38) W w449 from S448.out.trans (Fr.of_ext hx))
  clear hx
  refine zm S455.out ?_
  refine zx 11 (bs 52 4095) (.bool true) S455.out ?_
  refine zx 12 (bs 52 8191) (.bool true) S455.out ?_
  refine md_ld1 (g := X123) (o := 0) (v := .int .i64 1) (i := 13) (listed' := (bs 52 16383)) (by rfl) (by kernel_rfl) (by kernel_rfl) (by kernel_rfl) (by intro _ _ _ h; exact h) (by rfl) (fun x hx => Fr.cell hx (show World.cell? W ⟨X123, 0, none⟩ = some (.int .i64 1) from cell_of_range (H0.out.range (i := 6) (by rfl) 0 1)) (H0.out.offBlk (i := 6) (j := 0) (by rfl) (by rfl) (by decide) (by rfl))) (by intro x hq; go_simp <;> with_reducible rfl) S455.out (by kernel_rfl) ?_
  try simp only [Act.put, zA, zB, zC]
  refine zu 14 (bs 52 32767) (v := .bool true) S455.out ?_ (hv := by intro w hSw; exact ezq (e := (dec_t (by omega))))
  refine zx 15 (bs 52 65535) (.bool true) S455.out ?_
  refine mX 16 (bs 52 131071) (.bool true) S455.out ?_
  refine zr 17 (bs 52 262143) X113 (0) [.bool r106.n, .slice r106.p r106.l r106.c, .bool r106.m, .slice r106.p2 r106.l2 r106.c2] (fun x hx => Fr.range hx (show World.rangeAt W X113 (0) [.bool r106.n, .slice r106.p r106.l r106.c, .bool r106.m, .slice r106.p2 r106.l2 r106.c2] from (H0.out.range (i := 4) (by rfl) 0 4)) (H0.out.offBlk (i := 4) (j := 0) (by rfl) (by rfl) (by decide) (by rfl))) Tryz.underlying29 S455.out ?_
  refine mC 18 (bs 52 524287) (frac17_any 3 2 _ (by decide) (by decide) (by decide)) ?_
  rintro e w461 ⟨r462, rfl, hr_, hx⟩
  have H463 := zH (H451.out.step hx)
  have D463 := zH (Dig.of_ext hx)
  have K465 := zH (K453.out.trans (Fr.of_ext hx))
  have S467 := zH (show Fr (fun kz => kz = X38) W w461 from S455.out.trans (Fr.of_ext hx))
  have R462 := zH hr_
  have B462 := zH (rl_qq 3 2 (by decide) (by decide))
  clear hr_
  clear hx
  refine zm S467.out ?_
  have DD469 := zH (((DD450.out.trans D451.out).trans D463.out))
  refine mC 19 (bs 52 1048575) (same17_any r106 r462 (((3 : Int) : Rat) / ((2 : Int) : Rat)) 8 _ (RW414.out.dig DD469.out) R462.out B462.out (by decide)) ?_
  rintro e w468 ⟨rfl, hx⟩
  have H470 := zH (H463.out.step hx)
  have D470 := zH (Dig.of_ext hx)
  have K472 := zH (K465.out.trans (Fr.of_ext hx))
  have S474 := zH (show Fr (fun kz => kz = X38) W w468 from S467.out.trans (Fr.of_ext hx))
  clear hx
  refine zm S474.out ?_
  refine zx 20 (bs 52 2097151) (.bool true) S474.out ?_
  refine mX 21 (bs 52 4194303) (.bool true) S474.out ?_
  refine zr 22 (bs 52 8388607) X118 (0) [.bool s106.n, .slice s106.p s106.l s106.c, .bool s106.m, .slice s106.p2 s106.l2 s106.c2] (fun x hx => Fr.range hx (show World.rangeAt W X118 (0) [.bool s106.n, .slice s106.p s106.l s106.c, .bool s106.m, .slice s106.p2 s106.l2 s106.c2] from (H0.out.range (i := 5) (by rfl) 0 4)) (H0.out.offBlk (i := 5) (j := 0) (by rfl) (by rfl) (by decide) (by rfl))) Tryz.underlying29 S474.out ?_
  refine mC 23 (bs 52 16777215) (frac17_any 1 2 _ (by decide) (by decide) (by decide)) ?_
  rintro e w477 ⟨r478, rfl, hr_, hx⟩
  have H479 := zH (H470.out.step hx)
  have D479 := zH (Dig.of_ext hx)
  have K481 := zH (K472.out.trans (Fr.of_ext hx))
  have S483 := zH (show Fr (fun kz => kz = X38) W w477 from S474.out.trans (Fr.of_ext hx))
  have R478 := zH hr_
  have B478 := zH (rl_qq 1 2 (by decide) (by decide))
  clear hr_
  clear hx
  refine zm S483.out ?_
  have DD485 := zH (((DD469.out.trans D470.out).trans D479.out))
  refine mC 24 (bs 52 33554431) (same17_any s106 r478 (((1 : Int) : Rat) / ((2 : Int) : Rat)) 8 _ (RW416.out.dig DD485.out) R478.out B478.out (by decide)) ?_
  rintro e w484 ⟨rfl, hx⟩
  have H486 := zH (H479.out.step hx)
  have D486 := zH (Dig.of_ext hx)
  have K488 := zH (K481.out.trans (Fr.of_ext hx))
  have S490 := zH (show Fr (fun kz => kz = X38) W w484 from S483.out.trans (Fr.of_ext hx))
  clear hx
  refine zm S490.out ?_
  refine zx 25 (bs 52 67108863) (.bool true) S490.out ?_
  refine zx 26 (bs 52 134217727) (.bool true) S490.out ?_
  refine md_ld1 (g := X167) (o := 0) (v := .int .i64 2) (i := 27) (listed' := (bs 52 268435455)) (by rfl) (by kernel_rfl) (by kernel_rfl) (by kernel_rfl) (by intro _ _ _ h; exact h) (by rfl) (fun x hx => Fr.cell hx (show World.cell? W ⟨X167, 0, none⟩ = some (.int .i64 2) from cell_of_range (H0.out.range (i := 9) (by rfl) 0 1)) (H0.out.offBlk (i := 9) (j := 0) (by rfl) (by rfl) (by decide) (by rfl))) (by intro x hq; go_simp <;> with_reducible rfl) S490.out (by kernel_rfl) ?_
  try simp only [Act.put, zA, zB, zC]
  refine zu 28 (bs 52 536870911) (v := .bool true) S490.out ?_ (hv := by intro w hSw; exact ezq (e := (dec_t (by omega))))
  refine zx 29 (bs 52 1073741823) (.bool true) S490.out ?_
  refine zx 30 (bs 52 2147483647) (.bool true) S490.out ?_
  refine md_ld1 (g := X201) (o := 0) (v := .bool true) (i := 31) (listed' := (bs 52 4294967295)) (by rfl) (by kernel_rfl) (by kernel_rfl) (by kernel_rfl) (by intro _ _ _ h; exact h) (by rfl) (fun x hx => Fr.cell hx (show World.cell? W ⟨X201, 0, none⟩ = some (.bool true) from cell_of_range (H0.out.range (i := 11) (by rfl) 0 1)) (H0.out.offBlk (i := 11) (j := 0) (by rfl) (by rfl) (by decide) (by rfl))) (by intro x hq; go_simp <;> with_reducible rfl) S490.out (by kernel_rfl) ?_
  try simp only [Act.put, zA, zB, zC]
  refine zx 32 (bs 52 8589934591) (.bool true) S490.out ?_
  refine mX 33 (bs 52 17179869183) (.bool true) S490.out ?_
  refine zr 34 (bs 52 34359738367) X196 (0) [.bool r188.n, .slice r188.p r188.l r188.c, .bool r188.m, .slice r188.p2 r188.l2 r188.c2] (fun x hx => Fr.range hx (show World.rangeAt W X196 (0) [.bool r188.n, .slice r188.p r188.l r188.c, .bool r188.m, .slice r188.p2 r188.l2 r188.c2] from (H0.out.range (i := 10) (by rfl) 0 4)) (H0.out.offBlk (i := 10) (j := 0) (by rfl) (by rfl) (by decide) (by rfl))) Tryz.underlying29 S490.out ?_
  refine mC 35 (bs 52 68719476735) (frac17_any 1 2 _ (by decide) (by decide) (by decide)) ?_
  rintro e w498 ⟨r499, rfl, hr_, hx⟩
  have H500 := zH (H486.out.step hx)
  have D500 := zH (Dig.of_ext hx)
  have K502 := zH (K488.out.trans (Fr.of_ext hx))
  have S504 := zH (show Fr (fun kz => kz = X38) W w498 from S490.out.trans (Fr.of_ext hx))
  have R499 := zH hr_
  have B499 := zH (rl_qq 1 2 (by decide) (by decide))
  clear hr_
  clear hx
  refine zm S504.out ?_
  have DD506 := zH (((DD485.out.trans D486.out).trans D500.out))
  refine mC 36 (bs 52 137438953471) (same17_any r188 r499 (((1 : Int) : Rat) / ((2 : Int) : Rat)) 8 _ (RW417.out.dig DD506.out) R499.out B499.out (by decide)) ?_
  rintro e w505 ⟨rfl, hx⟩
  have H507 := zH (H500.out.step hx)
  have D507 := zH (Dig.of_ext hx)
  have K509 := zH (K502.out.trans (Fr.of_ext hx))
  have S511 := zH (show Fr (fun kz => kz = X38) W w505 from S504.out.trans (Fr.of_ext hx))
  clear hx
  refine zm S511.out ?_
  refine zx 37 (bs 52 274877906943) (.bool true) S511.out ?_
  refine zx 38 (bs 52 549755813887) (.bool true) S511.out ?_
  refine md_ld1 (g := X236) (o := 0) (v := .bool true) (i := 39) (listed' := (bs 52 1099511627775)) (by rfl) (by kernel_rfl) (by kernel_rfl) (by kernel_rfl) (by intro _ _ _ h; exact h) (by rfl) (fun x hx => Fr.cell hx (show World.cell? W ⟨X236, 0, none⟩ = some (.bool true) from cell_of_range (H0.out.range (i := 13) (by rfl) 0 1)) (H0.out.offBlk (i := 13) (j := 0) (by rfl) (by rfl) (by decide) (by rfl))) (by intro x hq; go_simp <;> with_reducible rfl) S511.out (by kernel_rfl) ?_
  try simp only [Act.put, zA, zB, zC]
  refine zx 40 (bs 52 2199023255551) (.bool true) S511.out ?_
  refine mX 41 (bs 52 4398046511103) (.bool true) S511.out ?_
  refine zr 42 (bs 52 8796093022207) X231 (0) [.bool r223.n, .slice r223.p r223.l r223.c, .bool r223.m, .slice r223.p2 r223.l2 r223.c2] (fun x hx => Fr.range hx (show World.rangeAt W X231 (0) [.bool r223.n, .slice r223.p r223.l r223.c, .bool r223.m, .slice r223.p2 r223.l2 r223.c2] from (H0.out.range (i := 12) (by rfl) 0 4)) (H0.out.offBlk (i := 12) (j := 0) (by rfl) (by rfl) (by decide) (by rfl))) Tryz.underlying29 S511.out ?_
  refine mC 43 (bs 52 17592186044415) (frac17_any 3 1 _ (by decide) (by decide) (by decide)) ?_
  rintro e w516 ⟨r517, rfl, hr_, hx⟩
  have H518 := zH (H507.out.step hx)
  have D518 := zH (Dig.of_ext hx)
  have K520 := zH (K509.out.trans (Fr.of_ext hx))
  have S522 := zH (show Fr (fun kz => kz = X38) W w516 from S511.out.trans (Fr.of_ext hx))
  have R517 := zH hr_
  have B517 := zH (rl_qq 3 1 (by decide) (by decide))
  clear hr_
  clear hx
  refine zm S522.out ?_
  have DD524 := zH (((DD506.out.trans D507.out).trans D518.out))
  refine mC 44 (bs 52 35184372088831) (same17_any r223 r517 (((3 : Int) : Rat) / ((1 : Int) : Rat)) 8 _ (RW419.out.dig DD524.out) R517.out B517.out (by decide)) ?_
  rintro e w523 ⟨rfl, hx⟩
  have H525 := zH (H518.out.step hx)
  have K527 := zH (K520.out.trans (Fr.of_ext hx))
  have S529 := zH (show Fr (fun kz => kz = X38) W w523 from S522.out.trans (Fr.of_ext hx))
  clear hx
  refine zm S529.out ?_
  refine zx 45 (bs 52 70368744177663) (.bool true) S529.out ?_
  refine zx 46 (bs 52 140737488355327) (.bool true) S529.out ?_
  refine md_ld1 (g := X276) (o := 0) (v := .slice Al 2 cl) (i := 47) (listed' := (bs 52 281474976710655)) (by rfl) (by kernel_rfl) (by kernel_rfl) (by kernel_rfl) (by intro _ _ _ h; exact h) (by rfl) (fun x hx => Fr.cell hx (show World.cell? W ⟨X276, 0, none⟩ = some (.slice Al 2 cl) from cell_of_range (H0.out.range (i := 16) (by rfl) 0 1)) (H0.out.offBlk (i := 16) (j := 0) (by rfl) (by rfl) (by decide) (by rfl))) (by intro x hq; go_simp <;> with_reducible rfl) S529.out (by kernel_rfl) ?_
  try simp only [Act.put, zA, zB, zC]
  refine zx 48 (bs 52 562949953421311) (.int .i64 2) S529.out ?_
  refine zu 49 (bs 52 1125899906842623) (v := .bool true) S529.out ?_ (hv := by intro w hSw; exact ezq (e := (dec_t (by omega))))
  refine zx 50 (bs 52 2251799813685247) (.bool true) S529.out ?_
  refine md_st1 (i := 51) (listed' := (bs 52 4503599627370495)) (by rfl) (by kernel_rfl) (by rfl) (by kernel_rfl) _ _ _ (by rfl) H525.out (ix := 0) (by rfl) 0 (.bool true) (by rfl) (by rfl) (by simp) (by kernel_rfl) (by simp [Value.cells]) (by simp [Value.oneCell']) (by simp [NoUL]) ?_
  intro w535 hh hd ho
  have H536 := hN hh
  have K538 := zH (K527.out.trans_new ho (fun j hj => .inl (by injection hj with hj; exact hj.symm)))
  have S539 := zH (show Fr (fun kz => kz = X38) W w535 from Fr.trans_new S529.out ho (fun j hj => .inl (by simpa using hj.symm)))
  clear hh hd ho
  refine ⟨S539.out, ?_⟩
  (try simp only [Act.put])
  refine wpAnyH_done (by kernel_rfl) ?_ _
  gi_wp2
  have hkx := K538.out
  refine ⟨KeepsFrom.of_fr hkx (fun k_ hk_ o_ ho_ => H0.out.cells (i := 0) (by rfl) (by rw [show k_ = X38 from hk_]; rfl) o_ ho_), ?_⟩
  rw [hJx]
  exact ⟨rfl, H536.out.blk (i := 0) (by rfl), H536.out.ext⟩
 case done =>
  rintro D xs W hD hxs hi hK
  rw [hJ0] at hi
  obtain ⟨rfl, _⟩ := hi
  exact absurd hxs (by decide)
 case stop =>
  rintro D c pre W hD hp hi hK
  rw [hJx] at hi
  obtain ⟨rfl, h1, h2⟩ := hi
  refine wpIn_wide.2 ?_
  go_wp2_with fail
  refine ⟨by simp, .inl ⟨_, _, rfl, run_takeDeferred hK, ?_⟩⟩
  refine ⟨_, results_cell1 rfl rfl (loadVar_bool (h1.kept (grownBy_putObj' W D (.deferred none)) (fun k hk => by injection hk with hk; subst hk; exact ⟨_, hK, rfl⟩))), rfl, Ext.grown h2 (grownBy_putObj' W D (.deferred none)) (fun k hk => by injection hk with hk; subst hk; exact Nat.le_trans HWS.out hD)⟩

set_option maxRecDepth 20000 in
set_option maxHeartbeats 4000000 in
theorem clamp8_any (n lo hi : Int) (w : World) (h1 : lo ≤ n) (h2 : n ≤ hi) : Calls Tryz.prog 79 #[.int .i64 n, .int .i64 lo, .int .i64 hi] w fun e w' => e = .returned (.int .i64 n) ∧ Ext w w' := by
 go_enter Tryz.func79, Tryz.ntmps79
 have H0 := zH (Hp.start w)
 go_upto_region 0 with fail
 refine wp_region_lit ?_
 refine zq (.int .i64 0) ?_
 go_upto_region 1 with fail
 refine wp_region_lit ?_
 refine qV (.int .i64 n) ?_
 refine zq (.int .i64 lo) ?_
 refine zp (w' := w) (.bool false) (by exact ezl (e := (dec_f (by omega)))) ?_
 go_upto_region 3 with fail
 refine wp_region_lit ?_
 refine qV (.int .i64 n) ?_
 refine zq (.int .i64 hi) ?_
 refine zp (w' := w) (.bool false) (by exact ezg (e := (dec_f (by omega)))) ?_
 go_upto_region 5 with fail
 refine wp_region_lit ?_
 refine qV (.int .i64 n) ?_
 refine zq (.int .i64 n) ?_
 go_wp2_with fail
 go_ret
 exact ⟨rfl, H0.out.ext⟩
set_option maxRecDepth 20000 in
set_option maxHeartbeats 4000000 in
theorem hold11_any (p : Int × Int) (w : World) (h : okP p) : Calls Tryz.prog 45 #[.agg #[.int .i64 p.1, .int .i64 p.2]] w fun e w' => e = .returned (.agg #[.int .i64 p.1, .int .i64 p.2]) ∧ Ext w w' := by
 have op := okP_out h
 go_enter Tryz.func45, Tryz.ntmps45
 have H0 := zH (Hp.start w)
 go_upto_region 0 with fail
 refine wp_region_lit ?_
 refine aA' 23 [.int .i64 p.1, .int .i64 p.2] H0.out ?_
 intro X10 w11 H12 _
 refine aA' 23 [.int .i64 0, .int .i64 0] H12.out ?_
 intro X15 w16 H17 _
 go_upto_region 1 with fail
 refine wp_region_held_drew (S := fun x => Fr (fun kz => kz = X15) w16 x) (by kernel_rfl) (Fr.of_ext zb) (fun _ => ?_)
 have H20 := zH (H17.out.step (Ext.refl w16).drew)
 refine zx 0 (bs 8 1) (.pointer (some ⟨X10, 0, none⟩)) (Fr.of_ext zb) ?_
 refine md_ld1 (g := X10) (o := 0) (v := .int .i64 p.1) (i := 1) (listed' := (bs 8 3)) (by rfl) (by kernel_rfl) (by kernel_rfl) (by kernel_rfl) (by intro _ _ _ h; exact h) (by rfl) (fun x hx => Fr.cell hx (show World.cell? w16 ⟨X10, 0, none⟩ = some (.int .i64 p.1) from cell_of_range (H17.out.range (i := 0) (by rfl) 0 1)) (H17.out.offBlk (i := 0) (j := 1) (by rfl) (by rfl) (by decide) (by rfl))) (by intro x hq; go_simp <;> with_reducible rfl) (Fr.of_ext zb) (by kernel_rfl) ?_
 try simp only [Act.put, zA, zB, zC]
 refine zx 3 (bs 8 11) (.pointer (some ⟨X10, 1, none⟩)) (Fr.of_ext zb) ?_
 refine md_ld1 (g := X10) (o := 1) (v := .int .i64 p.2) (i := 4) (listed' := (bs 8 27)) (by rfl) (by kernel_rfl) (by kernel_rfl) (by kernel_rfl) (by intro _ _ _ h; exact h) (by rfl) (fun x hx => Fr.cell hx (show World.cell? w16 ⟨X10, 1, none⟩ = some (.int .i64 p.2) from cell_of_range (H17.out.range (i := 0) (by rfl) 1 1)) (H17.out.offBlk (i := 0) (j := 1) (by rfl) (by rfl) (by decide) (by rfl))) (by intro x hq; go_simp <;> with_reducible rfl) (Fr.of_ext zb) (by kernel_rfl) ?_
 try simp only [Act.put, zA, zB, zC]
 refine mC 2 (bs 8 31) (clamp8_any p.1 (-1048576) 1048576 _ (by omega) (by omega)) ?_
 rintro e w24 ⟨rfl, hx⟩
 have H25 := zH (H20.out.step hx)
 have S28 := zH (show Fr (fun kz => kz = X15) w16 w24 from (Fr.of_ext zb).trans (Fr.of_ext hx))
 clear hx
 refine zm S28.out ?_
 refine mC 5 (bs 8 63) (clamp8_any p.2 (-1048576) 1048576 _ (by omega) (by omega)) ?_
 rintro e w29 ⟨rfl, hx⟩
 have H30 := zH (H25.out.step hx)
 have S33 := zH (show Fr (fun kz => kz = X15) w16 w29 from S28.out.trans (Fr.of_ext hx))
 clear hx
 refine zm S33.out ?_
 refine zx 6 (bs 8 127) (.agg #[.int .i64 p.1, .int .i64 p.2]) S33.out ?_
 refine md_st (i := 7) (listed' := (bs 8 255)) (by rfl) (by kernel_rfl) (by rfl) (by kernel_rfl) _ _ _ (by rfl) H30.out (ix := 1) (by rfl) 0 [.int .i64 p.1, .int .i64 p.2] (by rfl) (by rfl) (by simp) (by kernel_rfl) (by simp [Value.oneCell']) (by simp [NoUL]) ?_
 intro w35 hh hd ho
 have H36 := hN hh
 have S38 := zH (show Fr (fun kz => kz = X15) w16 w35 from Fr.trans_new S33.out ho (fun j hj => .inl (by simpa using hj.symm)))
 clear hh hd ho
 refine ⟨S38.out, ?_⟩
 (try simp only [Act.put])
 refine wpAnyH_done (by kernel_rfl) ?_ _
 go_wp2_with fail
 refine bodyPost_ret (v := .agg #[.int .i64 p.1, .int .i64 p.2]) ?_ rfl ⟨rfl, H36.out.ext⟩
 exact results_cell1 rfl rfl ((H36.out.blk (i := 1) (by rfl)).loadVar rfl rfl (by rfl))
set_option maxRecDepth 20000 in
set_option maxHeartbeats 4000000 in
theorem sub11_any (p q : Int × Int) (w : World) (hp : okP p) (hq : okP q) :
  Calls Tryz.prog 17 #[.agg #[.int .i64 p.1, .int .i64 p.2], .agg #[.int .i64 q.1, .int .i64 q.2]] w fun e w' => e = .returned (.agg #[.int .i64 (dv q p).1, .int .i64 (dv q p).2]) ∧ Ext w w' := by
 have op := okP_out hp
 have oq := okP_out hq
 go_enter Tryz.func17, Tryz.ntmps17
 have H0 := zH (Hp.start w)
 go_upto_region 0 with fail
 refine wp_region_lit ?_
 refine aA' 23 [.int .i64 p.1, .int .i64 p.2] H0.out ?_
 intro X39 w40 H41 _
 refine aA' 23 [.int .i64 q.1, .int .i64 q.2] H41.out ?_
 intro X44 w45 H46 _
 refine aA' 23 [.int .i64 0, .int .i64 0] H46.out ?_
 intro X49 w50 H51 _
 go_upto_region 1 with fail
 refine zy ?_
 have H54 := zH (H51.out.step (Ext.refl w50).drew)
 refine mR 0 (bs 8 1) X39 (0) [.int .i64 p.1, .int .i64 p.2] (fun x hx => range_ext (show World.rangeAt w50 X39 (0) [.int .i64 p.1, .int .i64 p.2] from (H51.out.range (i := 0) (by rfl) 0 2)) hx) Tryz.underlying23 zb ?_
 refine zg 2 (bs 8 5) X44 (0) [.int .i64 q.1, .int .i64 q.2] (H51.out.range (i := 1) (by rfl) 0 2) Tryz.underlying23 zb ?_
 refine FN.go2 (j1 := ⟨4, some 5, 23, [.int .i64 0, .int .i64 0]⟩) (j2 := ⟨5, some 6, 23, [.int .i64 0, .int .i64 0]⟩) (b := w50) ?_ zb
 refine fn_call (i := 1) (li := (bs 8 7)) (by rfl) (by kernel_rfl) (by kernel_rfl) (by kernel_rfl) (by kernel_rfl) (by kernel_rfl) ⟨⟨_, by rfl, by rfl, by rfl, by simp [NoUL], by intro r_ x_; go_simp⟩, ⟨⟨_, by rfl, by rfl, by rfl, by simp [NoUL], by intro r_ x_; go_simp⟩, trivial⟩⟩ (fun x y h1 h2 => h1.trans h2) zb.size (by rfl) (by intro x_; go_simp) (by kernel_rfl) (fun xq hxq => hold11_any p _ hp) (by rintro x_ e x2_ ⟨rfl, hx⟩; exact hx) ?_
 rintro xq e w56 hxq ⟨rfl, hx⟩
 replace hx := hxq.trans hx
 clear hxq
 have H57 := zH (H54.out.step hx)
 have S59 := zH (zb.trans hx)
 clear hx
 refine ⟨_, rfl, ?_⟩
 try simp only [Act.put, zA, zB, zC]
 refine fn_call (i := 3) (li := (bs 8 15)) (by rfl) (by kernel_rfl) (by kernel_rfl) (by kernel_rfl) (by kernel_rfl) (by kernel_rfl) ⟨⟨_, by rfl, by rfl, by rfl, by simp [NoUL], by intro r_ x_; go_simp⟩, ⟨⟨_, by rfl, by rfl, by rfl, by simp [NoUL], by intro r_ x_; go_simp⟩, trivial⟩⟩ (fun x y h1 h2 => h1.trans h2) S59.out.size (by rfl) (by intro x_; go_simp) (by kernel_rfl) (fun xq hxq => hold11_any q _ hq) (by rintro x_ e x2_ ⟨rfl, hx⟩; exact hx) ?_
 rintro xq e w60 hxq ⟨rfl, hx⟩
 replace hx := hxq.trans hx
 clear hxq
 have H61 := zH (H57.out.step hx)
 have S63 := zH (S59.out.trans hx)
 clear hx
 refine ⟨_, rfl, ?_⟩
 try simp only [Act.put, zA, zB, zC]
 refine fn_end2 (lt := (bs 8 63)) (by kernel_rfl) (by kernel_rfl) ⟨⟨_, by rfl, by rfl, by rfl, by simp [NoUL], by intro r_ x_; go_simp⟩, ⟨⟨_, by rfl, by rfl, by rfl, by simp [NoUL], by intro r_ x_; go_simp⟩, trivial⟩⟩ (fun x y h1 h2 => h1.trans h2) S63.out.size H51.out H61.out (by kernel_rfl) ?_
 intro X64 X65 w66 hx hh hg0 hg1 hs
 have H67 := hN hh
 have S69 := zH (show Ext w50 w66 from hs)
 have G70 := zH (show w50.heap.size ≤ X64 from hg0)
 have G71 := zH (show w50.heap.size ≤ X65 from hg1)
 clear hh hx hs hg0 hg1
 try simp only [Act.put, zA, zB, zC]
 refine bS 3 6 (bs 8 127) [.int .i64 p.1, .int .i64 p.2] H67.out S69.out G70.out ?_
 intro w72 H73 _ S75
 refine bS 4 7 (bs 8 255) [.int .i64 q.1, .int .i64 q.2] H73.out S75.out G71.out ?_
 intro w76 H77 _ S79
 refine wpAnyH_done (by kernel_rfl) ?_ _
 go_upto_region 2 with fail
 refine wp_region_lit ?_
 refine zI4 H77.out _ _ _ _ ?_
 refine zp (w' := w76) (.int .i64 (p.1 - q.1)) (by exact ez2 (by omega)) ?_
 refine zI4 H77.out _ _ _ _ ?_
 refine zp (w' := w76) (.int .i64 (p.2 - q.2)) (by exact ez2 (by omega)) ?_
 refine zq (.agg #[.int .i64 (p.1 - q.1), .int .i64 (p.2 - q.2)]) ?_
 refine aS' 2 [.int .i64 (p.1 - q.1), .int .i64 (p.2 - q.2)] H77.out ?_
 intro w87 H88 _
 go_wp2_with fail
 refine bodyPost_ret (v := .agg #[.int .i64 (dv q p).1, .int .i64 (dv q p).2]) ?_ rfl ⟨rfl, H88.out.ext⟩
 exact results_cell1 rfl rfl ((H88.out.blk (i := 2) (by rfl)).loadVar rfl rfl (by rfl))
set_option maxRecDepth 20000 in
set_option maxHeartbeats 4000000 in
theorem less11_any (p q : Int × Int) (w : World) (hp : okP p) (hq : okP q) :
  Calls Tryz.prog 46 #[.agg #[.int .i64 p.1, .int .i64 p.2], .agg #[.int .i64 q.1, .int .i64 q.2]] w fun e w' => e = .returned (.bool (lessB p q)) ∧ Ext w w' := by
 have op := okP_out hp
 have oq := okP_out hq
 go_enter Tryz.func46, Tryz.ntmps46
 have H0 := zH (Hp.start w)
 go_upto_region 0 with fail
 refine wp_region_lit ?_
 refine aA' 23 [.int .i64 p.1, .int .i64 p.2] H0.out ?_
 intro X90 w91 H92 _
 refine aA' 23 [.int .i64 q.1, .int .i64 q.2] H92.out ?_
 intro X95 w96 H97 _
 refine zq (.bool false) ?_
 go_upto_region 1 with fail
 refine zy ?_
 have H101 := zH (H97.out.step (Ext.refl w96).drew)
 refine mR 0 (bs 8 1) X90 (0) [.int .i64 p.1, .int .i64 p.2] (fun x hx => range_ext (show World.rangeAt w96 X90 (0) [.int .i64 p.1, .int .i64 p.2] from (H97.out.range (i := 0) (by rfl) 0 2)) hx) Tryz.underlying23 zb ?_
 refine zg 2 (bs 8 5) X95 (0) [.int .i64 q.1, .int .i64 q.2] (H97.out.range (i := 1) (by rfl) 0 2) Tryz.underlying23 zb ?_
 refine FN.go2 (j1 := ⟨4, some 5, 23, [.int .i64 0, .int .i64 0]⟩) (j2 := ⟨5, some 6, 23, [.int .i64 0, .int .i64 0]⟩) (b := w96) ?_ zb
 refine fn_call (i := 1) (li := (bs 8 7)) (by rfl) (by kernel_rfl) (by kernel_rfl) (by kernel_rfl) (by kernel_rfl) (by kernel_rfl) ⟨⟨_, by rfl, by rfl, by rfl, by simp [NoUL], by intro r_ x_; go_simp⟩, ⟨⟨_, by rfl, by rfl, by rfl, by simp [NoUL], by intro r_ x_; go_simp⟩, trivial⟩⟩ (fun x y h1 h2 => h1.trans h2) zb.size (by rfl) (by intro x_; go_simp) (by kernel_rfl) (fun xq hxq => hold11_any p _ hp) (by rintro x_ e x2_ ⟨rfl, hx⟩; exact hx) ?_
 rintro xq e w103 hxq ⟨rfl, hx⟩
 replace hx := hxq.trans hx
 clear hxq
 have H104 := zH (H101.out.step hx)
 have S106 := zH (zb.trans hx)
 clear hx
 refine ⟨_, rfl, ?_⟩
 try simp only [Act.put, zA, zB, zC]
 refine fn_call (i := 3) (li := (bs 8 15)) (by rfl) (by kernel_rfl) (by kernel_rfl) (by kernel_rfl) (by kernel_rfl) (by kernel_rfl) ⟨⟨_, by rfl, by rfl, by rfl, by simp [NoUL], by intro r_ x_; go_simp⟩, ⟨⟨_, by rfl, by rfl, by rfl, by simp [NoUL], by intro r_ x_; go_simp⟩, trivial⟩⟩ (fun x y h1 h2 => h1.trans h2) S106.out.size (by rfl) (by intro x_; go_simp) (by kernel_rfl) (fun xq hxq => hold11_any q _ hq) (by rintro x_ e x2_ ⟨rfl, hx⟩; exact hx) ?_
 rintro xq e w107 hxq ⟨rfl, hx⟩
 replace hx := hxq.trans hx
 clear hxq
 have H108 := zH (H104.out.step hx)
 have S110 := zH (S106.out.trans hx)
 clear hx
 refine ⟨_, rfl, ?_⟩
 try simp only [Act.put, zA, zB, zC]
 refine fn_end2 (lt := (bs 8 63)) (by kernel_rfl) (by kernel_rfl) ⟨⟨_, by rfl, by rfl, by rfl, by simp [NoUL], by intro r_ x_; go_simp⟩, ⟨⟨_, by rfl, by rfl, by rfl, by simp [NoUL], by intro r_ x_; go_simp⟩, trivial⟩⟩ (fun x y h1 h2 => h1.trans h2) S110.out.size H97.out H108.out (by kernel_rfl) ?_
 intro X111 X112 w113 hx hh hg0 hg1 hs
 have H114 := hN hh
 have S116 := zH (show Ext w96 w113 from hs)
 have G117 := zH (show w96.heap.size ≤ X111 from hg0)
 have G118 := zH (show w96.heap.size ≤ X112 from hg1)
 clear hh hx hs hg0 hg1
 try simp only [Act.put, zA, zB, zC]
 refine bS 2 6 (bs 8 127) [.int .i64 p.1, .int .i64 p.2] H114.out S116.out G117.out ?_
 intro w119 H120 _ S122
 refine bS 3 7 (bs 8 255) [.int .i64 q.1, .int .i64 q.2] H120.out S122.out G118.out ?_
 intro w123 H124 _ S126
 refine wpAnyH_done (by kernel_rfl) ?_ _
 by_cases c127 : p.2 < q.2
 ·have C1 := zH c127
  clear c127
  go_upto_region 2 with fail
  refine wp_region_lit ?_
  refine zI4 H124.out _ _ _ _ ?_
  refine zp (w' := w123) (.bool true) (by exact ezl (e := (dec_t C1.out))) ?_
  refine zq (.bool true) ?_
  with_reducible refine mv_skip ?_ ?_
  ·rfl
  try simp only [Act.put, zA, zB, zC]
  with_reducible refine mv_skip ?_ ?_
  ·rfl
  try simp only [Act.put, zA, zB, zC]
  with_reducible refine mv_skip ?_ ?_
  ·rfl
  try simp only [Act.put, zA, zB, zC]
  with_reducible refine mv_skip ?_ ?_
  ·rfl
  try simp only [Act.put, zA, zB, zC]
  with_reducible refine mv_skip ?_ ?_
  ·rfl
  try simp only [Act.put, zA, zB, zC]
  with_reducible refine mv_skip ?_ ?_
  ·rfl
  try simp only [Act.put, zA, zB, zC]
  with_reducible refine mv_skip ?_ ?_
  ·rfl
  try simp only [Act.put, zA, zB, zC]
  with_reducible refine mv_skip ?_ ?_
  ·rfl
  try simp only [Act.put, zA, zB, zC]
  with_reducible refine mv_skip ?_ ?_
  ·rfl
  try simp only [Act.put, zA, zB, zC]
  with_reducible refine mv_skip ?_ ?_
  ·rfl
  try simp only [Act.put, zA, zB, zC]
  with_reducible refine mv_skip ?_ ?_
  ·rfl
  try simp only [Act.put, zA, zB, zC]
  with_reducible refine mv_skip ?_ ?_
  ·rfl
  try simp only [Act.put, zA, zB, zC]
  refine zI2 (Hp.start _) (.bool true) (.bool true) ?_
  go_wp2_with fail
  go_ret
  exact ⟨by rw [show lessB p q = true from by unfold lessB; simp [C1.out]]; rfl, H124.out.ext⟩
 have C1 := zH c127
 clear c127
 by_cases c134 : p.2 = q.2
 ·have C2 := zH c134
  clear c134
  by_cases c135 : p.1 < q.1
  ·have C3 := zH c135
   clear c135
   go_upto_region 2 with fail
   refine wp_region_lit ?_
   refine zI4 H124.out _ _ _ _ ?_
   refine zp (w' := w123) (.bool false) (by exact ezl (e := (dec_f C1.out))) ?_
   refine zI5 H124.out (.bool false) _ _ _ _ ?_
   refine zp (w' := w123) (.bool true) (by exact ezq (e := (dec_t C2.out))) ?_
   refine zI5 H124.out (.bool true) _ _ _ _ ?_
   refine zp (w' := w123) (.bool true) (by exact ezl (e := (dec_t C3.out))) ?_
   refine zI3 (Hp.start _) (.bool true) (.bool true) (.bool true) ?_
   go_wp2_with fail
   go_ret
   exact ⟨by rw [show lessB p q = true from by unfold lessB; simp [C2.out, C3.out]]; rfl, H124.out.ext⟩
  have C3 := zH c135
  clear c135
  go_upto_region 2 with fail
  refine wp_region_lit ?_
  refine zI4 H124.out _ _ _ _ ?_
  refine zp (w' := w123) (.bool false) (by exact ezl (e := (dec_f C1.out))) ?_
  refine zI5 H124.out (.bool false) _ _ _ _ ?_
  refine zp (w' := w123) (.bool true) (by exact ezq (e := (dec_t C2.out))) ?_
  refine zI5 H124.out (.bool true) _ _ _ _ ?_
  refine zp (w' := w123) (.bool false) (by exact ezl (e := (dec_f C3.out))) ?_
  refine zI3 (Hp.start _) (.bool false) (.bool false) (.bool false) ?_
  go_wp2_with fail
  go_ret
  exact ⟨by rw [show lessB p q = false from by unfold lessB; simp [C2.out, C3.out]]; rfl, H124.out.ext⟩
 have C2 := zH c134
 clear c134
 go_upto_region 2 with fail
 refine wp_region_lit ?_
 refine zI4 H124.out _ _ _ _ ?_
 refine zp (w' := w123) (.bool false) (by exact ezl (e := (dec_f C1.out))) ?_
 refine zI5 H124.out (.bool false) _ _ _ _ ?_
 refine zp (w' := w123) (.bool false) (by exact ezq (e := (dec_f C2.out))) ?_
 refine zq (.bool false) ?_
 with_reducible refine mv_skip ?_ ?_
 ·rfl
 try simp only [Act.put, zA, zB, zC]
 with_reducible refine mv_skip ?_ ?_
 ·rfl
 try simp only [Act.put, zA, zB, zC]
 with_reducible refine mv_skip ?_ ?_
 ·rfl
 try simp only [Act.put, zA, zB, zC]
 with_reducible refine mv_skip ?_ ?_
 ·rfl
 try simp only [Act.put, zA, zB, zC]
 with_reducible refine mv_skip ?_ ?_
 ·rfl
 try simp only [Act.put, zA, zB, zC]
 refine zI3 (Hp.start _) (.bool false) (.bool false) (.bool false) ?_
 go_wp2_with fail
 go_ret
 exact ⟨by rw [show lessB p q = false from by unfold lessB; simp [C1.out, C2.out]]; rfl, H124.out.ext⟩
set_option maxRecDepth 20000 in
set_option maxHeartbeats 4000000 in
theorem wedge11_any (u v : Int × Int) (w : World) (hu : (-2097152 ≤ u.1 ∧ u.1 ≤ 2097152) ∧ (-2097152 ≤ u.2 ∧ u.2 ≤ 2097152)) (hv : (-2097152 ≤ v.1 ∧ v.1 ≤ 2097152) ∧ (-2097152 ≤ v.2 ∧ v.2 ≤ 2097152)) :
  Calls Tryz.prog 18 #[.agg #[.int .i64 u.1, .int .i64 u.2], .agg #[.int .i64 v.1, .int .i64 v.2]] w fun e w' => e = .returned (.int .i64 (cr u v)) ∧ Ext w w' := by
 have m1 := mul_bd hu.1 hv.2
 have m2 := mul_bd hu.2 hv.1
 go_enter Tryz.func18, Tryz.ntmps18
 have H0 := zH (Hp.start w)
 go_upto_region 0 with fail
 refine wp_region_lit ?_
 refine aA' 23 [.int .i64 u.1, .int .i64 u.2] H0.out ?_
 intro X175 w176 H177 _
 refine aA' 23 [.int .i64 v.1, .int .i64 v.2] H177.out ?_
 intro X180 w181 H182 _
 refine zq (.int .i64 0) ?_
 go_upto_region 1 with fail
 refine wp_region_lit ?_
 refine zI4 H182.out _ _ _ _ ?_
 refine zp (w' := w181) (.int .i64 (u.1 * v.2)) (by exact ez3 (by omega)) ?_
 refine zI4 H182.out _ _ _ _ ?_
 refine zp (w' := w181) (.int .i64 (u.2 * v.1)) (by exact ez3 (by omega)) ?_
 refine zp (w' := w181) (.int .i64 ((u.1 * v.2) - (u.2 * v.1))) (by exact ez2 (by omega)) ?_
 refine zq (.int .i64 ((u.1 * v.2) - (u.2 * v.1))) ?_
 go_wp2_with fail
 go_ret
 exact ⟨rfl, H182.out.ext⟩

def LineRet (q : (Int × Int) × Int) (w : World) (e : Ending) (w' : World) : Prop :=
  ((∃ r s : RV, q.2 = 1 ∧ e = .returned (.tuple #[.agg #[.bool r.n, .slice r.p r.l r.c, .bool r.m, .slice r.p2 r.l2 r.c2], .agg #[.bool s.n, .slice s.p s.l s.c, .bool s.m, .slice s.p2 s.l2 s.c2], .int .i64 1]) ∧ r.Is w' (((q.1.1 : Int)) : Rat) ∧ s.Is w' (((q.1.2 : Int)) : Rat)) ∨
    (q.2 ≠ 1 ∧ e = .returned (.tuple #[.agg z4, .agg z4, .int .i64 q.2]))) ∧ Ext w w'
theorem LineRet.yes {q : (Int × Int) × Int} {w w' : World} {e : Ending} (h : LineRet q w e w') (hc : q.2 = 1) : ∃ r s : RV, e = .returned (.tuple #[.agg #[.bool r.n, .slice r.p r.l r.c, .bool r.m, .slice r.p2 r.l2 r.c2], .agg #[.bool s.n, .slice s.p s.l s.c, .bool s.m, .slice s.p2 s.l2 s.c2], .int .i64 1]) ∧ r.Is w' (((q.1.1 : Int)) : Rat) ∧ s.Is w' (((q.1.2 : Int)) : Rat) ∧ Ext w w' := by
  obtain ⟨⟨r, s, _, h1, h2, h3⟩ | ⟨h1, _⟩, hx⟩ := h
  · exact ⟨r, s, h1, h2, h3, hx⟩
  exact absurd hc h1
theorem LineRet.no {q : (Int × Int) × Int} {w w' : World} {e : Ending} (h : LineRet q w e w') (hc : ¬ q.2 = 1) : e = .returned (.tuple #[.agg z4, .agg z4, .int .i64 q.2]) ∧ Ext w w' := by
  obtain ⟨⟨r, s, h0, h1, h2, h3⟩ | ⟨_, h1⟩, hx⟩ := h
  · exact absurd h0 hc
  exact ⟨h1, hx⟩
set_option maxRecDepth 20000 in
set_option maxHeartbeats 4000000 in
theorem one17_any (p : Int × Int) (w : World) (h : okP p) : Calls Tryz.prog 47 #[.agg #[.int .i64 p.1, .int .i64 p.2]] w fun e w' => ∃ r s : RV, e = .returned (.tuple #[.agg #[.bool r.n, .slice r.p r.l r.c, .bool r.m, .slice r.p2 r.l2 r.c2], .agg #[.bool s.n, .slice s.p s.l s.c, .bool s.m, .slice s.p2 s.l2 s.c2], .int .i64 1]) ∧ r.Is w' (((p.1 : Int)) : Rat) ∧ s.Is w' (((p.2 : Int)) : Rat) ∧ Ext w w' := by
 have op := okP_out h
 go_enter Tryz.func47, Tryz.ntmps47
 have H0 := zH (Hp.start w)
 go_upto_region 0 with fail
 refine wp_region_lit ?_
 refine aA' 23 [.int .i64 p.1, .int .i64 p.2] H0.out ?_
 intro X1 w2 H3 _
 refine aA' 29 rz H3.out ?_
 intro X6 w7 H8 _
 refine aA' 29 rz H8.out ?_
 intro X11 w12 H13 _
 refine zq (.int .i64 0) ?_
 go_upto_region 1 with fail
 refine wp_region_held_drew (S := fun x => Fr (fun kz => kz = X6 ∨ kz = X11) w12 x) (by kernel_rfl) (Fr.of_ext zb) (fun _ => ?_)
 have H17 := zH (H13.out.step (Ext.refl w12).drew)
 refine zx 0 (bs 9 1) (.pointer (some ⟨X1, 0, none⟩)) (Fr.of_ext zb) ?_
 refine md_ld1 (g := X1) (o := 0) (v := .int .i64 p.1) (i := 1) (listed' := (bs 9 3)) (by rfl) (by kernel_rfl) (by kernel_rfl) (by kernel_rfl) (by intro _ _ _ h; exact h) (by rfl) (fun x hx => Fr.cell hx (show World.cell? w12 ⟨X1, 0, none⟩ = some (.int .i64 p.1) from cell_of_range (H13.out.range (i := 0) (by rfl) 0 1)) (fun hk => hk.elim (H13.out.offBlk (i := 0) (j := 1) (by rfl) (by rfl) (by decide) (by rfl)) (H13.out.offBlk (i := 0) (j := 2) (by rfl) (by rfl) (by decide) (by rfl)))) (by intro x hq; go_simp <;> with_reducible rfl) (Fr.of_ext zb) (by kernel_rfl) ?_
 try simp only [Act.put, zA, zB, zC]
 refine zx 3 (bs 9 11) (.pointer (some ⟨X1, 1, none⟩)) (Fr.of_ext zb) ?_
 refine md_ld1 (g := X1) (o := 1) (v := .int .i64 p.2) (i := 4) (listed' := (bs 9 27)) (by rfl) (by kernel_rfl) (by kernel_rfl) (by kernel_rfl) (by intro _ _ _ h; exact h) (by rfl) (fun x hx => Fr.cell hx (show World.cell? w12 ⟨X1, 1, none⟩ = some (.int .i64 p.2) from cell_of_range (H13.out.range (i := 0) (by rfl) 1 1)) (fun hk => hk.elim (H13.out.offBlk (i := 0) (j := 1) (by rfl) (by rfl) (by decide) (by rfl)) (H13.out.offBlk (i := 0) (j := 2) (by rfl) (by rfl) (by decide) (by rfl)))) (by intro x hq; go_simp <;> with_reducible rfl) (Fr.of_ext zb) (by kernel_rfl) ?_
 try simp only [Act.put, zA, zB, zC]
 refine mC 2 (bs 9 31) (q03From p.1 _ (by omega) (by omega)) ?_
 rintro e w21 ⟨c_, rfl, hc_, hx⟩
 have H23 := zH (H17.out.step hx)
 have S26 := zH (show Fr (fun kz => kz = X6 ∨ kz = X11) w12 w21 from (Fr.of_ext zb).trans (Fr.of_ext hx))
 obtain ⟨r22, rfl, hr_⟩ := hc_
 have R22 := zH hr_
 clear hr_
 clear hx
 refine zm S26.out ?_
 refine mC 5 (bs 9 63) (q03From p.2 _ (by omega) (by omega)) ?_
 rintro e w27 ⟨c_, rfl, hc_, hx⟩
 have H29 := zH (H23.out.step hx)
 have D29 := zH (Dig.of_ext hx)
 have S32 := zH (show Fr (fun kz => kz = X6 ∨ kz = X11) w12 w27 from S26.out.trans (Fr.of_ext hx))
 obtain ⟨r28, rfl, hr_⟩ := hc_
 have R28 := zH hr_
 clear hr_
 clear hx
 refine zm S32.out ?_
 refine md_st (i := 6) (listed' := (bs 9 127)) (by rfl) (by kernel_rfl) (by rfl) (by kernel_rfl) _ _ _ (by rfl) H29.out (ix := 1) (by rfl) 0 [.bool r22.n, .slice r22.p r22.l r22.c, .bool r22.m, .slice r22.p2 r22.l2 r22.c2] (by rfl) (by rfl) (by simp) (by kernel_rfl) (by simp [Value.oneCell']) (by simp [NoUL]) ?_
 intro w33 hh hd ho
 have H34 := hN hh
 have D34 := zH (hd)
 have S36 := zH (show Fr (fun kz => kz = X6 ∨ kz = X11) w12 w33 from Fr.trans_new S32.out ho (fun j hj => .inl (.inl (by injection hj with hj; exact hj.symm))))
 clear hh hd ho
 refine ⟨S36.out, ?_⟩
 (try simp only [Act.put])
 refine md_st (i := 7) (listed' := (bs 9 255)) (by rfl) (by kernel_rfl) (by rfl) (by kernel_rfl) _ _ _ (by rfl) H34.out (ix := 2) (by rfl) 0 [.bool r28.n, .slice r28.p r28.l r28.c, .bool r28.m, .slice r28.p2 r28.l2 r28.c2] (by rfl) (by rfl) (by simp) (by kernel_rfl) (by simp [Value.oneCell']) (by simp [NoUL]) ?_
 intro w37 hh hd ho
 have H38 := hN hh
 have D38 := zH (hd)
 have S40 := zH (show Fr (fun kz => kz = X6 ∨ kz = X11) w12 w37 from Fr.trans_new S36.out ho (fun j hj => .inl (.inr (by injection hj with hj; exact hj.symm))))
 clear hh hd ho
 refine ⟨S40.out, ?_⟩
 (try simp only [Act.put])
 refine zx 8 (bs 9 511) (.int .i64 1) S40.out ?_
 refine wpAnyH_done (by kernel_rfl) ?_ _
 have DD42 := zH (((D29.out.trans D34.out).trans D38.out))
 have DD43 := zH ((D34.out.trans D38.out))
 go_wp2_with fail
 refine bodyPost_ret (v := .tuple #[.agg #[.bool r22.n, .slice r22.p r22.l r22.c, .bool r22.m, .slice r22.p2 r22.l2 r22.c2], .agg #[.bool r28.n, .slice r28.p r28.l r28.c, .bool r28.m, .slice r28.p2 r28.l2 r28.c2], .int .i64 1]) ?_ rfl ⟨_, _, rfl, (R22.out.dig DD42.out), (R28.out.dig DD43.out), H38.out.ext⟩
 exact results_c1c1t1 rfl rfl rfl ((H38.out.blk (i := 1) (by rfl)).loadVar rfl rfl (by rfl)) ((H38.out.blk (i := 2) (by rfl)).loadVar rfl rfl (by rfl)) rfl
set_option maxRecDepth 20000 in
set_option maxHeartbeats 4000000 in
theorem ralong17_any (a b c d : Int × Int) (w : World) (ha : okP a) (hb : okP b) (hc : okP c) (hd : okP d) :
  Calls Tryz.prog 19 #[.agg #[.int .i64 a.1, .int .i64 a.2], .agg #[.int .i64 b.1, .int .i64 b.2], .agg #[.int .i64 c.1, .int .i64 c.2], .agg #[.int .i64 d.1, .int .i64 d.2]] w (LineRet (sharedV a b c d) w) := by
 go_enter Tryz.func19, Tryz.ntmps19
 have H0 := zH (Hp.start w)
 go_upto_region 0 with fail
 refine wp_region_lit ?_
 refine aA' 23 [.int .i64 a.1, .int .i64 a.2] H0.out ?_
 intro X44 w45 H46 _
 refine aA' 23 [.int .i64 b.1, .int .i64 b.2] H46.out ?_
 intro X49 w50 H51 _
 refine aA' 23 [.int .i64 c.1, .int .i64 c.2] H51.out ?_
 intro X54 w55 H56 _
 refine aA' 23 [.int .i64 d.1, .int .i64 d.2] H56.out ?_
 intro X59 w60 H61 _
 refine aA' 29 rz H61.out ?_
 intro X64 w65 H66 _
 refine aA' 29 rz H66.out ?_
 intro X69 w70 H71 _
 refine zq (.int .i64 0) ?_
 go_upto_region 1 with fail
 refine wp_region_lit ?_
 refine zI2 H71.out _ _ ?_
 refine aC H71.out (less11_any b a _ hb ha) ?_
 intro w75 H76 _
 go_upto_if 15 with fail
 go_cut [] (fun wx => Hp w wx [.blk X44 23 [.int .i64 ((endL a b).1), .int .i64 ((endL a b).2)], .blk X49 23 [.int .i64 ((endH a b).1), .int .i64 ((endH a b).2)], .blk X54 23 [.int .i64 c.1, .int .i64 c.2], .blk X59 23 [.int .i64 d.1, .int .i64 d.2], .blk X64 29 [.bool false, .slice none 0 0, .bool false, .slice none 0 0], .blk X69 29 [.bool false, .slice none 0 0, .bool false, .slice none 0 0]] ∧ Dig w75 wx)
 case first =>
  by_cases cj : lessB b a = true
  ·rw [cj]
   go_upto_region 2 with fail
   refine wp_region_lit ?_
   refine zI2 H76.out _ _ ?_
   refine aS' 0 [.int .i64 b.1, .int .i64 b.2] H76.out ?_
   intro w78 H79 D79
   refine aS' 1 [.int .i64 a.1, .int .i64 a.2] H79.out ?_
   intro w81 H82 D82
   have DD84 := zH ((D79.out.trans D82.out))
   go_wp2_with fail
   go_meet
   exact ⟨(by rw [show endL a b = b from (if_pos cj), show endH a b = a from (if_pos cj)]; exact H82.out), DD84.out⟩
  rw [Bool.eq_false_iff.2 cj]
  go_wp2_with fail
  go_meet
  exact ⟨(by rw [show endL a b = a from (if_neg cj), show endH a b = b from (if_neg cj)]; exact H76.out), (Dig.refl _)⟩
 case rest =>
  obtain ⟨hh_, hd_⟩ := hcut
  generalize wc = w85 at *
  have H87 := zH hh_
  have D87 := zH hd_
  clear hh_ hd_
  go_upto_region 3 with fail
  refine wp_region_lit ?_
  refine zd X59 (0) [.int .i64 d.1, .int .i64 d.2] (H87.out.range (i := 3) (by rfl) 0 2) Tryz.underlying23 ?_
  refine zd X54 (0) [.int .i64 c.1, .int .i64 c.2] (H87.out.range (i := 2) (by rfl) 0 2) Tryz.underlying23 ?_
  refine aC H87.out (less11_any d c _ hd hc) ?_
  intro w88 H89 _
  go_upto_if 20 with fail
  go_cut [] (fun wx => Hp w wx [.blk X44 23 [.int .i64 ((endL a b).1), .int .i64 ((endL a b).2)], .blk X49 23 [.int .i64 ((endH a b).1), .int .i64 ((endH a b).2)], .blk X54 23 [.int .i64 ((endL c d).1), .int .i64 ((endL c d).2)], .blk X59 23 [.int .i64 ((endH c d).1), .int .i64 ((endH c d).2)], .blk X64 29 [.bool false, .slice none 0 0, .bool false, .slice none 0 0], .blk X69 29 [.bool false, .slice none 0 0, .bool false, .slice none 0 0]] ∧ Dig w88 wx)
  case first =>
   by_cases cj : lessB d c = true
   ·rw [cj]
    go_upto_region 4 with fail
    refine wp_region_lit ?_
    refine zd X59 (0) [.int .i64 d.1, .int .i64 d.2] (H89.out.range (i := 3) (by rfl) 0 2) Tryz.underlying23 ?_
    refine zd X54 (0) [.int .i64 c.1, .int .i64 c.2] (H89.out.range (i := 2) (by rfl) 0 2) Tryz.underlying23 ?_
    refine aS' 2 [.int .i64 d.1, .int .i64 d.2] H89.out ?_
    intro w91 H92 D92
    refine aS' 3 [.int .i64 c.1, .int .i64 c.2] H92.out ?_
    intro w94 H95 D95
    have DD97 := zH ((D92.out.trans D95.out))
    go_wp2_with fail
    go_meet
    exact ⟨(by rw [show endL c d = d from (if_pos cj), show endH c d = c from (if_pos cj)]; exact H95.out), DD97.out⟩
   rw [Bool.eq_false_iff.2 cj]
   go_wp2_with fail
   go_meet
   exact ⟨(by rw [show endL c d = c from (if_neg cj), show endH c d = d from (if_neg cj)]; exact H89.out), (Dig.refl _)⟩
  case rest =>
   obtain ⟨hh_, hd_⟩ := hcut
   generalize wc = w98 at *
   have H100 := zH hh_
   have D100 := zH hd_
   clear hh_ hd_
   go_upto_region 5 with fail
   refine zy ?_
   have H101 := zH (H100.out.step (Ext.refl w98).drew)
   refine mR 0 (bs 6 1) X44 (0) [.int .i64 ((endL a b).1), .int .i64 ((endL a b).2)] (fun x hx => range_ext (show World.rangeAt w98 X44 (0) [.int .i64 ((endL a b).1), .int .i64 ((endL a b).2)] from (H100.out.range (i := 0) (by rfl) 0 2)) hx) Tryz.underlying23 zb ?_
   refine zg 1 (bs 6 3) X49 (0) [.int .i64 ((endH a b).1), .int .i64 ((endH a b).2)] (H100.out.range (i := 1) (by rfl) 0 2) Tryz.underlying23 zb ?_
   refine md_alloc2 (i := 2) (j := 3) (T := 23) (U := 23) (zs := [.int .i64 0, .int .i64 0]) (us := [.int .i64 0, .int .i64 0]) (li := (bs 6 7)) (lj := (bs 6 11)) (lij := (bs 6 15)) (by rfl) (by rfl) (by kernel_rfl) (by kernel_rfl) (by kernel_rfl) (by kernel_rfl) (by kernel_rfl) (by kernel_rfl) (by kernel_rfl) (by rfl) (by rfl) (by decide) (by intro r_ x_; go_simp) (by intro r_ x_; go_simp) (fun x y h1 h2 => h1.trans h2) zb H101.out (by simp [NoUL]) (by simp [NoUL]) ?_
   intro X103 Y104 w105 hh hx hg1 hg2 hs
   have H106 := hN hh
   have S108 := zH (show Ext w98 w105 from hs)
   have G109 := zH (Nat.le_trans zb.size hg1)
   have G110 := zH (Nat.le_trans zb.size hg2)
   clear hh hx hg1 hg2 hs
   try simp only [Act.put, zA, zB, zC]
   refine bS 6 4 (bs 6 31) [.int .i64 ((endL a b).1), .int .i64 ((endL a b).2)] H106.out S108.out G109.out ?_
   intro w111 H112 _ S114
   refine bS 7 5 (bs 6 63) [.int .i64 ((endH a b).1), .int .i64 ((endH a b).2)] H112.out S114.out G110.out ?_
   intro w115 H116 _ S118
   refine wpAnyH_done (by kernel_rfl) ?_ _
   go_upto_region 6 with fail
   refine wp_region_lit ?_
   refine zI2 H116.out _ _ ?_
   refine aC H116.out (less11_any (endL a b) (endL c d) _ (okL ha hb) (okL hc hd)) ?_
   intro w119 H120 _
   go_upto_if 27 with fail
   go_cut [] (fun wx => Hp w wx [.blk X44 23 [.int .i64 ((endL a b).1), .int .i64 ((endL a b).2)], .blk X49 23 [.int .i64 ((endH a b).1), .int .i64 ((endH a b).2)], .blk X54 23 [.int .i64 ((endL c d).1), .int .i64 ((endL c d).2)], .blk X59 23 [.int .i64 ((endH c d).1), .int .i64 ((endH c d).2)], .blk X64 29 [.bool false, .slice none 0 0, .bool false, .slice none 0 0], .blk X69 29 [.bool false, .slice none 0 0, .bool false, .slice none 0 0], .blk X103 23 [.int .i64 ((shL a b c d).1), .int .i64 ((shL a b c d).2)], .blk Y104 23 [.int .i64 ((endH a b).1), .int .i64 ((endH a b).2)]] ∧ Dig w119 wx)
   case first =>
    by_cases cj : lessB (endL a b) (endL c d) = true
    ·rw [cj]
     go_upto_region 7 with fail
     refine wp_region_lit ?_
     refine zd X54 (0) [.int .i64 ((endL c d).1), .int .i64 ((endL c d).2)] (H120.out.range (i := 2) (by rfl) 0 2) Tryz.underlying23 ?_
     refine aS' 6 [.int .i64 ((endL c d).1), .int .i64 ((endL c d).2)] H120.out ?_
     intro w122 H123 D123
     go_wp2_with fail
     go_meet
     exact ⟨(by rw [show shL a b c d = endL c d from (if_pos cj)]; exact H123.out), D123.out⟩
    rw [Bool.eq_false_iff.2 cj]
    go_wp2_with fail
    go_meet
    exact ⟨(by rw [show shL a b c d = endL a b from (if_neg cj)]; exact H120.out), (Dig.refl _)⟩
   case rest =>
    obtain ⟨hh_, hd_⟩ := hcut
    generalize wc = w125 at *
    have H127 := zH hh_
    have D127 := zH hd_
    clear hh_ hd_
    go_upto_region 8 with fail
    refine wp_region_lit ?_
    refine zd X59 (0) [.int .i64 ((endH c d).1), .int .i64 ((endH c d).2)] (H127.out.range (i := 3) (by rfl) 0 2) Tryz.underlying23 ?_
    refine zd X49 (0) [.int .i64 ((endH a b).1), .int .i64 ((endH a b).2)] (H127.out.range (i := 1) (by rfl) 0 2) Tryz.underlying23 ?_
    refine aC H127.out (less11_any (endH c d) (endH a b) _ (okH hc hd) (okH ha hb)) ?_
    intro w128 H129 _
    go_upto_if 31 with fail
    go_cut [] (fun wx => Hp w wx [.blk X44 23 [.int .i64 ((endL a b).1), .int .i64 ((endL a b).2)], .blk X49 23 [.int .i64 ((endH a b).1), .int .i64 ((endH a b).2)], .blk X54 23 [.int .i64 ((endL c d).1), .int .i64 ((endL c d).2)], .blk X59 23 [.int .i64 ((endH c d).1), .int .i64 ((endH c d).2)], .blk X64 29 [.bool false, .slice none 0 0, .bool false, .slice none 0 0], .blk X69 29 [.bool false, .slice none 0 0, .bool false, .slice none 0 0], .blk X103 23 [.int .i64 ((shL a b c d).1), .int .i64 ((shL a b c d).2)], .blk Y104 23 [.int .i64 ((shH a b c d).1), .int .i64 ((shH a b c d).2)]] ∧ Dig w128 wx)
    case first =>
     by_cases cj : lessB (endH c d) (endH a b) = true
     ·rw [cj]
      go_upto_region 9 with fail
      refine wp_region_lit ?_
      refine zd X59 (0) [.int .i64 ((endH c d).1), .int .i64 ((endH c d).2)] (H129.out.range (i := 3) (by rfl) 0 2) Tryz.underlying23 ?_
      refine aS' 7 [.int .i64 ((endH c d).1), .int .i64 ((endH c d).2)] H129.out ?_
      intro w131 H132 D132
      go_wp2_with fail
      go_meet
      exact ⟨(by rw [show shH a b c d = endH c d from (if_pos cj)]; exact H132.out), D132.out⟩
     rw [Bool.eq_false_iff.2 cj]
     go_wp2_with fail
     go_meet
     exact ⟨(by rw [show shH a b c d = endH a b from (if_neg cj)]; exact H129.out), (Dig.refl _)⟩
    case rest =>
     obtain ⟨hh_, hd_⟩ := hcut
     generalize wc = w134 at *
     have H136 := zH hh_
     have D136 := zH hd_
     clear hh_ hd_
     have HL := zH (show shL a b c d = shL a b c d from rfl)
     have HH := zH (show shH a b c d = shH a b c d from rfl)
     by_cases c137 : lessB (shH a b c d) (shL a b c d) = true
     ·have C5 := zH c137
      clear c137
      go_upto_region 10 with fail
      refine wp_region_lit ?_
      refine zd Y104 (0) [.int .i64 ((shH a b c d).1), .int .i64 ((shH a b c d).2)] (H136.out.range (i := 7) (by rfl) 0 2) Tryz.underlying23 ?_
      refine zd X103 (0) [.int .i64 ((shL a b c d).1), .int .i64 ((shL a b c d).2)] (H136.out.range (i := 6) (by rfl) 0 2) Tryz.underlying23 ?_
      refine zc (less11_any (shH a b c d) (shL a b c d) _ (okSH ha hb hc hd) (okSL ha hb hc hd)) ?_
      rintro e w138 ⟨rfl, hx⟩
      have H139 := zH (H136.out.step hx)
      clear hx
      refine ⟨.bool true, by rw [C5.out], ?_⟩
      try simp only [Act.put, zA, zB, zC]
      go_upto_region 11 with fail
      refine wp_region_lit ?_
      refine zI2 (Hp.start _) _ _ ?_
      refine aS' 4 rz H139.out ?_
      intro w143 H144 _
      refine aS' 5 rz H144.out ?_
      intro w146 H147 _
      refine zq (.int .i64 0) ?_
      have HS := zH (show sharedV a b c d = ((0, 0), 0) from by unfold sharedV; rw [HL.out, HH.out]; exact if_pos C5.out)
      go_wp2_with fail
      refine bodyPost_ret (v := .tuple #[.agg z4, .agg z4, .int .i64 0]) ?_ rfl ⟨.inr ⟨by rw [HS.out]; decide, by rw [HS.out]⟩, H147.out.ext⟩
      exact results_c1c1t1 rfl rfl rfl ((H147.out.blk (i := 4) (by rfl)).loadVar rfl rfl (by rfl)) ((H147.out.blk (i := 5) (by rfl)).loadVar rfl rfl (by rfl)) rfl
     have C5 := zH c137
     clear c137
     go_upto_region 10 with fail
     refine wp_region_lit ?_
     refine zd Y104 (0) [.int .i64 ((shH a b c d).1), .int .i64 ((shH a b c d).2)] (H136.out.range (i := 7) (by rfl) 0 2) Tryz.underlying23 ?_
     refine zd X103 (0) [.int .i64 ((shL a b c d).1), .int .i64 ((shL a b c d).2)] (H136.out.range (i := 6) (by rfl) 0 2) Tryz.underlying23 ?_
     refine zc (less11_any (shH a b c d) (shL a b c d) _ (okSH ha hb hc hd) (okSL ha hb hc hd)) ?_
     rintro e w150 ⟨rfl, hx⟩
     have H151 := zH (H136.out.step hx)
     clear hx
     refine ⟨.bool false, by rw [Bool.eq_false_iff.2 C5.out], ?_⟩
     try simp only [Act.put, zA, zB, zC]
     by_cases c153 : (shL a b c d) = (shH a b c d)
     ·have C6 := zH c153
      clear c153
      go_upto_region 12 with fail
      refine wp_region_lit ?_
      refine zd X103 (0) [.int .i64 ((shL a b c d).1), .int .i64 ((shL a b c d).2)] (H151.out.range (i := 6) (by rfl) 0 2) Tryz.underlying23 ?_
      refine zd Y104 (0) [.int .i64 ((shH a b c d).1), .int .i64 ((shH a b c d).2)] (H151.out.range (i := 7) (by rfl) 0 2) Tryz.underlying23 ?_
      refine zp (w' := w150) (.bool true) (by exact ev_eqlpt (by rfl) (by rfl) (by rfl) (pt_eq.2 C6.out)) ?_
      go_upto_region 13 with fail
      refine wp_region_lit ?_
      refine zd X103 (0) [.int .i64 ((shL a b c d).1), .int .i64 ((shL a b c d).2)] (H151.out.range (i := 6) (by rfl) 0 2) Tryz.underlying23 ?_
      refine zc (one17_any (shL a b c d) _ (okSL ha hb hc hd)) ?_
      rintro e w156 ⟨r155, s155, rfl, hr_, hs_, hx⟩
      have H157 := zH (H151.out.step hx)
      have R155 := zH hr_
      have S155 := zH hs_
      clear hr_ hs_
      clear hx
      refine zn ?_
      refine zI3 (Hp.start _) _ _ _ ?_
      refine aS' 4 (rc r155) H157.out ?_
      intro w162 H163 D163
      refine aS' 5 (rc s155) H163.out ?_
      intro w165 H166 D166
      refine zq (.int .i64 1) ?_
      have HS := zH (show sharedV a b c d = ((shL a b c d), 1) from by unfold sharedV; rw [HL.out, HH.out, if_neg C5.out]; exact if_pos C6.out)
      have DD169 := zH ((D163.out.trans D166.out))
      go_wp2_with fail
      refine bodyPost_ret (v := .tuple #[.agg #[.bool r155.n, .slice r155.p r155.l r155.c, .bool r155.m, .slice r155.p2 r155.l2 r155.c2], .agg #[.bool s155.n, .slice s155.p s155.l s155.c, .bool s155.m, .slice s155.p2 s155.l2 s155.c2], .int .i64 1]) ?_ rfl ⟨.inl ⟨_, _, by rw [HS.out], rfl, by rw [HS.out]; exact (R155.out.dig DD169.out), by rw [HS.out]; exact (S155.out.dig DD169.out)⟩, H166.out.ext⟩
      exact results_c1c1t1 rfl rfl rfl ((H166.out.blk (i := 4) (by rfl)).loadVar rfl rfl (by rfl)) ((H166.out.blk (i := 5) (by rfl)).loadVar rfl rfl (by rfl)) rfl
     have C6 := zH c153
     clear c153
     go_upto_region 12 with fail
     refine wp_region_lit ?_
     refine zd X103 (0) [.int .i64 ((shL a b c d).1), .int .i64 ((shL a b c d).2)] (H151.out.range (i := 6) (by rfl) 0 2) Tryz.underlying23 ?_
     refine zd Y104 (0) [.int .i64 ((shH a b c d).1), .int .i64 ((shH a b c d).2)] (H151.out.range (i := 7) (by rfl) 0 2) Tryz.underlying23 ?_
     refine zp (w' := w150) (.bool false) (by exact ev_eqlpt (by rfl) (by rfl) (by rfl) (Bool.eq_false_iff.2 (fun h_ => C6.out (pt_eq.1 h_)))) ?_
     go_upto_region 14 with fail
     refine wp_region_lit ?_
     refine zI2 (Hp.start _) _ _ ?_
     refine aS' 4 rz H151.out ?_
     intro w173 H174 _
     refine aS' 5 rz H174.out ?_
     intro w176 H177 _
     refine zq (.int .i64 2) ?_
     have HS := zH (show sharedV a b c d = ((0, 0), 2) from by unfold sharedV; rw [HL.out, HH.out, if_neg C5.out]; exact if_neg C6.out)
     go_wp2_with fail
     refine bodyPost_ret (v := .tuple #[.agg z4, .agg z4, .int .i64 2]) ?_ rfl ⟨.inr ⟨by rw [HS.out]; decide, by rw [HS.out]⟩, H177.out.ext⟩
     exact results_c1c1t1 rfl rfl rfl ((H177.out.blk (i := 4) (by rfl)).loadVar rfl rfl (by rfl)) ((H177.out.blk (i := 5) (by rfl)).loadVar rfl rfl (by rfl)) rfl

theorem inU_pos (t d : Int) (hd : 0 < d) : (¬ (t : Rat) / (d : Rat) < (((0) : Int) : Rat) ∧ ¬ (((1) : Int) : Rat) < (t : Rat) / (d : Rat)) ↔ 0 ≤ t ∧ t ≤ d := by
  have h : (0 : Rat) < (d : Rat) := by exact_mod_cast hd
  rw [Rat.div_lt_iff h, Rat.lt_div_iff h, ← Rat.intCast_mul, ← Rat.intCast_mul, Rat.intCast_lt_intCast, Rat.intCast_lt_intCast]
  omega
theorem neg_div_neg17 (t d : Int) : ((-t : Int) : Rat) / ((-d : Int) : Rat) = (t : Rat) / (d : Rat) := by
  rw [Rat.intCast_neg, Rat.intCast_neg, Rat.div_def, Rat.div_def]
  by_cases hd : (d : Rat) = 0
  · rw [hd]; simp
  have h1 := Rat.mul_inv_cancel (d : Rat) hd
  have h2 := Rat.mul_inv_cancel (-(d : Rat)) (by grind)
  grind
theorem cr_par {r s w : Int × Int} (h : r.1 * s.2 - r.2 * s.1 = 0) (hr : ¬ (r = (0, 0))) (hw : r.1 * w.2 - r.2 * w.1 = 0) : s.1 * w.2 - s.2 * w.1 = 0 := by
 obtain ⟨r1, r2⟩ := r
 obtain ⟨s1, s2⟩ := s
 obtain ⟨w1, w2⟩ := w
 simp only at *
 by_cases h1 : r1 = 0
 ·have h2 : r2 ≠ 0 := fun h2 => hr (by rw [h1, h2])
  have h3 : r2 * (s1 * w2 - s2 * w1) = 0 := by subst h1; grind
  rcases Int.mul_eq_zero.1 h3 with h4 | h4
  ·exact absurd h4 h2
  exact h4
 have h3 : r1 * (s1 * w2 - s2 * w1) = 0 := by grind
 rcases Int.mul_eq_zero.1 h3 with h4 | h4
 ·exact absurd h4 h1
 exact h4
theorem segN_line {a b c d : Int × Int} (h : cr (dv a b) (dv c d) = 0) : segN a b c d = if (cr (dv a b) (dv a c) ≠ 0 ∨ cr (dv c d) (dv a c) ≠ 0) ∨ (a = b ∧ c = d ∧ a ≠ c) then 0 else (sharedV a b c d).2 := by
 have e0 : ∀ p q : Int × Int, dv p q = (0, 0) ↔ p = q := fun p q => by
  unfold dv
  constructor
  ·intro h
   have h1 := congrArg Prod.fst h
   have h2 := congrArg Prod.snd h
   simp only at h1 h2
   exact Prod.ext (by omega) (by omega)
  intro h
  subst h
  simp
 have z : ∀ u : Int × Int, cr (0, 0) u = 0 := fun u => by simp [cr]
 unfold segN
 rw [if_neg (fun h2 => h2 h)]
 by_cases h1 : dv a b = (0, 0)
 ·have hl : lineV a b c d = dv c d := if_pos h1
  rw [hl]
  by_cases h2 : dv c d = (0, 0)
  ·rw [h1, h2]
   simp only [z, ne_eq, not_true_eq_false, false_or, true_and]
   have e1 := (e0 a b).1 h1
   have e2 := (e0 c d).1 h2
   simp only [e1, e2, true_and]
  rw [h1]
  have e2 : ¬ c = d := fun h => h2 ((e0 c d).2 h)
  simp [z, h2, e2]
 have hl : lineV a b c d = dv a b := if_neg h1
 rw [hl]
 have e1 : ¬ a = b := fun h => h1 ((e0 a b).2 h)
 have h3 : cr (dv a b) (dv a c) = 0 → cr (dv c d) (dv a c) = 0 := fun h4 => cr_par h h1 h4
 by_cases h4 : cr (dv a b) (dv a c) = 0
 ·simp [h1, e1, h4, h3 h4]
 simp [h4]
set_option maxRecDepth 20000 in
set_option maxHeartbeats 4000000 in
theorem rsegments_bad (a b c d : Int × Int) (w : World) (h : okAll [a, b, c, d] = false) :
  Calls Tryz.prog 5 #[.agg #[.int .i64 a.1, .int .i64 a.2], .agg #[.int .i64 b.1, .int .i64 b.2], .agg #[.int .i64 c.1, .int .i64 c.2], .agg #[.int .i64 d.1, .int .i64 d.2]] w fun e w' => e = .returned (.tuple #[.agg z4, .agg z4, .int .i64 0]) ∧ Ext w w' := by
 go_enter Tryz.func5, Tryz.ntmps5
 have H0 := zH (Hp.start w)
 go_upto_region 0 with fail
 refine wp_region_lit ?_
 refine aA' 23 [.int .i64 a.1, .int .i64 a.2] H0.out ?_
 intro X1 w2 H3 _
 refine aA' 23 [.int .i64 b.1, .int .i64 b.2] H3.out ?_
 intro X6 w7 H8 _
 refine aA' 23 [.int .i64 c.1, .int .i64 c.2] H8.out ?_
 intro X11 w12 H13 _
 refine aA' 23 [.int .i64 d.1, .int .i64 d.2] H13.out ?_
 intro X16 w17 H18 _
 refine aA' 29 rz H18.out ?_
 intro X21 w22 H23 _
 refine aA' 29 rz H23.out ?_
 intro X26 w27 H28 _
 refine zq (.int .i64 0) ?_
 by_cases c32 : okPt a.1 a.2 = true
 ·have VA := zH c32
  clear c32
  by_cases c33 : okPt b.1 b.2 = true
  ·have VB := zH c33
   clear c33
   by_cases c34 : okPt c.1 c.2 = true
   ·have VC := zH c34
    clear c34
    by_cases c35 : okPt d.1 d.2 = true
    ·have VD := zH c35
     clear c35
     exact absurd h (by rw [show okAll [a, b, c, d] = true from by unfold okAll; simp only [List.all_cons, List.all_nil, Bool.and_true, VA.out, VB.out, VC.out, VD.out]]; decide)
    have VD := zH c35
    clear c35
    have Wd := zH (Bool.eq_false_iff.2 VD.out)
    go_upto_region 1 with fail
    refine wp_region_lit ?_
    refine zd X1 (0) [.int .i64 a.1, .int .i64 a.2] (H28.out.range (i := 0) (by rfl) 0 2) Tryz.underlying23 ?_
    refine zc (rvalid_any a.1 a.2 _) ?_
    rintro e w36 ⟨rfl, hx⟩
    have H37 := zH (H28.out.step hx)
    clear hx
    refine ⟨.bool true, by rw [VA.out], ?_⟩
    try simp only [Act.put, zA, zB, zC]
    refine zI3 H37.out (.bool false) (.bool false) _ ?_
    refine zc (rvalid_any b.1 b.2 _) ?_
    rintro e w41 ⟨rfl, hx⟩
    have H42 := zH (H37.out.step hx)
    clear hx
    refine ⟨.bool true, by rw [VB.out], ?_⟩
    try simp only [Act.put, zA, zB, zC]
    refine zI4 H42.out (.bool false) (.bool false) (.bool false) _ ?_
    refine zc (rvalid_any c.1 c.2 _) ?_
    rintro e w47 ⟨rfl, hx⟩
    have H48 := zH (H42.out.step hx)
    clear hx
    refine ⟨.bool true, by rw [VC.out], ?_⟩
    try simp only [Act.put, zA, zB, zC]
    refine zI4 H48.out (.bool false) (.bool false) (.bool false) _ ?_
    refine zc (rvalid_any d.1 d.2 _) ?_
    rintro e w53 ⟨rfl, hx⟩
    have H54 := zH (H48.out.step hx)
    clear hx
    refine ⟨.bool false, by rw [Wd.out], ?_⟩
    try simp only [Act.put, zA, zB, zC]
    refine zI2 (Hp.start _) (.bool true) (.bool true) ?_
    go_upto_region 2 with fail
    refine wp_region_lit ?_
    refine zI2 (Hp.start _) _ _ ?_
    refine aS' 4 rz H54.out ?_
    intro w60 H61 _
    refine aS' 5 rz H61.out ?_
    intro w63 H64 _
    refine zq (.int .i64 0) ?_
    go_wp2_with fail
    refine bodyPost_ret (v := .tuple #[.agg z4, .agg z4, .int .i64 0]) ?_ rfl ⟨rfl, H64.out.ext⟩
    exact results_c1c1t1 rfl rfl rfl ((H64.out.blk (i := 4) (by rfl)).loadVar rfl rfl (by rfl)) ((H64.out.blk (i := 5) (by rfl)).loadVar rfl rfl (by rfl)) rfl
   have VC := zH c34
   clear c34
   have Wc := zH (Bool.eq_false_iff.2 VC.out)
   go_upto_region 1 with fail
   refine wp_region_lit ?_
   refine zd X1 (0) [.int .i64 a.1, .int .i64 a.2] (H28.out.range (i := 0) (by rfl) 0 2) Tryz.underlying23 ?_
   refine zc (rvalid_any a.1 a.2 _) ?_
   rintro e w67 ⟨rfl, hx⟩
   have H68 := zH (H28.out.step hx)
   clear hx
   refine ⟨.bool true, by rw [VA.out], ?_⟩
   try simp only [Act.put, zA, zB, zC]
   refine zI3 H68.out (.bool false) (.bool false) _ ?_
   refine zc (rvalid_any b.1 b.2 _) ?_
   rintro e w72 ⟨rfl, hx⟩
   have H73 := zH (H68.out.step hx)
   clear hx
   refine ⟨.bool true, by rw [VB.out], ?_⟩
   try simp only [Act.put, zA, zB, zC]
   refine zI4 H73.out (.bool false) (.bool false) (.bool false) _ ?_
   refine zc (rvalid_any c.1 c.2 _) ?_
   rintro e w78 ⟨rfl, hx⟩
   have H79 := zH (H73.out.step hx)
   clear hx
   refine ⟨.bool false, by rw [Wc.out], ?_⟩
   try simp only [Act.put, zA, zB, zC]
   refine zI3 (Hp.start _) (.bool true) (.bool true) (.bool true) ?_
   with_reducible refine mv_skip ?_ ?_
   ·rfl
   try simp only [Act.put, zA, zB, zC]
   with_reducible refine mv_skip ?_ ?_
   ·rfl
   try simp only [Act.put, zA, zB, zC]
   with_reducible refine mv_skip ?_ ?_
   ·rfl
   try simp only [Act.put, zA, zB, zC]
   refine zq (.bool true) ?_
   go_upto_region 2 with fail
   refine wp_region_lit ?_
   refine zI2 (Hp.start _) _ _ ?_
   refine aS' 4 rz H79.out ?_
   intro w87 H88 _
   refine aS' 5 rz H88.out ?_
   intro w90 H91 _
   refine zq (.int .i64 0) ?_
   go_wp2_with fail
   refine bodyPost_ret (v := .tuple #[.agg z4, .agg z4, .int .i64 0]) ?_ rfl ⟨rfl, H91.out.ext⟩
   exact results_c1c1t1 rfl rfl rfl ((H91.out.blk (i := 4) (by rfl)).loadVar rfl rfl (by rfl)) ((H91.out.blk (i := 5) (by rfl)).loadVar rfl rfl (by rfl)) rfl
  have VB := zH c33
  clear c33
  have Wb := zH (Bool.eq_false_iff.2 VB.out)
  go_upto_region 1 with fail
  refine wp_region_lit ?_
  refine zd X1 (0) [.int .i64 a.1, .int .i64 a.2] (H28.out.range (i := 0) (by rfl) 0 2) Tryz.underlying23 ?_
  refine zc (rvalid_any a.1 a.2 _) ?_
  rintro e w94 ⟨rfl, hx⟩
  have H95 := zH (H28.out.step hx)
  clear hx
  refine ⟨.bool true, by rw [VA.out], ?_⟩
  try simp only [Act.put, zA, zB, zC]
  refine zI3 H95.out (.bool false) (.bool false) _ ?_
  refine zc (rvalid_any b.1 b.2 _) ?_
  rintro e w99 ⟨rfl, hx⟩
  have H100 := zH (H95.out.step hx)
  clear hx
  refine ⟨.bool false, by rw [Wb.out], ?_⟩
  try simp only [Act.put, zA, zB, zC]
  refine zI3 (Hp.start _) (.bool true) (.bool true) (.bool true) ?_
  with_reducible refine mv_skip ?_ ?_
  ·rfl
  try simp only [Act.put, zA, zB, zC]
  with_reducible refine mv_skip ?_ ?_
  ·rfl
  try simp only [Act.put, zA, zB, zC]
  with_reducible refine mv_skip ?_ ?_
  ·rfl
  try simp only [Act.put, zA, zB, zC]
  refine zI2 (Hp.start _) (.bool true) (.bool true) ?_
  with_reducible refine mv_skip ?_ ?_
  ·rfl
  try simp only [Act.put, zA, zB, zC]
  with_reducible refine mv_skip ?_ ?_
  ·rfl
  try simp only [Act.put, zA, zB, zC]
  with_reducible refine mv_skip ?_ ?_
  ·rfl
  try simp only [Act.put, zA, zB, zC]
  refine zq (.bool true) ?_
  go_upto_region 2 with fail
  refine wp_region_lit ?_
  refine zI2 (Hp.start _) _ _ ?_
  refine aS' 4 rz H100.out ?_
  intro w110 H111 _
  refine aS' 5 rz H111.out ?_
  intro w113 H114 _
  refine zq (.int .i64 0) ?_
  go_wp2_with fail
  refine bodyPost_ret (v := .tuple #[.agg z4, .agg z4, .int .i64 0]) ?_ rfl ⟨rfl, H114.out.ext⟩
  exact results_c1c1t1 rfl rfl rfl ((H114.out.blk (i := 4) (by rfl)).loadVar rfl rfl (by rfl)) ((H114.out.blk (i := 5) (by rfl)).loadVar rfl rfl (by rfl)) rfl
 have VA := zH c32
 clear c32
 have Wa := zH (Bool.eq_false_iff.2 VA.out)
 go_upto_region 1 with fail
 refine wp_region_lit ?_
 refine zd X1 (0) [.int .i64 a.1, .int .i64 a.2] (H28.out.range (i := 0) (by rfl) 0 2) Tryz.underlying23 ?_
 refine zc (rvalid_any a.1 a.2 _) ?_
 rintro e w117 ⟨rfl, hx⟩
 have H118 := zH (H28.out.step hx)
 clear hx
 refine ⟨.bool false, by rw [Wa.out], ?_⟩
 try simp only [Act.put, zA, zB, zC]
 refine qV (.bool true) ?_
 refine zq (.bool true) ?_
 with_reducible refine mv_skip ?_ ?_
 ·rfl
 try simp only [Act.put, zA, zB, zC]
 with_reducible refine mv_skip ?_ ?_
 ·rfl
 try simp only [Act.put, zA, zB, zC]
 with_reducible refine mv_skip ?_ ?_
 ·rfl
 try simp only [Act.put, zA, zB, zC]
 refine qV (.bool true) ?_
 refine zq (.bool true) ?_
 with_reducible refine mv_skip ?_ ?_
 ·rfl
 try simp only [Act.put, zA, zB, zC]
 with_reducible refine mv_skip ?_ ?_
 ·rfl
 try simp only [Act.put, zA, zB, zC]
 with_reducible refine mv_skip ?_ ?_
 ·rfl
 try simp only [Act.put, zA, zB, zC]
 refine qV (.bool true) ?_
 refine zq (.bool true) ?_
 with_reducible refine mv_skip ?_ ?_
 ·rfl
 try simp only [Act.put, zA, zB, zC]
 with_reducible refine mv_skip ?_ ?_
 ·rfl
 try simp only [Act.put, zA, zB, zC]
 with_reducible refine mv_skip ?_ ?_
 ·rfl
 try simp only [Act.put, zA, zB, zC]
 refine zq (.bool true) ?_
 go_upto_region 2 with fail
 refine wp_region_lit ?_
 refine zI2 (Hp.start _) _ _ ?_
 refine aS' 4 rz H118.out ?_
 intro w129 H130 _
 refine aS' 5 rz H130.out ?_
 intro w132 H133 _
 refine zq (.int .i64 0) ?_
 go_wp2_with fail
 refine bodyPost_ret (v := .tuple #[.agg z4, .agg z4, .int .i64 0]) ?_ rfl ⟨rfl, H133.out.ext⟩
 exact results_c1c1t1 rfl rfl rfl ((H133.out.blk (i := 4) (by rfl)).loadVar rfl rfl (by rfl)) ((H133.out.blk (i := 5) (by rfl)).loadVar rfl rfl (by rfl)) rfl
set_option maxRecDepth 20000 in
set_option maxHeartbeats 4000000 in
theorem rsegments_any (a b c d : Int × Int) (w : World) (ha : okP a) (hb : okP b) (hc : okP c) (hd : okP d) :
  Calls Tryz.prog 5 #[.agg #[.int .i64 a.1, .int .i64 a.2], .agg #[.int .i64 b.1, .int .i64 b.2], .agg #[.int .i64 c.1, .int .i64 c.2], .agg #[.int .i64 d.1, .int .i64 d.2]] w (SegRet a b c d w) := by
 have hn1 := cr_bd (dv_bd ha hb) (dv_bd hc hd)
 have hn2 := cr_bd (dv_bd ha hc) (dv_bd hc hd)
 have hn3 := cr_bd (dv_bd ha hc) (dv_bd ha hb)
 have db := dv_bd ha hb
 have oa := okP_out ha
 have ob := okP_out hb
 have oc := okP_out hc
 have od := okP_out hd
 go_enter Tryz.func5, Tryz.ntmps5
 have H0 := zH (Hp.start w)
 go_upto_region 0 with fail
 refine wp_region_lit ?_
 refine aA' 23 [.int .i64 a.1, .int .i64 a.2] H0.out ?_
 intro X136 w137 H138 _
 refine aA' 23 [.int .i64 b.1, .int .i64 b.2] H138.out ?_
 intro X141 w142 H143 _
 refine aA' 23 [.int .i64 c.1, .int .i64 c.2] H143.out ?_
 intro X146 w147 H148 _
 refine aA' 23 [.int .i64 d.1, .int .i64 d.2] H148.out ?_
 intro X151 w152 H153 _
 refine aA' 29 rz H153.out ?_
 intro X156 w157 H158 _
 refine aA' 29 rz H158.out ?_
 intro X161 w162 H163 _
 refine zq (.int .i64 0) ?_
 go_upto_region 1 with fail
 refine wp_region_lit ?_
 refine zd X136 (0) [.int .i64 a.1, .int .i64 a.2] (H163.out.range (i := 0) (by rfl) 0 2) Tryz.underlying23 ?_
 refine zc (rvalid_any a.1 a.2 _) ?_
 rintro e w167 ⟨rfl, hx⟩
 have H168 := zH (H163.out.step hx)
 clear hx
 refine ⟨.bool true, by rw [ha], ?_⟩
 try simp only [Act.put, zA, zB, zC]
 refine zI3 H168.out (.bool false) (.bool false) _ ?_
 refine zc (rvalid_any b.1 b.2 _) ?_
 rintro e w172 ⟨rfl, hx⟩
 have H173 := zH (H168.out.step hx)
 clear hx
 refine ⟨.bool true, by rw [hb], ?_⟩
 try simp only [Act.put, zA, zB, zC]
 refine zI4 H173.out (.bool false) (.bool false) (.bool false) _ ?_
 refine zc (rvalid_any c.1 c.2 _) ?_
 rintro e w178 ⟨rfl, hx⟩
 have H179 := zH (H173.out.step hx)
 clear hx
 refine ⟨.bool true, by rw [hc], ?_⟩
 try simp only [Act.put, zA, zB, zC]
 refine zI4 H179.out (.bool false) (.bool false) (.bool false) _ ?_
 refine zc (rvalid_any d.1 d.2 _) ?_
 rintro e w184 ⟨rfl, hx⟩
 have H185 := zH (H179.out.step hx)
 clear hx
 refine ⟨.bool true, by rw [hd], ?_⟩
 try simp only [Act.put, zA, zB, zC]
 refine qV (.bool false) ?_
 refine zq (.bool false) ?_
 go_upto_region 3 with fail
 refine zy ?_
 have H189 := zH (H185.out.step (Ext.refl w184).drew)
 refine mR 0 (bs 15 1) X141 (0) [.int .i64 b.1, .int .i64 b.2] (fun x hx => range_ext (show World.rangeAt w184 X141 (0) [.int .i64 b.1, .int .i64 b.2] from (H185.out.range (i := 1) (by rfl) 0 2)) hx) Tryz.underlying23 zb ?_
 refine mR 1 (bs 15 3) X136 (0) [.int .i64 a.1, .int .i64 a.2] (fun x hx => range_ext (show World.rangeAt w184 X136 (0) [.int .i64 a.1, .int .i64 a.2] from (H185.out.range (i := 0) (by rfl) 0 2)) hx) Tryz.underlying23 zb ?_
 refine zg 3 (bs 15 11) X151 (0) [.int .i64 d.1, .int .i64 d.2] (H185.out.range (i := 3) (by rfl) 0 2) Tryz.underlying23 zb ?_
 refine mR 4 (bs 15 27) X146 (0) [.int .i64 c.1, .int .i64 c.2] (fun x hx => range_ext (show World.rangeAt w184 X146 (0) [.int .i64 c.1, .int .i64 c.2] from (H185.out.range (i := 2) (by rfl) 0 2)) hx) Tryz.underlying23 zb ?_
 refine mR 6 (bs 15 91) X146 (0) [.int .i64 c.1, .int .i64 c.2] (fun x hx => range_ext (show World.rangeAt w184 X146 (0) [.int .i64 c.1, .int .i64 c.2] from (H185.out.range (i := 2) (by rfl) 0 2)) hx) Tryz.underlying23 zb ?_
 refine zg 7 (bs 15 219) X136 (0) [.int .i64 a.1, .int .i64 a.2] (H185.out.range (i := 0) (by rfl) 0 2) Tryz.underlying23 zb ?_
 refine FN.go3 (j1 := ⟨9, some 11, 23, [.int .i64 0, .int .i64 0]⟩) (j2 := ⟨10, some 12, 23, [.int .i64 0, .int .i64 0]⟩) (j3 := ⟨11, some 13, 23, [.int .i64 0, .int .i64 0]⟩) (b := w184) ?_ zb
 refine fn_call (i := 2) (li := (bs 15 223)) (by rfl) (by kernel_rfl) (by kernel_rfl) (by kernel_rfl) (by kernel_rfl) (by kernel_rfl) ⟨⟨_, by rfl, by rfl, by rfl, by simp [NoUL], by intro r_ x_; go_simp⟩, ⟨⟨_, by rfl, by rfl, by rfl, by simp [NoUL], by intro r_ x_; go_simp⟩, ⟨⟨_, by rfl, by rfl, by rfl, by simp [NoUL], by intro r_ x_; go_simp⟩, trivial⟩⟩⟩ (fun x y h1 h2 => h1.trans h2) zb.size (by rfl) (by intro x_; go_simp) (by kernel_rfl) (fun xq hxq => sub11_any b a _ hb ha) (by rintro x_ e x2_ ⟨rfl, hx⟩; exact hx) ?_
 rintro xq e w191 hxq ⟨rfl, hx⟩
 replace hx := hxq.trans hx
 clear hxq
 have H192 := zH (H189.out.step hx)
 have S194 := zH (zb.trans hx)
 clear hx
 refine ⟨_, rfl, ?_⟩
 try simp only [Act.put, zA, zB, zC]
 refine fn_call (i := 5) (li := (bs 15 255)) (by rfl) (by kernel_rfl) (by kernel_rfl) (by kernel_rfl) (by kernel_rfl) (by kernel_rfl) ⟨⟨_, by rfl, by rfl, by rfl, by simp [NoUL], by intro r_ x_; go_simp⟩, ⟨⟨_, by rfl, by rfl, by rfl, by simp [NoUL], by intro r_ x_; go_simp⟩, ⟨⟨_, by rfl, by rfl, by rfl, by simp [NoUL], by intro r_ x_; go_simp⟩, trivial⟩⟩⟩ (fun x y h1 h2 => h1.trans h2) S194.out.size (by rfl) (by intro x_; go_simp) (by kernel_rfl) (fun xq hxq => sub11_any d c _ hd hc) (by rintro x_ e x2_ ⟨rfl, hx⟩; exact hx) ?_
 rintro xq e w195 hxq ⟨rfl, hx⟩
 replace hx := hxq.trans hx
 clear hxq
 have H196 := zH (H192.out.step hx)
 have S198 := zH (S194.out.trans hx)
 clear hx
 refine ⟨_, rfl, ?_⟩
 try simp only [Act.put, zA, zB, zC]
 refine fn_call (i := 8) (li := (bs 15 511)) (by rfl) (by kernel_rfl) (by kernel_rfl) (by kernel_rfl) (by kernel_rfl) (by kernel_rfl) ⟨⟨_, by rfl, by rfl, by rfl, by simp [NoUL], by intro r_ x_; go_simp⟩, ⟨⟨_, by rfl, by rfl, by rfl, by simp [NoUL], by intro r_ x_; go_simp⟩, ⟨⟨_, by rfl, by rfl, by rfl, by simp [NoUL], by intro r_ x_; go_simp⟩, trivial⟩⟩⟩ (fun x y h1 h2 => h1.trans h2) S198.out.size (by rfl) (by intro x_; go_simp) (by kernel_rfl) (fun xq hxq => sub11_any c a _ hc ha) (by rintro x_ e x2_ ⟨rfl, hx⟩; exact hx) ?_
 rintro xq e w199 hxq ⟨rfl, hx⟩
 replace hx := hxq.trans hx
 clear hxq
 have H200 := zH (H196.out.step hx)
 have S202 := zH (S198.out.trans hx)
 clear hx
 refine ⟨_, rfl, ?_⟩
 try simp only [Act.put, zA, zB, zC]
 refine fn_end3 (lt := (bs 15 4095)) (by kernel_rfl) (by kernel_rfl) ⟨⟨_, by rfl, by rfl, by rfl, by simp [NoUL], by intro r_ x_; go_simp⟩, ⟨⟨_, by rfl, by rfl, by rfl, by simp [NoUL], by intro r_ x_; go_simp⟩, ⟨⟨_, by rfl, by rfl, by rfl, by simp [NoUL], by intro r_ x_; go_simp⟩, trivial⟩⟩⟩ (fun x y h1 h2 => h1.trans h2) S202.out.size H185.out H200.out (by kernel_rfl) ?_
 intro X203 X204 X205 w206 hx hh hg0 hg1 hg2 hs
 have H207 := hN hh
 have S209 := zH (show Ext w184 w206 from hs)
 have G210 := zH (show w184.heap.size ≤ X203 from hg0)
 have G211 := zH (show w184.heap.size ≤ X204 from hg1)
 have G212 := zH (show w184.heap.size ≤ X205 from hg2)
 clear hh hx hs hg0 hg1 hg2
 try simp only [Act.put, zA, zB, zC]
 refine bS 6 12 (bs 15 8191) [.int .i64 ((dv a b).1), .int .i64 ((dv a b).2)] H207.out S209.out G210.out ?_
 intro w213 H214 _ S216
 refine bS 7 13 (bs 15 16383) [.int .i64 ((dv c d).1), .int .i64 ((dv c d).2)] H214.out S216.out G211.out ?_
 intro w217 H218 _ S220
 refine bS 8 14 (bs 15 32767) [.int .i64 ((dv a c).1), .int .i64 ((dv a c).2)] H218.out S220.out G212.out ?_
 intro w221 H222 _ S224
 refine wpAnyH_done (by kernel_rfl) ?_ _
 go_upto_region 4 with fail
 refine wp_region_lit ?_
 refine zI2 H222.out _ _ ?_
 refine aC H222.out (wedge11_any (dv a b) (dv c d) _ (dv_bd ha hb) (dv_bd hc hd)) ?_
 intro w225 H226 _
 refine zq (.int .i64 (cr (dv a b) (dv c d))) ?_
 by_cases c229 : cr (dv a b) (dv c d) = 0
 ·have C0 := zH c229
  clear c229
  go_upto_region 5 with fail
  refine wp_region_lit ?_
  refine zq (.int .i64 (cr (dv a b) (dv c d))) ?_
  refine zp (w' := w225) (.bool true) (by exact ezq (e := (dec_t C0.out))) ?_
  by_cases c232 : cr (dv a b) (dv a c) ≠ 0
  ·have C1 := zH c232
   clear c232
   go_upto_region 6 with fail
   refine wp_region_lit ?_
   refine zI2 H226.out _ _ ?_
   refine aC H226.out (wedge11_any (dv a b) (dv a c) _ (dv_bd ha hb) (dv_bd ha hc)) ?_
   intro w233 H234 _
   refine zp (w' := w233) (.bool true) (by exact ezn (e := (dec_t C1.out))) ?_
   refine zq (.bool true) ?_
   with_reducible refine mv_skip ?_ ?_
   ·rfl
   try simp only [Act.put, zA, zB, zC]
   with_reducible refine mv_skip ?_ ?_
   ·rfl
   try simp only [Act.put, zA, zB, zC]
   with_reducible refine mv_skip ?_ ?_
   ·rfl
   try simp only [Act.put, zA, zB, zC]
   with_reducible refine mv_skip ?_ ?_
   ·rfl
   try simp only [Act.put, zA, zB, zC]
   refine zq (.bool true) ?_
   go_upto_region 7 with fail
   refine wp_region_lit ?_
   refine zI2 (Hp.start _) _ _ ?_
   refine aS' 4 rz H234.out ?_
   intro w241 H242 _
   refine aS' 5 rz H242.out ?_
   intro w244 H245 _
   refine zq (.int .i64 0) ?_
   have HSN := zH (show segN a b c d = 0 from by rw [segN_line C0.out]; exact if_pos (.inl (.inl C1.out)))
   go_wp2_with fail
   refine bodyPost_ret (v := .tuple #[.agg z4, .agg z4, .int .i64 0]) ?_ rfl ⟨.inr ⟨by rw [HSN.out]; decide, by rw [HSN.out]⟩, H245.out.ext⟩
   exact results_c1c1t1 rfl rfl rfl ((H245.out.blk (i := 4) (by rfl)).loadVar rfl rfl (by rfl)) ((H245.out.blk (i := 5) (by rfl)).loadVar rfl rfl (by rfl)) rfl
  have C1 := zH c232
  clear c232
  by_cases c248 : cr (dv c d) (dv a c) ≠ 0
  ·have C2 := zH c248
   clear c248
   go_upto_region 6 with fail
   refine wp_region_lit ?_
   refine zI2 H226.out _ _ ?_
   refine aC H226.out (wedge11_any (dv a b) (dv a c) _ (dv_bd ha hb) (dv_bd ha hc)) ?_
   intro w249 H250 _
   refine zp (w' := w249) (.bool false) (by exact ezn (e := (dec_f C1.out))) ?_
   refine zI3 H250.out (.bool false) _ _ ?_
   refine aC H250.out (wedge11_any (dv c d) (dv a c) _ (dv_bd hc hd) (dv_bd ha hc)) ?_
   intro w254 H255 _
   refine zp (w' := w254) (.bool true) (by exact ezn (e := (dec_t C2.out))) ?_
   refine zq (.bool true) ?_
   go_upto_region 7 with fail
   refine wp_region_lit ?_
   refine zI2 (Hp.start _) _ _ ?_
   refine aS' 4 rz H255.out ?_
   intro w261 H262 _
   refine aS' 5 rz H262.out ?_
   intro w264 H265 _
   refine zq (.int .i64 0) ?_
   have HSN := zH (show segN a b c d = 0 from by rw [segN_line C0.out]; exact if_pos (.inl (.inr C2.out)))
   go_wp2_with fail
   refine bodyPost_ret (v := .tuple #[.agg z4, .agg z4, .int .i64 0]) ?_ rfl ⟨.inr ⟨by rw [HSN.out]; decide, by rw [HSN.out]⟩, H265.out.ext⟩
   exact results_c1c1t1 rfl rfl rfl ((H265.out.blk (i := 4) (by rfl)).loadVar rfl rfl (by rfl)) ((H265.out.blk (i := 5) (by rfl)).loadVar rfl rfl (by rfl)) rfl
  have C2 := zH c248
  clear c248
  go_upto_region 6 with fail
  refine wp_region_lit ?_
  refine zI2 H226.out _ _ ?_
  refine aC H226.out (wedge11_any (dv a b) (dv a c) _ (dv_bd ha hb) (dv_bd ha hc)) ?_
  intro w268 H269 _
  refine zp (w' := w268) (.bool false) (by exact ezn (e := (dec_f C1.out))) ?_
  refine zI3 H269.out (.bool false) _ _ ?_
  refine aC H269.out (wedge11_any (dv c d) (dv a c) _ (dv_bd hc hd) (dv_bd ha hc)) ?_
  intro w273 H274 _
  refine zp (w' := w273) (.bool false) (by exact ezn (e := (dec_f C2.out))) ?_
  refine zq (.bool false) ?_
  by_cases c278 : a = b
  ·have E1 := zH c278
   clear c278
   by_cases c279 : c = d
   ·have E2 := zH c279
    clear c279
    by_cases c280 : a = c
    ·have E3 := zH c280
     clear c280
     go_upto_region 8 with fail
     refine wp_region_lit ?_
     refine zI2 H274.out _ _ ?_
     refine zp (w' := w273) (.bool true) (by exact ev_eqlpt (by rfl) (by rfl) (by rfl) (pt_eq.2 E1.out)) ?_
     refine zI3 H274.out (.bool true) _ _ ?_
     refine zp (w' := w273) (.bool true) (by exact ev_eqlpt (by rfl) (by rfl) (by rfl) (pt_eq.2 E2.out)) ?_
     refine zI4 H274.out (.bool true) (.bool true) _ _ ?_
     refine zp (w' := w273) (.bool false) (by exact ev_neqpt (by rfl) (by rfl) (by rfl) (by rw [pt_eq.2 E3.out]; rfl)) ?_
     refine zq (.bool false) ?_
     have HSV := zH (show segN a b c d = (sharedV a b c d).2 from by rw [segN_line C0.out]; exact if_neg (fun h_ => h_.elim (fun h_ => h_.elim C1.out C2.out) (fun h_ => h_.2.2 E3.out)))
     have HSX := zH (show segX a b c d = (((sharedV a b c d).1.1 : Int) : Rat) from if_neg (fun h_ => h_ C0.out))
     have HSY := zH (show segY a b c d = (((sharedV a b c d).1.2 : Int) : Rat) from if_neg (fun h_ => h_ C0.out))
     by_cases c288 : (sharedV a b c d).2 = 1
     ·have CS := zH c288
      clear c288
      go_upto_region 10 with fail
      refine wp_region_lit ?_
      refine zI4 H274.out _ _ _ _ ?_
      refine zc (((ralong17_any a b c d _ ha hb hc hd).mono (fun _ _ h_ => LineRet.yes h_ CS.out))) ?_
      rintro e w290 ⟨r289, s289, rfl, hr_, hs_, hx⟩
      have H291 := zH (H274.out.step hx)
      have R289 := zH hr_
      have S289 := zH hs_
      clear hr_ hs_
      clear hx
      refine zn ?_
      refine zI3 (Hp.start _) _ _ _ ?_
      refine aS' 4 (rc r289) H291.out ?_
      intro w296 H297 D297
      refine aS' 5 (rc s289) H297.out ?_
      intro w299 H300 D300
      refine zq (.int .i64 1) ?_
      have DD303 := zH ((D297.out.trans D300.out))
      go_wp2_with fail
      refine bodyPost_ret (v := .tuple #[.agg #[.bool r289.n, .slice r289.p r289.l r289.c, .bool r289.m, .slice r289.p2 r289.l2 r289.c2], .agg #[.bool s289.n, .slice s289.p s289.l s289.c, .bool s289.m, .slice s289.p2 s289.l2 s289.c2], .int .i64 1]) ?_ rfl ⟨.inl ⟨_, _, by rw [HSV.out, CS.out], rfl, by rw [HSX.out]; exact (R289.out.dig DD303.out), by rw [HSY.out]; exact (S289.out.dig DD303.out)⟩, H300.out.ext⟩
      exact results_c1c1t1 rfl rfl rfl ((H300.out.blk (i := 4) (by rfl)).loadVar rfl rfl (by rfl)) ((H300.out.blk (i := 5) (by rfl)).loadVar rfl rfl (by rfl)) rfl
     have CS := zH c288
     clear c288
     go_upto_region 10 with fail
     refine wp_region_lit ?_
     refine zI4 H274.out _ _ _ _ ?_
     refine aC H274.out (((ralong17_any a b c d _ ha hb hc hd).mono (fun _ _ h_ => LineRet.no h_ CS.out))) ?_
     intro w304 H305 _
     refine zI3 (Hp.start _) _ _ (.int .i64 ((sharedV a b c d).2)) ?_
     refine aS' 4 rz H305.out ?_
     intro w310 H311 _
     refine aS' 5 rz H311.out ?_
     intro w313 H314 _
     refine zq (.int .i64 ((sharedV a b c d).2)) ?_
     go_wp2_with fail
     refine bodyPost_ret (v := .tuple #[.agg z4, .agg z4, .int .i64 (sharedV a b c d).2]) ?_ rfl ⟨.inr ⟨by rw [HSV.out]; exact CS.out, by rw [HSV.out]⟩, H314.out.ext⟩
     exact results_c1c1t1 rfl rfl rfl ((H314.out.blk (i := 4) (by rfl)).loadVar rfl rfl (by rfl)) ((H314.out.blk (i := 5) (by rfl)).loadVar rfl rfl (by rfl)) rfl
    have E3 := zH c280
    clear c280
    go_upto_region 8 with fail
    refine wp_region_lit ?_
    refine zI2 H274.out _ _ ?_
    refine zp (w' := w273) (.bool true) (by exact ev_eqlpt (by rfl) (by rfl) (by rfl) (pt_eq.2 E1.out)) ?_
    refine zI3 H274.out (.bool true) _ _ ?_
    refine zp (w' := w273) (.bool true) (by exact ev_eqlpt (by rfl) (by rfl) (by rfl) (pt_eq.2 E2.out)) ?_
    refine zI4 H274.out (.bool true) (.bool true) _ _ ?_
    refine zp (w' := w273) (.bool true) (by exact ev_neqpt (by rfl) (by rfl) (by rfl) (by rw [Bool.eq_false_iff.2 (fun h_ => E3.out (pt_eq.1 h_))]; rfl)) ?_
    refine zq (.bool true) ?_
    go_upto_region 9 with fail
    refine wp_region_lit ?_
    refine zI2 (Hp.start _) _ _ ?_
    refine aS' 4 rz H274.out ?_
    intro w326 H327 _
    refine aS' 5 rz H327.out ?_
    intro w329 H330 _
    refine zq (.int .i64 0) ?_
    have HSN := zH (show segN a b c d = 0 from by rw [segN_line C0.out]; exact if_pos (.inr ⟨E1.out, E2.out, E3.out⟩))
    go_wp2_with fail
    refine bodyPost_ret (v := .tuple #[.agg z4, .agg z4, .int .i64 0]) ?_ rfl ⟨.inr ⟨by rw [HSN.out]; decide, by rw [HSN.out]⟩, H330.out.ext⟩
    exact results_c1c1t1 rfl rfl rfl ((H330.out.blk (i := 4) (by rfl)).loadVar rfl rfl (by rfl)) ((H330.out.blk (i := 5) (by rfl)).loadVar rfl rfl (by rfl)) rfl
   have E2 := zH c279
   clear c279
   go_upto_region 8 with fail
   refine wp_region_lit ?_
   refine zI2 H274.out _ _ ?_
   refine zp (w' := w273) (.bool true) (by exact ev_eqlpt (by rfl) (by rfl) (by rfl) (pt_eq.2 E1.out)) ?_
   refine zI3 H274.out (.bool true) _ _ ?_
   refine zp (w' := w273) (.bool false) (by exact ev_eqlpt (by rfl) (by rfl) (by rfl) (Bool.eq_false_iff.2 (fun h_ => E2.out (pt_eq.1 h_)))) ?_
   refine zI2 (Hp.start _) (.bool false) (.bool false) ?_
   with_reducible refine mv_skip ?_ ?_
   ·rfl
   try simp only [Act.put, zA, zB, zC]
   with_reducible refine mv_skip ?_ ?_
   ·rfl
   try simp only [Act.put, zA, zB, zC]
   with_reducible refine mv_skip ?_ ?_
   ·rfl
   try simp only [Act.put, zA, zB, zC]
   refine zq (.bool false) ?_
   have HSV := zH (show segN a b c d = (sharedV a b c d).2 from by rw [segN_line C0.out]; exact if_neg (fun h_ => h_.elim (fun h_ => h_.elim C1.out C2.out) (fun h_ => E2.out h_.2.1)))
   have HSX := zH (show segX a b c d = (((sharedV a b c d).1.1 : Int) : Rat) from if_neg (fun h_ => h_ C0.out))
   have HSY := zH (show segY a b c d = (((sharedV a b c d).1.2 : Int) : Rat) from if_neg (fun h_ => h_ C0.out))
   by_cases c339 : (sharedV a b c d).2 = 1
   ·have CS := zH c339
    clear c339
    go_upto_region 10 with fail
    refine wp_region_lit ?_
    refine zI4 H274.out _ _ _ _ ?_
    refine zc (((ralong17_any a b c d _ ha hb hc hd).mono (fun _ _ h_ => LineRet.yes h_ CS.out))) ?_
    rintro e w341 ⟨r340, s340, rfl, hr_, hs_, hx⟩
    have H342 := zH (H274.out.step hx)
    have R340 := zH hr_
    have S340 := zH hs_
    clear hr_ hs_
    clear hx
    refine zn ?_
    refine zI3 (Hp.start _) _ _ _ ?_
    refine aS' 4 (rc r340) H342.out ?_
    intro w347 H348 D348
    refine aS' 5 (rc s340) H348.out ?_
    intro w350 H351 D351
    refine zq (.int .i64 1) ?_
    have DD354 := zH ((D348.out.trans D351.out))
    go_wp2_with fail
    refine bodyPost_ret (v := .tuple #[.agg #[.bool r340.n, .slice r340.p r340.l r340.c, .bool r340.m, .slice r340.p2 r340.l2 r340.c2], .agg #[.bool s340.n, .slice s340.p s340.l s340.c, .bool s340.m, .slice s340.p2 s340.l2 s340.c2], .int .i64 1]) ?_ rfl ⟨.inl ⟨_, _, by rw [HSV.out, CS.out], rfl, by rw [HSX.out]; exact (R340.out.dig DD354.out), by rw [HSY.out]; exact (S340.out.dig DD354.out)⟩, H351.out.ext⟩
    exact results_c1c1t1 rfl rfl rfl ((H351.out.blk (i := 4) (by rfl)).loadVar rfl rfl (by rfl)) ((H351.out.blk (i := 5) (by rfl)).loadVar rfl rfl (by rfl)) rfl
   have CS := zH c339
   clear c339
   go_upto_region 10 with fail
   refine wp_region_lit ?_
   refine zI4 H274.out _ _ _ _ ?_
   refine aC H274.out (((ralong17_any a b c d _ ha hb hc hd).mono (fun _ _ h_ => LineRet.no h_ CS.out))) ?_
   intro w355 H356 _
   refine zI3 (Hp.start _) _ _ (.int .i64 ((sharedV a b c d).2)) ?_
   refine aS' 4 rz H356.out ?_
   intro w361 H362 _
   refine aS' 5 rz H362.out ?_
   intro w364 H365 _
   refine zq (.int .i64 ((sharedV a b c d).2)) ?_
   go_wp2_with fail
   refine bodyPost_ret (v := .tuple #[.agg z4, .agg z4, .int .i64 (sharedV a b c d).2]) ?_ rfl ⟨.inr ⟨by rw [HSV.out]; exact CS.out, by rw [HSV.out]⟩, H365.out.ext⟩
   exact results_c1c1t1 rfl rfl rfl ((H365.out.blk (i := 4) (by rfl)).loadVar rfl rfl (by rfl)) ((H365.out.blk (i := 5) (by rfl)).loadVar rfl rfl (by rfl)) rfl
  have E1 := zH c278
  clear c278
  go_upto_region 8 with fail
  refine wp_region_lit ?_
  refine zI2 H274.out _ _ ?_
  refine zp (w' := w273) (.bool false) (by exact ev_eqlpt (by rfl) (by rfl) (by rfl) (Bool.eq_false_iff.2 (fun h_ => E1.out (pt_eq.1 h_)))) ?_
  refine zq (.bool false) ?_
  with_reducible refine mv_skip ?_ ?_
  ·rfl
  try simp only [Act.put, zA, zB, zC]
  with_reducible refine mv_skip ?_ ?_
  ·rfl
  try simp only [Act.put, zA, zB, zC]
  with_reducible refine mv_skip ?_ ?_
  ·rfl
  try simp only [Act.put, zA, zB, zC]
  refine zI2 (Hp.start _) (.bool false) (.bool false) ?_
  with_reducible refine mv_skip ?_ ?_
  ·rfl
  try simp only [Act.put, zA, zB, zC]
  with_reducible refine mv_skip ?_ ?_
  ·rfl
  try simp only [Act.put, zA, zB, zC]
  with_reducible refine mv_skip ?_ ?_
  ·rfl
  try simp only [Act.put, zA, zB, zC]
  refine zq (.bool false) ?_
  have HSV := zH (show segN a b c d = (sharedV a b c d).2 from by rw [segN_line C0.out]; exact if_neg (fun h_ => h_.elim (fun h_ => h_.elim C1.out C2.out) (fun h_ => E1.out h_.1)))
  have HSX := zH (show segX a b c d = (((sharedV a b c d).1.1 : Int) : Rat) from if_neg (fun h_ => h_ C0.out))
  have HSY := zH (show segY a b c d = (((sharedV a b c d).1.2 : Int) : Rat) from if_neg (fun h_ => h_ C0.out))
  by_cases c373 : (sharedV a b c d).2 = 1
  ·have CS := zH c373
   clear c373
   go_upto_region 10 with fail
   refine wp_region_lit ?_
   refine zI4 H274.out _ _ _ _ ?_
   refine zc (((ralong17_any a b c d _ ha hb hc hd).mono (fun _ _ h_ => LineRet.yes h_ CS.out))) ?_
   rintro e w375 ⟨r374, s374, rfl, hr_, hs_, hx⟩
   have H376 := zH (H274.out.step hx)
   have R374 := zH hr_
   have S374 := zH hs_
   clear hr_ hs_
   clear hx
   refine zn ?_
   refine zI3 (Hp.start _) _ _ _ ?_
   refine aS' 4 (rc r374) H376.out ?_
   intro w381 H382 D382
   refine aS' 5 (rc s374) H382.out ?_
   intro w384 H385 D385
   refine zq (.int .i64 1) ?_
   have DD388 := zH ((D382.out.trans D385.out))
   go_wp2_with fail
   refine bodyPost_ret (v := .tuple #[.agg #[.bool r374.n, .slice r374.p r374.l r374.c, .bool r374.m, .slice r374.p2 r374.l2 r374.c2], .agg #[.bool s374.n, .slice s374.p s374.l s374.c, .bool s374.m, .slice s374.p2 s374.l2 s374.c2], .int .i64 1]) ?_ rfl ⟨.inl ⟨_, _, by rw [HSV.out, CS.out], rfl, by rw [HSX.out]; exact (R374.out.dig DD388.out), by rw [HSY.out]; exact (S374.out.dig DD388.out)⟩, H385.out.ext⟩
   exact results_c1c1t1 rfl rfl rfl ((H385.out.blk (i := 4) (by rfl)).loadVar rfl rfl (by rfl)) ((H385.out.blk (i := 5) (by rfl)).loadVar rfl rfl (by rfl)) rfl
  have CS := zH c373
  clear c373
  go_upto_region 10 with fail
  refine wp_region_lit ?_
  refine zI4 H274.out _ _ _ _ ?_
  refine aC H274.out (((ralong17_any a b c d _ ha hb hc hd).mono (fun _ _ h_ => LineRet.no h_ CS.out))) ?_
  intro w389 H390 _
  refine zI3 (Hp.start _) _ _ (.int .i64 ((sharedV a b c d).2)) ?_
  refine aS' 4 rz H390.out ?_
  intro w395 H396 _
  refine aS' 5 rz H396.out ?_
  intro w398 H399 _
  refine zq (.int .i64 ((sharedV a b c d).2)) ?_
  go_wp2_with fail
  refine bodyPost_ret (v := .tuple #[.agg z4, .agg z4, .int .i64 (sharedV a b c d).2]) ?_ rfl ⟨.inr ⟨by rw [HSV.out]; exact CS.out, by rw [HSV.out]⟩, H399.out.ext⟩
  exact results_c1c1t1 rfl rfl rfl ((H399.out.blk (i := 4) (by rfl)).loadVar rfl rfl (by rfl)) ((H399.out.blk (i := 5) (by rfl)).loadVar rfl rfl (by rfl)) rfl
 have C0 := zH c229
 clear c229
 go_upto_region 5 with fail
 refine wp_region_lit ?_
 refine zq (.int .i64 (cr (dv a b) (dv c d))) ?_
 refine zp (w' := w225) (.bool false) (by exact ezq (e := (dec_f C0.out))) ?_
 go_upto_region 11 with fail
 refine zy ?_
 have H404 := zH (H226.out.step (Ext.refl w225).drew)
 refine mR 0 (bs 8 1) X205 (0) [.int .i64 ((dv a c).1), .int .i64 ((dv a c).2)] (fun x hx => range_ext (show World.rangeAt w225 X205 (0) [.int .i64 ((dv a c).1), .int .i64 ((dv a c).2)] from (H226.out.range (i := 8) (by rfl) 0 2)) hx) Tryz.underlying23 zb ?_
 refine mR 1 (bs 8 3) X204 (0) [.int .i64 ((dv c d).1), .int .i64 ((dv c d).2)] (fun x hx => range_ext (show World.rangeAt w225 X204 (0) [.int .i64 ((dv c d).1), .int .i64 ((dv c d).2)] from (H226.out.range (i := 7) (by rfl) 0 2)) hx) Tryz.underlying23 zb ?_
 refine zJ2 H226.out zb (bs 8 27) 3 4 _ _ ?_
 refine mC 2 (bs 8 31) (wedge11_any (dv a c) (dv c d) _ (dv_bd ha hc) (dv_bd hc hd)) ?_
 rintro e w406 ⟨rfl, hx⟩
 have H407 := zH (H404.out.step hx)
 have S409 := zH (zb.trans hx)
 clear hx
 refine zm S409.out ?_
 refine mC 5 (bs 8 63) (wedge11_any (dv a c) (dv a b) _ (dv_bd ha hc) (dv_bd ha hb)) ?_
 rintro e w410 ⟨rfl, hx⟩
 have H411 := zH (H407.out.step hx)
 have S413 := zH (S409.out.trans hx)
 clear hx
 refine zm S413.out ?_
 refine zJ2 (Hp.start _) S413.out (bs 8 255) 6 7 (.int .i64 (cr (dv a c) (dv c d))) (.int .i64 (cr (dv a c) (dv a b))) ?_
 refine wpAnyH_done (by kernel_rfl) ?_ _
 go_upto_region 12 with fail
 refine wp_region_lit ?_
 refine zq (.int .i64 (cr (dv a b) (dv c d))) ?_
 refine zp (w' := w410) (.bool (decide (cr (dv a b) (dv c d) < 0))) (by exact ezl (e := rfl)) ?_
 go_upto_if 97 with fail
 go_cut [15, 16, 14] (fun v418 v419 v420 wx => ∃ (t : Int) (u : Int) (n : Int), v418 = .int .i64 t ∧ v419 = .int .i64 u ∧ v420 = .int .i64 n ∧ (0 < n) ∧ ((-9000000000000 ≤ t ∧ t ≤ 9000000000000) ∧ -9000000000000 ≤ u ∧ u ≤ 9000000000000 ∧ -9000000000000 ≤ n ∧ n ≤ 9000000000000) ∧ (((t : Rat) / (n : Rat) = segT a b c d)) ∧ (((u : Rat) / (n : Rat) = segS a b c d)) ∧ Hp w wx [.blk X136 23 [.int .i64 a.1, .int .i64 a.2], .blk X141 23 [.int .i64 b.1, .int .i64 b.2], .blk X146 23 [.int .i64 c.1, .int .i64 c.2], .blk X151 23 [.int .i64 d.1, .int .i64 d.2], .blk X156 29 [.bool false, .slice none 0 0, .bool false, .slice none 0 0], .blk X161 29 [.bool false, .slice none 0 0, .bool false, .slice none 0 0], .blk X203 23 [.int .i64 ((dv a b).1), .int .i64 ((dv a b).2)], .blk X204 23 [.int .i64 ((dv c d).1), .int .i64 ((dv c d).2)], .blk X205 23 [.int .i64 ((dv a c).1), .int .i64 ((dv a c).2)]] ∧ Dig w410 wx)
 case first =>
  by_cases cj : cr (dv a b) (dv c d) < 0
  ·rw [decide_eq_true cj]
   go_upto_region 13 with fail
   refine wp_region_lit ?_
   refine zq (.int .i64 (cr (dv a c) (dv c d))) ?_
   refine zp (w' := w410) (.int .i64 (-(cr (dv a c) (dv c d)))) (by exact ev_neg (by rfl) (by rfl) rfl (by omega) (by omega)) ?_
   refine zq (.int .i64 (cr (dv a c) (dv a b))) ?_
   refine zp (w' := w410) (.int .i64 (-(cr (dv a c) (dv a b)))) (by exact ev_neg (by rfl) (by rfl) rfl (by omega) (by omega)) ?_
   refine zq (.int .i64 (cr (dv a b) (dv c d))) ?_
   refine zp (w' := w410) (.int .i64 (-(cr (dv a b) (dv c d)))) (by exact ev_neg (by rfl) (by rfl) rfl (by omega) (by omega)) ?_
   refine zI3 (Hp.start _) (.int .i64 (-(cr (dv a c) (dv c d)))) (.int .i64 (-(cr (dv a c) (dv a b)))) (.int .i64 (-(cr (dv a b) (dv c d)))) ?_
   go_wp2_with fail
   go_meet
   exact ⟨(-(cr (dv a c) (dv c d))), (-(cr (dv a c) (dv a b))), (-(cr (dv a b) (dv c d))), rfl, rfl, rfl, (by have h_ := C0.out; omega), (by omega), neg_div_neg17 _ _, neg_div_neg17 _ _, H411.out, (Dig.refl _)⟩
  rw [decide_eq_false cj]
  go_wp2_with fail
  go_meet
  exact ⟨(cr (dv a c) (dv c d)), (cr (dv a c) (dv a b)), (cr (dv a b) (dv c d)), rfl, rfl, rfl, (by have h_ := C0.out; omega), (by omega), rfl, rfl, H411.out, (Dig.refl _)⟩
 case rest =>
  obtain ⟨t, u, n, rfl, rfl, rfl, q_HDN, q_HBT, q_HQT, q_HQS, hh_, hd_⟩ := hcut
  generalize wc = w430 at *
  have HDN := zH q_HDN
  clear q_HDN
  have HBT := zH q_HBT
  clear q_HBT
  have HQT := zH q_HQT
  clear q_HQT
  have HQS := zH q_HQS
  clear q_HQS
  have H432 := zH hh_
  have D432 := zH hd_
  clear hh_ hd_
  have HIT := zH (show inU (segT a b c d) ↔ 0 ≤ t ∧ t ≤ n from by unfold inU; rw [← HQT.out]; exact inU_pos _ _ HDN.out)
  have HIS := zH (show inU (segS a b c d) ↔ 0 ≤ u ∧ u ≤ n from by unfold inU; rw [← HQS.out]; exact inU_pos _ _ HDN.out)
  by_cases c433 : t < 0
  ·have T1 := zH c433
   clear c433
   go_upto_region 14 with fail
   refine wp_region_lit ?_
   refine zq (.int .i64 t) ?_
   refine zp (w' := w430) (.bool true) (by exact ezl (e := (dec_t T1.out))) ?_
   refine zq (.bool true) ?_
   with_reducible refine mv_skip ?_ ?_
   ·rfl
   try simp only [Act.put, zA, zB, zC]
   with_reducible refine mv_skip ?_ ?_
   ·rfl
   try simp only [Act.put, zA, zB, zC]
   with_reducible refine mv_skip ?_ ?_
   ·rfl
   try simp only [Act.put, zA, zB, zC]
   refine zI2 (Hp.start _) (.bool true) (.bool true) ?_
   with_reducible refine mv_skip ?_ ?_
   ·rfl
   try simp only [Act.put, zA, zB, zC]
   with_reducible refine mv_skip ?_ ?_
   ·rfl
   try simp only [Act.put, zA, zB, zC]
   refine zI2 (Hp.start _) (.bool true) (.bool true) ?_
   with_reducible refine mv_skip ?_ ?_
   ·rfl
   try simp only [Act.put, zA, zB, zC]
   with_reducible refine mv_skip ?_ ?_
   ·rfl
   try simp only [Act.put, zA, zB, zC]
   with_reducible refine mv_skip ?_ ?_
   ·rfl
   try simp only [Act.put, zA, zB, zC]
   refine zq (.bool true) ?_
   go_upto_region 15 with fail
   refine wp_region_lit ?_
   refine zI2 (Hp.start _) _ _ ?_
   refine aS' 4 rz H432.out ?_
   intro w444 H445 _
   refine aS' 5 rz H445.out ?_
   intro w447 H448 _
   refine zq (.int .i64 0) ?_
   have HSN := zH (show segN a b c d = 0 from by unfold segN; rw [if_pos C0.out]; exact if_neg (fun h_ => by have h2_ := (HIT.out.1 h_.1).1; have h3_ := T1.out; omega))
   go_wp2_with fail
   refine bodyPost_ret (v := .tuple #[.agg z4, .agg z4, .int .i64 0]) ?_ rfl ⟨.inr ⟨by rw [HSN.out]; decide, by rw [HSN.out]⟩, H448.out.ext⟩
   exact results_c1c1t1 rfl rfl rfl ((H448.out.blk (i := 4) (by rfl)).loadVar rfl rfl (by rfl)) ((H448.out.blk (i := 5) (by rfl)).loadVar rfl rfl (by rfl)) rfl
  have T1 := zH c433
  clear c433
  by_cases c451 : n < t
  ·have T2 := zH c451
   clear c451
   go_upto_region 14 with fail
   refine wp_region_lit ?_
   refine zq (.int .i64 t) ?_
   refine zp (w' := w430) (.bool false) (by exact ezl (e := (dec_f T1.out))) ?_
   refine zI3 (Hp.start _) (.bool false) (.int .i64 t) (.int .i64 n) ?_
   refine zp (w' := w430) (.bool true) (by exact ezg (e := (dec_t T2.out))) ?_
   refine zI2 (Hp.start _) (.bool true) (.bool true) ?_
   with_reducible refine mv_skip ?_ ?_
   ·rfl
   try simp only [Act.put, zA, zB, zC]
   with_reducible refine mv_skip ?_ ?_
   ·rfl
   try simp only [Act.put, zA, zB, zC]
   refine zI2 (Hp.start _) (.bool true) (.bool true) ?_
   with_reducible refine mv_skip ?_ ?_
   ·rfl
   try simp only [Act.put, zA, zB, zC]
   with_reducible refine mv_skip ?_ ?_
   ·rfl
   try simp only [Act.put, zA, zB, zC]
   with_reducible refine mv_skip ?_ ?_
   ·rfl
   try simp only [Act.put, zA, zB, zC]
   refine zq (.bool true) ?_
   go_upto_region 15 with fail
   refine wp_region_lit ?_
   refine zI2 (Hp.start _) _ _ ?_
   refine aS' 4 rz H432.out ?_
   intro w465 H466 _
   refine aS' 5 rz H466.out ?_
   intro w468 H469 _
   refine zq (.int .i64 0) ?_
   have HSN := zH (show segN a b c d = 0 from by unfold segN; rw [if_pos C0.out]; exact if_neg (fun h_ => by have h2_ := (HIT.out.1 h_.1).2; have h3_ := T2.out; omega))
   go_wp2_with fail
   refine bodyPost_ret (v := .tuple #[.agg z4, .agg z4, .int .i64 0]) ?_ rfl ⟨.inr ⟨by rw [HSN.out]; decide, by rw [HSN.out]⟩, H469.out.ext⟩
   exact results_c1c1t1 rfl rfl rfl ((H469.out.blk (i := 4) (by rfl)).loadVar rfl rfl (by rfl)) ((H469.out.blk (i := 5) (by rfl)).loadVar rfl rfl (by rfl)) rfl
  have T2 := zH c451
  clear c451
  by_cases c472 : u < 0
  ·have U1 := zH c472
   clear c472
   go_upto_region 14 with fail
   refine wp_region_lit ?_
   refine zq (.int .i64 t) ?_
   refine zp (w' := w430) (.bool false) (by exact ezl (e := (dec_f T1.out))) ?_
   refine zI3 (Hp.start _) (.bool false) (.int .i64 t) (.int .i64 n) ?_
   refine zp (w' := w430) (.bool false) (by exact ezg (e := (dec_f T2.out))) ?_
   refine zI3 (Hp.start _) (.bool false) (.bool false) (.int .i64 u) ?_
   refine zp (w' := w430) (.bool true) (by exact ezl (e := (dec_t U1.out))) ?_
   refine zI2 (Hp.start _) (.bool true) (.bool true) ?_
   with_reducible refine mv_skip ?_ ?_
   ·rfl
   try simp only [Act.put, zA, zB, zC]
   with_reducible refine mv_skip ?_ ?_
   ·rfl
   try simp only [Act.put, zA, zB, zC]
   with_reducible refine mv_skip ?_ ?_
   ·rfl
   try simp only [Act.put, zA, zB, zC]
   refine zq (.bool true) ?_
   go_upto_region 15 with fail
   refine wp_region_lit ?_
   refine zI2 (Hp.start _) _ _ ?_
   refine aS' 4 rz H432.out ?_
   intro w488 H489 _
   refine aS' 5 rz H489.out ?_
   intro w491 H492 _
   refine zq (.int .i64 0) ?_
   have HSN := zH (show segN a b c d = 0 from by unfold segN; rw [if_pos C0.out]; exact if_neg (fun h_ => by have h2_ := (HIS.out.1 h_.2).1; have h3_ := U1.out; omega))
   go_wp2_with fail
   refine bodyPost_ret (v := .tuple #[.agg z4, .agg z4, .int .i64 0]) ?_ rfl ⟨.inr ⟨by rw [HSN.out]; decide, by rw [HSN.out]⟩, H492.out.ext⟩
   exact results_c1c1t1 rfl rfl rfl ((H492.out.blk (i := 4) (by rfl)).loadVar rfl rfl (by rfl)) ((H492.out.blk (i := 5) (by rfl)).loadVar rfl rfl (by rfl)) rfl
  have U1 := zH c472
  clear c472
  by_cases c495 : n < u
  ·have U2 := zH c495
   clear c495
   go_upto_region 14 with fail
   refine wp_region_lit ?_
   refine zq (.int .i64 t) ?_
   refine zp (w' := w430) (.bool false) (by exact ezl (e := (dec_f T1.out))) ?_
   refine zI3 (Hp.start _) (.bool false) (.int .i64 t) (.int .i64 n) ?_
   refine zp (w' := w430) (.bool false) (by exact ezg (e := (dec_f T2.out))) ?_
   refine zI3 (Hp.start _) (.bool false) (.bool false) (.int .i64 u) ?_
   refine zp (w' := w430) (.bool false) (by exact ezl (e := (dec_f U1.out))) ?_
   refine zI4 (Hp.start _) (.bool false) (.bool false) (.int .i64 u) (.int .i64 n) ?_
   refine zp (w' := w430) (.bool true) (by exact ezg (e := (dec_t U2.out))) ?_
   refine zq (.bool true) ?_
   go_upto_region 15 with fail
   refine wp_region_lit ?_
   refine zI2 (Hp.start _) _ _ ?_
   refine aS' 4 rz H432.out ?_
   intro w514 H515 _
   refine aS' 5 rz H515.out ?_
   intro w517 H518 _
   refine zq (.int .i64 0) ?_
   have HSN := zH (show segN a b c d = 0 from by unfold segN; rw [if_pos C0.out]; exact if_neg (fun h_ => by have h2_ := (HIS.out.1 h_.2).2; have h3_ := U2.out; omega))
   go_wp2_with fail
   refine bodyPost_ret (v := .tuple #[.agg z4, .agg z4, .int .i64 0]) ?_ rfl ⟨.inr ⟨by rw [HSN.out]; decide, by rw [HSN.out]⟩, H518.out.ext⟩
   exact results_c1c1t1 rfl rfl rfl ((H518.out.blk (i := 4) (by rfl)).loadVar rfl rfl (by rfl)) ((H518.out.blk (i := 5) (by rfl)).loadVar rfl rfl (by rfl)) rfl
  have U2 := zH c495
  clear c495
  go_upto_region 14 with fail
  refine wp_region_lit ?_
  refine zq (.int .i64 t) ?_
  refine zp (w' := w430) (.bool false) (by exact ezl (e := (dec_f T1.out))) ?_
  refine zI3 (Hp.start _) (.bool false) (.int .i64 t) (.int .i64 n) ?_
  refine zp (w' := w430) (.bool false) (by exact ezg (e := (dec_f T2.out))) ?_
  refine zI3 (Hp.start _) (.bool false) (.bool false) (.int .i64 u) ?_
  refine zp (w' := w430) (.bool false) (by exact ezl (e := (dec_f U1.out))) ?_
  refine zI4 (Hp.start _) (.bool false) (.bool false) (.int .i64 u) (.int .i64 n) ?_
  refine zp (w' := w430) (.bool false) (by exact ezg (e := (dec_f U2.out))) ?_
  refine zq (.bool false) ?_
  have HSN := zH (show segN a b c d = 1 from by unfold segN; rw [if_pos C0.out]; exact if_pos ⟨HIT.out.2 (by have h2_ := T1.out; have h3_ := T2.out; omega), HIS.out.2 (by have h2_ := U1.out; have h3_ := U2.out; omega)⟩)
  go_upto_region 16 with fail
  refine wp_region_lit ?_
  refine zI2 (Hp.start _) (.int .i64 t) (.int .i64 n) ?_
  refine zc (q03FromInts (t) (n) _ (by have ob5 := HDN.out; have ob6 := HBT.out; omega) (by have ob5 := HDN.out; have ob6 := HBT.out; omega) (by have ob5 := HDN.out; have ob6 := HBT.out; omega) (by have ob5 := HDN.out; have ob6 := HBT.out; omega) (by have h_ := HDN.out; omega)) ?_
  rintro e w540 ⟨c_, rfl, hc_, hx⟩
  have H541 := zH (H432.out.step hx)
  obtain ⟨r537, rfl, hr_⟩ := hc_
  have R537 := zH hr_
  have B537 := zH (rl_qq (t) (n) (by have ob5 := HDN.out; have ob6 := HBT.out; omega) (by have ob5 := HDN.out; have ob6 := HBT.out; omega))
  clear hr_
  clear hx
  refine zn ?_
  refine zI3 (Hp.start _) _ _ _ ?_
  refine aA' 29 rz H541.out ?_
  intro X546 w547 H548 D548
  refine aS' 9 (rc r537) H548.out ?_
  intro w551 H552 D552
  refine zq (.int .i64 0) ?_
  go_upto_region 17 with fail
  refine zy ?_
  have H555 := zH (H552.out.step (Ext.refl w551).drew)
  have D555 := zH (Dig.of_ext (w := w551) zb)
  refine zx 0 (bs 11 1) (.pointer (some ⟨X136, 0, none⟩)) zb ?_
  refine md_ld1 (g := X136) (o := 0) (v := .int .i64 a.1) (i := 1) (listed' := (bs 11 3)) (by rfl) (by kernel_rfl) (by kernel_rfl) (by kernel_rfl) (by intro _ _ _ h; exact h) (by rfl) (fun x hx => Ext.get hx (show World.cell? w551 ⟨X136, 0, none⟩ = some (.int .i64 a.1) from cell_of_range (H552.out.range (i := 0) (by rfl) 0 1))) (by intro x hq; go_simp <;> with_reducible rfl) zb (by kernel_rfl) ?_
  refine zJ3 H552.out zb (bs 11 59) 3 4 5 _ _ _ ?_
  refine Fl.go (j := 9) (dj := some 19) (T := 29) (zs := [.bool false, .slice none 0 0, .bool false, .slice none 0 0]) (b := w551) (w0 := w) (m := [.blk X136 23 [.int .i64 a.1, .int .i64 a.2], .blk X141 23 [.int .i64 b.1, .int .i64 b.2], .blk X146 23 [.int .i64 c.1, .int .i64 c.2], .blk X151 23 [.int .i64 d.1, .int .i64 d.2], .blk X156 29 [.bool false, .slice none 0 0, .bool false, .slice none 0 0], .blk X161 29 [.bool false, .slice none 0 0, .bool false, .slice none 0 0], .blk X203 23 [.int .i64 ((dv a b).1), .int .i64 ((dv a b).2)], .blk X204 23 [.int .i64 ((dv c d).1), .int .i64 ((dv c d).2)], .blk X205 23 [.int .i64 ((dv a c).1), .int .i64 ((dv a c).2)], .blk X546 29 [.bool r537.n, .slice r537.p r537.l r537.c, .bool r537.m, .slice r537.p2 r537.l2 r537.c2]]) ?_
  refine fl_call (i := 2) (lj := (bs 11 571)) (li := (bs 11 63)) (by rfl) (by rfl) (by kernel_rfl) (by kernel_rfl) (by kernel_rfl) (by kernel_rfl) (by kernel_rfl) (by decide) (by kernel_rfl) (by rfl) (by rfl) (by intro r_ x_; go_simp) (fun x y h1 h2 => h1.trans h2) zb.size H555.out (by simp [NoUL]) zb (by rfl) (by intro x_; go_simp) (by kernel_rfl) (fun xq hxq => q03From a.1 _ (by have ob5 := HDN.out; have ob6 := HBT.out; omega) (by have ob5 := HDN.out; have ob6 := HBT.out; omega)) (by rintro x_ e x2_ ⟨c_, rfl, hc_, hx⟩; exact hx) ?_
  rintro xq e w559 hxq ⟨c_, rfl, hc_, hx⟩
  replace hx := hxq.trans hx
  clear hxq
  have H561 := zH (H555.out.step hx)
  have D561 := zH (show Dig w551.drew w559 from Dig.of_ext hx)
  have S563 := zH (zb.trans hx)
  obtain ⟨r560, rfl, hr_⟩ := hc_
  have R560 := zH hr_
  have B560 := zH (rl_i64 a.1 (by have ob5 := HDN.out; have ob6 := HBT.out; omega) (by have ob5 := HDN.out; have ob6 := HBT.out; omega))
  clear hr_
  clear hx
  refine ⟨_, rfl, ?_⟩
  try simp only [Act.put, zA, zB, zC]
  refine fl_call (i := 6) (lj := (bs 11 575)) (li := (bs 11 127)) (by rfl) (by rfl) (by kernel_rfl) (by kernel_rfl) (by kernel_rfl) (by kernel_rfl) (by kernel_rfl) (by decide) (by kernel_rfl) (by rfl) (by rfl) (by intro r_ x_; go_simp) (fun x y h1 h2 => h1.trans h2) S563.out.size H561.out (by simp [NoUL]) S563.out (by rfl) (by intro x_; go_simp) (by kernel_rfl) (fun xq hxq => q03From ((dv a b).1) _ (by have ob5 := HDN.out; have ob6 := HBT.out; omega) (by have ob5 := HDN.out; have ob6 := HBT.out; omega)) (by rintro x_ e x2_ ⟨c_, rfl, hc_, hx⟩; exact hx) ?_
  rintro xq e w564 hxq ⟨c_, rfl, hc_, hx⟩
  replace hx := hxq.trans hx
  clear hxq
  have H566 := zH (H561.out.step hx)
  have D566 := zH (Dig.of_ext hx)
  have S568 := zH (S563.out.trans hx)
  obtain ⟨r565, rfl, hr_⟩ := hc_
  have R565 := zH hr_
  have B565 := zH (rl_i64 ((dv a b).1) (by have ob5 := HDN.out; have ob6 := HBT.out; omega) (by have ob5 := HDN.out; have ob6 := HBT.out; omega))
  clear hr_
  clear hx
  refine ⟨_, rfl, ?_⟩
  try simp only [Act.put, zA, zB, zC]
  have DD571 := zH (((((D548.out.trans D552.out).trans D555.out).trans D561.out).trans D566.out))
  refine fl_call (i := 7) (lj := (bs 11 639)) (li := (bs 11 255)) (by rfl) (by rfl) (by kernel_rfl) (by kernel_rfl) (by kernel_rfl) (by kernel_rfl) (by kernel_rfl) (by decide) (by kernel_rfl) (by rfl) (by rfl) (by intro r_ x_; go_simp) (fun x y h1 h2 => h1.trans h2) S568.out.size H566.out (by simp [NoUL]) S568.out (by rfl) (by intro x_; go_simp) (by kernel_rfl) (fun xq hxq => q03Mul (L := 60000) (RV.Is.nin (R537.out.dig (DD571.out.trans (Dig.of_ext hxq))) (Nat.le_trans B537.out (by omega))) (RV.Is.nin (R565.out.dig (Dig.of_ext hxq)) (Nat.le_trans B565.out (by omega))) (by omega)) (by rintro x_ e x2_ ⟨c_, rfl, hc_, hx⟩; exact hx) ?_
  rintro xq e w569 hxq ⟨c_, rfl, hc_, hx⟩
  replace hx := hxq.trans hx
  clear hxq
  have H572 := zH (H566.out.step hx)
  have D572 := zH (Dig.of_ext hx)
  have S574 := zH (S568.out.trans hx)
  obtain ⟨r570, rfl, hr_⟩ := hc_
  have R570 := zH hr_
  clear hr_
  have B570 := zH (show Nm.rl ((((t : Int) : Rat) / ((n : Int) : Rat)) * ((((dv a b).1) : Int) : Rat)) ≤ 8 + 2 from by have h1 := B537.out; have h2 := B565.out; have h3 := Nm.rl_mul (((t : Int) : Rat) / ((n : Int) : Rat)) ((((dv a b).1) : Int) : Rat); omega)
  clear hx
  refine ⟨_, rfl, ?_⟩
  try simp only [Act.put, zA, zB, zC]
  have DD577 := zH ((D566.out.trans D572.out))
  refine fl_call (i := 8) (lj := (bs 11 767)) (li := (bs 11 511)) (by rfl) (by rfl) (by kernel_rfl) (by kernel_rfl) (by kernel_rfl) (by kernel_rfl) (by kernel_rfl) (by decide) (by kernel_rfl) (by rfl) (by rfl) (by intro r_ x_; go_simp) (fun x y h1 h2 => h1.trans h2) S574.out.size H572.out (by simp [NoUL]) S574.out (by rfl) (by intro x_; go_simp) (by kernel_rfl) (fun xq hxq => q03Add (L := 60000) (RV.Is.nin (R560.out.dig (DD577.out.trans (Dig.of_ext hxq))) (Nat.le_trans B560.out (by omega))) (RV.Is.nin (R570.out.dig (Dig.of_ext hxq)) (Nat.le_trans B570.out (by omega))) (by omega)) (by rintro x_ e x2_ ⟨c_, rfl, hc_, hx⟩; exact hx) ?_
  rintro xq e w575 hxq ⟨c_, rfl, hc_, hx⟩
  replace hx := hxq.trans hx
  clear hxq
  have H578 := zH (H572.out.step hx)
  have D578 := zH (Dig.of_ext hx)
  have S580 := zH (S574.out.trans hx)
  obtain ⟨r576, rfl, hr_⟩ := hc_
  have R576 := zH hr_
  clear hr_
  clear hx
  refine ⟨_, rfl, ?_⟩
  try simp only [Act.put, zA, zB, zC]
  refine fl_end (by rfl) (by kernel_rfl) (by rfl) (by rfl) (by intro r_ x_; go_simp) (fun x y h1 h2 => h1.trans h2) S580.out.size H578.out (by simp [NoUL]) S580.out (show _ = (bs 11 1023) by kernel_rfl) ?_
  intro X581 w582 hx hh hs hge
  have H583 := hN hh
  have D583 := zH (Dig.of_ext hx)
  have S585 := zH (show Ext w551 w582 from hs)
  have G586 := zH (show w551.heap.size ≤ X581 from hge)
  clear hh hx hge hs
  try simp only [Act.put, zA, zB, zC]
  refine bS 10 10 (bs 11 2047) (rc r576) H583.out S585.out G586.out ?_
  intro w587 H588 D588 S590
  refine wpAnyH_done (by kernel_rfl) ?_ _
  go_upto_region 18 with fail
  refine zy ?_
  have H591 := zH (H588.out.step (Ext.refl w587).drew)
  have D591 := zH (Dig.of_ext (w := w587) zb)
  refine zx 0 (bs 11 1) (.pointer (some ⟨X136, 1, none⟩)) zb ?_
  refine md_ld1 (g := X136) (o := 1) (v := .int .i64 a.2) (i := 1) (listed' := (bs 11 3)) (by rfl) (by kernel_rfl) (by kernel_rfl) (by kernel_rfl) (by intro _ _ _ h; exact h) (by rfl) (fun x hx => Ext.get hx (show World.cell? w587 ⟨X136, 1, none⟩ = some (.int .i64 a.2) from cell_of_range (H588.out.range (i := 0) (by rfl) 1 1))) (by intro x hq; go_simp <;> with_reducible rfl) zb (by kernel_rfl) ?_
  refine zJ3 H588.out zb (bs 11 59) 3 4 5 _ _ _ ?_
  refine Fl.go (j := 9) (dj := some 20) (T := 29) (zs := [.bool false, .slice none 0 0, .bool false, .slice none 0 0]) (b := w587) (w0 := w) (m := [.blk X136 23 [.int .i64 a.1, .int .i64 a.2], .blk X141 23 [.int .i64 b.1, .int .i64 b.2], .blk X146 23 [.int .i64 c.1, .int .i64 c.2], .blk X151 23 [.int .i64 d.1, .int .i64 d.2], .blk X156 29 [.bool false, .slice none 0 0, .bool false, .slice none 0 0], .blk X161 29 [.bool false, .slice none 0 0, .bool false, .slice none 0 0], .blk X203 23 [.int .i64 ((dv a b).1), .int .i64 ((dv a b).2)], .blk X204 23 [.int .i64 ((dv c d).1), .int .i64 ((dv c d).2)], .blk X205 23 [.int .i64 ((dv a c).1), .int .i64 ((dv a c).2)], .blk X546 29 [.bool r537.n, .slice r537.p r537.l r537.c, .bool r537.m, .slice r537.p2 r537.l2 r537.c2], .blk X581 29 [.bool r576.n, .slice r576.p r576.l r576.c, .bool r576.m, .slice r576.p2 r576.l2 r576.c2]]) ?_
  refine fl_call (i := 2) (lj := (bs 11 571)) (li := (bs 11 63)) (by rfl) (by rfl) (by kernel_rfl) (by kernel_rfl) (by kernel_rfl) (by kernel_rfl) (by kernel_rfl) (by decide) (by kernel_rfl) (by rfl) (by rfl) (by intro r_ x_; go_simp) (fun x y h1 h2 => h1.trans h2) zb.size H591.out (by simp [NoUL]) zb (by rfl) (by intro x_; go_simp) (by kernel_rfl) (fun xq hxq => q03From a.2 _ (by have ob5 := HDN.out; have ob6 := HBT.out; omega) (by have ob5 := HDN.out; have ob6 := HBT.out; omega)) (by rintro x_ e x2_ ⟨c_, rfl, hc_, hx⟩; exact hx) ?_
  rintro xq e w595 hxq ⟨c_, rfl, hc_, hx⟩
  replace hx := hxq.trans hx
  clear hxq
  have H597 := zH (H591.out.step hx)
  have D597 := zH (show Dig w587.drew w595 from Dig.of_ext hx)
  have S599 := zH (zb.trans hx)
  obtain ⟨r596, rfl, hr_⟩ := hc_
  have R596 := zH hr_
  have B596 := zH (rl_i64 a.2 (by have ob5 := HDN.out; have ob6 := HBT.out; omega) (by have ob5 := HDN.out; have ob6 := HBT.out; omega))
  clear hr_
  clear hx
  refine ⟨_, rfl, ?_⟩
  try simp only [Act.put, zA, zB, zC]
  refine fl_call (i := 6) (lj := (bs 11 575)) (li := (bs 11 127)) (by rfl) (by rfl) (by kernel_rfl) (by kernel_rfl) (by kernel_rfl) (by kernel_rfl) (by kernel_rfl) (by decide) (by kernel_rfl) (by rfl) (by rfl) (by intro r_ x_; go_simp) (fun x y h1 h2 => h1.trans h2) S599.out.size H597.out (by simp [NoUL]) S599.out (by rfl) (by intro x_; go_simp) (by kernel_rfl) (fun xq hxq => q03From ((dv a b).2) _ (by have ob5 := HDN.out; have ob6 := HBT.out; omega) (by have ob5 := HDN.out; have ob6 := HBT.out; omega)) (by rintro x_ e x2_ ⟨c_, rfl, hc_, hx⟩; exact hx) ?_
  rintro xq e w600 hxq ⟨c_, rfl, hc_, hx⟩
  replace hx := hxq.trans hx
  clear hxq
  have H602 := zH (H597.out.step hx)
  have D602 := zH (Dig.of_ext hx)
  have S604 := zH (S599.out.trans hx)
  obtain ⟨r601, rfl, hr_⟩ := hc_
  have R601 := zH hr_
  have B601 := zH (rl_i64 ((dv a b).2) (by have ob5 := HDN.out; have ob6 := HBT.out; omega) (by have ob5 := HDN.out; have ob6 := HBT.out; omega))
  clear hr_
  clear hx
  refine ⟨_, rfl, ?_⟩
  try simp only [Act.put, zA, zB, zC]
  have DD607 := zH ((((((((DD571.out.trans D572.out).trans D578.out).trans D583.out).trans D588.out).trans D591.out).trans D597.out).trans D602.out))
  refine fl_call (i := 7) (lj := (bs 11 639)) (li := (bs 11 255)) (by rfl) (by rfl) (by kernel_rfl) (by kernel_rfl) (by kernel_rfl) (by kernel_rfl) (by kernel_rfl) (by decide) (by kernel_rfl) (by rfl) (by rfl) (by intro r_ x_; go_simp) (fun x y h1 h2 => h1.trans h2) S604.out.size H602.out (by simp [NoUL]) S604.out (by rfl) (by intro x_; go_simp) (by kernel_rfl) (fun xq hxq => q03Mul (L := 60000) (RV.Is.nin (R537.out.dig (DD607.out.trans (Dig.of_ext hxq))) (Nat.le_trans B537.out (by omega))) (RV.Is.nin (R601.out.dig (Dig.of_ext hxq)) (Nat.le_trans B601.out (by omega))) (by omega)) (by rintro x_ e x2_ ⟨c_, rfl, hc_, hx⟩; exact hx) ?_
  rintro xq e w605 hxq ⟨c_, rfl, hc_, hx⟩
  replace hx := hxq.trans hx
  clear hxq
  have H608 := zH (H602.out.step hx)
  have D608 := zH (Dig.of_ext hx)
  have S610 := zH (S604.out.trans hx)
  obtain ⟨r606, rfl, hr_⟩ := hc_
  have R606 := zH hr_
  clear hr_
  have B606 := zH (show Nm.rl ((((t : Int) : Rat) / ((n : Int) : Rat)) * ((((dv a b).2) : Int) : Rat)) ≤ 8 + 2 from by have h1 := B537.out; have h2 := B601.out; have h3 := Nm.rl_mul (((t : Int) : Rat) / ((n : Int) : Rat)) ((((dv a b).2) : Int) : Rat); omega)
  clear hx
  refine ⟨_, rfl, ?_⟩
  try simp only [Act.put, zA, zB, zC]
  have DD613 := zH ((D602.out.trans D608.out))
  refine fl_call (i := 8) (lj := (bs 11 767)) (li := (bs 11 511)) (by rfl) (by rfl) (by kernel_rfl) (by kernel_rfl) (by kernel_rfl) (by kernel_rfl) (by kernel_rfl) (by decide) (by kernel_rfl) (by rfl) (by rfl) (by intro r_ x_; go_simp) (fun x y h1 h2 => h1.trans h2) S610.out.size H608.out (by simp [NoUL]) S610.out (by rfl) (by intro x_; go_simp) (by kernel_rfl) (fun xq hxq => q03Add (L := 60000) (RV.Is.nin (R596.out.dig (DD613.out.trans (Dig.of_ext hxq))) (Nat.le_trans B596.out (by omega))) (RV.Is.nin (R606.out.dig (Dig.of_ext hxq)) (Nat.le_trans B606.out (by omega))) (by omega)) (by rintro x_ e x2_ ⟨c_, rfl, hc_, hx⟩; exact hx) ?_
  rintro xq e w611 hxq ⟨c_, rfl, hc_, hx⟩
  replace hx := hxq.trans hx
  clear hxq
  have H614 := zH (H608.out.step hx)
  have D614 := zH (Dig.of_ext hx)
  have S616 := zH (S610.out.trans hx)
  obtain ⟨r612, rfl, hr_⟩ := hc_
  have R612 := zH hr_
  clear hr_
  clear hx
  refine ⟨_, rfl, ?_⟩
  try simp only [Act.put, zA, zB, zC]
  refine fl_end (by rfl) (by kernel_rfl) (by rfl) (by rfl) (by intro r_ x_; go_simp) (fun x y h1 h2 => h1.trans h2) S616.out.size H614.out (by simp [NoUL]) S616.out (show _ = (bs 11 1023) by kernel_rfl) ?_
  intro X617 w618 hx hh hs hge
  have H619 := hN hh
  have D619 := zH (Dig.of_ext hx)
  have S621 := zH (show Ext w587 w618 from hs)
  have G622 := zH (show w587.heap.size ≤ X617 from hge)
  clear hh hx hge hs
  try simp only [Act.put, zA, zB, zC]
  refine bS 11 10 (bs 11 2047) (rc r612) H619.out S621.out G622.out ?_
  intro w623 H624 D624 S626
  refine wpAnyH_done (by kernel_rfl) ?_ _
  go_upto_region 19 with fail
  refine wp_region_held_drew (S := fun x => Fr (fun kz => kz = X156 ∨ kz = X161) w623 x) (by kernel_rfl) (Fr.of_ext zb) (fun _ => ?_)
  have H627 := zH (H624.out.step (Ext.refl w623).drew)
  have D627 := zH (Dig.of_ext (w := w623) zb)
  refine mR 0 (bs 5 1) X581 (0) [.bool r576.n, .slice r576.p r576.l r576.c, .bool r576.m, .slice r576.p2 r576.l2 r576.c2] (fun x hx => Fr.range hx (show World.rangeAt w623 X581 (0) [.bool r576.n, .slice r576.p r576.l r576.c, .bool r576.m, .slice r576.p2 r576.l2 r576.c2] from (H624.out.range (i := 10) (by rfl) 0 4)) (fun hk => hk.elim (H624.out.offBlk (i := 10) (j := 4) (by rfl) (by rfl) (by decide) (by rfl)) (H624.out.offBlk (i := 10) (j := 5) (by rfl) (by rfl) (by decide) (by rfl)))) Tryz.underlying29 (Fr.of_ext zb) ?_
  refine zr 1 (bs 5 3) X617 (0) [.bool r612.n, .slice r612.p r612.l r612.c, .bool r612.m, .slice r612.p2 r612.l2 r612.c2] (fun x hx => Fr.range hx (show World.rangeAt w623 X617 (0) [.bool r612.n, .slice r612.p r612.l r612.c, .bool r612.m, .slice r612.p2 r612.l2 r612.c2] from (H624.out.range (i := 11) (by rfl) 0 4)) (fun hk => hk.elim (H624.out.offBlk (i := 11) (j := 4) (by rfl) (by rfl) (by decide) (by rfl)) (H624.out.offBlk (i := 11) (j := 5) (by rfl) (by rfl) (by decide) (by rfl)))) Tryz.underlying29 (Fr.of_ext zb) ?_
  refine md_st (i := 2) (listed' := (bs 5 7)) (by rfl) (by kernel_rfl) (by rfl) (by kernel_rfl) _ _ _ (by rfl) H627.out (ix := 4) (by rfl) 0 [.bool r576.n, .slice r576.p r576.l r576.c, .bool r576.m, .slice r576.p2 r576.l2 r576.c2] (by rfl) (by rfl) (by simp) (by kernel_rfl) (by simp [Value.oneCell']) (by simp [NoUL]) ?_
  intro w629 hh hd ho
  have H630 := hN hh
  have D630 := zH (show Dig w623.drew w629 from hd)
  have S632 := zH (show Fr (fun kz => kz = X156 ∨ kz = X161) w623 w629 from Fr.trans_new (Fr.of_ext zb) ho (fun j hj => .inl (.inl (by injection hj with hj; exact hj.symm))))
  clear hh hd ho
  refine ⟨S632.out, ?_⟩
  (try simp only [Act.put])
  refine md_st (i := 3) (listed' := (bs 5 15)) (by rfl) (by kernel_rfl) (by rfl) (by kernel_rfl) _ _ _ (by rfl) H630.out (ix := 5) (by rfl) 0 [.bool r612.n, .slice r612.p r612.l r612.c, .bool r612.m, .slice r612.p2 r612.l2 r612.c2] (by rfl) (by rfl) (by simp) (by kernel_rfl) (by simp [Value.oneCell']) (by simp [NoUL]) ?_
  intro w633 hh hd ho
  have H634 := hN hh
  have D634 := zH (hd)
  have S636 := zH (show Fr (fun kz => kz = X156 ∨ kz = X161) w623 w633 from Fr.trans_new S632.out ho (fun j hj => .inl (.inr (by injection hj with hj; exact hj.symm))))
  clear hh hd ho
  refine ⟨S636.out, ?_⟩
  (try simp only [Act.put])
  refine zx 4 (bs 5 31) (.int .i64 1) S636.out ?_
  refine wpAnyH_done (by kernel_rfl) ?_ _
  have DD638 := zH ((((((((((((D583.out.trans D588.out).trans D591.out).trans D597.out).trans D602.out).trans D608.out).trans D614.out).trans D619.out).trans D624.out).trans D627.out).trans D630.out).trans D634.out))
  have DD639 := zH (((((D619.out.trans D624.out).trans D627.out).trans D630.out).trans D634.out))
  go_wp2_with fail
  refine bodyPost_ret (v := .tuple #[.agg #[.bool r576.n, .slice r576.p r576.l r576.c, .bool r576.m, .slice r576.p2 r576.l2 r576.c2], .agg #[.bool r612.n, .slice r612.p r612.l r612.c, .bool r612.m, .slice r612.p2 r612.l2 r612.c2], .int .i64 1]) ?_ rfl ⟨.inl ⟨_, _, HSN.out, rfl, by unfold segX; rw [if_pos C0.out, ← HQT.out]; exact (R576.out.dig DD638.out), by unfold segY; rw [if_pos C0.out, ← HQT.out]; exact (R612.out.dig DD639.out)⟩, H634.out.ext⟩
  exact results_c1c1t1 rfl rfl rfl ((H634.out.blk (i := 4) (by rfl)).loadVar rfl rfl (by rfl)) ((H634.out.blk (i := 5) (by rfl)).loadVar rfl rfl (by rfl)) rfl
end Go.Proofs.YthdapkpmikeehaaGreat

namespace Go.Proofs.YthdapkpmikeehaaGreat
open Go.ChangeShapes Go.WideShapes Go.ChangeAt Go.RowKit

theorem own : ownKnob Tryz.prog.godebug = none := by kernel_rfl
theorem laidOut : laidOutB Tryz.prog = true := by kernel_rfl
theorem cells_int : Tryz.prog.cellsOf 3 = 1 := by kernel_rfl
theorem cells_pt : Tryz.prog.cellsOf 23 = 2 := by kernel_rfl
theorem cells_pts4 : Tryz.prog.cellsOf 24 = 8 := by kernel_rfl

theorem okWide_array {P : Program} {w : World} {r : Reach} {base : Nat} {t e : TypeId} {n : Nat} {v : Value} (ht : P.underlying t = some (.array n e)) (h : Value.okWide P w r base t v) : ∃ cs, v = .agg cs ∧ cs.size = P.cellsOf t := by
  simp only [Value.okWide, ht] at h
  obtain ⟨cs, h1, h2, _⟩ := h
  exact ⟨cs, h1, h2⟩

section
variable {H : Type} {enc : TypeId × Value → H} {w : World} {base : Nat} {spare : Nat → Bool} {held : Bool}

theorem pt_open {fuel : Nat} {cs : List Value} {x : DataW H × List MemPlace} (h : DataW.trod enc Tryz.prog w base spare held fuel 23 cs = some x) : ∃ a : Int × Int, cs = [.int .i64 a.1, .int .i64 a.2] := by
  obtain ⟨y0, y1, n, _, hl, h0, h1⟩ := trod_struct2 Tryz.underlying23 h
  rw [cells_pt] at hl
  rw [cells_int] at h0 h1
  obtain ⟨a, e0, _, _⟩ := DataW.trod_int Tryz.underlying3 h0
  obtain ⟨b, e1, _, _⟩ := DataW.trod_int Tryz.underlying3 h1
  match cs, hl with
  | [u, v], _ =>
    simp at e0 e1
    exact ⟨(a, b), by rw [e0, e1]⟩

theorem pts4_open {fuel : Nat} {cs : List Value} {x : DataW H × List MemPlace} (h : DataW.trod enc Tryz.prog w base spare held fuel 24 cs = some x) :
    ∃ a b c d : Int × Int, cs = [.int .i64 a.1, .int .i64 a.2, .int .i64 b.1, .int .i64 b.2, .int .i64 c.1, .int .i64 c.2, .int .i64 d.1, .int .i64 d.2] := by
  obtain ⟨xs, m, _, _, hl, hx, hi⟩ := DataW.trod_array Tryz.underlying24 h
  rw [cells_pts4] at hl
  rw [cells_pt] at hi
  match xs, hx with
  | [x0, x1, x2, x3], _ =>
    obtain ⟨a, ea⟩ := pt_open (show DataW.trod enc Tryz.prog w base spare held m 23 _ = some x0 from hi 0 (by omega))
    obtain ⟨b, eb⟩ := pt_open (show DataW.trod enc Tryz.prog w base spare held m 23 _ = some x1 from hi 1 (by omega))
    obtain ⟨c, ec⟩ := pt_open (show DataW.trod enc Tryz.prog w base spare held m 23 _ = some x2 from hi 2 (by omega))
    obtain ⟨d, ed⟩ := pt_open (show DataW.trod enc Tryz.prog w base spare held m 23 _ = some x3 from hi 3 (by omega))
    match cs, hl with
    | [c0, c1, c2, c3, c4, c5, c6, c7], _ =>
      simp at ea eb ec ed
      refine ⟨a, b, c, d, ?_⟩
      rw [ea.1, ea.2, eb.1, eb.2, ec.1, ec.2, ed.1, ed.2]
end
end Go.Proofs.YthdapkpmikeehaaGreat
