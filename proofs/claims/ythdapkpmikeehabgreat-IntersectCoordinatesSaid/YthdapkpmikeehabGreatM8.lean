/- Contracts that the claim stands on: XExm17 to XOpenQ. -/
import Derived.Deep.LoopGhost
import Derived.Deep.DeepCutAuto
import Derived.Test.YthdapkpmikeehabGreatRows
import Derived.ProofKit
import Derived.OpenShut
import Derived.Below
import Derived.ChangeSlices
import Derived.Deep.Slices
import Derived.Lib.SmallJoins
import Derived.Test.YthdapkpmikeehabGreatM7
namespace Go.Proofs.YthdapkpmikeehabGreat
open Go.RowKit
attribute [local go_sem ↓] Go.wp_at_zero Go.wp_at_succ run_max_ii run_min_ii
theorem exq56 : segN (0, 0) (2, 2) (0, 2) (2, 0) = 1 := by decide +kernel
theorem exq57 : segX (0, 0) (2, 2) (0, 2) (2, 0) = (((1 : Int) : Rat) / ((1 : Int) : Rat)) := by decide +kernel
theorem exq58 : segY (0, 0) (2, 2) (0, 2) (2, 0) = (((1 : Int) : Rat) / ((1 : Int) : Rat)) := by decide +kernel
theorem exq103 : segN (0, 0) (3, 1) (0, 1) (3, 0) = 1 := by decide +kernel
theorem exq104 : segX (0, 0) (3, 1) (0, 1) (3, 0) = (((3 : Int) : Rat) / ((2 : Int) : Rat)) := by decide +kernel
theorem exq105 : segY (0, 0) (3, 1) (0, 1) (3, 0) = (((1 : Int) : Rat) / ((2 : Int) : Rat)) := by decide +kernel
theorem exq150 : segN (0, 0) (4, 0) (1, 0) (9, 0) = 2 := by decide +kernel
theorem exq189 : yatC (0, 0) (4, 2) 1 := ⟨by decide, by decide, by decide, by decide, by decide⟩
theorem exq190 : yatQ (0, 0) (4, 2) 1 = (((1 : Int) : Rat) / ((2 : Int) : Rat)) := by decide +kernel
theorem exq224 : xatC (0, 0) (4, 2) (((3 : Int) : Rat) / ((2 : Int) : Rat)) := ⟨by decide, by decide, by decide, by decide +kernel, by decide +kernel⟩
theorem exq225 : xatQ (0, 0) (4, 2) (((3 : Int) : Rat) / ((2 : Int) : Rat)) = (((3 : Int) : Rat) / ((1 : Int) : Rat)) := by decide +kernel
set_option maxRecDepth 20000 in
set_option maxHeartbeats 4000000 in
theorem example17_any (w : World) : Calls Tryz.prog 4 #[] w fun e w' => e = .returned (.bool true) ∧ Ext w w' := by
 refine (callsIn_wide (n := 4)).1 ?_
 refine callsIn_of_wp_marks Tryz.func4 rfl trivial ?_ rfl
 simp only [Tryz.ntmps4, List.size_toArray, List.length_cons, List.length_nil, Nat.reduceAdd, Nat.reduceSub, Array.replicate_succ, Array.replicate_zero, List.push_toArray, List.append_toArray, List.nil_append, List.cons_append]
 refine wpIn_wide.2 ?_
 refine Go.Code.wp_mono bodyPostQ.m ?_
 have H0 := zH (Hp.start w)
 go_upto_region 0 with fail
 refine wp_region_lit ?_
 refine aA' 4 [.bool false] H0.out ?_
 intro X38 w39 H40 _
 go_upto_region 1 with fail
 refine wp_region_lit ?_
 refine aC H40.out (pt17_any 0 0 _) ?_
 intro w43 H44 _
 refine aC H44.out (pt17_any 2 2 _) ?_
 intro w46 H47 _
 refine aC H47.out (pt17_any 0 2 _) ?_
 intro w49 H50 _
 refine aC H50.out (pt17_any 2 0 _) ?_
 intro w52 H53 _
 refine zc (((segments_any (0, 0) (2, 2) (0, 2) (2, 0) _ (by decide) (by decide) (by decide) (by decide)).mono (fun _ _ h_ => SegRet.yes h_ exq56))) ?_
 rintro e w55 ⟨r59, s59, rfl, hr_, hs_, hx⟩
 have H60 := zH (H53.out.step hx)
 rw [exq57] at hr_
 rw [exq58] at hs_
 have R59 := zH hr_
 have S59 := zH hs_
 clear hr_ hs_
 clear hx
 refine zn ?_
 refine zI4 (Hp.start _) _ _ _ _ ?_
 refine aA' 29 rz H60.out ?_
 intro X66 w67 H68 D68
 refine aA' 29 rz H68.out ?_
 intro X71 w72 H73 D73
 refine aA' 3 [.int .i64 0] H73.out ?_
 intro X76 w77 H78 D78
 refine aS' 1 (rc r59) H78.out ?_
 intro w81 H82 D82
 refine aS' 2 (rc s59) H82.out ?_
 intro w84 H85 D85
 refine aU' 3 (.int .i64 1) H85.out ?_
 intro w87 H88 D88
 go_upto_region 2 with fail
 refine wp_region_lit ?_
 refine aC H88.out (pt17_any 0 0 _) ?_
 intro w90 H91 D91
 refine aC H91.out (pt17_any 3 1 _) ?_
 intro w93 H94 D94
 refine aC H94.out (pt17_any 0 1 _) ?_
 intro w96 H97 D97
 refine aC H97.out (pt17_any 3 0 _) ?_
 intro w99 H100 D100
 refine zc (((segments_any (0, 0) (3, 1) (0, 1) (3, 0) _ (by decide) (by decide) (by decide) (by decide)).mono (fun _ _ h_ => SegRet.yes h_ exq103))) ?_
 rintro e w102 ⟨r106, s106, rfl, hr_, hs_, hx⟩
 have H107 := zH (H100.out.step hx)
 have D107 := zH (Dig.of_ext hx)
 rw [exq104] at hr_
 rw [exq105] at hs_
 have R106 := zH hr_
 have S106 := zH hs_
 clear hr_ hs_
 clear hx
 refine zn ?_
 refine zI4 (Hp.start _) _ _ _ _ ?_
 refine aA' 29 rz H107.out ?_
 intro X113 w114 H115 D115
 refine aA' 29 rz H115.out ?_
 intro X118 w119 H120 D120
 refine aA' 3 [.int .i64 0] H120.out ?_
 intro X123 w124 H125 D125
 refine aS' 4 (rc r106) H125.out ?_
 intro w128 H129 D129
 refine aS' 5 (rc s106) H129.out ?_
 intro w131 H132 D132
 refine aU' 6 (.int .i64 1) H132.out ?_
 intro w134 H135 D135
 go_upto_region 3 with fail
 refine wp_region_lit ?_
 refine aC H135.out (pt17_any 0 0 _) ?_
 intro w137 H138 D138
 refine aC H138.out (pt17_any 4 0 _) ?_
 intro w140 H141 D141
 refine aC H141.out (pt17_any 1 0 _) ?_
 intro w143 H144 D144
 refine aC H144.out (pt17_any 9 0 _) ?_
 intro w146 H147 D147
 refine aC H147.out (((segments_any (0, 0) (4, 0) (1, 0) (9, 0) _ (by decide) (by decide) (by decide) (by decide)).mono (fun _ _ h_ => by have h2_ := SegRet.no h_ (by rw [exq150]; decide); rw [exq150] at h2_; exact h2_))) ?_
 intro w149 H151 D151
 refine zI4 (Hp.start _) _ _ _ _ ?_
 refine aA' 29 rz H151.out ?_
 intro X157 w158 H159 D159
 refine aA' 29 rz H159.out ?_
 intro X162 w163 H164 D164
 refine aA' 3 [.int .i64 0] H164.out ?_
 intro X167 w168 H169 D169
 refine aS' 7 rz H169.out ?_
 intro w172 H173 D173
 refine aS' 8 rz H173.out ?_
 intro w175 H176 D176
 refine aU' 9 (.int .i64 2) H176.out ?_
 intro w178 H179 D179
 go_upto_region 4 with fail
 refine wp_region_lit ?_
 refine aC H179.out (pt17_any 0 0 _) ?_
 intro w181 H182 D182
 refine aC H182.out (pt17_any 4 2 _) ?_
 intro w184 H185 D185
 refine zc (((yat_any (0, 0) (4, 2) 1 _ (by decide)).mono (fun _ _ h_ => AtRet.yes h_ exq189))) ?_
 rintro e w187 ⟨r188, rfl, hr_, hx⟩
 have H191 := zH (H185.out.step hx)
 have D191 := zH (Dig.of_ext hx)
 rw [exq190] at hr_
 have R188 := zH hr_
 clear hr_
 clear hx
 refine zn ?_
 refine zI3 (Hp.start _) _ _ (.bool true) ?_
 refine aA' 29 rz H191.out ?_
 intro X196 w197 H198 D198
 refine aA' 4 [.bool false] H198.out ?_
 intro X201 w202 H203 D203
 refine aS' 10 (rc r188) H203.out ?_
 intro w206 H207 D207
 refine aU' 11 (.bool true) H207.out ?_
 intro w209 H210 D210
 go_upto_region 5 with fail
 refine wp_region_lit ?_
 refine aC H210.out (pt17_any 0 0 _) ?_
 intro w212 H213 D213
 refine aC H213.out (pt17_any 4 2 _) ?_
 intro w215 H216 D216
 refine zc (frac17_any 3 2 _ (by decide) (by decide) (by decide)) ?_
 rintro e w218 ⟨r219, rfl, hr_, hx⟩
 have H220 := zH (H216.out.step hx)
 have D220 := zH (Dig.of_ext hx)
 have R219 := zH hr_
 have B219 := zH (rl_qq 3 2 (by decide) (by decide))
 clear hr_
 clear hx
 refine zn ?_
 refine zc (((xatf_any 8 (0, 0) (4, 2) r219 (((3 : Int) : Rat) / ((2 : Int) : Rat)) _ (RV.Is.isIn R219.out B219.out) (by decide) ⟨by decide, by decide⟩ ⟨by decide, by decide⟩).mono (fun _ _ h_ => AtRet.yes h_ exq224))) ?_
 rintro e w222 ⟨r223, rfl, hr_, hx⟩
 have H226 := zH (H220.out.step hx)
 have D226 := zH (Dig.of_ext hx)
 rw [exq225] at hr_
 have R223 := zH hr_
 clear hr_
 clear hx
 refine zn ?_
 refine zI3 (Hp.start _) _ _ (.bool true) ?_
 refine aA' 29 rz H226.out ?_
 intro X231 w232 H233 D233
 refine aA' 4 [.bool false] H233.out ?_
 intro X236 w237 H238 D238
 refine aS' 12 (rc r223) H238.out ?_
 intro w241 H242 D242
 refine aU' 13 (.bool true) H242.out ?_
 intro w244 H245 D245
 go_upto_region 6 with fail
 refine wp_region_lit ?_
 refine aC H245.out (pt17_any 0 0 _) ?_
 intro w247 H248 D248
 refine aC H248.out (pt17_any 4 0 _) ?_
 intro w250 H251 D251
 refine aC H251.out (pt17_any 4 4 _) ?_
 intro w253 H254 D254
 refine aC H254.out (pt17_any 0 4 _) ?_
 intro w256 H257 D257
 refine aL' 4 23 [.int .i64 0, .int .i64 0, .int .i64 4, .int .i64 0, .int .i64 4, .int .i64 4, .int .i64 0, .int .i64 4] H257.out ?_
 intro X259 w260 H261 D261
 refine aL' 1 42 [.slice (some ⟨X259, 0, none⟩) 4 4] H261.out ?_
 intro X263 w264 H265 D265
 refine aC H265.out (pt17_any 1 1 _) ?_
 intro w267 H268 D268
 refine aC H268.out (pt17_any 3 3 _) ?_
 intro w270 H271 D271
 refine zc (((eventYs_any (.slice (some ⟨X263, 0, none⟩) 1 1) exSq (1, 1) (3, 3) _ (ringLit (i := 14) (j := 15) H271.out [(0, 0), (4, 0), (4, 4), (0, 4)] (by rfl) (by rfl)) (by decide) (by decide)).mono (fun _ _ h_ => ex_ev h_))) ?_
 rintro e w273 ⟨Al, cl, rfl, hx⟩
 have H274 := zH (H271.out.step hx)
 have D274 := zH (Dig.of_ext hx)
 clear hx
 refine zn ?_
 refine aA' 40 [.slice none 0 0] H274.out ?_
 intro X276 w277 H278 D278
 refine aU' 16 (.slice Al 2 cl) H278.out ?_
 intro w281 H282 D282
 go_upto_region 7 with fail
 refine wp_region_lit ?_
 refine aC H282.out (pt17_any 0 0 _) ?_
 intro w284 H285 D285
 refine aC H285.out (pt17_any 2 2 _) ?_
 intro w287 H288 D288
 refine aC H288.out (pt17_any 2 0 _) ?_
 intro w290 H291 D291
 refine aC H291.out (pt17_any 0 2 _) ?_
 intro w293 H294 D294
 refine aL' 4 23 [.int .i64 0, .int .i64 0, .int .i64 2, .int .i64 2, .int .i64 2, .int .i64 0, .int .i64 0, .int .i64 2] H294.out ?_
 intro X296 w297 H298 D298
 refine aL' 1 42 [.slice (some ⟨X296, 0, none⟩) 4 4] H298.out ?_
 intro X300 w301 H302 D302
 refine zq (.slice (some ⟨X300, 0, none⟩) 1 1) ?_
 go_upto_region 8 with fail
 refine wp_region_lit ?_
 refine qV (.slice (some ⟨X300, 0, none⟩) 1 1) ?_
 refine zc (((intersections_any (some ⟨X300, 0, none⟩) 1 [[(0, 0), (2, 2), (2, 0), (0, 2)]] _ (ringLit (i := 17) (j := 18) H302.out [(0, 0), (2, 2), (2, 0), (0, 2)] (by rfl) (by rfl)) (by decide) (by decide) (by decide)).mono (fun _ _ h_ => ex_isx h_))) ?_
 rintro e w306 ⟨g1, c1, g2, c2, go, co, pe, rfl, hp_, hi_, ho_, hn_, hx⟩
 have H307 := zH (H302.out.step hx)
 have D307 := zH (Dig.of_ext hx)
 have HRP := zH hp_
 have HRI := zH hi_
 have HRO := zH ho_
 have HRN := zH hn_
 clear hp_ hi_ ho_ hn_
 clear hx
 refine zn ?_
 refine zI5 (Hp.start _) _ _ _ _ _ ?_
 go_upto_region 9 with fail
 refine zy ?_
 have H314 := zH (H307.out.step (Ext.refl w306).drew)
 have D314 := zH (Dig.of_ext (w := w306) zb)
 refine zJ2 (Hp.start _) zb (bs 44 3) 0 1 _ _ ?_
 refine zu 2 (bs 44 7) (v := .bool false) zb ?_ (hv := by intro w hSw; exact ezn (e := (dec_f (by omega))))
 refine zJ3 (Hp.start _) zb (bs 44 63) 3 4 5 (.bool false) _ _ ?_
 refine zu 6 (bs 44 127) (v := .bool false) zb ?_ (hv := by intro w hSw; exact ezn (e := (dec_f (by omega))))
 refine zJ3 (Hp.start _) zb (bs 44 1023) 7 8 9 (.bool false) (.bool false) _ ?_
 refine zu 10 (bs 44 2047) (v := .pointer (some ⟨g2, 0 * 1, none⟩)) zb ?_ (hv := by intro w hSw; exact ezi (k := 0) Tryz.underlying45 (l := (by decide)) (f := (Nat.zero_add _).symm))
 refine zf 11 (bs 44 4095) g2 (0 * 1) (.slice (some ⟨go, 0, none⟩) 2 co) HRO.out zb ?_
 refine zx 12 (bs 44 8191) (.int .i64 2) zb ?_
 refine zu 13 (bs 44 16383) (v := .bool false) zb ?_ (hv := by intro w hSw; exact ezn (e := (dec_f (by omega))))
 refine zJ3 (Hp.start _) zb (bs 44 131071) 14 15 16 (.bool false) (.bool false) _ ?_
 refine zu 17 (bs 44 262143) (v := .pointer (some ⟨g2, 0 * 1, none⟩)) zb ?_ (hv := by intro w hSw; exact ezi (k := 0) Tryz.underlying45 (l := (by decide)) (f := (Nat.zero_add _).symm))
 refine zf 18 (bs 44 524287) g2 (0 * 1) (.slice (some ⟨go, 0, none⟩) 2 co) HRO.out zb ?_
 refine zu 19 (bs 44 1048575) (v := .pointer (some ⟨go, 0 * 1, none⟩)) zb ?_ (hv := by intro w hSw; exact ezi (k := 0) Tryz.underlying48 (l := (by decide)) (f := (Nat.zero_add _).symm))
 refine zf 20 (bs 44 2097151) go (0 * 1) (.int .i64 0) (range_part HRN.out 0 1) zb ?_
 refine zu 21 (bs 44 4194303) (v := .bool false) zb ?_ (hv := by intro w hSw; exact ezn (e := (dec_f (by omega))))
 refine zJ3 (Hp.start _) zb (bs 44 33554431) 22 23 24 (.bool false) (.bool false) _ ?_
 refine zu 25 (bs 44 67108863) (v := .pointer (some ⟨g2, 0 * 1, none⟩)) zb ?_ (hv := by intro w hSw; exact ezi (k := 0) Tryz.underlying45 (l := (by decide)) (f := (Nat.zero_add _).symm))
 refine zf 26 (bs 44 134217727) g2 (0 * 1) (.slice (some ⟨go, 0, none⟩) 2 co) HRO.out zb ?_
 refine zu 27 (bs 44 268435455) (v := .pointer (some ⟨go, 1 * 1, none⟩)) zb ?_ (hv := by intro w hSw; exact ezi (k := 1) Tryz.underlying48 (l := (by decide)) (f := (Nat.zero_add _).symm))
 refine zf 28 (bs 44 536870911) go (1 * 1) (.int .i64 2) (range_part HRN.out 1 1) zb ?_
 refine zu 29 (bs 44 1073741823) (v := .bool false) zb ?_ (hv := by intro w hSw; exact ezn (e := (dec_f (by omega))))
 refine zJ3 (Hp.start _) zb (bs 44 8589934591) 30 31 32 (.bool false) (.bool false) _ ?_
 refine zu 33 (bs 44 17179869183) (v := .pointer (some ⟨g1, 0 * 8, none⟩)) zb ?_ (hv := by intro w hSw; exact ezi (k := 0) Tryz.underlying44 (l := (by decide)) (f := (Nat.zero_add _).symm))
 refine mX 34 (bs 44 34359738367) (.pointer (some ⟨g1, 0 * 8, none⟩)) zb ?_
 refine zg 35 (bs 44 68719476735) g1 (0 * 8) (rc pe.a) (range_part HRP.out 0 4) Tryz.underlying29 zb ?_
 refine mC 36 (bs 44 137438953471) (frac17_any 1 1 _ (by decide) (by decide) (by decide)) ?_
 rintro e w346 ⟨r347, rfl, hr_, hx⟩
 have H348 := zH (H314.out.step hx)
 have D348 := zH (show Dig w306.drew w346 from Dig.of_ext hx)
 have S350 := zH (zb.trans hx)
 have R347 := zH hr_
 have B347 := zH (rl_qq 1 1 (by decide) (by decide))
 clear hr_
 clear hx
 refine zm S350.out ?_
 have DD352 := zH ((D314.out.trans D348.out))
 refine mC 37 (bs 44 274877906943) (same17_any pe.a r347 (((1 : Int) : Rat) / ((1 : Int) : Rat)) 8 _ (HRI.out.dig DD352.out) R347.out B347.out (by decide)) ?_
 rintro e w351 ⟨rfl, hx⟩
 have H353 := zH (H348.out.step hx)
 have D353 := zH (Dig.of_ext hx)
 have S355 := zH (S350.out.trans hx)
 clear hx
 refine zm S355.out ?_
 refine zJ4 (Hp.start _) S355.out (bs 44 4398046511103) 38 39 40 41 (.bool false) (.bool false) (.bool false) _ ?_
 refine mC 42 (bs 44 8796093022207) (isSimple_any (some ⟨X300, 0, none⟩) 1 [[(0, 0), (2, 2), (2, 0), (0, 2)]] _ (ringLit (i := 17) (j := 18) H353.out [(0, 0), (2, 2), (2, 0), (0, 2)] (by rfl) (by rfl)) (by decide) (by decide) (by decide)) ?_
 rintro e w360 ⟨rfl, hx⟩
 have H361 := zH (H353.out.step hx)
 have D361 := zH (Dig.of_ext hx)
 have S363 := zH (S355.out.trans hx)
 clear hx
 refine ⟨.bool false, by rw [show simB [[(0, 0), (2, 2), (2, 0), (0, 2)]] = false from ex_bow], S363.out, ?_⟩
 try simp only [Act.put, zA, zB, zC]
 refine zx 43 (bs 44 17592186044415) (.bool false) S363.out ?_
 refine wpAnyH_done (by kernel_rfl) ?_ _
 go_upto_region 11 with fail
 refine wp_region_lit ?_
 refine aC H361.out (pt17_any 0 0 _) ?_
 intro w365 H366 D366
 refine aC H366.out (pt17_any 4 0 _) ?_
 intro w368 H369 D369
 refine aC H369.out (pt17_any 0 4 _) ?_
 intro w371 H372 D372
 refine aL' 3 23 [.int .i64 0, .int .i64 0, .int .i64 4, .int .i64 0, .int .i64 0, .int .i64 4] H372.out ?_
 intro X374 w375 H376 D376
 refine aL' 1 42 [.slice (some ⟨X374, 0, none⟩) 3 3] H376.out ?_
 intro X378 w379 H380 D380
 refine zc (isSimple_any (some ⟨X378, 0, none⟩) 1 [[(0, 0), (4, 0), (0, 4)]] _ (ringLit (i := 19) (j := 20) H380.out [(0, 0), (4, 0), (0, 4)] (by rfl) (by rfl)) (by decide) (by decide) (by decide)) ?_
 rintro e w382 ⟨rfl, hx⟩
 have H383 := zH (H380.out.step hx)
 have D383 := zH (Dig.of_ext hx)
 clear hx
 refine ⟨.bool true, by rw [show simB [[(0, 0), (4, 0), (0, 4)]] = true from ex_tri], ?_⟩
 try simp only [Act.put, zA, zB, zC]
 refine zq (.bool false) ?_
 go_upto_region 13 with fail
 refine wp_region_lit ?_
 refine aC H383.out (pt17_any 0 0 _) ?_
 intro w386 H387 D387
 refine aC H387.out (pt17_any 1 0 _) ?_
 intro w389 H390 D390
 refine aC H390.out (pt17_any 1 0 _) ?_
 intro w392 H393 D393
 refine aL' 3 23 [.int .i64 0, .int .i64 0, .int .i64 1, .int .i64 0, .int .i64 1, .int .i64 0] H393.out ?_
 intro X395 w396 H397 D397
 refine aL' 1 42 [.slice (some ⟨X395, 0, none⟩) 3 3] H397.out ?_
 intro X399 w400 H401 D401
 refine zc (edges_any (.slice (some ⟨X399, 0, none⟩) 1 1) exDeg _ (ringLit (i := 21) (j := 22) H401.out [(0, 0), (1, 0), (1, 0)] (by rfl) (by rfl)) (by decide) (by decide)) ?_
 rintro e w403 ⟨Bx, ve, rfl, hB1, hB2, hcell, hR, hx⟩
 have HB1 := zH hB1
 have HB2 := zH hB2
 have HCL := zH hcell
 rw [if_pos (show okR exDeg = true by decide)] at hR
 have HRG := zH hR
 clear hB1 hB2 hcell hR
 have H404 := zH (H401.out.step hx)
 have D404 := zH (Dig.of_ext hx)
 clear hx
 refine zn ?_
 refine zq (.func (.func 47) #[] #[.pointer (some ⟨Bx, 0, none⟩)]) ?_
 go_upto_region 14 with fail
 refine wp_region_lit ?_
 refine zq (.func (.func 47) #[] #[.pointer (some ⟨Bx, 0, none⟩)]) ?_
 refine zp (w' := w403) (.bool false) (by go_simp <;> kernel_rfl) ?_
 go_upto_region 16 with fail
 refine wp_region_lit ?_
 refine zq (.func (.func 47) #[] #[.pointer (some ⟨Bx, 0, none⟩)]) ?_
 have hb0 := H401.out.lt (i := 0) (k := X38) (by rfl) rfl
 have HRF := zH (show RingsO (fun k_ => ¬ (fun j => j = X38 ∨ w403.heap.size ≤ j) k_) w403 ve exDeg from HRG.out.imp (fun k_ h hk => by rcases hk with rfl | hk; omega; omega))
 have HWS := zH (show w.heap.size ≤ w403.heap.size from H404.out.ext.size)
 have hgb : ¬ (fun j => j = X38 ∨ w403.heap.size ≤ j) Bx := fun hk => by have h1 := HB1.out; have h9 := HB2.out; rcases hk with hk | hk; omega; omega
 obtain ⟨J0, hJ0⟩ : ∃ J : List OkE → World → Prop, J = fun pre W => pre = [] ∧ Hp w W [.blk X38 4 [.bool false], .blk X66 29 [.bool r59.n, .slice r59.p r59.l r59.c, .bool r59.m, .slice r59.p2 r59.l2 r59.c2], .blk X71 29 [.bool s59.n, .slice s59.p s59.l s59.c, .bool s59.m, .slice s59.p2 s59.l2 s59.c2], .blk X76 3 [.int .i64 1], .blk X113 29 [.bool r106.n, .slice r106.p r106.l r106.c, .bool r106.m, .slice r106.p2 r106.l2 r106.c2], .blk X118 29 [.bool s106.n, .slice s106.p s106.l s106.c, .bool s106.m, .slice s106.p2 s106.l2 s106.c2], .blk X123 3 [.int .i64 1], .blk X157 29 [.bool false, .slice none 0 0, .bool false, .slice none 0 0], .blk X162 29 [.bool false, .slice none 0 0, .bool false, .slice none 0 0], .blk X167 3 [.int .i64 2], .blk X196 29 [.bool r188.n, .slice r188.p r188.l r188.c, .bool r188.m, .slice r188.p2 r188.l2 r188.c2], .blk X201 4 [.bool true], .blk X231 29 [.bool r223.n, .slice r223.p r223.l r223.c, .bool r223.m, .slice r223.p2 r223.l2 r223.c2], .blk X236 4 [.bool true], .blk X259 23 [.int .i64 0, .int .i64 0, .int .i64 4, .int .i64 0, .int .i64 4, .int .i64 4, .int .i64 0, .int .i64 4], .blk X263 42 [.slice (some ⟨X259, 0, none⟩) 4 4], .blk X276 40 [.slice Al 2 cl], .blk X296 23 [.int .i64 0, .int .i64 0, .int .i64 2, .int .i64 2, .int .i64 2, .int .i64 0, .int .i64 0, .int .i64 2], .blk X300 42 [.slice (some ⟨X296, 0, none⟩) 4 4], .blk X374 23 [.int .i64 0, .int .i64 0, .int .i64 4, .int .i64 0, .int .i64 0, .int .i64 4], .blk X378 42 [.slice (some ⟨X374, 0, none⟩) 3 3], .blk X395 23 [.int .i64 0, .int .i64 0, .int .i64 1, .int .i64 0, .int .i64 1, .int .i64 0], .blk X399 42 [.slice (some ⟨X395, 0, none⟩) 3 3]] ∧ Ext w403 W := ⟨_, rfl⟩
 obtain ⟨Jx, hJx⟩ : ∃ J : Code → List OkE → World → Prop, J = fun c _ W => c = .ret ∧ Blk W X38 4 ([.bool true] : List Value).toArray ∧ Ext w W := ⟨_, rfl⟩
 obtain ⟨Ja, hJa⟩ : ∃ J : OkE → Act → World → Prop, J = fun _ a' _ => ∃ J : Nat → Value, a' = { tmps := #[.pointer (some ⟨X38, 0, none⟩), .pointer (some ⟨X66, 0, none⟩), .pointer (some ⟨X71, 0, none⟩), .pointer (some ⟨X76, 0, none⟩), .pointer (some ⟨X113, 0, none⟩), .pointer (some ⟨X118, 0, none⟩), .pointer (some ⟨X123, 0, none⟩), .pointer (some ⟨X157, 0, none⟩), .pointer (some ⟨X162, 0, none⟩), .pointer (some ⟨X167, 0, none⟩), .pointer (some ⟨X196, 0, none⟩), .pointer (some ⟨X201, 0, none⟩), .pointer (some ⟨X231, 0, none⟩), .pointer (some ⟨X236, 0, none⟩), .pointer (some ⟨X276, 0, none⟩), J 15, J 16, J 17, J 18, J 19, J 20, J 21, J 22, J 23, J 24, J 25, J 26, J 27, J 28, J 29, J 30, J 31, J 32, J 33, J 34, J 35, J 36, J 37, J 38, J 39, J 40, J 41, J 42, J 43, J 44, J 45, J 46, J 47, J 48, J 49, J 50, J 51, J 52, J 53, J 54, J 55, J 56, J 57, J 58, J 59, J 60, J 61, J 62, J 63, J 64, J 65, J 66, J 67, J 68, J 69, J 70, J 71, J 72, J 73, J 74, J 75, J 76, J 77, J 78, J 79, J 80, J 81, J 82, J 83, J 84, J 85, J 86, J 87, J 88, J 89, J 90, J 91, J 92, J 93, J 94, J 95, J 96, J 97, J 98, J 99, J 100, J 101, J 102, J 103, J 104, J 105, J 106, J 107, J 108, J 109, J 110, J 111, J 112, J 113, J 114, J 115, J 116, J 117, J 118, J 119, J 120, J 121, J 122, J 123, J 124, J 125, J 126, J 127, J 128, J 129, J 130, J 131, J 132, J 133, J 134, J 135, J 136, J 137, J 138, J 139, J 140, J 141, J 142, J 143, J 144, J 145, J 146, J 147, J 148, J 149, J 150, J 151, J 152, J 153, J 154, J 155, J 156, J 157, J 158, J 159, J 160, J 161, J 162, J 163, J 164, J 165, J 166, J 167, J 168, J 169, J 170, J 171, J 172, J 173, J 174, J 175, J 176, J 177, J 178, J 179, J 180, J 181, J 182, J 183, J 184, J 185, J 186, J 187, J 188, J 189, J 190, J 191], defers := [] } := ⟨_, rfl⟩
 have DD412 := zH (((((((((((((((((((((((((((((((((((((((((((((((((((((((((((((((((((((((((((((D68.out.trans D73.out).trans D78.out).trans D82.out).trans D85.out).trans D88.out).trans D91.out).trans D94.out).trans D97.out).trans D100.out).trans D107.out).trans D115.out).trans D120.out).trans D125.out).trans D129.out).trans D132.out).trans D135.out).trans D138.out).trans D141.out).trans D144.out).trans D147.out).trans D151.out).trans D159.out).trans D164.out).trans D169.out).trans D173.out).trans D176.out).trans D179.out).trans D182.out).trans D185.out).trans D191.out).trans D198.out).trans D203.out).trans D207.out).trans D210.out).trans D213.out).trans D216.out).trans D220.out).trans D226.out).trans D233.out).trans D238.out).trans D242.out).trans D245.out).trans D248.out).trans D251.out).trans D254.out).trans D257.out).trans D261.out).trans D265.out).trans D268.out).trans D271.out).trans D274.out).trans D278.out).trans D282.out).trans D285.out).trans D288.out).trans D291.out).trans D294.out).trans D298.out).trans D302.out).trans D307.out).trans D314.out).trans D348.out).trans D353.out).trans D361.out).trans D366.out).trans D369.out).trans D372.out).trans D376.out).trans D380.out).trans D383.out).trans D387.out).trans D390.out).trans D393.out).trans D397.out).trans D401.out).trans D404.out))
 have DD415 := zH ((((((((((((((((((((((((((((((((((((((((((((((((((((((((((((((((((D115.out.trans D120.out).trans D125.out).trans D129.out).trans D132.out).trans D135.out).trans D138.out).trans D141.out).trans D144.out).trans D147.out).trans D151.out).trans D159.out).trans D164.out).trans D169.out).trans D173.out).trans D176.out).trans D179.out).trans D182.out).trans D185.out).trans D191.out).trans D198.out).trans D203.out).trans D207.out).trans D210.out).trans D213.out).trans D216.out).trans D220.out).trans D226.out).trans D233.out).trans D238.out).trans D242.out).trans D245.out).trans D248.out).trans D251.out).trans D254.out).trans D257.out).trans D261.out).trans D265.out).trans D268.out).trans D271.out).trans D274.out).trans D278.out).trans D282.out).trans D285.out).trans D288.out).trans D291.out).trans D294.out).trans D298.out).trans D302.out).trans D307.out).trans D314.out).trans D348.out).trans D353.out).trans D361.out).trans D366.out).trans D369.out).trans D372.out).trans D376.out).trans D380.out).trans D383.out).trans D387.out).trans D390.out).trans D393.out).trans D397.out).trans D401.out).trans D404.out))
 have DD418 := zH ((((((((((((((((((((((((((((((((((((((((((((((D198.out.trans D203.out).trans D207.out).trans D210.out).trans D213.out).trans D216.out).trans D220.out).trans D226.out).trans D233.out).trans D238.out).trans D242.out).trans D245.out).trans D248.out).trans D251.out).trans D254.out).trans D257.out).trans D261.out).trans D265.out).trans D268.out).trans D271.out).trans D274.out).trans D278.out).trans D282.out).trans D285.out).trans D288.out).trans D291.out).trans D294.out).trans D298.out).trans D302.out).trans D307.out).trans D314.out).trans D348.out).trans D353.out).trans D361.out).trans D366.out).trans D369.out).trans D372.out).trans D376.out).trans D380.out).trans D383.out).trans D387.out).trans D390.out).trans D393.out).trans D397.out).trans D401.out).trans D404.out))
 have DD420 := zH ((((((((((((((((((((((((((((((((((((((D233.out.trans D238.out).trans D242.out).trans D245.out).trans D248.out).trans D251.out).trans D254.out).trans D257.out).trans D261.out).trans D265.out).trans D268.out).trans D271.out).trans D274.out).trans D278.out).trans D282.out).trans D285.out).trans D288.out).trans D291.out).trans D294.out).trans D298.out).trans D302.out).trans D307.out).trans D314.out).trans D348.out).trans D353.out).trans D361.out).trans D366.out).trans D369.out).trans D372.out).trans D376.out).trans D380.out).trans D383.out).trans D387.out).trans D390.out).trans D393.out).trans D397.out).trans D401.out).trans D404.out))
 go_wp2_with fail
 refine wpIn_wide.1 (edges_loopX (n := 4) (by omega) (fun j => j = X38 ∨ w403.heap.size ≤ j) Bx ve exDeg (by rfl) HCL.out hgb HRF.out (by decide) (by decide) (fun k_ h_ => .inr h_) J0 Jx ?own ?ownx (by rw [hJ0]; exact ⟨rfl, H404.out, Ext.refl _⟩) Ja (by rw [hJa]; exact fun _ _ _ _ _ _ h _ _ => h) ?assign ?body ?done ?stop)
 case own =>
  rw [hJ0]
  rintro s W W' row ⟨h1, h2, h3⟩ hg hr
  exact ⟨h1, h2.keptQ hg (fun k hk => ⟨Nat.le_trans HWS.out (hr k hk).1, (hr k hk).2⟩), Ext.grown h3 hg (fun k hk => (hr k hk).1)⟩
 case ownx =>
  rw [hJx]
  rintro c s W W' row ⟨h1, h2, h3⟩ hg hr
  exact ⟨h1, h2.kept hg (fun k hk => (hr k hk).2), Ext.grown h3 hg (fun k hk => Nat.le_trans HWS.out (hr k hk).1)⟩
 case assign =>
  intro l pre x W K hi hK
  skip
  gi_wp2
  refine hK _ _ (KeepsFrom.refl _ _) (Fr.of_ext (Ext.refl _)) hi ?_
  rw [hJa]
  exact frame_ex (by rfl)
 case body =>
  intro l pre x a' W hi hax hlen
  rw [hJ0] at hi
  rw [hJa] at hax
  obtain ⟨hpre, hh, hxx⟩ := hi
  obtain ⟨J, rfl⟩ := hax
  have H0 := zH hh
  have HXX := zH hxx
  clear hh hxx
  have RW411 := zH (R59.out.dig (DD412.out.trans (Dig.of_ext HXX.out)))
  have RW413 := zH (S59.out.dig (DD412.out.trans (Dig.of_ext HXX.out)))
  have RW414 := zH (R106.out.dig (DD415.out.trans (Dig.of_ext HXX.out)))
  have RW416 := zH (S106.out.dig (DD415.out.trans (Dig.of_ext HXX.out)))
  have RW417 := zH (R188.out.dig (DD418.out.trans (Dig.of_ext HXX.out)))
  have RW419 := zH (R223.out.dig (DD420.out.trans (Dig.of_ext HXX.out)))
  gi_upto_region 17 with fail
  refine wpIn_region_held_drew (S := fun x => Fr (fun kz => kz = X38) W x) (by kernel_rfl) (by kernel_rfl) (fun ⟨_, _, h⟩ => h) (Fr.of_ext zb) (fun _ => ?_)
  have H421 := zH (H0.out.step (Ext.refl W).drew)
  have D421 := zH (Dig.of_ext (w := W) zb)
  have K423 := zH (show Fr (fun kz => kz = X38) W W.drew from (Fr.of_ext (G := fun kz => kz = X38) (Ext.refl W)).trans (Fr.of_ext (Ext.refl W).drew))
  refine md_ld1 (g := X76) (o := 0) (v := .int .i64 1) (i := 0) (listed' := (bs 52 1)) (by rfl) (by kernel_rfl) (by kernel_rfl) (by kernel_rfl) (by intro _ _ _ h; exact h) (by rfl) (fun x hx => Fr.cell hx (show World.cell? W ⟨X76, 0, none⟩ = some (.int .i64 1) from cell_of_range (H0.out.range (i := 3) (by rfl) 0 1)) (H0.out.offBlk (i := 3) (j := 0) (by rfl) (by rfl) (by decide) (by rfl))) (by intro x hq; go_simp <;> with_reducible rfl) (Fr.of_ext zb) (by kernel_rfl) ?_
  try simp only [Act.put, zA, zB, zC]
  refine zu 1 (bs 52 3) (v := .bool true) (Fr.of_ext zb) ?_ (hv := by intro w hSw; exact ezq (e := (dec_t (by omega))))
  refine mX 2 (bs 52 7) (.bool true) (Fr.of_ext zb) ?_
  refine zr 3 (bs 52 15) X66 (0) [.bool r59.n, .slice r59.p r59.l r59.c, .bool r59.m, .slice r59.p2 r59.l2 r59.c2] (fun x hx => Fr.range hx (show World.rangeAt W X66 (0) [.bool r59.n, .slice r59.p r59.l r59.c, .bool r59.m, .slice r59.p2 r59.l2 r59.c2] from (H0.out.range (i := 1) (by rfl) 0 4)) (H0.out.offBlk (i := 1) (j := 0) (by rfl) (by rfl) (by decide) (by rfl))) Tryz.underlying29 (Fr.of_ext zb) ?_
  refine mC 4 (bs 52 31) (frac17_any 1 1 _ (by decide) (by decide) (by decide)) ?_
  rintro e w426 ⟨r427, rfl, hr_, hx⟩
  have H428 := zH (H421.out.step hx)
  have D428 := zH (show Dig W.drew w426 from Dig.of_ext hx)
  have K430 := zH (K423.out.trans (Fr.of_ext hx))
  have S432 := zH (show Fr (fun kz => kz = X38) W w426 from (Fr.of_ext zb).trans (Fr.of_ext hx))
  have R427 := zH hr_
  have B427 := zH (rl_qq 1 1 (by decide) (by decide))
  clear hr_
  clear hx
  refine zm S432.out ?_
  have DD434 := zH ((D421.out.trans D428.out))
  refine mC 5 (bs 52 63) (same17_any r59 r427 (((1 : Int) : Rat) / ((1 : Int) : Rat)) 8 _ (RW411.out.dig DD434.out) R427.out B427.out (by decide)) ?_
  rintro e w433 ⟨rfl, hx⟩
  have H435 := zH (H428.out.step hx)
  have D435 := zH (Dig.of_ext hx)
  have K437 := zH (K430.out.trans (Fr.of_ext hx))
  have S439 := zH (show Fr (fun kz => kz = X38) W w433 from S432.out.trans (Fr.of_ext hx))
  clear hx
  refine zm S439.out ?_
  refine zx 6 (bs 52 127) (.bool true) S439.out ?_
  refine mX 7 (bs 52 255) (.bool true) S439.out ?_
  refine zr 8 (bs 52 511) X71 (0) [.bool s59.n, .slice s59.p s59.l s59.c, .bool s59.m, .slice s59.p2 s59.l2 s59.c2] (fun x hx => Fr.range hx (show World.rangeAt W X71 (0) [.bool s59.n, .slice s59.p s59.l s59.c, .bool s59.m, .slice s59.p2 s59.l2 s59.c2] from (H0.out.range (i := 2) (by rfl) 0 4)) (H0.out.offBlk (i := 2) (j := 0) (by rfl) (by rfl) (by decide) (by rfl))) Tryz.underlying29 S439.out ?_
  refine mC 9 (bs 52 1023) (frac17_any 1 1 _ (by decide) (by decide) (by decide)) ?_
  rintro e w442 ⟨r443, rfl, hr_, hx⟩
  have H444 := zH (H435.out.step hx)
  have D444 := zH (Dig.of_ext hx)
  have K446 := zH (K437.out.trans (Fr.of_ext hx))
  have S448 := zH (show Fr (fun kz => kz = X38) W w442 from S439.out.trans (Fr.of_ext hx))
  have R443 := zH hr_
  have B443 := zH (rl_qq 1 1 (by decide) (by decide))
  clear hr_
  clear hx
  refine zm S448.out ?_
  have DD450 := zH (((DD434.out.trans D435.out).trans D444.out))
  refine mC 10 (bs 52 2047) (same17_any s59 r443 (((1 : Int) : Rat) / ((1 : Int) : Rat)) 8 _ (RW413.out.dig DD450.out) R443.out B443.out (by decide)) ?_
  rintro e w449 ⟨rfl, hx⟩
  have H451 := zH (H444.out.step hx)
  have D451 := zH (Dig.of_ext hx)
  have K453 := zH (K446.out.trans (Fr.of_ext hx))
  have S455 := zH (show Fr (fun kz => kz = X38) W w449 from S448.out.trans (Fr.of_ext hx))
  clear hx
  refine zm S455.out ?_
  refine zx 11 (bs 52 4095) (.bool true) S455.out ?_
  refine zx 12 (bs 52 8191) (.bool true) S455.out ?_
  refine md_ld1 (g := X123) (o := 0) (v := .int .i64 1) (i := 13) (listed' := (bs 52 16383)) (by rfl) (by kernel_rfl) (by kernel_rfl) (by kernel_rfl) (by intro _ _ _ h; exact h) (by rfl) (fun x hx => Fr.cell hx (show World.cell? W ⟨X123, 0, none⟩ = some (.int .i64 1) from cell_of_range (H0.out.range (i := 6) (by rfl) 0 1)) (H0.out.offBlk (i := 6) (j := 0) (by rfl) (by rfl) (by decide) (by rfl))) (by intro x hq; go_simp <;> with_reducible rfl) S455.out (by kernel_rfl) ?_
  try simp only [Act.put, zA, zB, zC]
  refine zu 14 (bs 52 32767) (v := .bool true) S455.out ?_ (hv := by intro w hSw; exact ezq (e := (dec_t (by omega))))
  refine zx 15 (bs 52 65535) (.bool true) S455.out ?_
  refine mX 16 (bs 52 131071) (.bool true) S455.out ?_
  refine zr 17 (bs 52 262143) X113 (0) [.bool r106.n, .slice r106.p r106.l r106.c, .bool r106.m, .slice r106.p2 r106.l2 r106.c2] (fun x hx => Fr.range hx (show World.rangeAt W X113 (0) [.bool r106.n, .slice r106.p r106.l r106.c, .bool r106.m, .slice r106.p2 r106.l2 r106.c2] from (H0.out.range (i := 4) (by rfl) 0 4)) (H0.out.offBlk (i := 4) (j := 0) (by rfl) (by rfl) (by decide) (by rfl))) Tryz.underlying29 S455.out ?_
  refine mC 18 (bs 52 524287) (frac17_any 3 2 _ (by decide) (by decide) (by decide)) ?_
  rintro e w461 ⟨r462, rfl, hr_, hx⟩
  have H463 := zH (H451.out.step hx)
  have D463 := zH (Dig.of_ext hx)
  have K465 := zH (K453.out.trans (Fr.of_ext hx))
  have S467 := zH (show Fr (fun kz => kz = X38) W w461 from S455.out.trans (Fr.of_ext hx))
  have R462 := zH hr_
  have B462 := zH (rl_qq 3 2 (by decide) (by decide))
  clear hr_
  clear hx
  refine zm S467.out ?_
  have DD469 := zH (((DD450.out.trans D451.out).trans D463.out))
  refine mC 19 (bs 52 1048575) (same17_any r106 r462 (((3 : Int) : Rat) / ((2 : Int) : Rat)) 8 _ (RW414.out.dig DD469.out) R462.out B462.out (by decide)) ?_
  rintro e w468 ⟨rfl, hx⟩
  have H470 := zH (H463.out.step hx)
  have D470 := zH (Dig.of_ext hx)
  have K472 := zH (K465.out.trans (Fr.of_ext hx))
  have S474 := zH (show Fr (fun kz => kz = X38) W w468 from S467.out.trans (Fr.of_ext hx))
  clear hx
  refine zm S474.out ?_
  refine zx 20 (bs 52 2097151) (.bool true) S474.out ?_
  refine mX 21 (bs 52 4194303) (.bool true) S474.out ?_
  refine zr 22 (bs 52 8388607) X118 (0) [.bool s106.n, .slice s106.p s106.l s106.c, .bool s106.m, .slice s106.p2 s106.l2 s106.c2] (fun x hx => Fr.range hx (show World.rangeAt W X118 (0) [.bool s106.n, .slice s106.p s106.l s106.c, .bool s106.m, .slice s106.p2 s106.l2 s106.c2] from (H0.out.range (i := 5) (by rfl) 0 4)) (H0.out.offBlk (i := 5) (j := 0) (by rfl) (by rfl) (by decide) (by rfl))) Tryz.underlying29 S474.out ?_
  refine mC 23 (bs 52 16777215) (frac17_any 1 2 _ (by decide) (by decide) (by decide)) ?_
  rintro e w477 ⟨r478, rfl, hr_, hx⟩
  have H479 := zH (H470.out.step hx)
  have D479 := zH (Dig.of_ext hx)
  have K481 := zH (K472.out.trans (Fr.of_ext hx))
  have S483 := zH (show Fr (fun kz => kz = X38) W w477 from S474.out.trans (Fr.of_ext hx))
  have R478 := zH hr_
  have B478 := zH (rl_qq 1 2 (by decide) (by decide))
  clear hr_
  clear hx
  refine zm S483.out ?_
  have DD485 := zH (((DD469.out.trans D470.out).trans D479.out))
  refine mC 24 (bs 52 33554431) (same17_any s106 r478 (((1 : Int) : Rat) / ((2 : Int) : Rat)) 8 _ (RW416.out.dig DD485.out) R478.out B478.out (by decide)) ?_
  rintro e w484 ⟨rfl, hx⟩
  have H486 := zH (H479.out.step hx)
  have D486 := zH (Dig.of_ext hx)
  have K488 := zH (K481.out.trans (Fr.of_ext hx))
  have S490 := zH (show Fr (fun kz => kz = X38) W w484 from S483.out.trans (Fr.of_ext hx))
  clear hx
  refine zm S490.out ?_
  refine zx 25 (bs 52 67108863) (.bool true) S490.out ?_
  refine zx 26 (bs 52 134217727) (.bool true) S490.out ?_
  refine md_ld1 (g := X167) (o := 0) (v := .int .i64 2) (i := 27) (listed' := (bs 52 268435455)) (by rfl) (by kernel_rfl) (by kernel_rfl) (by kernel_rfl) (by intro _ _ _ h; exact h) (by rfl) (fun x hx => Fr.cell hx (show World.cell? W ⟨X167, 0, none⟩ = some (.int .i64 2) from cell_of_range (H0.out.range (i := 9) (by rfl) 0 1)) (H0.out.offBlk (i := 9) (j := 0) (by rfl) (by rfl) (by decide) (by rfl))) (by intro x hq; go_simp <;> with_reducible rfl) S490.out (by kernel_rfl) ?_
  try simp only [Act.put, zA, zB, zC]
  refine zu 28 (bs 52 536870911) (v := .bool true) S490.out ?_ (hv := by intro w hSw; exact ezq (e := (dec_t (by omega))))
  refine zx 29 (bs 52 1073741823) (.bool true) S490.out ?_
  refine zx 30 (bs 52 2147483647) (.bool true) S490.out ?_
  refine md_ld1 (g := X201) (o := 0) (v := .bool true) (i := 31) (listed' := (bs 52 4294967295)) (by rfl) (by kernel_rfl) (by kernel_rfl) (by kernel_rfl) (by intro _ _ _ h; exact h) (by rfl) (fun x hx => Fr.cell hx (show World.cell? W ⟨X201, 0, none⟩ = some (.bool true) from cell_of_range (H0.out.range (i := 11) (by rfl) 0 1)) (H0.out.offBlk (i := 11) (j := 0) (by rfl) (by rfl) (by decide) (by rfl))) (by intro x hq; go_simp <;> with_reducible rfl) S490.out (by kernel_rfl) ?_
  try simp only [Act.put, zA, zB, zC]
  refine zx 32 (bs 52 8589934591) (.bool true) S490.out ?_
  refine mX 33 (bs 52 17179869183) (.bool true) S490.out ?_
  refine zr 34 (bs 52 34359738367) X196 (0) [.bool r188.n, .slice r188.p r188.l r188.c, .bool r188.m, .slice r188.p2 r188.l2 r188.c2] (fun x hx => Fr.range hx (show World.rangeAt W X196 (0) [.bool r188.n, .slice r188.p r188.l r188.c, .bool r188.m, .slice r188.p2 r188.l2 r188.c2] from (H0.out.range (i := 10) (by rfl) 0 4)) (H0.out.offBlk (i := 10) (j := 0) (by rfl) (by rfl) (by decide) (by rfl))) Tryz.underlying29 S490.out ?_
  refine mC 35 (bs 52 68719476735) (frac17_any 1 2 _ (by decide) (by decide) (by decide)) ?_
  rintro e w498 ⟨r499, rfl, hr_, hx⟩
  have H500 := zH (H486.out.step hx)
  have D500 := zH (Dig.of_ext hx)
  have K502 := zH (K488.out.trans (Fr.of_ext hx))
  have S504 := zH (show Fr (fun kz => kz = X38) W w498 from S490.out.trans (Fr.of_ext hx))
  have R499 := zH hr_
  have B499 := zH (rl_qq 1 2 (by decide) (by decide))
  clear hr_
  clear hx
  refine zm S504.out ?_
  have DD506 := zH (((DD485.out.trans D486.out).trans D500.out))
  refine mC 36 (bs 52 137438953471) (same17_any r188 r499 (((1 : Int) : Rat) / ((2 : Int) : Rat)) 8 _ (RW417.out.dig DD506.out) R499.out B499.out (by decide)) ?_
  rintro e w505 ⟨rfl, hx⟩
  have H507 := zH (H500.out.step hx)
  have D507 := zH (Dig.of_ext hx)
  have K509 := zH (K502.out.trans (Fr.of_ext hx))
  have S511 := zH (show Fr (fun kz => kz = X38) W w505 from S504.out.trans (Fr.of_ext hx))
  clear hx
  refine zm S511.out ?_
  refine zx 37 (bs 52 274877906943) (.bool true) S511.out ?_
  refine zx 38 (bs 52 549755813887) (.bool true) S511.out ?_
  refine md_ld1 (g := X236) (o := 0) (v := .bool true) (i := 39) (listed' := (bs 52 1099511627775)) (by rfl) (by kernel_rfl) (by kernel_rfl) (by kernel_rfl) (by intro _ _ _ h; exact h) (by rfl) (fun x hx => Fr.cell hx (show World.cell? W ⟨X236, 0, none⟩ = some (.bool true) from cell_of_range (H0.out.range (i := 13) (by rfl) 0 1)) (H0.out.offBlk (i := 13) (j := 0) (by rfl) (by rfl) (by decide) (by rfl))) (by intro x hq; go_simp <;> with_reducible rfl) S511.out (by kernel_rfl) ?_
  try simp only [Act.put, zA, zB, zC]
  refine zx 40 (bs 52 2199023255551) (.bool true) S511.out ?_
  refine mX 41 (bs 52 4398046511103) (.bool true) S511.out ?_
  refine zr 42 (bs 52 8796093022207) X231 (0) [.bool r223.n, .slice r223.p r223.l r223.c, .bool r223.m, .slice r223.p2 r223.l2 r223.c2] (fun x hx => Fr.range hx (show World.rangeAt W X231 (0) [.bool r223.n, .slice r223.p r223.l r223.c, .bool r223.m, .slice r223.p2 r223.l2 r223.c2] from (H0.out.range (i := 12) (by rfl) 0 4)) (H0.out.offBlk (i := 12) (j := 0) (by rfl) (by rfl) (by decide) (by rfl))) Tryz.underlying29 S511.out ?_
  refine mC 43 (bs 52 17592186044415) (frac17_any 3 1 _ (by decide) (by decide) (by decide)) ?_
  rintro e w516 ⟨r517, rfl, hr_, hx⟩
  have H518 := zH (H507.out.step hx)
  have D518 := zH (Dig.of_ext hx)
  have K520 := zH (K509.out.trans (Fr.of_ext hx))
  have S522 := zH (show Fr (fun kz => kz = X38) W w516 from S511.out.trans (Fr.of_ext hx))
  have R517 := zH hr_
  have B517 := zH (rl_qq 3 1 (by decide) (by decide))
  clear hr_
  clear hx
  refine zm S522.out ?_
  have DD524 := zH (((DD506.out.trans D507.out).trans D518.out))
  refine mC 44 (bs 52 35184372088831) (same17_any r223 r517 (((3 : Int) : Rat) / ((1 : Int) : Rat)) 8 _ (RW419.out.dig DD524.out) R517.out B517.out (by decide)) ?_
  rintro e w523 ⟨rfl, hx⟩
  have H525 := zH (H518.out.step hx)
  have K527 := zH (K520.out.trans (Fr.of_ext hx))
  have S529 := zH (show Fr (fun kz => kz = X38) W w523 from S522.out.trans (Fr.of_ext hx))
  clear hx
  refine zm S529.out ?_
  refine zx 45 (bs 52 70368744177663) (.bool true) S529.out ?_
  refine zx 46 (bs 52 140737488355327) (.bool true) S529.out ?_
  refine md_ld1 (g := X276) (o := 0) (v := .slice Al 2 cl) (i := 47) (listed' := (bs 52 281474976710655)) (by rfl) (by kernel_rfl) (by kernel_rfl) (by kernel_rfl) (by intro _ _ _ h; exact h) (by rfl) (fun x hx => Fr.cell hx (show World.cell? W ⟨X276, 0, none⟩ = some (.slice Al 2 cl) from cell_of_range (H0.out.range (i := 16) (by rfl) 0 1)) (H0.out.offBlk (i := 16) (j := 0) (by rfl) (by rfl) (by decide) (by rfl))) (by intro x hq; go_simp <;> with_reducible rfl) S529.out (by kernel_rfl) ?_
  try simp only [Act.put, zA, zB, zC]
  refine zx 48 (bs 52 562949953421311) (.int .i64 2) S529.out ?_
  refine zu 49 (bs 52 1125899906842623) (v := .bool true) S529.out ?_ (hv := by intro w hSw; exact ezq (e := (dec_t (by omega))))
  refine zx 50 (bs 52 2251799813685247) (.bool true) S529.out ?_
  refine md_st1 (i := 51) (listed' := (bs 52 4503599627370495)) (by rfl) (by kernel_rfl) (by rfl) (by kernel_rfl) _ _ _ (by rfl) H525.out (ix := 0) (by rfl) 0 (.bool true) (by rfl) (by rfl) (by simp) (by kernel_rfl) (by simp [Value.cells]) (by simp [Value.oneCell']) (by simp [NoUL]) ?_
  intro w535 hh hd ho
  have H536 := hN hh
  have K538 := zH (K527.out.trans_new ho (fun j hj => .inl (by injection hj with hj; exact hj.symm)))
  have S539 := zH (show Fr (fun kz => kz = X38) W w535 from Fr.trans_new S529.out ho (fun j hj => .inl (by simpa using hj.symm)))
  clear hh hd ho
  refine ⟨S539.out, ?_⟩
  (try simp only [Act.put])
  refine wpAnyH_done (by kernel_rfl) ?_ _
  gi_wp2
  have hkx := K538.out
  refine ⟨KeepsFrom.of_fr hkx (fun k_ hk_ o_ ho_ => H0.out.cells (i := 0) (by rfl) (by rw [show k_ = X38 from hk_]; rfl) o_ ho_), ?_⟩
  rw [hJx]
  exact ⟨rfl, H536.out.blk (i := 0) (by rfl), H536.out.ext⟩
 case done =>
  rintro D xs W hD hxs hi hK
  rw [hJ0] at hi
  obtain ⟨rfl, _⟩ := hi
  exact absurd hxs (by decide)
 case stop =>
  rintro D c pre W hD hp hi hK
  rw [hJx] at hi
  obtain ⟨rfl, h1, h2⟩ := hi
  refine wpIn_wide.2 ?_
  go_wp2_with fail
  refine ⟨by simp, .inl ⟨_, _, rfl, run_takeDeferred hK, ?_⟩⟩
  refine ⟨_, results_cell1 rfl rfl (loadVar_bool (h1.kept (grownBy_putObj' W D (.deferred none)) (fun k hk => by injection hk with hk; subst hk; exact ⟨_, hK, rfl⟩))), rfl, Ext.grown h2 (grownBy_putObj' W D (.deferred none)) (fun k hk => by injection hk with hk; subst hk; exact Nat.le_trans HWS.out hD)⟩



def LineRet (q : (Int × Int) × Int) (w : World) (e : Ending) (w' : World) : Prop :=
  ((∃ r s : RV, q.2 = 1 ∧ e = .returned (.tuple #[.agg #[.bool r.n, .slice r.p r.l r.c, .bool r.m, .slice r.p2 r.l2 r.c2], .agg #[.bool s.n, .slice s.p s.l s.c, .bool s.m, .slice s.p2 s.l2 s.c2], .int .i64 1]) ∧ r.Is w' (((q.1.1 : Int)) : Rat) ∧ s.Is w' (((q.1.2 : Int)) : Rat)) ∨
    (q.2 ≠ 1 ∧ e = .returned (.tuple #[.agg z4, .agg z4, .int .i64 q.2]))) ∧ Ext w w'
theorem LineRet.yes {q : (Int × Int) × Int} {w w' : World} {e : Ending} (h : LineRet q w e w') (hc : q.2 = 1) : ∃ r s : RV, e = .returned (.tuple #[.agg #[.bool r.n, .slice r.p r.l r.c, .bool r.m, .slice r.p2 r.l2 r.c2], .agg #[.bool s.n, .slice s.p s.l s.c, .bool s.m, .slice s.p2 s.l2 s.c2], .int .i64 1]) ∧ r.Is w' (((q.1.1 : Int)) : Rat) ∧ s.Is w' (((q.1.2 : Int)) : Rat) ∧ Ext w w' := by
  obtain ⟨⟨r, s, _, h1, h2, h3⟩ | ⟨h1, _⟩, hx⟩ := h
  · exact ⟨r, s, h1, h2, h3, hx⟩
  exact absurd hc h1
theorem LineRet.no {q : (Int × Int) × Int} {w w' : World} {e : Ending} (h : LineRet q w e w') (hc : ¬ q.2 = 1) : e = .returned (.tuple #[.agg z4, .agg z4, .int .i64 q.2]) ∧ Ext w w' := by
  obtain ⟨⟨r, s, h0, h1, h2, h3⟩ | ⟨_, h1⟩, hx⟩ := h
  · exact absurd h0 hc
  exact ⟨h1, hx⟩



theorem yat_ref {a b : Int × Int} {x : Int} : (a.2 : Rat) + (((b.2 - a.2) * (x - a.1) : Int) : Rat) / ((b.1 - a.1 : Int) : Rat) = yatQ a b x := by
  unfold yatQ
  congr 1
  rw [Rat.intCast_mul, Rat.div_def, Rat.div_def, Rat.mul_comm ((b.2 - a.2 : Int) : Rat), Rat.mul_assoc, Rat.mul_assoc, Rat.mul_comm ((b.2 - a.2 : Int) : Rat)]
theorem xat_ref {a b : Int × Int} {y : Rat} : (a.1 : Rat) + ((b.1 - a.1 : Int) : Rat) / ((b.2 - a.2 : Int) : Rat) * (y - (a.2 : Rat)) = xatQ a b y := by
  unfold xatQ
  congr 1
  rw [Rat.div_def, Rat.div_def, Rat.intCast_one, Rat.one_mul, Rat.mul_comm, Rat.mul_comm ((b.1 - a.1 : Int) : Rat), Rat.mul_assoc]
set_option maxRecDepth 20000 in
set_option maxHeartbeats 4000000 in
theorem ryat_any (a b : Int × Int) (x : Int) (w : World) (hx0 : -9223372036854775808 ≤ x ∧ x ≤ 9223372036854775807) :
  Calls Tryz.prog 6 #[.agg #[.int .i64 a.1, .int .i64 a.2], .agg #[.int .i64 b.1, .int .i64 b.2], .int .i64 x] w (AtRet (yatC a b x) (yatQ a b x) w) := by
 go_enter Tryz.func6, Tryz.ntmps6
 have H0 := zH (Hp.start w)
 go_upto_region 0 with fail
 refine wp_region_lit ?_
 refine aA' 23 [.int .i64 a.1, .int .i64 a.2] H0.out ?_
 intro X1 w2 H3 _
 refine aA' 23 [.int .i64 b.1, .int .i64 b.2] H3.out ?_
 intro X6 w7 H8 _
 refine aA' 29 rz H8.out ?_
 intro X11 w12 H13 _
 refine zq (.bool false) ?_
 by_cases c17 : okPt a.1 a.2 = true
 ·have VA := zH c17
  clear c17
  by_cases c18 : okPt b.1 b.2 = true
  ·have VB := zH c18
   clear c18
   have oa := okP_out (p := a) VA.out
   have ob := okP_out (p := b) VB.out
   by_cases c19 : a.1 = b.1
   ·have C1 := zH c19
    clear c19
    go_upto_region 1 with fail
    refine wp_region_lit ?_
    refine zd X1 (0) [.int .i64 a.1, .int .i64 a.2] (H13.out.range (i := 0) (by rfl) 0 2) Tryz.underlying23 ?_
    refine zc (rvalid_any a.1 a.2 _) ?_
    rintro e w20 ⟨rfl, hx⟩
    have H21 := zH (H13.out.step hx)
    clear hx
    refine ⟨.bool true, by rw [VA.out], ?_⟩
    try simp only [Act.put, zA, zB, zC]
    refine zI3 H21.out (.bool false) (.bool false) _ ?_
    refine zc (rvalid_any b.1 b.2 _) ?_
    rintro e w25 ⟨rfl, hx⟩
    have H26 := zH (H21.out.step hx)
    clear hx
    refine ⟨.bool true, by rw [VB.out], ?_⟩
    try simp only [Act.put, zA, zB, zC]
    refine zI7 H26.out (.bool false) (.bool false) (.bool false) _ _ _ _ ?_
    refine zp (w' := w25) (.bool true) (by exact ezq (e := (dec_t C1.out))) ?_
    refine zI2 (Hp.start _) (.bool true) (.bool true) ?_
    with_reducible refine mv_skip ?_ ?_
    ·rfl
    try simp only [Act.put, zA, zB, zC]
    with_reducible refine mv_skip ?_ ?_
    ·rfl
    try simp only [Act.put, zA, zB, zC]
    with_reducible refine mv_skip ?_ ?_
    ·rfl
    try simp only [Act.put, zA, zB, zC]
    with_reducible refine mv_skip ?_ ?_
    ·rfl
    try simp only [Act.put, zA, zB, zC]
    with_reducible refine mv_skip ?_ ?_
    ·rfl
    try simp only [Act.put, zA, zB, zC]
    with_reducible refine mv_skip ?_ ?_
    ·rfl
    try simp only [Act.put, zA, zB, zC]
    with_reducible refine mv_skip ?_ ?_
    ·rfl
    try simp only [Act.put, zA, zB, zC]
    refine zI2 (Hp.start _) (.bool true) (.bool true) ?_
    with_reducible refine mv_skip ?_ ?_
    ·rfl
    try simp only [Act.put, zA, zB, zC]
    with_reducible refine mv_skip ?_ ?_
    ·rfl
    try simp only [Act.put, zA, zB, zC]
    with_reducible refine mv_skip ?_ ?_
    ·rfl
    try simp only [Act.put, zA, zB, zC]
    with_reducible refine mv_skip ?_ ?_
    ·rfl
    try simp only [Act.put, zA, zB, zC]
    with_reducible refine mv_skip ?_ ?_
    ·rfl
    try simp only [Act.put, zA, zB, zC]
    with_reducible refine mv_skip ?_ ?_
    ·rfl
    try simp only [Act.put, zA, zB, zC]
    with_reducible refine mv_skip ?_ ?_
    ·rfl
    try simp only [Act.put, zA, zB, zC]
    refine zq (.bool true) ?_
    go_upto_region 2 with fail
    refine wp_region_lit ?_
    refine zq (.agg z4) ?_
    refine aS' 2 rz H26.out ?_
    intro w40 H41 _
    refine zq (.bool false) ?_
    go_wp2_with fail
    refine bodyPost_ret (v := .tuple #[.agg z4, .bool false]) ?_ rfl ⟨.inr ⟨fun h => h.2.2.1 C1.out, rfl⟩, H41.out.ext⟩
    exact results_c1t1 rfl rfl ((H41.out.blk (i := 2) (by rfl)).loadVar rfl rfl (by rfl)) rfl
   have C1 := zH c19
   clear c19
   by_cases c44 : x < min a.1 b.1
   ·have C2 := zH c44
    clear c44
    go_upto_region 1 with fail
    refine wp_region_lit ?_
    refine zd X1 (0) [.int .i64 a.1, .int .i64 a.2] (H13.out.range (i := 0) (by rfl) 0 2) Tryz.underlying23 ?_
    refine zc (rvalid_any a.1 a.2 _) ?_
    rintro e w45 ⟨rfl, hx⟩
    have H46 := zH (H13.out.step hx)
    clear hx
    refine ⟨.bool true, by rw [VA.out], ?_⟩
    try simp only [Act.put, zA, zB, zC]
    refine zI3 H46.out (.bool false) (.bool false) _ ?_
    refine zc (rvalid_any b.1 b.2 _) ?_
    rintro e w50 ⟨rfl, hx⟩
    have H51 := zH (H46.out.step hx)
    clear hx
    refine ⟨.bool true, by rw [VB.out], ?_⟩
    try simp only [Act.put, zA, zB, zC]
    refine zI7 H51.out (.bool false) (.bool false) (.bool false) _ _ _ _ ?_
    refine zp (w' := w50) (.bool false) (by exact ezq (e := (dec_f C1.out))) ?_
    refine zI8 H51.out (.bool false) (.bool false) (.int .i64 x) _ _ _ _ (.int .i64 (min a.1 b.1)) ?_
    refine zp (w' := w50) (.bool true) (by exact ezl (e := (dec_t C2.out))) ?_
    refine zI2 (Hp.start _) (.bool true) (.bool true) ?_
    with_reducible refine mv_skip ?_ ?_
    ·rfl
    try simp only [Act.put, zA, zB, zC]
    with_reducible refine mv_skip ?_ ?_
    ·rfl
    try simp only [Act.put, zA, zB, zC]
    with_reducible refine mv_skip ?_ ?_
    ·rfl
    try simp only [Act.put, zA, zB, zC]
    with_reducible refine mv_skip ?_ ?_
    ·rfl
    try simp only [Act.put, zA, zB, zC]
    with_reducible refine mv_skip ?_ ?_
    ·rfl
    try simp only [Act.put, zA, zB, zC]
    with_reducible refine mv_skip ?_ ?_
    ·rfl
    try simp only [Act.put, zA, zB, zC]
    with_reducible refine mv_skip ?_ ?_
    ·rfl
    try simp only [Act.put, zA, zB, zC]
    refine zq (.bool true) ?_
    go_upto_region 2 with fail
    refine wp_region_lit ?_
    refine zq (.agg z4) ?_
    refine aS' 2 rz H51.out ?_
    intro w70 H71 _
    refine zq (.bool false) ?_
    go_wp2_with fail
    refine bodyPost_ret (v := .tuple #[.agg z4, .bool false]) ?_ rfl ⟨.inr ⟨fun h => by have h1 := h.2.2.2.1; have h2 := C2.out; omega, rfl⟩, H71.out.ext⟩
    exact results_c1t1 rfl rfl ((H71.out.blk (i := 2) (by rfl)).loadVar rfl rfl (by rfl)) rfl
   have C2 := zH c44
   clear c44
   by_cases c74 : max a.1 b.1 < x
   ·have C3 := zH c74
    clear c74
    go_upto_region 1 with fail
    refine wp_region_lit ?_
    refine zd X1 (0) [.int .i64 a.1, .int .i64 a.2] (H13.out.range (i := 0) (by rfl) 0 2) Tryz.underlying23 ?_
    refine zc (rvalid_any a.1 a.2 _) ?_
    rintro e w75 ⟨rfl, hx⟩
    have H76 := zH (H13.out.step hx)
    clear hx
    refine ⟨.bool true, by rw [VA.out], ?_⟩
    try simp only [Act.put, zA, zB, zC]
    refine zI3 H76.out (.bool false) (.bool false) _ ?_
    refine zc (rvalid_any b.1 b.2 _) ?_
    rintro e w80 ⟨rfl, hx⟩
    have H81 := zH (H76.out.step hx)
    clear hx
    refine ⟨.bool true, by rw [VB.out], ?_⟩
    try simp only [Act.put, zA, zB, zC]
    refine zI7 H81.out (.bool false) (.bool false) (.bool false) _ _ _ _ ?_
    refine zp (w' := w80) (.bool false) (by exact ezq (e := (dec_f C1.out))) ?_
    refine zI8 H81.out (.bool false) (.bool false) (.int .i64 x) _ _ _ _ (.int .i64 (min a.1 b.1)) ?_
    refine zp (w' := w80) (.bool false) (by exact ezl (e := (dec_f C2.out))) ?_
    refine zI8 H81.out (.bool false) (.bool false) (.int .i64 x) _ _ _ _ (.int .i64 (max a.1 b.1)) ?_
    refine zp (w' := w80) (.bool true) (by exact ezg (e := (dec_t C3.out))) ?_
    refine zq (.bool true) ?_
    go_upto_region 2 with fail
    refine wp_region_lit ?_
    refine zq (.agg z4) ?_
    refine aS' 2 rz H81.out ?_
    intro w105 H106 _
    refine zq (.bool false) ?_
    go_wp2_with fail
    refine bodyPost_ret (v := .tuple #[.agg z4, .bool false]) ?_ rfl ⟨.inr ⟨fun h => by have h1 := h.2.2.2.2; have h2 := C3.out; omega, rfl⟩, H106.out.ext⟩
    exact results_c1t1 rfl rfl ((H106.out.blk (i := 2) (by rfl)).loadVar rfl rfl (by rfl)) rfl
   have C3 := zH c74
   clear c74
   go_upto_region 1 with fail
   refine wp_region_lit ?_
   refine zd X1 (0) [.int .i64 a.1, .int .i64 a.2] (H13.out.range (i := 0) (by rfl) 0 2) Tryz.underlying23 ?_
   refine zc (rvalid_any a.1 a.2 _) ?_
   rintro e w109 ⟨rfl, hx⟩
   have H110 := zH (H13.out.step hx)
   clear hx
   refine ⟨.bool true, by rw [VA.out], ?_⟩
   try simp only [Act.put, zA, zB, zC]
   refine zI3 H110.out (.bool false) (.bool false) _ ?_
   refine zc (rvalid_any b.1 b.2 _) ?_
   rintro e w114 ⟨rfl, hx⟩
   have H115 := zH (H110.out.step hx)
   clear hx
   refine ⟨.bool true, by rw [VB.out], ?_⟩
   try simp only [Act.put, zA, zB, zC]
   refine zI7 H115.out (.bool false) (.bool false) (.bool false) _ _ _ _ ?_
   refine zp (w' := w114) (.bool false) (by exact ezq (e := (dec_f C1.out))) ?_
   refine zI8 H115.out (.bool false) (.bool false) (.int .i64 x) _ _ _ _ (.int .i64 (min a.1 b.1)) ?_
   refine zp (w' := w114) (.bool false) (by exact ezl (e := (dec_f C2.out))) ?_
   refine zI8 H115.out (.bool false) (.bool false) (.int .i64 x) _ _ _ _ (.int .i64 (max a.1 b.1)) ?_
   refine zp (w' := w114) (.bool false) (by exact ezg (e := (dec_f C3.out))) ?_
   refine zq (.bool false) ?_
   have hnz : b.1 - a.1 ≠ 0 := fun h => C1.out (by omega)
   have hxb : -1048576 ≤ x ∧ x ≤ 1048576 := by have h2 := C2.out; have h3 := C3.out; omega
   have mb := mul_bd (a := b.2 - a.2) (b := x - a.1) (by omega) (by omega)
   go_upto_region 3 with fail
   refine wp_region_lit ?_
   refine zI4 H115.out _ _ _ _ ?_
   refine zp (w' := w114) (.int .i64 (b.2 - a.2)) (by exact ez2 (by omega)) ?_
   refine zI3 H115.out (.int .i64 x) _ _ ?_
   refine zp (w' := w114) (.int .i64 (x - a.1)) (by exact ez2 (by omega)) ?_
   refine zp (w' := w114) (.int .i64 ((b.2 - a.2) * (x - a.1))) (by exact ez3 (by omega)) ?_
   refine zI4 H115.out _ _ _ _ ?_
   refine zp (w' := w114) (.int .i64 (b.1 - a.1)) (by exact ez2 (by omega)) ?_
   refine zc (q03FromInts ((b.2 - a.2) * (x - a.1)) (b.1 - a.1) _ (by omega) (by omega) (by omega) (by omega) (by omega)) ?_
   rintro e w148 ⟨c_, rfl, hc_, hx⟩
   have H150 := zH (H115.out.step hx)
   obtain ⟨r149, rfl, hr_⟩ := hc_
   have R149 := zH hr_
   have B149 := zH (rl_qq ((b.2 - a.2) * (x - a.1)) (b.1 - a.1) ⟨(by omega), (by omega)⟩ ⟨(by omega), (by omega)⟩)
   clear hr_
   clear hx
   refine zn ?_
   refine zI3 (Hp.start _) _ _ _ ?_
   refine aA' 29 rz H150.out ?_
   intro X155 w156 H157 D157
   refine aS' 3 (rc r149) H157.out ?_
   intro w160 H161 D161
   refine zq (.int .i64 0) ?_
   go_upto_region 4 with fail
   refine wp_region_held_drew (S := fun x => Fr (fun kz => kz = X11) w160 x) (by kernel_rfl) (Fr.of_ext zb) (fun _ => ?_)
   have H164 := zH (H161.out.step (Ext.refl w160).drew)
   have D164 := zH (Dig.of_ext (w := w160) zb)
   refine zx 0 (bs 7 1) (.pointer (some ⟨X1, 1, none⟩)) (Fr.of_ext zb) ?_
   refine md_ld1 (g := X1) (o := 1) (v := .int .i64 a.2) (i := 1) (listed' := (bs 7 3)) (by rfl) (by kernel_rfl) (by kernel_rfl) (by kernel_rfl) (by intro _ _ _ h; exact h) (by rfl) (fun x hx => Fr.cell hx (show World.cell? w160 ⟨X1, 1, none⟩ = some (.int .i64 a.2) from cell_of_range (H161.out.range (i := 0) (by rfl) 1 1)) (H161.out.offBlk (i := 0) (j := 2) (by rfl) (by rfl) (by decide) (by rfl))) (by intro x hq; go_simp <;> with_reducible rfl) (Fr.of_ext zb) (by kernel_rfl) ?_
   refine zr 3 (bs 7 11) X155 (0) [.bool r149.n, .slice r149.p r149.l r149.c, .bool r149.m, .slice r149.p2 r149.l2 r149.c2] (fun x hx => Fr.range hx (show World.rangeAt w160 X155 (0) [.bool r149.n, .slice r149.p r149.l r149.c, .bool r149.m, .slice r149.p2 r149.l2 r149.c2] from (H161.out.range (i := 3) (by rfl) 0 4)) (H161.out.offBlk (i := 3) (j := 2) (by rfl) (by rfl) (by decide) (by rfl))) Tryz.underlying29 (Fr.of_ext zb) ?_
   refine mC 2 (bs 7 15) (q03From a.2 _ (by omega) (by omega)) ?_
   rintro e w167 ⟨c_, rfl, hc_, hx⟩
   have H169 := zH (H164.out.step hx)
   have D169 := zH (show Dig w160.drew w167 from Dig.of_ext hx)
   have S172 := zH (show Fr (fun kz => kz = X11) w160 w167 from (Fr.of_ext zb).trans (Fr.of_ext hx))
   obtain ⟨r168, rfl, hr_⟩ := hc_
   have R168 := zH hr_
   have B168 := zH (rl_i64 a.2 (by omega) (by omega))
   clear hr_
   clear hx
   refine zm S172.out ?_
   have DD175 := zH ((((D157.out.trans D161.out).trans D164.out).trans D169.out))
   refine mC 4 (bs 7 31) (q03Add (L := 60000) (RV.Is.nin R168.out (Nat.le_trans B168.out (by omega))) (RV.Is.nin (R149.out.dig DD175.out) (Nat.le_trans B149.out (by omega))) (by omega)) ?_
   rintro e w173 ⟨c_, rfl, hc_, hx⟩
   have H176 := zH (H169.out.step hx)
   have S179 := zH (show Fr (fun kz => kz = X11) w160 w173 from S172.out.trans (Fr.of_ext hx))
   obtain ⟨r174, rfl, hr_⟩ := hc_
   have R174 := zH hr_
   clear hr_
   clear hx
   refine zm S179.out ?_
   refine md_st (i := 5) (listed' := (bs 7 63)) (by rfl) (by kernel_rfl) (by rfl) (by kernel_rfl) _ _ _ (by rfl) H176.out (ix := 2) (by rfl) 0 [.bool r174.n, .slice r174.p r174.l r174.c, .bool r174.m, .slice r174.p2 r174.l2 r174.c2] (by rfl) (by rfl) (by simp) (by kernel_rfl) (by simp [Value.oneCell']) (by simp [NoUL]) ?_
   intro w180 hh hd ho
   have H181 := hN hh
   have D181 := zH (hd)
   have S183 := zH (show Fr (fun kz => kz = X11) w160 w180 from Fr.trans_new S179.out ho (fun j hj => .inl (by simpa using hj.symm)))
   clear hh hd ho
   refine ⟨S183.out, ?_⟩
   (try simp only [Act.put])
   refine zx 6 (bs 7 127) (.bool true) S183.out ?_
   refine wpAnyH_done (by kernel_rfl) ?_ _
   go_wp2_with fail
   refine bodyPost_ret (v := .tuple #[.agg #[.bool r174.n, .slice r174.p r174.l r174.c, .bool r174.m, .slice r174.p2 r174.l2 r174.c2], .bool true]) ?_ rfl ⟨.inl ⟨r174, ⟨VA.out, VB.out, C1.out, by have h2 := C2.out; omega, by have h3 := C3.out; omega⟩, rfl, by rw [← yat_ref]; exact (R174.out.dig D181.out)⟩, H181.out.ext⟩
   exact results_c1t1 rfl rfl ((H181.out.blk (i := 2) (by rfl)).loadVar rfl rfl (by rfl)) rfl
  have VB := zH c18
  clear c18
  have Wb := zH (Bool.eq_false_iff.2 VB.out)
  go_upto_region 1 with fail
  refine wp_region_lit ?_
  refine zd X1 (0) [.int .i64 a.1, .int .i64 a.2] (H13.out.range (i := 0) (by rfl) 0 2) Tryz.underlying23 ?_
  refine zc (rvalid_any a.1 a.2 _) ?_
  rintro e w185 ⟨rfl, hx⟩
  have H186 := zH (H13.out.step hx)
  clear hx
  refine ⟨.bool true, by rw [VA.out], ?_⟩
  try simp only [Act.put, zA, zB, zC]
  refine zI3 H186.out (.bool false) (.bool false) _ ?_
  refine zc (rvalid_any b.1 b.2 _) ?_
  rintro e w190 ⟨rfl, hx⟩
  have H191 := zH (H186.out.step hx)
  clear hx
  refine ⟨.bool false, by rw [Wb.out], ?_⟩
  try simp only [Act.put, zA, zB, zC]
  refine zI3 (Hp.start _) (.bool true) (.bool true) (.bool true) ?_
  with_reducible refine mv_skip ?_ ?_
  ·rfl
  try simp only [Act.put, zA, zB, zC]
  with_reducible refine mv_skip ?_ ?_
  ·rfl
  try simp only [Act.put, zA, zB, zC]
  with_reducible refine mv_skip ?_ ?_
  ·rfl
  try simp only [Act.put, zA, zB, zC]
  with_reducible refine mv_skip ?_ ?_
  ·rfl
  try simp only [Act.put, zA, zB, zC]
  with_reducible refine mv_skip ?_ ?_
  ·rfl
  try simp only [Act.put, zA, zB, zC]
  refine zI2 (Hp.start _) (.bool true) (.bool true) ?_
  with_reducible refine mv_skip ?_ ?_
  ·rfl
  try simp only [Act.put, zA, zB, zC]
  with_reducible refine mv_skip ?_ ?_
  ·rfl
  try simp only [Act.put, zA, zB, zC]
  with_reducible refine mv_skip ?_ ?_
  ·rfl
  try simp only [Act.put, zA, zB, zC]
  with_reducible refine mv_skip ?_ ?_
  ·rfl
  try simp only [Act.put, zA, zB, zC]
  with_reducible refine mv_skip ?_ ?_
  ·rfl
  try simp only [Act.put, zA, zB, zC]
  with_reducible refine mv_skip ?_ ?_
  ·rfl
  try simp only [Act.put, zA, zB, zC]
  with_reducible refine mv_skip ?_ ?_
  ·rfl
  try simp only [Act.put, zA, zB, zC]
  refine zI2 (Hp.start _) (.bool true) (.bool true) ?_
  with_reducible refine mv_skip ?_ ?_
  ·rfl
  try simp only [Act.put, zA, zB, zC]
  with_reducible refine mv_skip ?_ ?_
  ·rfl
  try simp only [Act.put, zA, zB, zC]
  with_reducible refine mv_skip ?_ ?_
  ·rfl
  try simp only [Act.put, zA, zB, zC]
  with_reducible refine mv_skip ?_ ?_
  ·rfl
  try simp only [Act.put, zA, zB, zC]
  with_reducible refine mv_skip ?_ ?_
  ·rfl
  try simp only [Act.put, zA, zB, zC]
  with_reducible refine mv_skip ?_ ?_
  ·rfl
  try simp only [Act.put, zA, zB, zC]
  with_reducible refine mv_skip ?_ ?_
  ·rfl
  try simp only [Act.put, zA, zB, zC]
  refine zq (.bool true) ?_
  go_upto_region 2 with fail
  refine wp_region_lit ?_
  refine zq (.agg z4) ?_
  refine aS' 2 rz H191.out ?_
  intro w202 H203 _
  refine zq (.bool false) ?_
  go_wp2_with fail
  refine bodyPost_ret (v := .tuple #[.agg z4, .bool false]) ?_ rfl ⟨.inr ⟨fun h => VB.out h.2.1, rfl⟩, H203.out.ext⟩
  exact results_c1t1 rfl rfl ((H203.out.blk (i := 2) (by rfl)).loadVar rfl rfl (by rfl)) rfl
 have VA := zH c17
 clear c17
 have Wa := zH (Bool.eq_false_iff.2 VA.out)
 go_upto_region 1 with fail
 refine wp_region_lit ?_
 refine zd X1 (0) [.int .i64 a.1, .int .i64 a.2] (H13.out.range (i := 0) (by rfl) 0 2) Tryz.underlying23 ?_
 refine zc (rvalid_any a.1 a.2 _) ?_
 rintro e w206 ⟨rfl, hx⟩
 have H207 := zH (H13.out.step hx)
 clear hx
 refine ⟨.bool false, by rw [Wa.out], ?_⟩
 try simp only [Act.put, zA, zB, zC]
 refine qV (.bool true) ?_
 refine zq (.bool true) ?_
 with_reducible refine mv_skip ?_ ?_
 ·rfl
 try simp only [Act.put, zA, zB, zC]
 with_reducible refine mv_skip ?_ ?_
 ·rfl
 try simp only [Act.put, zA, zB, zC]
 with_reducible refine mv_skip ?_ ?_
 ·rfl
 try simp only [Act.put, zA, zB, zC]
 refine qV (.bool true) ?_
 refine zq (.bool true) ?_
 with_reducible refine mv_skip ?_ ?_
 ·rfl
 try simp only [Act.put, zA, zB, zC]
 with_reducible refine mv_skip ?_ ?_
 ·rfl
 try simp only [Act.put, zA, zB, zC]
 with_reducible refine mv_skip ?_ ?_
 ·rfl
 try simp only [Act.put, zA, zB, zC]
 with_reducible refine mv_skip ?_ ?_
 ·rfl
 try simp only [Act.put, zA, zB, zC]
 with_reducible refine mv_skip ?_ ?_
 ·rfl
 try simp only [Act.put, zA, zB, zC]
 refine qV (.bool true) ?_
 refine zq (.bool true) ?_
 with_reducible refine mv_skip ?_ ?_
 ·rfl
 try simp only [Act.put, zA, zB, zC]
 with_reducible refine mv_skip ?_ ?_
 ·rfl
 try simp only [Act.put, zA, zB, zC]
 with_reducible refine mv_skip ?_ ?_
 ·rfl
 try simp only [Act.put, zA, zB, zC]
 with_reducible refine mv_skip ?_ ?_
 ·rfl
 try simp only [Act.put, zA, zB, zC]
 with_reducible refine mv_skip ?_ ?_
 ·rfl
 try simp only [Act.put, zA, zB, zC]
 with_reducible refine mv_skip ?_ ?_
 ·rfl
 try simp only [Act.put, zA, zB, zC]
 with_reducible refine mv_skip ?_ ?_
 ·rfl
 try simp only [Act.put, zA, zB, zC]
 refine qV (.bool true) ?_
 refine zq (.bool true) ?_
 with_reducible refine mv_skip ?_ ?_
 ·rfl
 try simp only [Act.put, zA, zB, zC]
 with_reducible refine mv_skip ?_ ?_
 ·rfl
 try simp only [Act.put, zA, zB, zC]
 with_reducible refine mv_skip ?_ ?_
 ·rfl
 try simp only [Act.put, zA, zB, zC]
 with_reducible refine mv_skip ?_ ?_
 ·rfl
 try simp only [Act.put, zA, zB, zC]
 with_reducible refine mv_skip ?_ ?_
 ·rfl
 try simp only [Act.put, zA, zB, zC]
 with_reducible refine mv_skip ?_ ?_
 ·rfl
 try simp only [Act.put, zA, zB, zC]
 with_reducible refine mv_skip ?_ ?_
 ·rfl
 try simp only [Act.put, zA, zB, zC]
 refine zq (.bool true) ?_
 go_upto_region 2 with fail
 refine wp_region_lit ?_
 refine zq (.agg z4) ?_
 refine aS' 2 rz H207.out ?_
 intro w219 H220 _
 refine zq (.bool false) ?_
 go_wp2_with fail
 refine bodyPost_ret (v := .tuple #[.agg z4, .bool false]) ?_ rfl ⟨.inr ⟨fun h => VA.out h.1, rfl⟩, H220.out.ext⟩
 exact results_c1t1 rfl rfl ((H220.out.blk (i := 2) (by rfl)).loadVar rfl rfl (by rfl)) rfl
set_option maxRecDepth 20000 in
set_option maxHeartbeats 4000000 in
theorem rxatf_any (L : Nat) (a b : Int × Int) (ry : RV) (y : Rat) (w : World) (hy : ry.In L w y) (hL : 1 ≤ L ∧ L ≤ 2000) (ha : i64P a) (hb : i64P b) :
  Calls Tryz.prog 8 #[.agg #[.int .i64 a.1, .int .i64 a.2], .agg #[.int .i64 b.1, .int .i64 b.2], .agg #[.bool ry.n, .slice ry.p ry.l ry.c, .bool ry.m, .slice ry.p2 ry.l2 ry.c2]] w (AtRet (xatC a b y) (xatQ a b y) w) := by
 have HY := zH hy
 have oi := ha
 have oj := hb
 unfold i64P at oi oj
 clear hy ha hb
 go_enter Tryz.func8, Tryz.ntmps8
 have H0 := zH (Hp.start w)
 go_upto_region 0 with fail
 refine wp_region_lit ?_
 refine aA' 23 [.int .i64 a.1, .int .i64 a.2] H0.out ?_
 intro X223 w224 H225 _
 refine aA' 23 [.int .i64 b.1, .int .i64 b.2] H225.out ?_
 intro X228 w229 H230 _
 refine aA' 29 (rc ry) H230.out ?_
 intro X233 w234 H235 _
 refine aA' 29 rz H235.out ?_
 intro X238 w239 H240 _
 refine zq (.bool false) ?_
 by_cases c244 : okPt a.1 a.2 = true
 ·have VA := zH c244
  clear c244
  by_cases c245 : okPt b.1 b.2 = true
  ·have VB := zH c245
   clear c245
   have oa := okP_out (p := a) VA.out
   have ob := okP_out (p := b) VB.out
   by_cases c246 : a.2 = b.2
   ·have C1 := zH c246
    clear c246
    go_upto_region 1 with fail
    refine zy ?_
    have H247 := zH (H240.out.step (Ext.refl w239).drew)
    refine zg 0 (bs 37 1) X223 (0) [.int .i64 a.1, .int .i64 a.2] (H240.out.range (i := 0) (by rfl) 0 2) Tryz.underlying23 zb ?_
    refine mC 1 (bs 37 3) (rvalid_any a.1 a.2 _) ?_
    rintro e w249 ⟨rfl, hx⟩
    have H250 := zH (H247.out.step hx)
    have S252 := zH (zb.trans hx)
    clear hx
    refine ⟨.bool true, by rw [VA.out], S252.out, ?_⟩
    try simp only [Act.put, zA, zB, zC]
    refine zJ3 H240.out S252.out (bs 37 31) 2 3 4 (.bool false) (.bool false) _ ?_
    refine mC 5 (bs 37 63) (rvalid_any b.1 b.2 _) ?_
    rintro e w255 ⟨rfl, hx⟩
    have H256 := zH (H250.out.step hx)
    have S258 := zH (S252.out.trans hx)
    clear hx
    refine ⟨.bool true, by rw [VB.out], S258.out, ?_⟩
    try simp only [Act.put, zA, zB, zC]
    refine zJ7 H240.out S258.out (bs 37 8191) 6 7 8 9 10 11 12 (.bool false) (.bool false) (.bool false) _ _ _ _ ?_
    refine zu 13 (bs 37 16383) (v := .bool true) S258.out ?_ (hv := by intro w hSw; exact ezq (e := (dec_t C1.out)))
    refine zJ8 (Hp.start _) S258.out (bs 37 4194303) 14 15 16 17 18 19 20 21 (.bool true) (.bool true) _ _ _ _ _ _ ?_
    refine zJ8 (Hp.start _) S258.out (bs 37 1073741823) 22 23 24 25 26 27 28 29 _ _ _ (.bool true) (.bool true) _ _ _ ?_
    refine zJ7 (Hp.start _) S258.out (bs 37 137438953471) 30 31 32 33 34 35 36 _ _ _ _ _ _ (.bool true) ?_
    refine wpAnyH_done (by kernel_rfl) ?_ _
    go_upto_region 2 with fail
    refine wp_region_lit ?_
    refine zq (.agg z4) ?_
    refine aS' 3 rz H256.out ?_
    intro w271 H272 _
    refine zq (.bool false) ?_
    go_wp2_with fail
    refine bodyPost_ret (v := .tuple #[.agg z4, .bool false]) ?_ rfl ⟨.inr ⟨fun h => h.2.2.1 C1.out, rfl⟩, H272.out.ext⟩
    exact results_c1t1 rfl rfl ((H272.out.blk (i := 3) (by rfl)).loadVar rfl rfl (by rfl)) rfl
   have C1 := zH c246
   clear c246
   by_cases c275 : y < (((min a.2 b.2) : Int) : Rat)
   ·have C2 := zH c275
    clear c275
    go_upto_region 1 with fail
    refine zy ?_
    have H276 := zH (H240.out.step (Ext.refl w239).drew)
    refine zg 0 (bs 37 1) X223 (0) [.int .i64 a.1, .int .i64 a.2] (H240.out.range (i := 0) (by rfl) 0 2) Tryz.underlying23 zb ?_
    refine mC 1 (bs 37 3) (rvalid_any a.1 a.2 _) ?_
    rintro e w278 ⟨rfl, hx⟩
    have H279 := zH (H276.out.step hx)
    have S281 := zH (zb.trans hx)
    clear hx
    refine ⟨.bool true, by rw [VA.out], S281.out, ?_⟩
    try simp only [Act.put, zA, zB, zC]
    refine zJ3 H240.out S281.out (bs 37 31) 2 3 4 (.bool false) (.bool false) _ ?_
    refine mC 5 (bs 37 63) (rvalid_any b.1 b.2 _) ?_
    rintro e w284 ⟨rfl, hx⟩
    have H285 := zH (H279.out.step hx)
    have S287 := zH (S281.out.trans hx)
    clear hx
    refine ⟨.bool true, by rw [VB.out], S287.out, ?_⟩
    try simp only [Act.put, zA, zB, zC]
    refine zJ7 H240.out S287.out (bs 37 8191) 6 7 8 9 10 11 12 (.bool false) (.bool false) (.bool false) _ _ _ _ ?_
    refine zu 13 (bs 37 16383) (v := .bool false) S287.out ?_ (hv := by intro w hSw; exact ezq (e := (dec_f C1.out)))
    refine zJ8 H240.out S287.out (bs 37 4194303) 14 15 16 17 18 19 20 21 (.bool false) (.bool false) _ _ _ _ _ (.int .i64 (min a.2 b.2)) ?_
    refine mC 22 (bs 37 8388607) (q03From (min a.2 b.2) _ (by omega) (by omega)) ?_
    rintro e w299 ⟨c_, rfl, hc_, hx⟩
    have H301 := zH (H285.out.step hx)
    have S303 := zH (S287.out.trans hx)
    obtain ⟨r300, rfl, hr_⟩ := hc_
    have R300 := zH hr_
    have B300 := zH (rl_i64 (min a.2 b.2) (by omega) (by omega))
    clear hr_
    clear hx
    refine zm S303.out ?_
    refine mC 23 (bs 37 16777215) (q03Cmp (L := 60000) (RV.In.nin (RV.In.mono (HY.out.dig H301.out.dig0) (by omega))) (RV.Is.nin R300.out (Nat.le_trans B300.out (by omega))) (by omega)) ?_
    rintro e w304 ⟨rfl, hx⟩
    have H305 := zH (H301.out.step hx)
    have S307 := zH (S303.out.trans hx)
    clear hx
    refine zm S307.out ?_
    refine zu 24 (bs 37 33554431) (v := .bool true) S307.out ?_ (hv := by intro w hSw; exact ezl (e := (dec_t (rcmp_lt.2 C2.out))))
    refine zJ8 (Hp.start _) S307.out (bs 37 8589934591) 25 26 27 28 29 30 31 32 (.bool true) (.bool true) _ _ _ _ _ _ ?_
    refine zJ4 (Hp.start _) S307.out (bs 37 137438953471) 33 34 35 36 _ _ _ (.bool true) ?_
    refine wpAnyH_done (by kernel_rfl) ?_ _
    go_upto_region 2 with fail
    refine wp_region_lit ?_
    refine zq (.agg z4) ?_
    refine aS' 3 rz H305.out ?_
    intro w313 H314 _
    refine zq (.bool false) ?_
    go_wp2_with fail
    refine bodyPost_ret (v := .tuple #[.agg z4, .bool false]) ?_ rfl ⟨.inr ⟨fun h => Rat.not_lt.2 h.2.2.2.1 C2.out, rfl⟩, H314.out.ext⟩
    exact results_c1t1 rfl rfl ((H314.out.blk (i := 3) (by rfl)).loadVar rfl rfl (by rfl)) rfl
   have C2 := zH c275
   clear c275
   by_cases c317 : (((max a.2 b.2) : Int) : Rat) < y
   ·have C3 := zH c317
    clear c317
    go_upto_region 1 with fail
    refine zy ?_
    have H318 := zH (H240.out.step (Ext.refl w239).drew)
    refine zg 0 (bs 37 1) X223 (0) [.int .i64 a.1, .int .i64 a.2] (H240.out.range (i := 0) (by rfl) 0 2) Tryz.underlying23 zb ?_
    refine mC 1 (bs 37 3) (rvalid_any a.1 a.2 _) ?_
    rintro e w320 ⟨rfl, hx⟩
    have H321 := zH (H318.out.step hx)
    have S323 := zH (zb.trans hx)
    clear hx
    refine ⟨.bool true, by rw [VA.out], S323.out, ?_⟩
    try simp only [Act.put, zA, zB, zC]
    refine zJ3 H240.out S323.out (bs 37 31) 2 3 4 (.bool false) (.bool false) _ ?_
    refine mC 5 (bs 37 63) (rvalid_any b.1 b.2 _) ?_
    rintro e w326 ⟨rfl, hx⟩
    have H327 := zH (H321.out.step hx)
    have S329 := zH (S323.out.trans hx)
    clear hx
    refine ⟨.bool true, by rw [VB.out], S329.out, ?_⟩
    try simp only [Act.put, zA, zB, zC]
    refine zJ7 H240.out S329.out (bs 37 8191) 6 7 8 9 10 11 12 (.bool false) (.bool false) (.bool false) _ _ _ _ ?_
    refine zu 13 (bs 37 16383) (v := .bool false) S329.out ?_ (hv := by intro w hSw; exact ezq (e := (dec_f C1.out)))
    refine zJ8 H240.out S329.out (bs 37 4194303) 14 15 16 17 18 19 20 21 (.bool false) (.bool false) _ _ _ _ _ (.int .i64 (min a.2 b.2)) ?_
    refine mC 22 (bs 37 8388607) (q03From (min a.2 b.2) _ (by omega) (by omega)) ?_
    rintro e w341 ⟨c_, rfl, hc_, hx⟩
    have H343 := zH (H327.out.step hx)
    have S345 := zH (S329.out.trans hx)
    obtain ⟨r342, rfl, hr_⟩ := hc_
    have R342 := zH hr_
    have B342 := zH (rl_i64 (min a.2 b.2) (by omega) (by omega))
    clear hr_
    clear hx
    refine zm S345.out ?_
    refine mC 23 (bs 37 16777215) (q03Cmp (L := 60000) (RV.In.nin (RV.In.mono (HY.out.dig H343.out.dig0) (by omega))) (RV.Is.nin R342.out (Nat.le_trans B342.out (by omega))) (by omega)) ?_
    rintro e w346 ⟨rfl, hx⟩
    have H347 := zH (H343.out.step hx)
    have S349 := zH (S345.out.trans hx)
    clear hx
    refine zm S349.out ?_
    refine zu 24 (bs 37 33554431) (v := .bool false) S349.out ?_ (hv := by intro w hSw; exact ezl (e := (dec_f (fun hh => C2.out (rcmp_lt.1 hh)))))
    refine zJ8 H240.out S349.out (bs 37 8589934591) 25 26 27 28 29 30 31 32 (.bool false) (.bool false) _ _ _ _ _ (.int .i64 (max a.2 b.2)) ?_
    refine mC 33 (bs 37 17179869183) (q03From (max a.2 b.2) _ (by omega) (by omega)) ?_
    rintro e w356 ⟨c_, rfl, hc_, hx⟩
    have H358 := zH (H347.out.step hx)
    have S360 := zH (S349.out.trans hx)
    obtain ⟨r357, rfl, hr_⟩ := hc_
    have R357 := zH hr_
    have B357 := zH (rl_i64 (max a.2 b.2) (by omega) (by omega))
    clear hr_
    clear hx
    refine zm S360.out ?_
    refine mC 34 (bs 37 34359738367) (q03Cmp (L := 60000) (RV.In.nin (RV.In.mono (HY.out.dig H358.out.dig0) (by omega))) (RV.Is.nin R357.out (Nat.le_trans B357.out (by omega))) (by omega)) ?_
    rintro e w361 ⟨rfl, hx⟩
    have H362 := zH (H358.out.step hx)
    have S364 := zH (S360.out.trans hx)
    clear hx
    refine zm S364.out ?_
    refine zu 35 (bs 37 68719476735) (v := .bool true) S364.out ?_ (hv := by intro w hSw; exact ezg (e := (dec_t (rcmp_gt.2 C3.out))))
    refine zx 36 (bs 37 137438953471) (.bool true) S364.out ?_
    refine wpAnyH_done (by kernel_rfl) ?_ _
    go_upto_region 2 with fail
    refine wp_region_lit ?_
    refine zq (.agg z4) ?_
    refine aS' 3 rz H362.out ?_
    intro w368 H369 _
    refine zq (.bool false) ?_
    go_wp2_with fail
    refine bodyPost_ret (v := .tuple #[.agg z4, .bool false]) ?_ rfl ⟨.inr ⟨fun h => Rat.not_lt.2 h.2.2.2.2 C3.out, rfl⟩, H369.out.ext⟩
    exact results_c1t1 rfl rfl ((H369.out.blk (i := 3) (by rfl)).loadVar rfl rfl (by rfl)) rfl
   have C3 := zH c317
   clear c317
   go_upto_region 1 with fail
   refine zy ?_
   have H372 := zH (H240.out.step (Ext.refl w239).drew)
   refine zg 0 (bs 37 1) X223 (0) [.int .i64 a.1, .int .i64 a.2] (H240.out.range (i := 0) (by rfl) 0 2) Tryz.underlying23 zb ?_
   refine mC 1 (bs 37 3) (rvalid_any a.1 a.2 _) ?_
   rintro e w374 ⟨rfl, hx⟩
   have H375 := zH (H372.out.step hx)
   have S377 := zH (zb.trans hx)
   clear hx
   refine ⟨.bool true, by rw [VA.out], S377.out, ?_⟩
   try simp only [Act.put, zA, zB, zC]
   refine zJ3 H240.out S377.out (bs 37 31) 2 3 4 (.bool false) (.bool false) _ ?_
   refine mC 5 (bs 37 63) (rvalid_any b.1 b.2 _) ?_
   rintro e w380 ⟨rfl, hx⟩
   have H381 := zH (H375.out.step hx)
   have S383 := zH (S377.out.trans hx)
   clear hx
   refine ⟨.bool true, by rw [VB.out], S383.out, ?_⟩
   try simp only [Act.put, zA, zB, zC]
   refine zJ7 H240.out S383.out (bs 37 8191) 6 7 8 9 10 11 12 (.bool false) (.bool false) (.bool false) _ _ _ _ ?_
   refine zu 13 (bs 37 16383) (v := .bool false) S383.out ?_ (hv := by intro w hSw; exact ezq (e := (dec_f C1.out)))
   refine zJ8 H240.out S383.out (bs 37 4194303) 14 15 16 17 18 19 20 21 (.bool false) (.bool false) _ _ _ _ _ (.int .i64 (min a.2 b.2)) ?_
   refine mC 22 (bs 37 8388607) (q03From (min a.2 b.2) _ (by omega) (by omega)) ?_
   rintro e w395 ⟨c_, rfl, hc_, hx⟩
   have H397 := zH (H381.out.step hx)
   have S399 := zH (S383.out.trans hx)
   obtain ⟨r396, rfl, hr_⟩ := hc_
   have R396 := zH hr_
   have B396 := zH (rl_i64 (min a.2 b.2) (by omega) (by omega))
   clear hr_
   clear hx
   refine zm S399.out ?_
   refine mC 23 (bs 37 16777215) (q03Cmp (L := 60000) (RV.In.nin (RV.In.mono (HY.out.dig H397.out.dig0) (by omega))) (RV.Is.nin R396.out (Nat.le_trans B396.out (by omega))) (by omega)) ?_
   rintro e w400 ⟨rfl, hx⟩
   have H401 := zH (H397.out.step hx)
   have S403 := zH (S399.out.trans hx)
   clear hx
   refine zm S403.out ?_
   refine zu 24 (bs 37 33554431) (v := .bool false) S403.out ?_ (hv := by intro w hSw; exact ezl (e := (dec_f (fun hh => C2.out (rcmp_lt.1 hh)))))
   refine zJ8 H240.out S403.out (bs 37 8589934591) 25 26 27 28 29 30 31 32 (.bool false) (.bool false) _ _ _ _ _ (.int .i64 (max a.2 b.2)) ?_
   refine mC 33 (bs 37 17179869183) (q03From (max a.2 b.2) _ (by omega) (by omega)) ?_
   rintro e w410 ⟨c_, rfl, hc_, hx⟩
   have H412 := zH (H401.out.step hx)
   have S414 := zH (S403.out.trans hx)
   obtain ⟨r411, rfl, hr_⟩ := hc_
   have R411 := zH hr_
   have B411 := zH (rl_i64 (max a.2 b.2) (by omega) (by omega))
   clear hr_
   clear hx
   refine zm S414.out ?_
   refine mC 34 (bs 37 34359738367) (q03Cmp (L := 60000) (RV.In.nin (RV.In.mono (HY.out.dig H412.out.dig0) (by omega))) (RV.Is.nin R411.out (Nat.le_trans B411.out (by omega))) (by omega)) ?_
   rintro e w415 ⟨rfl, hx⟩
   have H416 := zH (H412.out.step hx)
   have S418 := zH (S414.out.trans hx)
   clear hx
   refine zm S418.out ?_
   refine zu 35 (bs 37 68719476735) (v := .bool false) S418.out ?_ (hv := by intro w hSw; exact ezg (e := (dec_f (fun hh => C3.out (rcmp_gt.1 hh)))))
   refine zx 36 (bs 37 137438953471) (.bool false) S418.out ?_
   refine wpAnyH_done (by kernel_rfl) ?_ _
   have hnz : b.2 - a.2 ≠ 0 := fun h => C1.out (by omega)
   go_upto_region 3 with fail
   refine wp_region_lit ?_
   refine zI4 H416.out _ _ _ _ ?_
   refine zp (w' := w415) (.int .i64 (b.1 - a.1)) (by exact ez2 (by omega)) ?_
   refine zI4 H416.out _ _ _ _ ?_
   refine zp (w' := w415) (.int .i64 (b.2 - a.2)) (by exact ez2 (by omega)) ?_
   refine zc (q03FromInts (b.1 - a.1) (b.2 - a.2) _ (by omega) (by omega) (by omega) (by omega) (by omega)) ?_
   rintro e w427 ⟨c_, rfl, hc_, hx⟩
   have H429 := zH (H416.out.step hx)
   obtain ⟨r428, rfl, hr_⟩ := hc_
   have R428 := zH hr_
   have B428 := zH (rl_qq (b.1 - a.1) (b.2 - a.2) ⟨(by omega), (by omega)⟩ ⟨(by omega), (by omega)⟩)
   clear hr_
   clear hx
   refine zn ?_
   refine zI3 (Hp.start _) _ _ _ ?_
   refine aA' 29 rz H429.out ?_
   intro X434 w435 H436 D436
   refine aS' 4 (rc r428) H436.out ?_
   intro w439 H440 D440
   refine zq (.int .i64 0) ?_
   go_upto_region 4 with fail
   refine wp_region_held_drew (S := fun x => Fr (fun kz => kz = X238) w439 x) (by kernel_rfl) (Fr.of_ext zb) (fun _ => ?_)
   have H443 := zH (H440.out.step (Ext.refl w439).drew)
   have D443 := zH (Dig.of_ext (w := w439) zb)
   refine zx 0 (bs 13 1) (.pointer (some ⟨X223, 0, none⟩)) (Fr.of_ext zb) ?_
   refine md_ld1 (g := X223) (o := 0) (v := .int .i64 a.1) (i := 1) (listed' := (bs 13 3)) (by rfl) (by kernel_rfl) (by kernel_rfl) (by kernel_rfl) (by intro _ _ _ h; exact h) (by rfl) (fun x hx => Fr.cell hx (show World.cell? w439 ⟨X223, 0, none⟩ = some (.int .i64 a.1) from cell_of_range (H440.out.range (i := 0) (by rfl) 0 1)) (H440.out.offBlk (i := 0) (j := 3) (by rfl) (by rfl) (by decide) (by rfl))) (by intro x hq; go_simp <;> with_reducible rfl) (Fr.of_ext zb) (by kernel_rfl) ?_
   refine mR 3 (bs 13 11) X434 (0) [.bool r428.n, .slice r428.p r428.l r428.c, .bool r428.m, .slice r428.p2 r428.l2 r428.c2] (fun x hx => Fr.range hx (show World.rangeAt w439 X434 (0) [.bool r428.n, .slice r428.p r428.l r428.c, .bool r428.m, .slice r428.p2 r428.l2 r428.c2] from (H440.out.range (i := 4) (by rfl) 0 4)) (H440.out.offBlk (i := 4) (j := 3) (by rfl) (by rfl) (by decide) (by rfl))) Tryz.underlying29 (Fr.of_ext zb) ?_
   refine zr 4 (bs 13 27) X233 (0) [.bool ry.n, .slice ry.p ry.l ry.c, .bool ry.m, .slice ry.p2 ry.l2 ry.c2] (fun x hx => Fr.range hx (show World.rangeAt w439 X233 (0) [.bool ry.n, .slice ry.p ry.l ry.c, .bool ry.m, .slice ry.p2 ry.l2 ry.c2] from (H440.out.range (i := 2) (by rfl) 0 4)) (H440.out.offBlk (i := 2) (j := 3) (by rfl) (by rfl) (by decide) (by rfl))) Tryz.underlying29 (Fr.of_ext zb) ?_
   refine zx 5 (bs 13 59) (.pointer (some ⟨X223, 1, none⟩)) (Fr.of_ext zb) ?_
   refine md_ld1 (g := X223) (o := 1) (v := .int .i64 a.2) (i := 6) (listed' := (bs 13 123)) (by rfl) (by kernel_rfl) (by kernel_rfl) (by kernel_rfl) (by intro _ _ _ h; exact h) (by rfl) (fun x hx => Fr.cell hx (show World.cell? w439 ⟨X223, 1, none⟩ = some (.int .i64 a.2) from cell_of_range (H440.out.range (i := 0) (by rfl) 1 1)) (H440.out.offBlk (i := 0) (j := 3) (by rfl) (by rfl) (by decide) (by rfl))) (by intro x hq; go_simp <;> with_reducible rfl) (Fr.of_ext zb) (by kernel_rfl) ?_
   try simp only [Act.put, zA, zB, zC]
   refine mC 2 (bs 13 127) (q03From a.1 _ (by omega) (by omega)) ?_
   rintro e w447 ⟨c_, rfl, hc_, hx⟩
   have H449 := zH (H443.out.step hx)
   have D449 := zH (show Dig w439.drew w447 from Dig.of_ext hx)
   have S452 := zH (show Fr (fun kz => kz = X238) w439 w447 from (Fr.of_ext zb).trans (Fr.of_ext hx))
   obtain ⟨r448, rfl, hr_⟩ := hc_
   have R448 := zH hr_
   have B448 := zH (rl_i64 a.1 (by omega) (by omega))
   clear hr_
   clear hx
   refine zm S452.out ?_
   refine mC 7 (bs 13 255) (q03From a.2 _ (by omega) (by omega)) ?_
   rintro e w453 ⟨c_, rfl, hc_, hx⟩
   have H455 := zH (H449.out.step hx)
   have D455 := zH (Dig.of_ext hx)
   have S458 := zH (show Fr (fun kz => kz = X238) w439 w453 from S452.out.trans (Fr.of_ext hx))
   obtain ⟨r454, rfl, hr_⟩ := hc_
   have R454 := zH hr_
   have B454 := zH (rl_i64 a.2 (by omega) (by omega))
   clear hr_
   clear hx
   refine zm S458.out ?_
   refine mC 8 (bs 13 511) (q03Sub (L := 60000) (RV.In.nin (RV.In.mono (HY.out.dig H455.out.dig0) (by omega))) (RV.Is.nin R454.out (Nat.le_trans B454.out (by omega))) (by omega)) ?_
   rintro e w459 ⟨c_, rfl, hc_, hx⟩
   have H461 := zH (H455.out.step hx)
   have D461 := zH (Dig.of_ext hx)
   have S464 := zH (show Fr (fun kz => kz = X238) w439 w459 from S458.out.trans (Fr.of_ext hx))
   obtain ⟨r460, rfl, hr_⟩ := hc_
   have R460 := zH hr_
   clear hr_
   have B460 := zH (show Nm.rl (y - (((a.2) : Int) : Rat)) ≤ L + 2 + 1 from by have h1 := (show Nm.rl y ≤ L from by have h := (HY.out.dig H461.out.dig0).rl; omega); have h2 := B454.out; have h3 := Nm.rl_sub y (((a.2) : Int) : Rat); omega)
   clear hx
   refine zm S464.out ?_
   have DD467 := zH ((((((D436.out.trans D440.out).trans D443.out).trans D449.out).trans D455.out).trans D461.out))
   refine mC 9 (bs 13 1023) (q03Mul (L := 60000) (RV.Is.nin (R428.out.dig DD467.out) (Nat.le_trans B428.out (by omega))) (RV.Is.nin R460.out (Nat.le_trans B460.out (by omega))) (by omega)) ?_
   rintro e w465 ⟨c_, rfl, hc_, hx⟩
   have H468 := zH (H461.out.step hx)
   have D468 := zH (Dig.of_ext hx)
   have S471 := zH (show Fr (fun kz => kz = X238) w439 w465 from S464.out.trans (Fr.of_ext hx))
   obtain ⟨r466, rfl, hr_⟩ := hc_
   have R466 := zH hr_
   clear hr_
   have B466 := zH (show Nm.rl ((((b.1 - a.1 : Int) : Rat) / ((b.2 - a.2 : Int) : Rat)) * (y - (((a.2) : Int) : Rat))) ≤ 8 + (L + 2 + 1) from by have h1 := B428.out; have h2 := B460.out; have h3 := Nm.rl_mul (((b.1 - a.1 : Int) : Rat) / ((b.2 - a.2 : Int) : Rat)) (y - (((a.2) : Int) : Rat)); omega)
   clear hx
   refine zm S471.out ?_
   have DD474 := zH (((D455.out.trans D461.out).trans D468.out))
   refine mC 10 (bs 13 2047) (q03Add (L := 60000) (RV.Is.nin (R448.out.dig DD474.out) (Nat.le_trans B448.out (by omega))) (RV.Is.nin R466.out (Nat.le_trans B466.out (by omega))) (by omega)) ?_
   rintro e w472 ⟨c_, rfl, hc_, hx⟩
   have H475 := zH (H468.out.step hx)
   have S478 := zH (show Fr (fun kz => kz = X238) w439 w472 from S471.out.trans (Fr.of_ext hx))
   obtain ⟨r473, rfl, hr_⟩ := hc_
   have R473 := zH hr_
   clear hr_
   clear hx
   refine zm S478.out ?_
   refine md_st (i := 11) (listed' := (bs 13 4095)) (by rfl) (by kernel_rfl) (by rfl) (by kernel_rfl) _ _ _ (by rfl) H475.out (ix := 3) (by rfl) 0 [.bool r473.n, .slice r473.p r473.l r473.c, .bool r473.m, .slice r473.p2 r473.l2 r473.c2] (by rfl) (by rfl) (by simp) (by kernel_rfl) (by simp [Value.oneCell']) (by simp [NoUL]) ?_
   intro w479 hh hd ho
   have H480 := hN hh
   have D480 := zH (hd)
   have S482 := zH (show Fr (fun kz => kz = X238) w439 w479 from Fr.trans_new S478.out ho (fun j hj => .inl (by simpa using hj.symm)))
   clear hh hd ho
   refine ⟨S482.out, ?_⟩
   (try simp only [Act.put])
   refine zx 12 (bs 13 8191) (.bool true) S482.out ?_
   refine wpAnyH_done (by kernel_rfl) ?_ _
   go_wp2_with fail
   refine bodyPost_ret (v := .tuple #[.agg #[.bool r473.n, .slice r473.p r473.l r473.c, .bool r473.m, .slice r473.p2 r473.l2 r473.c2], .bool true]) ?_ rfl ⟨.inl ⟨r473, ⟨VA.out, VB.out, C1.out, Rat.not_lt.1 C2.out, Rat.not_lt.1 C3.out⟩, rfl, by rw [← xat_ref]; exact (R473.out.dig D480.out)⟩, H480.out.ext⟩
   exact results_c1t1 rfl rfl ((H480.out.blk (i := 3) (by rfl)).loadVar rfl rfl (by rfl)) rfl
  have VB := zH c245
  clear c245
  have Wb := zH (Bool.eq_false_iff.2 VB.out)
  go_upto_region 1 with fail
  refine zy ?_
  have H484 := zH (H240.out.step (Ext.refl w239).drew)
  refine zg 0 (bs 37 1) X223 (0) [.int .i64 a.1, .int .i64 a.2] (H240.out.range (i := 0) (by rfl) 0 2) Tryz.underlying23 zb ?_
  refine mC 1 (bs 37 3) (rvalid_any a.1 a.2 _) ?_
  rintro e w486 ⟨rfl, hx⟩
  have H487 := zH (H484.out.step hx)
  have S489 := zH (zb.trans hx)
  clear hx
  refine ⟨.bool true, by rw [VA.out], S489.out, ?_⟩
  try simp only [Act.put, zA, zB, zC]
  refine zJ3 H240.out S489.out (bs 37 31) 2 3 4 (.bool false) (.bool false) _ ?_
  refine mC 5 (bs 37 63) (rvalid_any b.1 b.2 _) ?_
  rintro e w492 ⟨rfl, hx⟩
  have H493 := zH (H487.out.step hx)
  have S495 := zH (S489.out.trans hx)
  clear hx
  refine ⟨.bool false, by rw [Wb.out], S495.out, ?_⟩
  try simp only [Act.put, zA, zB, zC]
  refine zJ8 (Hp.start _) S495.out (bs 37 16383) 6 7 8 9 10 11 12 13 (.bool true) (.bool true) (.bool true) _ _ _ _ _ ?_
  refine zJ8 (Hp.start _) S495.out (bs 37 4194303) 14 15 16 17 18 19 20 21 (.bool true) (.bool true) _ _ _ _ _ _ ?_
  refine zJ8 (Hp.start _) S495.out (bs 37 1073741823) 22 23 24 25 26 27 28 29 _ _ _ (.bool true) (.bool true) _ _ _ ?_
  refine zJ7 (Hp.start _) S495.out (bs 37 137438953471) 30 31 32 33 34 35 36 _ _ _ _ _ _ (.bool true) ?_
  refine wpAnyH_done (by kernel_rfl) ?_ _
  go_upto_region 2 with fail
  refine wp_region_lit ?_
  refine zq (.agg z4) ?_
  refine aS' 3 rz H493.out ?_
  intro w505 H506 _
  refine zq (.bool false) ?_
  go_wp2_with fail
  refine bodyPost_ret (v := .tuple #[.agg z4, .bool false]) ?_ rfl ⟨.inr ⟨fun h => VB.out h.2.1, rfl⟩, H506.out.ext⟩
  exact results_c1t1 rfl rfl ((H506.out.blk (i := 3) (by rfl)).loadVar rfl rfl (by rfl)) rfl
 have VA := zH c244
 clear c244
 have Wa := zH (Bool.eq_false_iff.2 VA.out)
 go_upto_region 1 with fail
 refine zy ?_
 have H509 := zH (H240.out.step (Ext.refl w239).drew)
 refine zg 0 (bs 37 1) X223 (0) [.int .i64 a.1, .int .i64 a.2] (H240.out.range (i := 0) (by rfl) 0 2) Tryz.underlying23 zb ?_
 refine mC 1 (bs 37 3) (rvalid_any a.1 a.2 _) ?_
 rintro e w511 ⟨rfl, hx⟩
 have H512 := zH (H509.out.step hx)
 have S514 := zH (zb.trans hx)
 clear hx
 refine ⟨.bool false, by rw [Wa.out], S514.out, ?_⟩
 try simp only [Act.put, zA, zB, zC]
 refine zJ8 (Hp.start _) S514.out (bs 37 1023) 2 3 4 5 6 7 8 9 (.bool true) (.bool true) _ _ _ (.bool true) (.bool true) _ ?_
 refine zJ8 (Hp.start _) S514.out (bs 37 262143) 10 11 12 13 14 15 16 17 _ _ _ _ (.bool true) (.bool true) _ _ ?_
 refine zJ8 (Hp.start _) S514.out (bs 37 67108863) 18 19 20 21 22 23 24 25 _ _ _ _ _ _ _ (.bool true) ?_
 refine zJ8 (Hp.start _) S514.out (bs 37 17179869183) 26 27 28 29 30 31 32 33 (.bool true) _ _ _ _ _ _ _ ?_
 refine zJ3 (Hp.start _) S514.out (bs 37 137438953471) 34 35 36 _ _ (.bool true) ?_
 refine wpAnyH_done (by kernel_rfl) ?_ _
 go_upto_region 2 with fail
 refine wp_region_lit ?_
 refine zq (.agg z4) ?_
 refine aS' 3 rz H512.out ?_
 intro w525 H526 _
 refine zq (.bool false) ?_
 go_wp2_with fail
 refine bodyPost_ret (v := .tuple #[.agg z4, .bool false]) ?_ rfl ⟨.inr ⟨fun h => VA.out h.1, rfl⟩, H526.out.ext⟩
 exact results_c1t1 rfl rfl ((H526.out.blk (i := 3) (by rfl)).loadVar rfl rfl (by rfl)) rfl
end Go.Proofs.YthdapkpmikeehabGreat

namespace Go.Proofs.YthdapkpmikeehabGreat
open Go.ChangeShapes Go.WideShapes Go.ChangeAt Go.RowKit

theorem own : ownKnob Tryz.prog.godebug = none := by kernel_rfl
theorem laidOut : laidOutB Tryz.prog = true := by kernel_rfl
theorem cells_int : Tryz.prog.cellsOf 3 = 1 := by kernel_rfl
theorem cells_pt : Tryz.prog.cellsOf 23 = 2 := by kernel_rfl

theorem okWide_array {P : Program} {w : World} {r : Reach} {base : Nat} {t e : TypeId} {n : Nat} {v : Value} (ht : P.underlying t = some (.array n e)) (h : Value.okWide P w r base t v) : ∃ cs, v = .agg cs ∧ cs.size = P.cellsOf t := by
  simp only [Value.okWide, ht] at h
  obtain ⟨cs, h1, h2, _⟩ := h
  exact ⟨cs, h1, h2⟩

section
variable {H : Type} {enc : TypeId × Value → H} {w : World} {base : Nat} {spare : Nat → Bool} {held : Bool}

end
end Go.Proofs.YthdapkpmikeehabGreat

namespace Go.Proofs.YthdapkpmikeehabGreat
open Go.ChangeShapes Go.WideShapes Go.ChangeAt Go.RowKit

theorem cells_u32 : Tryz.prog.cellsOf 92 = 1 := by kernel_rfl
theorem cells_rint : Tryz.prog.cellsOf 27 = 2 := by kernel_rfl
theorem cells_rat : Tryz.prog.cellsOf 29 = 4 := by kernel_rfl
theorem cells_bool : Tryz.prog.cellsOf 4 = 1 := by kernel_rfl
theorem cells_mag : Tryz.prog.cellsOf 25 = 1 := by kernel_rfl

def RV.Raw (w : World) (a : RV) : Prop := ∃ xs ys, DigS w (.slice a.p a.l a.c) xs ∧ DigS w (.slice a.p2 a.l2 a.c2) ys
theorem RV.Raw.val {w : World} {a : RV} (h : a.Raw w) : ∃ q : Rat, ∀ L, a.l ≤ L → a.l2 ≤ L → a.In L w q := by
  obtain ⟨xs, ys, h1, h2⟩ := h
  have e1 : a.l = xs.length := by obtain ⟨p, c, e, _⟩ := h1; injection e
  have e2 : a.l2 = ys.length := by obtain ⟨p, c, e, _⟩ := h2; injection e
  refine ⟨Rat.divInt (sg a.n (Nm.val xs)) (sg a.m (Nm.val ys)), fun L k1 k2 => ?_⟩
  exact ⟨_, _, ⟨_, ⟨xs, h1, rfl, by omega⟩, rfl⟩, ⟨_, ⟨ys, h2, rfl, by omega⟩, rfl⟩, rfl⟩

section
variable {H : Type} {enc : TypeId × Value → H} {w : World} {base : Nat} {held : Bool}

theorem mag_open {fuel : Nat} {cs : List Value} {x : DataW H × List MemPlace} (h : DataW.trod enc Tryz.prog w base (fun _ => true) held fuel 25 cs = some x) :
    ∃ p l c xs, cs = [.slice p l c] ∧ DigS w (.slice p l c) xs := by
  rcases open_ints Tryz.underlying25 Tryz.underlying92 cells_u32 h with ⟨rfl, _⟩ | ⟨a, len, cap, zs, rfl, _, hl, hm, hz, _, hc, hw⟩
  · exact ⟨none, 0, 0, [], rfl, none, 0, rfl, Nat.le_refl _, (by intro x hx; simp at hx), fun h0 => absurd h0 (by simp)⟩
  simp only [if_true] at hz
  refine ⟨some a, len, cap, (zs.take len).map Int.toNat, rfl, some a, cap, by simp [hz]; omega, by simp [hz]; omega, ?_, fun h0 => ?_⟩
  · intro d hd
    obtain ⟨z, hz1, rfl⟩ := List.mem_map.1 hd
    have := bounds_u32 (hw z (List.mem_of_mem_take hz1))
    show z.toNat < 4294967296
    omega
  have hlen : ((zs.take len).map Int.toNat).length = len := by simp [hz]; omega
  rw [hlen] at h0 ⊢
  have hs : a.spot = none := by
    have h1 := hc 0 (by omega)
    unfold World.cell? at h1
    cases hsp : a.spot with
    | none => rfl
    | some s =>
      exfalso
      have e : (a.add 0).spot = some s := by simp [Addr.add, hsp]
      rw [e] at h1
      revert h1
      split <;> simp
  obtain ⟨b, o, sp⟩ := a
  obtain rfl : sp = none := hs
  refine ⟨b, o, rfl, fun i hi => ?_⟩
  have h1 := hc i (by omega)
  have e : (⟨b, o, none⟩ : Addr).add i = ⟨b, o + i, none⟩ := by unfold Addr.add; split <;> simp_all
  rw [e] at h1
  rw [h1]
  have hi2 : i < zs.length := by omega
  have h2 := bounds_u32 (hw (zs.getD i 0) (by rw [List.getD_eq_getElem?_getD, List.getElem?_eq_getElem hi2]; exact List.getElem_mem hi2))
  have h3 : (List.map Int.toNat (List.take len zs)).getD i 0 = (zs.getD i 0).toNat := by
    simp [List.getD, hi, List.getElem?_eq_getElem hi2]
  rw [h3]
  congr 2
  omega

theorem rint_open {fuel : Nat} {cs : List Value} {x : DataW H × List MemPlace} (h : DataW.trod enc Tryz.prog w base (fun _ => true) held fuel 27 cs = some x) :
    ∃ n p l c xs, cs = [.bool n, .slice p l c] ∧ DigS w (.slice p l c) xs := by
  obtain ⟨y0, y1, n, _, hl, h0, h1⟩ := trod_struct2 Tryz.underlying27 h
  rw [cells_rint] at hl
  rw [cells_bool] at h0
  obtain ⟨b, e0, _⟩ := DataW.trod_bool Tryz.underlying4 h0
  rw [cells_mag] at h1
  obtain ⟨p, l, c, xs, e1, hd⟩ := mag_open h1
  match cs, hl with
  | [u, v], _ =>
    simp at e0 e1
    exact ⟨b, p, l, c, xs, by rw [e0, e1], hd⟩

theorem rat_open {fuel : Nat} {cs : List Value} {x : DataW H × List MemPlace} (h : DataW.trod enc Tryz.prog w base (fun _ => true) held fuel 29 cs = some x) :
    ∃ a : RV, cs = [.bool a.n, .slice a.p a.l a.c, .bool a.m, .slice a.p2 a.l2 a.c2] ∧ a.Raw w := by
  obtain ⟨y0, y1, n, _, hl, h0, h1⟩ := trod_struct2 Tryz.underlying29 h
  rw [cells_rat] at hl
  rw [cells_rint] at h0 h1
  obtain ⟨n, p, l, c, xs, e0, d0⟩ := rint_open h0
  obtain ⟨m, p2, l2, c2, ys, e1, d1⟩ := rint_open h1
  match cs, hl with
  | [u, v, u', v'], _ =>
    simp at e0 e1
    exact ⟨⟨n, p, l, c, m, p2, l2, c2⟩, by simp [e0, e1], xs, ys, d0, d1⟩
end
end Go.Proofs.YthdapkpmikeehabGreat

namespace Go.Proofs.YthdapkpmikeehabGreat
open Go.ChangeShapes Go.WideShapes Go.ChangeAt Go.RowKit

section
variable {H : Type} {enc : TypeId × Value → H} {P : Program} {w : World} {base : Nat} {spare : Nat → Bool} {held : Bool}

end
theorem list_of {α : Type} [Inhabited α] (n : Nat) (p : Nat → α → Prop) (h : ∀ i, i < n → ∃ x, p i x) : ∃ l : List α, l.length = n ∧ ∀ i (d : α), i < n → p i (l.getD i d) := by
  obtain ⟨f, hf⟩ := Deep.choose_lt (p := p) h
  refine ⟨(List.range n).map f, by simp, fun i d hi => ?_⟩
  have e : ((List.range n).map f).getD i d = f i := by simp [List.getD, hi]
  rw [e]
  exact hf i hi
end Go.Proofs.YthdapkpmikeehabGreat

namespace Go.Proofs.YthdapkpmikeehabGreat
open Go.ChangeShapes Go.WideShapes Go.ChangeAt Go.RowKit

theorem okWide_structQ {P : Program} {w : World} {r : Reach} {base : Nat} {t : TypeId} {fs : Array Field} {v : Value} (ht : P.underlying t = some (.struct fs)) (h : Value.okWide P w r base t v) : ∃ cs, v = .agg cs ∧ cs.size = P.cellsOf t := by
  simp only [Value.okWide, ht] at h
  obtain ⟨cs, h1, h2, _⟩ := h
  exact ⟨cs, h1, h2⟩
instance : Inhabited RV := ⟨⟨false, none, 0, 0, false, none, 0, 0⟩⟩
def RawL (w : World) (es : List (RV × RV)) : Prop := ∀ x, x ∈ es → x.1.Raw w ∧ x.2.Raw w
section
variable {H : Type} {enc : TypeId × Value → H} {w : World} {base : Nat} {held : Bool}
end
theorem RawV.spans2 {w : World} {v : Value} {es : List (RV × RV)} (h : RawV w v es) (hr : RawL w es) (hs : smAll es = true) : ∃ ps : List (Rat × Rat), ps.length = es.length ∧ SpansV 20 w v ps ∧ ∀ (i : Nat) (x : RV × RV) (p : Rat × Rat), es[i]? = some x → ps[i]? = some p → x.1.In 20 w p.1 ∧ x.2.In 20 w p.2 := by
 obtain ⟨A, cap, rfl, h2⟩ := h
 obtain ⟨ps, hl, hp⟩ := list_of (α := Rat × Rat) es.length (fun i p => ∀ x, es[i]? = some x → x.1.In 20 w p.1 ∧ x.2.In 20 w p.2) (fun i hi => by
  have hm := List.getElem_mem hi
  obtain ⟨r1, r2⟩ := hr _ hm
  obtain ⟨q1, k1⟩ := r1.val
  obtain ⟨q2, k2⟩ := r2.val
  have hb := List.all_eq_true.1 hs _ hm
  simp only [RV.sm, Bool.and_eq_true, decide_eq_true_eq] at hb
  refine ⟨(q1, q2), fun x hx => ?_⟩
  obtain rfl : es[i] = x := by rw [List.getElem?_eq_getElem hi] at hx; injection hx
  exact ⟨k1 20 hb.1.1 hb.1.2, k2 20 hb.2.1 hb.2.2⟩)
 refine ⟨ps, hl, ⟨A, cap, by rw [hl], fun h0 => ?_⟩, fun i x p hx hpi => by
  have h5 := hp i (0, 0) (List.getElem?_eq_some_iff.1 hx).1 _ hx
  rwa [List.getD_eq_getElem?_getD, hpi] at h5⟩
 obtain ⟨g, off, h3, h4⟩ := h2 (by omega)
 refine ⟨g, off, h3, fun i p hip => ?_⟩
 have hi := (List.getElem?_eq_some_iff.1 hip).1
 have hi2 : i < es.length := by omega
 have hx := List.getElem?_eq_getElem hi2
 have h5 := hp i (0, 0) hi2 _ hx
 rw [List.getD_eq_getElem?_getD, hip] at h5
 exact ⟨_, h4 i _ hx, es[i].1, es[i].2, rfl, h5.1, h5.2⟩
theorem RawV.spans {w : World} {v : Value} {es : List (RV × RV)} (h : RawV w v es) (hr : RawL w es) (hs : smAll es = true) : ∃ ps : List (Rat × Rat), ps.length = es.length ∧ SpansV 20 w v ps := by
  obtain ⟨ps, h1, h2, _⟩ := h.spans2 hr hs
  exact ⟨ps, h1, h2⟩
end Go.Proofs.YthdapkpmikeehabGreat
