/- Contracts that the claim stands on: XPix19 to XOpenQ. -/
import Derived.Shelf.Spec.SlicesGrow
import Derived.Test.YtngikkggjidenabGreatRows
import Derived.ProofKit
import Derived.OpenShut
import Derived.Below
import Derived.Deep.Slices
import Derived.Lib.SmallJoins
import Derived.ChangeSlices
import Derived.Test.YtngikkggjidenabGreatM7
set_option maxRecDepth 100000
set_option maxHeartbeats 4000000
namespace Go.Proofs.YtngikkggjidenabGreat
open Go.RowKit
attribute [local go_sem ↓] Go.wp_at_zero Go.wp_at_succ run_max_ii run_min_ii
theorem farI_f {n:Int}(h:farI n=false): -4096<=n/\n<=4096:=by
  unfold farI at h;simp at h;omega
theorem corn_ok {x y:Int}(h:okPt (cornV x y).1 (cornV x y).2=true):(-4096<=x/\x<=4096)/\(-4096<=y/\y<=4096):=by
  unfold cornV at h;by_cases c:(farI x||farI y)=true
  · rw[if_pos c]at h;exact absurd h (by decide)
  simp at c;have h1:=farI_f c.1;have h2:=farI_f c.2;omega
theorem pixels_any (r:RV)(E:Int)(q:Rat)(w:World)(hr:E=0->r.Is w q/\Nm.rl q<=50000)(hz:E≠0->r=RV.zero):
  Calls Tryz.prog 27 #[.agg #[.bool r.n,.slice r.p r.l r.c,.bool r.m,.slice r.p2 r.l2 r.c2],.int .i64 E] w (RetZ 50010 E (q/((65536:Int):Rat)) w):=by
 have HRR:=zH hr;have HRZ:=zH hz;clear hr hz;rcases emH (E=0)with HE|HE
 ·have HR1:=zH (HRR.out HE.out).1
  have HR2:=zH (HRR.out HE.out).2;obtain rfl:E=0:=HE.out;go_enter Tryz.func27,Tryz.ntmps27
  have H0:=zH (Hp.start w);go_upto_region 0 with fail
  refine wl ?_;refine aA' 33 (rc r) H0.out ?_;intro X2 w3 H4 _;refine aA' 33 rz H4.out ?_;intro X7 w8 H9 _;refine zq (.int .i64 0) ?_;go_upto_region 1 with fail
  refine wl ?_;refine zq (.int .i64 0) ?_;refine zp (.bool false) (by exact ezn (e:=(dec_f (by omega)))) ?_;go_upto_region 3 with fail
  refine wp_region_held_drew (S:=fun x=>Fr (fun kz=>kz=X2) w8 x) kR (Fr.of_ext zb) (fun _=> ?_);have H15:=zH (H9.out.step (Ext.refl w8).drew);refine Fd.go (j:=0) (dj:=some 11) (u:= .agg #[.bool r.n,.slice r.p r.l r.c,.bool r.m,.slice r.p2 r.l2 r.c2]) ?_;refine fd_call (b:=w8) (i:=1) (lj:=(bs 7 1)) (li:=(bs 7 2)) rR rR kR kR kR kR kR dC kR rR rR (fun x_ h_=>Fr.of_ext h_) (Ext.refl w8).drew (fun x_ h_=>ev_ld _ _ rR X2 (0) [.bool r.n,.slice r.p r.l r.c,.bool r.m,.slice r.p2 r.l2 r.c2] rR (range_ext (show World.rangeAt w8 X2 (0) [.bool r.n,.slice r.p r.l r.c,.bool r.m,.slice r.p2 r.l2 r.c2]from H9.out.range (i:=0) rR 0 4) h_) Tryz.underlying33 rR kR) rR (by go_simp) kR (pFrom 65536 _ (by omega) (by omega)) ?_;rintro e w17 ⟨c_,rfl,hc_,hx⟩;have H19:=zH (H15.out.step hx);have X21:=zH (show Ext w8 w17 from(Ext.refl w8).drew.trans hx);have S22:=zH (show Fr (fun kz=>kz=X2) w8 w17 from(Fr.of_ext zb).trans (Fr.of_ext hx));obtain⟨r18,rfl,hr_⟩:=hc_;have R18:=zH hr_;have B18:=zH (rl_i64 65536 (by omega) (by omega));clear hr_;have hx_:=hx;clear hx;refine⟨_,rfl,hx_,?_⟩;try simp only[Act.put,zA,zB,zC]
  clear hx_;refine fd_end rR kR rR rR S22.out (ev_ld _ _ rR X2 (0) [.bool r.n,.slice r.p r.l r.c,.bool r.m,.slice r.p2 r.l2 r.c2] rR (range_ext (show World.rangeAt w8 X2 (0) [.bool r.n,.slice r.p r.l r.c,.bool r.m,.slice r.p2 r.l2 r.c2]from H9.out.range (i:=0) rR 0 4) X21.out) Tryz.underlying33 rR kR) (show _=(bs 7 3)by kernel_rfl) ?_;try simp only[Act.put,zA,zB,zC]
  refine mC 2 (bs 7 7) (pQuo (L:=60000) (RV.Is.nin (HR1.out.dig H19.out.dig0) (Nat.le_trans HR2.out (by omega))) (RV.Is.nin R18.out (Nat.le_trans B18.out (by omega))) dC dC) ?_;rintro e w23 ⟨c_,rfl,hc_,hx⟩;have H25:=zH (H19.out.step hx);have S28:=zH (S22.out.trans (Fr.of_ext hx));obtain⟨r24,rfl,hr_⟩:=hc_;have R24:=zH hr_;have B24:=zH (show Nm.rl (q/(((65536):Int):Rat))<=50010 from by have h1:=HR2.out;have h2:=B18.out;have h3:=Nm.rl_div q (((65536):Int):Rat);omega);clear hr_ hx;refine zm S28.out ?_;refine zx 3 (bs 7 15) (.tuple #[.agg #[.bool r24.n,.slice r24.p r24.l r24.c,.bool r24.m,.slice r24.p2 r24.l2 r24.c2],.int .i64 0]) S28.out ?_;refine zx 4 (bs 7 31) (.agg #[.bool r24.n,.slice r24.p r24.l r24.c,.bool r24.m,.slice r24.p2 r24.l2 r24.c2]) S28.out ?_;refine zx 5 (bs 7 63) (.int .i64 0) S28.out ?_;refine md_st (i:=6) (listed':=(bs 7 127)) rR kR rR kR _ _ _ rR H25.out (ix:=0) rR 0 [.bool r24.n,.slice r24.p r24.l r24.c,.bool r24.m,.slice r24.p2 r24.l2 r24.c2] rR rR (by simp) kR (by simp[Value.oneCell']) (by simp[NoUL]) ?_;intro w32 hh hd ho;have H33:=hN hh;have D33:=zH (hd);have S35:=zH (Fr.trans_new S28.out ho (fun j hj=> .inl (by simpa using hj.symm)));clear hh hd ho;refine⟨S35.out,?_⟩
  (try simp only[Act.put])
  refine wpAnyH_done kR ?_ _;go_upto_region 4 with fail
  refine wl ?_;refine zI1 H33.out _ ?_;refine aS' 1 (rc r24) H33.out ?_;intro w36 H37 D37;refine zq (.int .i64 0) ?_;have DD40:=tD D33 D37;go_wp2_with fail
  refine bodyPost_ret (v:= .tuple #[.agg #[.bool r24.n,.slice r24.p r24.l r24.c,.bool r24.m,.slice r24.p2 r24.l2 r24.c2],.int .i64 0]) ?_ rfl ⟨r24,rfl,fun _=>⟨(R24.out.dig DD40.out),B24.out⟩,fun h_=>absurd rfl h_,H37.out.ext⟩;exact results_c1t1 rfl rfl ((H37.out.blk (i:=1) rR).loadVar rfl rfl rR) rfl
 obtain rfl:r=RV.zero:=HRZ.out HE.out;go_enter Tryz.func27,Tryz.ntmps27
 have H0:=zH (Hp.start w);go_upto_region 0 with fail
 refine wl ?_;refine aA' 33 (rc RV.zero) H0.out ?_;intro X41 w42 H43 _;refine aA' 33 rz H43.out ?_;intro X46 w47 H48 _;refine zq (.int .i64 0) ?_;go_upto_region 1 with fail
 refine wl ?_;refine zq (.int .i64 E) ?_;refine zp (.bool true) (by exact ezn (e:=(dec_t HE.out))) ?_;go_upto_region 2 with fail
 refine wl ?_;refine zI2 (Hp.start _) _ (.int .i64 E) ?_;refine aS' 1 rz H48.out ?_;intro w56 H57 _;refine zq (.int .i64 E) ?_;go_wp2_with fail
 refine bodyPost_ret (v:= .tuple #[.agg z4,.int .i64 E]) ?_ rfl ⟨RV.zero,rfl,fun h_=>absurd h_ HE.out,fun _=>rfl,H57.out.ext⟩;exact results_c1t1 rfl rfl ((H57.out.blk (i:=1) rR).loadVar rfl rfl rR) rfl
theorem far_any (n:Int)(b:Bool)(w:World)(hb:farI n=b):Calls Tryz.prog 54 #[.int .i64 n] w fun e w'=>e= .returned (.bool b)/\Ext w w':=by
 subst hb;go_enter Tryz.func54,Tryz.ntmps54
 have H0:=zH (Hp.start w);go_upto_region 0 with fail
 refine wl ?_;refine zq (.bool false) ?_;rcases emH (n< -4096)with C1|C1
 ·go_upto_region 1 with fail
  refine wl ?_;refine zq (.int .i64 n) ?_;refine zp (.bool true) (by exact ezl (e:=(dec_t C1.out))) ?_;refine zI5 (Hp.start _) (.bool true) _ _ (.bool true) (.bool true) ?_;go_wp2_with fail
  go_ret
  exact⟨by rw[show farI n=true from by unfold farI;simp;have h1_:=C1.out;omega]<;>rfl,H0.out.ext⟩
 rcases emH (4096<n)with C2|C2
 ·go_upto_region 1 with fail
  refine wl ?_;refine zq (.int .i64 n) ?_;refine zp (.bool false) (by exact ezl (e:=(dec_f C1.out))) ?_;refine zI2 (Hp.start _) (.bool false) (.int .i64 n) ?_;refine zp (.bool true) (by exact ezg (e:=(dec_t C2.out))) ?_;refine zI2 (Hp.start _) (.bool true) (.bool true) ?_;go_wp2_with fail
  go_ret
  exact⟨by rw[show farI n=true from by unfold farI;simp;have h1_:=C1.out;have h2_:=C2.out;omega]<;>rfl,H0.out.ext⟩
 go_upto_region 1 with fail
 refine wl ?_;refine zq (.int .i64 n) ?_;refine zp (.bool false) (by exact ezl (e:=(dec_f C1.out))) ?_;refine qV (.bool false) ?_;refine zq (.int .i64 n) ?_;refine zp (.bool false) (by exact ezg (e:=(dec_f C2.out))) ?_;refine qV (.bool false) ?_;refine zq (.bool false) ?_;go_wp2_with fail
 go_ret
 exact⟨by rw[show farI n=false from by unfold farI;simp;have h1_:=C1.out;have h2_:=C2.out;omega]<;>rfl,H0.out.ext⟩
theorem corner_any (x y:Int)(w:World):Calls Tryz.prog 25 #[.int .i64 x,.int .i64 y] w fun e w'=>e= .returned (.agg #[.int .i64 (cornV x y).1,.int .i64 (cornV x y).2])/\Ext w w':=by
 go_enter Tryz.func25,Tryz.ntmps25
 have H0:=zH (Hp.start w);go_upto_region 0 with fail
 refine wl ?_;refine aA' 28 [.int .i64 0,.int .i64 0] H0.out ?_;intro X82 w83 H84 _;go_upto_region 1 with fail
 refine wl ?_;refine zI1 (Hp.start _) _ ?_;rcases emH (farI x=true)with C1|C1
 ·have HC:=zH (show cornV x y=(1048577,0)from if_pos (by rw[C1.out];rfl))
  go_upto_region 2 with fail
  refine wl ?_;refine zI2 (Hp.start _) _ (.int .i64 x) ?_;refine aC H84.out (far_any x true _ C1.out) ?_;intro w91 H92 _;refine zI5 (Hp.start _) (.bool true) _ _ _ (.bool true) ?_;go_upto_region 3 with fail
  refine wl ?_;refine zI1 (Hp.start _) _ ?_;refine aS' 0 [.int .i64 1048577,.int .i64 0] H92.out ?_;intro w97 H98 _;go_wp2_with fail
  refine bodyPost_ret (v:= .agg #[.int .i64 1048577,.int .i64 0]) ?_ rfl ⟨by rw[HC.out],H98.out.ext⟩;exact results_cell1 rfl rfl ((H98.out.blk (i:=0) rR).loadVar rfl rfl rR)
 have F1:=zH (Bool.eq_false_iff.2 C1.out);rcases emH (farI y=true)with C2|C2
 ·have HC:=zH (show cornV x y=(1048577,0)from if_pos (by rw[F1.out,C2.out];rfl))
  go_upto_region 2 with fail
  refine wl ?_;refine zI2 (Hp.start _) _ (.int .i64 x) ?_;refine aC H84.out (far_any x false _ F1.out) ?_;intro w103 H104 _;refine zI3 (Hp.start _) (.bool false) _ (.int .i64 y) ?_;refine aC H104.out (far_any y true _ C2.out) ?_;intro w109 H110 _;refine zq (.bool true) ?_;go_upto_region 3 with fail
  refine wl ?_;refine zI1 (Hp.start _) _ ?_;refine aS' 0 [.int .i64 1048577,.int .i64 0] H110.out ?_;intro w114 H115 _;go_wp2_with fail
  refine bodyPost_ret (v:= .agg #[.int .i64 1048577,.int .i64 0]) ?_ rfl ⟨by rw[HC.out],H115.out.ext⟩;exact results_cell1 rfl rfl ((H115.out.blk (i:=0) rR).loadVar rfl rfl rR)
 have F2:=zH (Bool.eq_false_iff.2 C2.out);have b1:=farI_f F1.out;have b2:=farI_f F2.out;have HC:=zH (show cornV x y=(x*256,y*256)from if_neg (by rw[F1.out,F2.out];decide));go_upto_region 2 with fail
 refine wl ?_;refine zI2 (Hp.start _) _ (.int .i64 x) ?_;refine aC H84.out (far_any x false _ F1.out) ?_;intro w119 H120 _;refine zI3 (Hp.start _) (.bool false) _ (.int .i64 y) ?_;refine aC H120.out (far_any y false _ F2.out) ?_;intro w125 H126 _;refine zq (.bool false) ?_;go_upto_region 4 with fail
 refine wl ?_;refine zq (.int .i64 x) ?_;refine zp (.int .i64 (x*256)) (by exact ez3 (by omega)) ?_;refine zq (.int .i64 y) ?_;refine zp (.int .i64 (y*256)) (by exact ez3 (by omega)) ?_;refine zI1 (Hp.start _) _ ?_;refine aS' 0 [.int .i64 (x*256),.int .i64 (y*256)] H126.out ?_;intro w134 H135 _;go_wp2_with fail
 refine bodyPost_ret (v:= .agg #[.int .i64 (x*256),.int .i64 (y*256)]) ?_ rfl ⟨by rw[HC.out],H135.out.ext⟩;exact results_cell1 rfl rfl ((H135.out.blk (i:=0) rR).loadVar rfl rfl rR)
theorem pixel_any (A:Option Addr)(cap:Nat)(rs:List Ring)(rule x y:Int)(w:World)(hu:RingsV w (.slice A rs.length cap) rs)(hn:rs.length<=1048576)(hr:∀r,r∈rs->r.length<=1048576)(hs:tot rs<=24)(hru: -9223372036854775808<=rule/\rule<=9223372036854775807):
  Calls Tryz.prog 10 #[.slice A rs.length cap,.int .i64 rule,.int .i64 x,.int .i64 y] w (RetZ 50010 (inbE rule (cornV x y) (pixB x y) rs) (areaV rule (cornV x y) (pixB x y) rs/((65536:Int):Rat)) w):=by
 have HU:=zH hu;have HN:=zH hn;have HRR:=zH hr;clear hu hr;have HTOT:=zH hs;have HRU:=zH hru;clear hs hru;go_enter Tryz.func10,Tryz.ntmps10
 have H0:=zH (Hp.start w);go_upto_region 0 with fail
 refine wl ?_;refine aA' 33 rz H0.out ?_;intro X137 w138 H139 _;refine zq (.int .i64 0) ?_;go_upto_region 1 with fail
 refine wl ?_;refine qV (.int .i64 x) ?_;refine zq (.int .i64 y) ?_;refine aC H139.out (corner_any x y _) ?_;intro w145 H146 _;refine qV (.int .i64 x) ?_;refine zq (.int .i64 y) ?_;refine aC H146.out (corner_any x y _) ?_;intro w150 H151 _;refine aA' 28 [.int .i64 0,.int .i64 0] H151.out ?_;intro X153 w154 H155 _;refine aA' 28 [.int .i64 0,.int .i64 0] H155.out ?_;intro X158 w159 H160 _;refine aS' 1 [.int .i64 ((cornV x y).1),.int .i64 ((cornV x y).2)] H160.out ?_;intro w163 H164 _;refine aS' 2 [.int .i64 ((cornV x y).1),.int .i64 ((cornV x y).2)] H164.out ?_;intro w166 H167 _;rcases emH (okPt (cornV x y).1 (cornV x y).2=true)with HV|HV
 ·go_upto_region 2 with fail
  refine wl ?_;refine zI1 H167.out _ ?_;refine zc (valid_any (cornV x y).1 (cornV x y).2 _) ?_;rintro e w170 ⟨rfl,hx⟩;have H171:=zH (H167.out.step hx);clear hx;refine⟨.bool true,by rw[HV.out],?_⟩;try simp only[Act.put,zA,zB,zC]
  have b1:=(corn_ok HV.out).1;have b2:=(corn_ok HV.out).2;go_upto_region 3 with fail
  refine wl ?_;refine zq (.int .i64 x) ?_;refine zp (.int .i64 (x+1)) (by exact ez1 (by omega)) ?_;refine zq (.int .i64 y) ?_;refine zp (.int .i64 (y+1)) (by exact ez1 (by omega)) ?_;refine aC H171.out (corner_any (x+1) (y+1) _) ?_;intro w177 H178 _;refine aS' 2 [.int .i64 ((cornV (x+1) (y+1)).1),.int .i64 ((cornV (x+1) (y+1)).2)] H178.out ?_;intro w180 H181 _;go_upto_region 4 with fail
  refine wl ?_;refine zI4 H181.out _ (.int .i64 rule) _ _ ?_;refine zc (inbox_any A cap rs rule (cornV x y) (cornV (x+1) (y+1)) _ (HU.out.ext H181.out.ext) HN.out HRR.out HTOT.out HRU.out) ?_;rintro e w185 ⟨r186,rfl,h1_,h2_,hx⟩;have H187:=zH (H181.out.step hx);have HI186:=zH h1_;have HZ186:=zH h2_;clear h1_ h2_ hx;refine zn ?_;refine zI2 (Hp.start _) _ (.int .i64 (inbE rule (cornV x y) (cornV (x+1) (y+1)) rs)) ?_;refine zc (pixels_any r186 (inbE rule (cornV x y) (cornV (x+1) (y+1)) rs) (areaV rule (cornV x y) (cornV (x+1) (y+1)) rs) _ (fun h_=>⟨(HI186.out h_).1,(HI186.out h_).2⟩) HZ186.out) ?_;rintro e w191 ⟨r192,rfl,h1_,h2_,hx⟩;have H193:=zH (H187.out.step hx);have HI192:=zH h1_;have HZ192:=zH h2_;clear h1_ h2_ hx;refine zn ?_;refine zI2 (Hp.start _) _ (.int .i64 (inbE rule (cornV x y) (cornV (x+1) (y+1)) rs)) ?_;refine aS' 0 (rc r192) H193.out ?_;intro w197 H198 D198;refine zq (.int .i64 (inbE rule (cornV x y) (cornV (x+1) (y+1)) rs)) ?_;go_wp2_with fail
  refine bodyPost_ret (v:= .tuple #[.agg #[.bool r192.n,.slice r192.p r192.l r192.c,.bool r192.m,.slice r192.p2 r192.l2 r192.c2],.int .i64 (inbE rule (cornV x y) (cornV (x+1) (y+1)) rs)]) ?_ rfl (by rw[show pixB x y=cornV (x+1) (y+1)from if_pos HV.out];exact⟨r192,rfl,fun h_=>⟨(HI192.out h_).1.dig D198.out,(HI192.out h_).2⟩,HZ192.out,H198.out.ext⟩);exact results_c1t1 rfl rfl ((H198.out.blk (i:=0) rR).loadVar rfl rfl rR) rfl
 have F1:=zH (Bool.eq_false_iff.2 HV.out);go_upto_region 2 with fail
 refine wl ?_;refine zI1 H167.out _ ?_;refine zc (valid_any (cornV x y).1 (cornV x y).2 _) ?_;rintro e w201 ⟨rfl,hx⟩;have H202:=zH (H167.out.step hx);clear hx;refine⟨.bool false,by rw[F1.out],?_⟩;try simp only[Act.put,zA,zB,zC]
 go_upto_region 4 with fail
 refine wl ?_;refine zI4 H202.out _ (.int .i64 rule) _ _ ?_;refine zc (inbox_any A cap rs rule (cornV x y) (cornV x y) _ (HU.out.ext H202.out.ext) HN.out HRR.out HTOT.out HRU.out) ?_;rintro e w206 ⟨r207,rfl,h1_,h2_,hx⟩;have H208:=zH (H202.out.step hx);have HI207:=zH h1_;have HZ207:=zH h2_;clear h1_ h2_ hx;refine zn ?_;refine zI2 (Hp.start _) _ (.int .i64 (inbE rule (cornV x y) (cornV x y) rs)) ?_;refine zc (pixels_any r207 (inbE rule (cornV x y) (cornV x y) rs) (areaV rule (cornV x y) (cornV x y) rs) _ (fun h_=>⟨(HI207.out h_).1,(HI207.out h_).2⟩) HZ207.out) ?_;rintro e w212 ⟨r213,rfl,h1_,h2_,hx⟩;have H214:=zH (H208.out.step hx);have HI213:=zH h1_;have HZ213:=zH h2_;clear h1_ h2_ hx;refine zn ?_;refine zI2 (Hp.start _) _ (.int .i64 (inbE rule (cornV x y) (cornV x y) rs)) ?_;refine aS' 0 (rc r213) H214.out ?_;intro w218 H219 D219;refine zq (.int .i64 (inbE rule (cornV x y) (cornV x y) rs)) ?_;go_wp2_with fail
 refine bodyPost_ret (v:= .tuple #[.agg #[.bool r213.n,.slice r213.p r213.l r213.c,.bool r213.m,.slice r213.p2 r213.l2 r213.c2],.int .i64 (inbE rule (cornV x y) (cornV x y) rs)]) ?_ rfl (by rw[show pixB x y=cornV x y from if_neg HV.out];exact⟨r213,rfl,fun h_=>⟨(HI213.out h_).1.dig D219.out,(HI213.out h_).2⟩,HZ213.out,H219.out.ext⟩);exact results_c1t1 rfl rfl ((H219.out.blk (i:=0) rR).loadVar rfl rfl rR) rfl
end Go.Proofs.YtngikkggjidenabGreat
namespace Go.Proofs.YtngikkggjidenabGreat
open Go.RowKit
theorem elPoint:ElT Tryz.prog 44 28 2 16:=ElT.of (z:= .agg #[.int .i64 0,.int .i64 0]) Tryz.underlying44 (by kernel_rfl) rfl (by simp[NoUL,Value.cells]) (by decide)
def ptC (p:Int×Int):List Value:=[.int .i64 p.1,.int .i64 p.2]
theorem ptC_len (p:Int×Int):(ptC p).length=2:=rfl
structure PnE where
  A:Option Addr
  c:Nat
  l:List (Int×Int)
def PnE.cells (o:PnE):List Value:=[.slice o.A o.l.length o.c]
theorem PnE.len (o:PnE):o.cells.length=1:=rfl
def PnE.Ok (b:Nat)(w:World)(o:PnE):Prop:=RowN w b 28 2 (.slice o.A o.l.length o.c) o.l.length (o.l.flatMap ptC)
theorem PnE.Ok.fr {b:Nat}{w0 W W':World}{m:List Ent}{ix n:Nat}{v:Value}{xs:List Value}{o:PnE}(h:o.Ok b W)(H:Hp w0 W m)(hi:m[ix]?=some (.row 44 1 v n xs))(x:Fr (fun k=>v.ownBlock=some k) W W'):o.Ok b W':=by
  obtain⟨h1,h2|⟨g,cap,rest,h3,h4,h5,h6⟩⟩:=h
  · exact⟨h1,.inl h2⟩
  refine⟨h1,.inr ⟨g,cap,rest,h3,h4,?_,h6⟩⟩;have h7:Blk W g 28 _:=h5;refine(x.block g h7.lt (fun hk=> ?_)).trans h7;have h8:=H.typ hi h7 (by exact hk);exact absurd (show(44:TypeId)=28 from h8) (by decide)
theorem PnE.Ok.ext {b:Nat}{W W':World}{o:PnE}(h:o.Ok b W)(x:Ext W W'):o.Ok b W':=RowN.ext h x
theorem pts_cells {w:World}{A:Option Addr}{c:Nat}{l:List (Int×Int)}(h:PtsV w (.slice A l.length c) l):0<l.length->∃ad,A=some ad/\∀j u,(l.flatMap ptC)[j]?=some u->w.cell? (ad.add j)=some u:=by
 intro h0;obtain⟨A',c',e,hf⟩:=h;injection e with e1 _ e3
 subst e1 e3;obtain⟨g,off,rfl,hp⟩:=hf (by intro e;rw[e]at h0;simp at h0);refine⟨_,rfl,fun j u hj=> ?_⟩;have hjl:j<l.length*2:=by have:=(List.getElem?_eq_some_iff.1 hj).1;rwa[flat_length ptC_len]at this
 have h1:j/2<l.length:=by omega
 obtain⟨q1,q2⟩:=hp (j/2) h1;have hg:l[j/2]?=some l[j/2]:=List.getElem?_eq_getElem h1;have e:l.getD (j/2) (0,0)=l[j/2]:=by rw[List.getD_eq_getElem?_getD,hg];rfl
 rw[e]at q1 q2;have e9:(⟨g,off,none⟩:Addr).add j=⟨g,off+j,none⟩:=by simp[Addr.add]
 have hm:j=j/2*2\/j=j/2*2+1:=by omega
 rcases hm with hm|hm
 ·have h3:=flat_get ptC_len l (j/2) _ hg 0 _ rfl
  rw[Nat.add_zero,<-hm,hj]at h3;injection h3 with h3
  subst h3;rw[e9,show off+j=off+j/2*2 by omega];exact q1
 have h3:=flat_get ptC_len l (j/2) _ hg 1 _ rfl;rw[<-hm,hj]at h3;injection h3 with h3
 subst h3;rw[e9,show off+j=off+(j/2*2+1)by omega];exact q2
theorem pt_ones (l:List (Int×Int)):∀u,u∈l.flatMap ptC->u.oneCell'=true:=by
  intro u hu;obtain⟨e,_,he⟩:=List.mem_flatMap.1 hu;unfold ptC at he;simp only[List.mem_cons,List.not_mem_nil,or_false]at he;rcases he with rfl|rfl<;>rfl
theorem pt_nou (l:List (Int×Int)):NoUL (l.flatMap ptC):=by
  intro u hu;obtain⟨e,_,he⟩:=List.mem_flatMap.1 hu;unfold ptC at he;simp only[List.mem_cons,List.not_mem_nil,or_false]at he;rcases he with rfl|rfl<;>simp
end Go.Proofs.YtngikkggjidenabGreat
namespace Go.Proofs.YtngikkggjidenabGreat
open Go.Shelf Go.RowKit
def growP_ren:Go.Shelf.Ren:=⟨fun|4=>98|n=>n,fun|0=>0|3=>3|4=>4|9=>9|20=>20|22=>44|25=>28|n=>n,fun|n=>n⟩
theorem growP:Go.Proofs.Lays8.n4 Tryz.prog growP_ren:={
 mixed:=by kernel_rfl
 f4:=⟨Tryz.f98.name,by decide,Tryz.func98.trans (congrArg some (by kernel_rfl))⟩
 t0:=Tryz.underlying0
 a0:=Tryz.isAgg0
 z0:=Tryz.sizeOf0
 v0:=Tryz.zeroValue0
 t3:=Tryz.underlying3
 a3:=Tryz.isAgg3
 z3:=Tryz.sizeOf3
 v3:=Tryz.zeroValue3
 t4:=Tryz.underlying4
 a4:=Tryz.isAgg4
 z4:=Tryz.sizeOf4
 v4:=Tryz.zeroValue4
 t9:=Tryz.underlying9
 a9:=Tryz.isAgg9
 z9:=Tryz.sizeOf9
 v9:=Tryz.zeroValue9
 t20:=Tryz.underlying20
 a20:=Tryz.isAgg20
 z20:=Tryz.sizeOf20
 v20:=Tryz.zeroValue20
 t22:=Tryz.underlying44
 a22:=Tryz.isAgg44
 z22:=Tryz.sizeOf44
 v22:=Tryz.zeroValue44}
theorem grow0_any (n:Nat)(w:World)(hn:n<=1000000):
  Calls Tryz.prog 98 #[.slice none 0 0,.int .i64 n] w fun e w'=>∃(A:Option Addr) (c:Nat),e= .returned (.slice A 0 c)/\RowN w' w.heap.size 28 2 (.slice A 0 c) 0 []/\Ext w w':=by
 by_cases h0:n=0
 ·subst h0
  refine(Any8.slices_Grow_room growP none 0 0 0 w (Nat.le_refl _) dC dC dC:Calls _ _ _ _ _).mono ?_;rintro e w' ⟨rfl,rfl⟩;exact⟨none,0,rfl,RowN.nil _ _ _ _,Ext.refl _⟩
 obtain⟨h1,i,z,hi,hz,hs,hb,hzs,hzu,_⟩:=elPoint;refine(Any8.slices_Grow_grow growP i z hi hz (by omega) none 0 0 n [] w (Nat.le_refl _) (by omega) (by rw[hb];omega) (by omega) (by simp) (fun _=>rfl) (fun a h=>by cases h):Calls _ _ _ _ _).mono ?_;rintro e w' ⟨rfl,rfl⟩;simp only[Nat.zero_add,Nat.sub_zero];have hge:=grownCap_ge w n 0 28;have hcm:grownCap w n 0 28<=maxLen:=grownCap_le_maxLen w n 0 28 (by unfold maxLen;omega);have hzc:∀k,NoUL (Builtin.zeroCells z.cells k).toList:=fun k=>noUL_zero _ _ (by omega) hzu
 refine⟨_,_,rfl,⟨by simp,.inr ⟨w.heap.size,_,(Builtin.zeroCells z.cells n).toList++(Builtin.zeroCells z.cells (grownCap w n 0 28-n)).toList,rfl,Nat.le_refl _,?_,Nat.zero_le _,hcm,?_,?_⟩⟩,((Ext.refl w).drew).alloc _⟩
 ·have h:=Blk.new w.drew 28 (([]:List Value).toArray++Builtin.zeroCells z.cells n++Builtin.zeroCells z.cells (grownCap w n 0 28-n))
  have e2:([]++((Builtin.zeroCells z.cells n).toList++(Builtin.zeroCells z.cells (grownCap w n 0 28-n)).toList)).toArray=([]:List Value).toArray++Builtin.zeroCells z.cells n++Builtin.zeroCells z.cells (grownCap w n 0 28-n):=by
   apply Array.ext';simp
  rw[e2];exact h
 ·rw[List.length_nil,List.length_append,Array.length_toList,Array.length_toList,size_zeroCells,size_zeroCells,hzs,<-Nat.add_mul,Nat.zero_add,Nat.add_sub_cancel' hge]
  rfl
 exact(hzc _).app (hzc _)
end Go.Proofs.YtngikkggjidenabGreat
namespace Go.Proofs.YtngikkggjidenabGreat
open Go.RowKit
attribute [local go_sem ↓] Go.wp_at_zero Go.wp_at_succ run_max_ii run_min_ii
theorem flat_takeP {rs:List Ring}{k:Nat}{r:Ring}(h:rs[k]?=some r):(rs.take (k+1)).flatten=(rs.take k).flatten++r:=by
  rw[List.take_add_one,h,List.flatten_append];simp
theorem flat_tot:∀rs:List Ring,rs.flatten.length=tot rs
  | []=>rfl
  | r::rs=>by
    rw[List.flatten_cons,List.length_append,flat_tot rs];show _=rs.foldl (fun n r=>n+r.length) (0+r.length);rw[foldl_tot];omega
def mmS (m:(Int×Int)×(Int×Int))(q:Int×Int):(Int×Int)×(Int×Int):=((min m.1.1 q.1,min m.1.2 q.2),(max m.2.1 q.1,max m.2.2 q.2))
def bbF (p:Int×Int)(l:List (Int×Int)):(Int×Int)×(Int×Int):=l.foldl mmS (p,p)
theorem bbF_snoc (p q:Int×Int)(l:List (Int×Int)):bbF p (l++[q])=mmS (bbF p l) q:=by unfold bbF;rw[List.foldl_append];rfl
theorem bbF_ok {p:Int×Int}{l:List (Int×Int)}(hp:okP p):∀{m},(∀q,q∈l->okP q)->m=bbF p l->okP m.1/\okP m.2:=by
 have key:∀(l:List (Int×Int)) (m:(Int×Int)×(Int×Int)),okP m.1->okP m.2->(∀q,q∈l->okP q)->okP (l.foldl mmS m).1/\okP (l.foldl mmS m).2:=by
  intro l;induction l with
  |nil=>intro m h1 h2 _;exact⟨h1,h2⟩
  |cons q l ih=>
   intro m h1 h2 h;have hq:=okP_out (h q (by simp));have k1:=okP_out h1;have k2:=okP_out h2;refine ih (mmS m q) ?_ ?_ (fun z hz=>h z (by simp[hz]))
   ·unfold mmS;simp[okP,okPt];omega
   unfold mmS;simp[okP,okPt];omega
 intro m h e;subst e;exact key l (p,p) hp hp h
def bbV (rs:List Ring):(Int×Int)×(Int×Int):=bbF (rs.flatten.headD (0,0)) rs.flatten
theorem concat_any (A:Option Addr)(cap:Nat)(rs:List Ring)(w:World)(hu:RingsV w (.slice A rs.length cap) rs)(hn:rs.length<=1048576)(ht:tot rs<=4096):
  Calls Tryz.prog 61 #[.slice A rs.length cap] w fun e w'=>∃(B:Option Addr) (c:Nat),e= .returned (.slice B rs.flatten.length c)/\RowN w' w.heap.size 28 2 (.slice B rs.flatten.length c) rs.flatten.length (rs.flatten.flatMap ptC)/\Ext w w':=by
 have HU:=zH hu;have HT:=zH ht;have hn2:=hn;clear hu ht hn;generalize hF_:rs.flatten=F
 have HFF:=zH hF_;clear hF_;go_enter Tryz.func61,Tryz.ntmps61
 have H0:=zH (Hp.start w);go_upto_region 0 with fail
 refine wl ?_;refine zI1 (Hp.start _) _ ?_;go_upto_region 1 with fail
 refine wl ?_;refine zq (.int .i64 0) ?_;go_upto_region 2 with fail
 refine wl ?_;refine zI3 (Hp.start _) _ (.int .i64 ((rs.length:Nat):Int)) _ ?_;go_wp2_with fail
 go_loopg [3,11] (rs.length) (fun cq v6 v7 wr=>∃(k:Nat),cq=rs.length-k/\v6= .int .i64 ((tot (rs.take k):Nat):Int)/\v7= .int .i64 (k:Int)/\(k<=rs.length)/\Hp w wr []/\Dig w wr)
 case atStart=>exact⟨0,rfl,rfl,rfl,Nat.zero_le _,H0.out,Dig.refl _⟩
 obtain⟨k,rfl,rfl,rfl,q_HKI,hh_,hd_⟩:=hrel;generalize wr=w8 at*
 have HKI:=zH q_HKI;clear q_HKI;have H10:=zH hh_;have D10:=zH hd_;clear hh_ hd_;rcases emH (k<rs.length)with HLT|HLT
 ·have hlt:=HLT.out
  obtain⟨r,hri_⟩:∃r,rs[k]?=some r:=⟨_,List.getElem?_eq_getElem hlt⟩;have HRI:=zH hri_;obtain⟨g,off,rfl,hp_⟩:∃g off,A=some ⟨g,off,none⟩/\∀i r,rs[i]?=some r->∃B cb,World.cell? w ⟨g,off+i,none⟩=some (.slice B r.length cb)/\PtsV w (.slice B r.length cb) r:=by obtain⟨A_,cu_,hv_,hA_⟩:=HU.out;injection hv_ with e1_ e2_ e3_;subst e1_;obtain⟨g_,off_,e_,h_⟩:=hA_ (by omega);exact⟨g_,off_,e_,h_⟩
  obtain⟨B,cb,h1_,h2_⟩:=hp_ k r hri_;have HRC:=zH h1_;have HPT:=zH h2_;clear hri_ hp_ h1_ h2_;have hts:=tot_succ HRI.out;have htk:=tot_take rs (k+1);have htt:=HT.out;go_upto_region 3 with fail
  refine wl ?_;refine zp (.bool true) (by exact ezl (e:=(dec_t (by omega)))) ?_;go_upto_region 4 with fail
  refine wl ?_;refine zp (.pointer (some ⟨g,off+k,none⟩)) (by exact ezi (k:=k) Tryz.underlying22 (l:=hlt) (f:=(show off+k=off+k*1 by omega))) ?_;refine ze g (off+k) (.slice B r.length cb) (range_one (H10.out.ext.get HRC.out)) ?_;refine zI1 (Hp.start _) _ ?_;go_upto_region 5 with fail
  refine wl ?_;refine zI3 (Hp.start _) (.int .i64 ((tot (rs.take k):Nat):Int)) _ (.int .i64 ((r.length:Nat):Int)) ?_;refine zp (.int .i64 ((tot (rs.take k)+r.length:Nat):Int)) (by exact ez1 (by omega)) ?_;refine zq (.int .i64 ((tot (rs.take k)+r.length:Nat):Int)) ?_;go_upto_region 6 with fail
  refine wl ?_;refine zq (.int .i64 ((tot (rs.take k)+r.length:Nat):Int)) ?_;refine zp (.bool false) (by exact ezl (e:=(dec_f (by omega)))) ?_;go_upto_region 8 with fail
  refine wl ?_;refine zp (.int .i64 ((k+1:Nat):Int)) (by exact ez1 (by omega)) ?_;refine zq (.int .i64 ((k+1:Nat):Int)) ?_;go_wp2_with fail
  go_roundg (rs.length-(k+1))
  case measure=>exact(by omega)
  case rel=>exact⟨k+1,rfl,(by first|(rw[hts];done)|(rw[hts];go_num)),(by go_num),hlt,H10.out,H10.out.dig0⟩
 have hlt:=HLT.out;have hkk:=HKI.out;obtain rfl:k=rs.length:=by omega
 have htk:=tot_take rs rs.length;have htt:=HT.out;go_upto_region 3 with fail
 refine wl ?_;refine zp (.bool false) (by exact ezl (e:=(dec_f (Int.lt_irrefl _)))) ?_;go_upto_region 9 with fail
 refine wl ?_;refine qV (.int .i64 ((tot (rs.take rs.length):Nat):Int)) ?_;refine zc (grow0_any (tot (rs.take rs.length)) _ (by omega)) ?_;rintro e w26 ⟨Ag,cg,rfl,hg_,hx⟩;have H27:=zH (show Hp w w26 [ro 28 2 Ag 0 cg ptC ([])]from H10.out.addRow hx hg_);clear hg_ hx;refine zn ?_;refine zI1 (Hp.start _) _ ?_;go_upto_region 10 with fail
 refine wl ?_;refine zI3 (Hp.start _) _ (.int .i64 ((rs.length:Nat):Int)) _ ?_;go_wp2_with fail
 go_loopg [6,27] (rs.length) (fun cq v33 v34 wr=>∃(i:Nat) (A1:Option Addr) (c1:Nat) (m:Nat) (es:List (Int×Int)),cq=rs.length-i/\v33= .slice A1 m c1/\v34= .int .i64 (i:Int)/\(i<=rs.length)/\(m=es.length)/\(es=(rs.take i).flatten)/\Hp w wr [.row 28 2 (.slice A1 m c1) (m) (List.flatMap ptC es)]/\Dig w26 wr)
 case atStart=>exact⟨0,Ag,cg,0,[],rfl,rfl,rfl,Nat.zero_le _,rfl,rfl,H27.out,Dig.refl _⟩
 obtain⟨i,A1,c1,m,es,rfl,rfl,rfl,q_HKJ,q_HM,q_HES,hh_,hd_⟩:=hrel;generalize wr=w35 at*
 have HKJ:=zH q_HKJ;clear q_HKJ;have HM:=zH q_HM;clear q_HM;have HES:=zH q_HES;clear q_HES;have H37:=zH hh_;have D37:=zH hd_;clear hh_ hd_ H27;rcases emH (i<rs.length)with HLU|HLU
 ·have hlt:=HLU.out
  obtain⟨r,hri_⟩:∃r,rs[i]?=some r:=⟨_,List.getElem?_eq_getElem hlt⟩;have HRI:=zH hri_;obtain⟨g,off,rfl,hp_⟩:∃g off,A=some ⟨g,off,none⟩/\∀i r,rs[i]?=some r->∃B cb,World.cell? w ⟨g,off+i,none⟩=some (.slice B r.length cb)/\PtsV w (.slice B r.length cb) r:=by obtain⟨A_,cu_,hv_,hA_⟩:=HU.out;injection hv_ with e1_ e2_ e3_;subst e1_;obtain⟨g_,off_,e_,h_⟩:=hA_ (by omega);exact⟨g_,off_,e_,h_⟩
  obtain⟨B,cb,h1_,h2_⟩:=hp_ i r hri_;have HRC:=zH h1_;have HPT:=zH h2_;clear hri_ hp_ h1_ h2_;have HPC:=zH (pts_cells HPT.out);have hts:=tot_succ HRI.out;have htk:=tot_take rs (i+1);have htt:=HT.out;have hmk:m+r.length<=4096:=by rw[HM.out,HES.out,flat_tot];omega
  clear hts htk htt;go_upto_region 11 with fail
  refine wl ?_;refine zp (.bool true) (by exact ezl (e:=(dec_t (by omega)))) ?_;go_upto_region 12 with fail
  refine wl ?_;refine zp (.pointer (some ⟨g,off+i,none⟩)) (by exact ezi (k:=i) Tryz.underlying22 (l:=hlt) (f:=(show off+i=off+i*1 by omega))) ?_;refine ze g (off+i) (.slice B r.length cb) (range_one (H37.out.ext.get HRC.out)) ?_;refine zI1 (Hp.start _) _ ?_;go_upto_region 13 with fail
  refine wl ?_;refine zI2 (Hp.start _) _ _ ?_;refine mv_appS rR _ _ _ rR elPoint rR H37.out (ix:=0) rR B r.length cb (List.flatMap ptC r) rR (flat_length ptC_len r) (fun h0_=>by obtain⟨ad_,h1_,h2_⟩:=HPC.out h0_;exact⟨ad_,h1_,fun j_ u_ hj_=>H37.out.ext.get (h2_ j_ u_ hj_)⟩) (pt_ones r) (pt_nou r) (by unfold maxLen;exact(by omega)) (by omega) ?_;intro A45 c46 w44 hh hd hg hf;clear hf;rw[show List.flatMap ptC es++List.flatMap ptC r=List.flatMap ptC (es++r)from List.flatMap_append.symm]at hh;have H47:=hN hh;have D47:=zH (hd);clear hh hd hg;try simp only[Act.put,zA,zB,zC]
  refine zq (.slice A45 (m+r.length) c46) ?_;go_upto_region 14 with fail
  refine wl ?_;refine zp (.int .i64 ((i+1:Nat):Int)) (by exact ez1 (by omega)) ?_;refine zq (.int .i64 ((i+1:Nat):Int)) ?_;have DD52:=tD D37 D47;go_wp2_with fail
  go_roundg (rs.length-(i+1))
  case measure=>exact(by omega)
  case rel=>exact⟨i+1,A45,c46,m+r.length,es++r,rfl,rfl,(by go_num),hlt,(by rw[List.length_append,HM.out]),(by rw[HES.out,flat_takeP HRI.out]),H47.out,DD52.out⟩
 have hlt:=HLU.out;have hkk2:=HKJ.out;obtain rfl:i=rs.length:=by omega
 go_upto_region 11 with fail
 refine wl ?_;refine zp (.bool false) (by exact ezl (e:=(dec_f (Int.lt_irrefl _)))) ?_;go_upto_region 15 with fail
 refine wl ?_;refine zI2 (Hp.start _) _ _ ?_;have hes:es=F:=by rw[HES.out,List.take_length];exact HFF.out
 have hm2:=HM.out;subst hes;subst hm2;go_wp2_with fail
 go_ret
 exact⟨A1,c1,rfl,H37.out.row (i:=0) (by rfl),H37.out.ext⟩
theorem bounds_any (A:Option Addr)(cap:Nat)(rs:List Ring)(w:World)(hu:RingsV w (.slice A rs.length cap) rs)(hn:rs.length<=1048576)(hr:∀r,r∈rs->r.length<=1048576)(ho:okR rs=true):
  Calls Tryz.prog 35 #[.slice A rs.length cap] w fun e w'=>((rs.flatten=[]/\e= .returned (.tuple #[.agg #[.int .i64 0,.int .i64 0],.agg #[.int .i64 0,.int .i64 0],.bool false]))\/
   (rs.flatten≠ []/\e= .returned (.tuple #[.agg #[.int .i64 (bbV rs).1.1,.int .i64 (bbV rs).1.2],.agg #[.int .i64 (bbV rs).2.1,.int .i64 (bbV rs).2.2],.bool true])))/\Ext w w':=by
 have HU:=zH hu;have HN:=zH hn;have HRR:=zH hr;clear hu hr;have HV:=zH ho;clear ho;generalize hF_:rs.flatten=F
 have HFF:=zH hF_;clear hF_;go_enter Tryz.func35,Tryz.ntmps35
 have H0:=zH (Hp.start w);go_upto_region 0 with fail
 refine wl ?_;refine aA' 28 [.int .i64 0,.int .i64 0] H0.out ?_;intro X40 w41 H42 _;refine aA' 28 [.int .i64 0,.int .i64 0] H42.out ?_;intro X45 w46 H47 _;refine zq (.bool false) ?_;go_upto_region 1 with fail
 refine wl ?_;refine zI1 (Hp.start _) _ ?_;refine zc (HFF.out▸concat_any A cap rs _ (HU.out.ext H47.out.ext) HN.out (okR_tot HV.out)) ?_;rintro e w52 ⟨Bf,cf,rfl,hg_,hx⟩;obtain⟨A0_,c0_,e0_,hf_⟩:=hg_.form;obtain⟨rfl,rfl⟩:Bf=A0_/\cf=c0_:=by injection e0_ with e1_ _ e3_;exact⟨e1_,e3_⟩
 have HF:=zH hf_;clear e0_ hf_;have H53:=zH (show Hp w w52 [.blk X40 28 [.int .i64 0,.int .i64 0],.blk X45 28 [.int .i64 0,.int .i64 0],ro 28 2 Bf F.length cf ptC F]from H47.out.addRow hx hg_);clear hg_ hx;refine zn ?_;refine zI1 (Hp.start _) _ ?_;have hfl:F.length<=4096:=by rw[<-HFF.out,flat_tot];exact okR_tot HV.out
 rcases emH (F=[])with HE|HE
 ·have he:=HE.out
  have hel:F.length=0:=by rw[he];rfl
  go_upto_region 2 with fail
  refine wl ?_;refine zI2 (Hp.start _) _ (.int .i64 ((F.length:Nat):Int)) ?_;refine zp (.bool true) (by exact ezq (e:=(dec_t (by omega)))) ?_;refine zI5 (Hp.start _) (.bool true) _ _ _ (.bool true) ?_;go_upto_region 3 with fail
  refine wl ?_;refine zI2 (Hp.start _) _ _ ?_;refine aS' 0 [.int .i64 0,.int .i64 0] H53.out ?_;intro w64 H65 _;refine aS' 1 [.int .i64 0,.int .i64 0] H65.out ?_;intro w67 H68 _;refine zq (.bool false) ?_;go_wp2_with fail
  refine bodyPost_ret (v:= .tuple #[.agg #[.int .i64 0,.int .i64 0],.agg #[.int .i64 0,.int .i64 0],.bool false]) ?_ rfl ⟨.inl ⟨HE.out,rfl⟩,H68.out.ext⟩;exact results_c1c1t1 rfl rfl rfl ((H68.out.blk (i:=0) rR).loadVar rfl rfl rR) ((H68.out.blk (i:=1) rR).loadVar rfl rfl rR) rfl
 have hne:=HE.out;have hpos:0<F.length:=List.length_pos_iff.2 hne;obtain⟨gb,rfl⟩:=HF.out hpos;obtain⟨p,hp0_⟩:∃p,F[0]?=some p:=⟨_,List.getElem?_eq_getElem hpos⟩;have HP:=zH hp0_;have HBB:=zH (show bbV rs=bbF p F from by unfold bbV;rw[HFF.out,List.headD_eq_head?_getD,List.head?_eq_getElem?,HP.out];rfl);clear hp0_;go_upto_region 2 with fail
 refine wl ?_;refine zI2 (Hp.start _) _ (.int .i64 ((F.length:Nat):Int)) ?_;refine zp (.bool false) (by exact ezq (e:=(dec_f (by omega)))) ?_;refine zI2 (Hp.start _) (.bool false) _ ?_;refine zc (polyValid_any _ rs _ (HU.out.ext H53.out.ext) HN.out HRR.out) ?_;rintro e w76 ⟨rfl,hx⟩;have H77:=zH (H53.out.step hx);clear hx;refine⟨.bool true,by rw[HV.out],?_⟩;try simp only[Act.put,zA,zB,zC]
 refine qV (.bool false) ?_;refine zq (.bool false) ?_;go_upto_region 4 with fail
 refine zy ?_;have H81:=zH (H77.out.step (Ext.refl w76).drew);refine zJ1 (Hp.start _) zb (bs 10 1) 0 _ ?_;refine zo 1 (bs 10 3) (v:= .pointer (some ⟨gb,0*2,none⟩)) zb ?_ (hv:=by intro w hSw;exact ezi (k:=0) Tryz.underlying44 (l:=hpos) (f:=(Nat.zero_add _).symm));refine zg 2 (bs 10 7) gb (0*2) [.int .i64 p.1,.int .i64 p.2] (H77.out.elem (f:=ptC) (i:=2) rR ptC_len HP.out) Tryz.underlying28 zb ?_;refine zJ1 (Hp.start _) zb (bs 10 15) 3 _ ?_;refine zo 4 (bs 10 31) (v:= .pointer (some ⟨gb,0*2,none⟩)) zb ?_ (hv:=by intro w hSw;exact ezi (k:=0) Tryz.underlying44 (l:=hpos) (f:=(Nat.zero_add _).symm));refine zg 5 (bs 10 63) gb (0*2) [.int .i64 p.1,.int .i64 p.2] (H77.out.elem (f:=ptC) (i:=2) rR ptC_len HP.out) Tryz.underlying28 zb ?_;refine md_alloc2 (i:=6) (j:=7) (T:=28) (U:=28) (zs:=[.int .i64 0,.int .i64 0]) (us:=[.int .i64 0,.int .i64 0]) (li:=(bs 10 127)) (lj:=(bs 10 191)) (lij:=(bs 10 255)) rR rR kR kR kR kR kR kR kR rR rR dC (by intro r_ x_;go_simp) (by intro r_ x_;go_simp) (fun x y h1 h2=>h1.trans h2) zb H81.out (by simp[NoUL]) (by simp[NoUL]) ?_;intro X87 Y88 w89 hh hx hg1 hg2 hs;have H90:=hN hh;have S92:=zH (show Ext w76 w89 from hs);have G93:=zH (Nat.le_trans zb.size hg1);have G94:=zH (Nat.le_trans zb.size hg2);clear hh hx hg1 hg2 hs;try simp only[Act.put,zA,zB,zC]
 refine bS 3 8 (bs 10 511) [.int .i64 p.1,.int .i64 p.2] H90.out S92.out G93.out ?_;intro w95 H96 _ S98;refine bS 4 9 (bs 10 1023) [.int .i64 p.1,.int .i64 p.2] H96.out S98.out G94.out ?_;intro w99 H100 _ S102;refine wpAnyH_done kR ?_ _;go_upto_region 5 with fail
 refine wl ?_;refine zI3 (Hp.start _) _ (.int .i64 ((F.length:Nat):Int)) _ ?_;go_wp2_with fail
 go_loopg [30] (F.length) (fun cq v106 wr=>∃(k:Nat),cq=F.length-k/\v106= .int .i64 (k:Int)/\(k<=F.length)/\Hp w wr [.blk X40 28 [.int .i64 0,.int .i64 0],.blk X45 28 [.int .i64 0,.int .i64 0],.row 28 2 (.slice (some ⟨gb,0,none⟩) F.length cf) (F.length) (List.flatMap ptC F),.blk X87 28 [.int .i64 ((bbF p (F.take k)).1.1),.int .i64 ((bbF p (F.take k)).1.2)],.blk Y88 28 [.int .i64 ((bbF p (F.take k)).2.1),.int .i64 ((bbF p (F.take k)).2.2)]]/\Dig w99 wr)
 case atStart=>exact⟨0,rfl,rfl,Nat.zero_le _,H100.out,Dig.refl _⟩
 obtain⟨k,rfl,rfl,q_HKI,hh_,hd_⟩:=hrel;generalize wr=w107 at*
 have HKI:=zH q_HKI;clear q_HKI;have H109:=zH hh_;have D109:=zH hd_;clear hh_ hd_ H100;rcases emH (k<F.length)with HLT|HLT
 ·have hlt:=HLT.out
  obtain⟨x,hx_⟩:∃x,F[k]?=some x:=⟨_,List.getElem?_eq_getElem hlt⟩;have HX:=zH hx_;have HSN:=zH (show bbF p (F.take (k+1))=mmS (bbF p (F.take k)) x from by rw[List.take_add_one,HX.out];exact bbF_snoc _ _ _);clear hx_;go_upto_region 6 with fail
  refine wl ?_;refine zp (.bool true) (by exact ezl (e:=(dec_t (by omega)))) ?_;go_upto_region 7 with fail
  refine wl ?_;refine zp (.pointer (some ⟨gb,k*2,none⟩)) (by exact ezi (k:=k) Tryz.underlying44 (l:=hlt) (f:=(Nat.zero_add _).symm)) ?_;refine zd gb (k*2) [.int .i64 x.1,.int .i64 x.2] (H109.out.elem (f:=ptC) (i:=2) rR ptC_len HX.out) Tryz.underlying28 ?_;refine aA' 28 [.int .i64 0,.int .i64 0] H109.out ?_;intro X113 w114 H115 D115;refine aS' 5 [.int .i64 x.1,.int .i64 x.2] H115.out ?_;intro w118 H119 D119;go_upto_region 8 with fail
  refine wl ?_;refine zI8 H119.out _ _ _ _ (.int .i64 (min ((bbF p (F.take k)).1.1) x.1)) _ _ _ ?_;refine zI3 H119.out _ (.int .i64 (min ((bbF p (F.take k)).1.2) x.2)) _ ?_;refine aS' 3 [.int .i64 (min ((bbF p (F.take k)).1.1) x.1),.int .i64 (min ((bbF p (F.take k)).1.2) x.2)] H119.out ?_;intro w128 H129 D129;go_upto_region 9 with fail
  refine wl ?_;refine zI8 H129.out _ _ _ _ (.int .i64 (max ((bbF p (F.take k)).2.1) x.1)) _ _ _ ?_;refine zI3 H129.out _ (.int .i64 (max ((bbF p (F.take k)).2.2) x.2)) _ ?_;refine aS' 4 [.int .i64 (max ((bbF p (F.take k)).2.1) x.1),.int .i64 (max ((bbF p (F.take k)).2.2) x.2)] H129.out ?_;intro w138 H139 D139;go_upto_region 10 with fail
  refine wl ?_;refine zp (.int .i64 ((k+1:Nat):Int)) (by exact ez1 (by omega)) ?_;refine zq (.int .i64 ((k+1:Nat):Int)) ?_;have DD143:=tD (tD (tD (tD D109 D115) D119) D129) D139;go_wp2_with fail
  go_roundg (F.length-(k+1))
  case measure=>exact(by omega)
  case rel=>exact⟨k+1,rfl,(by go_num),hlt,(by rw[HSN.out];exact H139.out.take 5),DD143.out⟩
 have hlt:=HLT.out;have hkk:=HKI.out;obtain rfl:k=F.length:=by omega
 go_upto_region 6 with fail
 refine wl ?_;refine zp (.bool false) (by exact ezl (e:=(dec_f (Int.lt_irrefl _)))) ?_;go_upto_region 11 with fail
 refine wp_region_held_drew (S:=fun x=>Fr (fun kz=>kz=X40\/kz=X45) w107 x) kR (Fr.of_ext zb) (fun _=> ?_);have H145:=zH (H109.out.step (Ext.refl w107).drew);refine mR 0 (bs 5 1) X87 (0) [.int .i64 ((bbF p (F.take F.length)).1.1),.int .i64 ((bbF p (F.take F.length)).1.2)] (fun x hx=>Fr.range hx (show World.rangeAt w107 X87 (0) [.int .i64 ((bbF p (F.take F.length)).1.1),.int .i64 ((bbF p (F.take F.length)).1.2)]from(H109.out.range (i:=3) rR 0 2)) (fun hk=>hk.elim (H109.out.offBlk (i:=3) (j:=0) rR rR dC rR) (H109.out.offBlk (i:=3) (j:=1) rR rR dC rR))) Tryz.underlying28 (Fr.of_ext zb) ?_;refine zr 1 (bs 5 3) Y88 (0) [.int .i64 ((bbF p (F.take F.length)).2.1),.int .i64 ((bbF p (F.take F.length)).2.2)] (fun x hx=>Fr.range hx (show World.rangeAt w107 Y88 (0) [.int .i64 ((bbF p (F.take F.length)).2.1),.int .i64 ((bbF p (F.take F.length)).2.2)]from(H109.out.range (i:=4) rR 0 2)) (fun hk=>hk.elim (H109.out.offBlk (i:=4) (j:=0) rR rR dC rR) (H109.out.offBlk (i:=4) (j:=1) rR rR dC rR))) Tryz.underlying28 (Fr.of_ext zb) ?_;refine md_st (i:=2) (listed':=(bs 5 7)) rR kR rR kR _ _ _ rR H145.out (ix:=0) rR 0 [.int .i64 ((bbF p (F.take F.length)).1.1),.int .i64 ((bbF p (F.take F.length)).1.2)] rR rR (by simp) kR (by simp[Value.oneCell']) (by simp[NoUL]) ?_;intro w147 hh hd ho;have H148:=hN hh;have S150:=zH (show Fr (fun kz=>kz=X40\/kz=X45) w107 w147 from Fr.trans_new (Fr.of_ext zb) ho (fun j hj=> .inl (.inl (by injection hj with hj;exact hj.symm))));clear hh hd ho;refine⟨S150.out,?_⟩
 (try simp only[Act.put])
 refine md_st (i:=3) (listed':=(bs 5 15)) rR kR rR kR _ _ _ rR H148.out (ix:=1) rR 0 [.int .i64 ((bbF p (F.take F.length)).2.1),.int .i64 ((bbF p (F.take F.length)).2.2)] rR rR (by simp) kR (by simp[Value.oneCell']) (by simp[NoUL]) ?_;intro w151 hh hd ho;have H152:=hN hh;have S154:=zH (Fr.trans_new S150.out ho (fun j hj=> .inl (.inr (by injection hj with hj;exact hj.symm))));clear hh hd ho;refine⟨S154.out,?_⟩
 (try simp only[Act.put])
 refine zx 4 (bs 5 31) (.bool true) S154.out ?_;refine wpAnyH_done kR ?_ _;go_wp2_with fail
 refine bodyPost_ret (v:= .tuple #[.agg #[.int .i64 ((bbF p (F.take F.length)).1.1),.int .i64 ((bbF p (F.take F.length)).1.2)],.agg #[.int .i64 ((bbF p (F.take F.length)).2.1),.int .i64 ((bbF p (F.take F.length)).2.2)],.bool true]) ?_ rfl ⟨.inr ⟨HE.out,by rw[HBB.out,List.take_length]⟩,H152.out.ext⟩;exact results_c1c1t1 rfl rfl rfl ((H152.out.blk (i:=0) rR).loadVar rfl rfl rR) ((H152.out.blk (i:=1) rR).loadVar rfl rfl rR) rfl
theorem bounds_none (A:Option Addr)(cap:Nat)(rs:List Ring)(w:World)(hu:RingsV w (.slice A rs.length cap) rs)(hn:rs.length<=1048576)(hr:∀r,r∈rs->r.length<=1048576)(ho:okR rs=true)(h0:rs.flatten=[]):
    Calls Tryz.prog 35 #[.slice A rs.length cap] w fun e w'=>e= .returned (.tuple #[.agg #[.int .i64 0,.int .i64 0],.agg #[.int .i64 0,.int .i64 0],.bool false])/\Ext w w':=
  (bounds_any A cap rs w hu hn hr ho).mono fun _ _ h=>⟨h.1.elim (fun k=>k.2) (fun k=>absurd h0 k.1),h.2⟩
theorem bounds_some (A:Option Addr)(cap:Nat)(rs:List Ring)(w:World)(hu:RingsV w (.slice A rs.length cap) rs)(hn:rs.length<=1048576)(hr:∀r,r∈rs->r.length<=1048576)(ho:okR rs=true)(h0:rs.flatten≠ []):
    Calls Tryz.prog 35 #[.slice A rs.length cap] w fun e w'=>e= .returned (.tuple #[.agg #[.int .i64 (bbV rs).1.1,.int .i64 (bbV rs).1.2],.agg #[.int .i64 (bbV rs).2.1,.int .i64 (bbV rs).2.2],.bool true])/\Ext w w':=
  (bounds_any A cap rs w hu hn hr ho).mono fun _ _ h=>⟨h.1.elim (fun k=>absurd k.1 h0) (fun k=>k.2),h.2⟩
def totV (rule:Int)(rs:List Ring):Rat:=if rs.flatten=[]then((0:Int):Rat)else areaV rule (bbV rs).1 (bbV rs).2 rs/((65536:Int):Rat)
theorem bbV_ok {rs:List Ring}(h:okR rs=true)(hne:rs.flatten≠ []):okP (bbV rs).1/\okP (bbV rs).2:=by
  have hall:∀q,q∈rs.flatten->okP q:=fun q hq=>by
    obtain⟨r,hr,hq⟩:=List.mem_flatten.1 hq;exact okR_pts h hr hq
  refine bbF_ok (p:=rs.flatten.headD (0,0)) (l:=rs.flatten) ?_ hall rfl;cases e:rs.flatten with
  |nil=>exact absurd e hne
  |cons p l=>exact hall p (by rw[e];simp)
theorem total_any (A:Option Addr)(cap:Nat)(rs:List Ring)(rule:Int)(w:World)(hu:RingsV w (.slice A rs.length cap) rs)(hn:rs.length<=1048576)(hr:∀r,r∈rs->r.length<=1048576)(hs:tot rs<=24)(hru: -9223372036854775808<=rule/\rule<=9223372036854775807):
  Calls Tryz.prog 15 #[.slice A rs.length cap,.int .i64 rule] w (RetZ 50010 (fitE rule rs) (totV rule rs) w):=by
 have HU:=zH hu;have HN:=zH hn;have HRR:=zH hr;clear hu hr;have HTOT:=zH hs;have HRU:=zH hru;clear hs hru;go_enter Tryz.func15,Tryz.ntmps15
 have H0:=zH (Hp.start w);go_upto_region 0 with fail
 refine wl ?_;refine aA' 33 rz H0.out ?_;intro X421 w422 H423 _;refine zq (.int .i64 0) ?_;rcases emH (okR rs=true)with HV|HV
 ·rcases emH (rule=1\/rule=2)with HRL|HRL
  ·have HF0:=zH (show fitE rule rs=0 from(if_pos HV.out).trans (if_pos HRL.out))
   go_upto_region 1 with fail
   refine wl ?_;refine zI2 (Hp.start _) _ (.int .i64 rule) ?_;refine aC H423.out (fits_any A cap rs rule 0 _ (HU.out.ext H423.out.ext) HN.out HRR.out ((if_pos HV.out).trans (if_pos HRL.out))) ?_;intro w431 H432 _;refine zq (.int .i64 0) ?_;go_upto_region 2 with fail
   refine wl ?_;refine zq (.int .i64 0) ?_;refine zp (.bool false) (by exact ezn (e:=(dec_f (by omega)))) ?_;rcases emH (rs.flatten=[])with HE|HE
   ·go_upto_region 4 with fail
    refine wl ?_;refine zI1 (Hp.start _) _ ?_;refine aC H432.out (bounds_none A cap rs _ (HU.out.ext H432.out.ext) HN.out HRR.out HV.out HE.out) ?_;intro w439 H440 _;refine zI4 (Hp.start _) _ _ _ (.bool false) ?_;refine aA' 28 [.int .i64 0,.int .i64 0] H440.out ?_;intro X446 w447 H448 _;refine aA' 28 [.int .i64 0,.int .i64 0] H448.out ?_;intro X451 w452 H453 _;refine aS' 1 [.int .i64 0,.int .i64 0] H453.out ?_;intro w456 H457 _;refine aS' 2 [.int .i64 0,.int .i64 0] H457.out ?_;intro w459 H460 _;refine zq (.bool false) ?_;go_upto_region 5 with fail
    refine wl ?_;refine zI2 (Hp.start _) (.bool false) (.bool true) ?_;go_upto_region 6 with fail
    refine wl ?_;refine zc (pFrom 0 _ (by omega) (by omega)) ?_;rintro e w465 ⟨c_,rfl,hc_,hx⟩;have H467:=zH (H460.out.step hx);obtain⟨r466,rfl,hr_⟩:=hc_;have R466:=zH hr_;have B466:=zH (rl_i64 0 (by omega) (by omega));clear hr_ hx;refine zn ?_;refine aS' 0 (rc r466) H467.out ?_;intro w469 H470 D470;refine zq (.int .i64 0) ?_;go_wp2_with fail
    refine bodyPost_ret (v:= .tuple #[.agg #[.bool r466.n,.slice r466.p r466.l r466.c,.bool r466.m,.slice r466.p2 r466.l2 r466.c2],.int .i64 0]) ?_ rfl ⟨r466,by rw[HF0.out],fun _=>by rw[show totV rule rs=((0:Int):Rat)from if_pos HE.out];exact⟨(R466.out.dig D470.out),Nat.le_trans B466.out dC⟩,fun h_=>absurd HF0.out h_,H470.out.ext⟩;exact results_c1t1 rfl rfl ((H470.out.blk (i:=0) rR).loadVar rfl rfl rR) rfl
   go_upto_region 4 with fail
   refine wl ?_;refine zI1 (Hp.start _) _ ?_;refine aC H432.out (bounds_some A cap rs _ (HU.out.ext H432.out.ext) HN.out HRR.out HV.out HE.out) ?_;intro w474 H475 _;refine zI4 (Hp.start _) _ _ _ (.bool true) ?_;refine aA' 28 [.int .i64 0,.int .i64 0] H475.out ?_;intro X481 w482 H483 _;refine aA' 28 [.int .i64 0,.int .i64 0] H483.out ?_;intro X486 w487 H488 _;refine aS' 1 [.int .i64 ((bbV rs).1.1),.int .i64 ((bbV rs).1.2)] H488.out ?_;intro w491 H492 _;refine aS' 2 [.int .i64 ((bbV rs).2.1),.int .i64 ((bbV rs).2.2)] H492.out ?_;intro w494 H495 _;refine zq (.bool true) ?_;go_upto_region 5 with fail
   refine wl ?_;refine zI2 (Hp.start _) (.bool true) (.bool false) ?_;have HOB:=zH (bbV_ok HV.out HE.out);have HI0:=zH (show inbE rule (bbV rs).1 (bbV rs).2 rs=0 from inbE_zero.2 ⟨HV.out,HRL.out,HOB.out.1,HOB.out.2⟩);go_upto_region 7 with fail
   refine wl ?_;refine zI4 H495.out _ (.int .i64 rule) _ _ ?_;refine zc ((inbox_any A cap rs rule (bbV rs).1 (bbV rs).2 _ (HU.out.ext H495.out.ext) HN.out HRR.out HTOT.out HRU.out).mono (fun _ _ h_=>RetZ.ok h_ HI0.out)) ?_;rintro e w502 ⟨r503,rfl,h1_,h2_,hx⟩;have H504:=zH (H495.out.step hx);have R503:=zH h1_;have B503:=zH h2_;clear h1_ h2_ hx;refine zn ?_;refine zI2 (Hp.start _) _ _ ?_;refine zc ((pixels_any r503 0 (areaV rule (bbV rs).1 (bbV rs).2 rs) _ (fun _=>⟨R503.out,B503.out⟩) (fun h_=>absurd rfl h_)).mono (fun _ _ h_=>RetZ.ok h_ rfl)) ?_;rintro e w508 ⟨r509,rfl,h1_,h2_,hx⟩;have H510:=zH (H504.out.step hx);have R509:=zH h1_;have B509:=zH h2_;clear h1_ h2_ hx;refine zn ?_;refine zI2 (Hp.start _) _ _ ?_;refine aS' 0 (rc r509) H510.out ?_;intro w514 H515 D515;refine zq (.int .i64 0) ?_;go_wp2_with fail
   refine bodyPost_ret (v:= .tuple #[.agg #[.bool r509.n,.slice r509.p r509.l r509.c,.bool r509.m,.slice r509.p2 r509.l2 r509.c2],.int .i64 0]) ?_ rfl ⟨r509,by rw[HF0.out],fun _=>by rw[show totV rule rs=((areaV rule (bbV rs).1 (bbV rs).2 rs)/((65536:Int):Rat))from if_neg HE.out];exact⟨(R509.out.dig D515.out),B509.out⟩,fun h_=>absurd HF0.out h_,H515.out.ext⟩;exact results_c1t1 rfl rfl ((H515.out.blk (i:=0) rR).loadVar rfl rfl rR) rfl
  go_upto_region 1 with fail
  refine wl ?_;refine zI2 (Hp.start _) _ (.int .i64 rule) ?_;refine aC H423.out (fits_any A cap rs rule 2 _ (HU.out.ext H423.out.ext) HN.out HRR.out ((if_pos HV.out).trans (if_neg HRL.out))) ?_;intro w520 H521 _;refine zq (.int .i64 2) ?_;go_upto_region 2 with fail
  refine wl ?_;refine zq (.int .i64 2) ?_;refine zp (.bool true) (by exact ezn (e:=(dec_t (by omega)))) ?_;go_upto_region 3 with fail
  refine wl ?_;refine zI2 (Hp.start _) _ _ ?_;refine aS' 0 rz H521.out ?_;intro w528 H529 _;refine zq (.int .i64 2) ?_;go_wp2_with fail
  refine bodyPost_ret (v:= .tuple #[.agg z4,.int .i64 2]) ?_ rfl ⟨RV.zero,by rw[show fitE rule rs=2 from(if_pos HV.out).trans (if_neg HRL.out)];rfl,fun h_=>absurd h_ (by rw[show fitE rule rs=2 from(if_pos HV.out).trans (if_neg HRL.out)];decide),fun _=>rfl,H529.out.ext⟩;exact results_c1t1 rfl rfl ((H529.out.blk (i:=0) rR).loadVar rfl rfl rR) rfl
 go_upto_region 1 with fail
 refine wl ?_;refine zI2 (Hp.start _) _ (.int .i64 rule) ?_;refine aC H423.out (fits_any A cap rs rule 12 _ (HU.out.ext H423.out.ext) HN.out HRR.out (if_neg HV.out)) ?_;intro w534 H535 _;refine zq (.int .i64 12) ?_;go_upto_region 2 with fail
 refine wl ?_;refine zq (.int .i64 12) ?_;refine zp (.bool true) (by exact ezn (e:=(dec_t (by omega)))) ?_;go_upto_region 3 with fail
 refine wl ?_;refine zI2 (Hp.start _) _ _ ?_;refine aS' 0 rz H535.out ?_;intro w542 H543 _;refine zq (.int .i64 12) ?_;go_wp2_with fail
 refine bodyPost_ret (v:= .tuple #[.agg z4,.int .i64 12]) ?_ rfl ⟨RV.zero,by rw[show fitE rule rs=12 from if_neg HV.out];rfl,fun h_=>absurd h_ (by rw[show fitE rule rs=12 from if_neg HV.out];decide),fun _=>rfl,H543.out.ext⟩;exact results_c1t1 rfl rfl ((H543.out.blk (i:=0) rR).loadVar rfl rfl rR) rfl
end Go.Proofs.YtngikkggjidenabGreat
namespace Go.Proofs.YtngikkggjidenabGreat
open Go.RowKit
theorem marks_srt (y:Rat)(rs:List Ring):(marksV y rs).Pairwise (fun a b=>a.1<=b.1):=by
  rw[marksV_ofA];refine(Stb.stab_srt wkM _).imp (fun {a b} h=> ?_);have h2:¬ltM b a=true:=by rw[h];decide
  rw[ltM_iff]at h2;exact Rat.not_lt.1 (fun c=>h2 (.inl c))
theorem widV_sel (rule:Int)(a b:Int×Int)(rs:List Ring)(y:Rat):widV rule a b rs y=lenV (a.1:Rat) (b.1:Rat) (sel rule (runs 0 (marksV y rs))):=by
  unfold widV spansV;rw[mergeV_len _ _ (sel_touch rule (marks_srt y rs))]
def absQ (x:Rat):Rat:=if x<0 then-x else x
theorem absQ_neg (x:Rat):absQ (-x)=absQ x:=by unfold absQ;grind
theorem absQ_nn (x:Rat):0<=absQ x:=by unfold absQ;grind
theorem absQ_mul {x y:Rat}(h:0<=y):absQ (x*y)=absQ x*y:=by
  unfold absQ;by_cases c:x<0
  · rw[if_pos c]
    by_cases d:x*y<0
    · rw[if_pos d];grind
    rw[if_neg d];have: -x*y≥0:=Rat.mul_nonneg (by grind) h;grind
  rw[if_neg c];have:0<=x*y:=Rat.mul_nonneg (by grind) h;rw[if_neg (by grind)]
theorem len1_in {f t x z:Rat}(h1:f<=x)(h2:x<=z)(h3:z<=t):len1 f t (x,z)=z-x:=by unfold len1;grind
theorem fills1 {rule d:Int}(hr:rule=1\/rule=2)(hd:d=1\/d= -1):fillsV d rule=true:=by
  rcases hr with rfl|rfl<;>rcases hd with rfl|rfl<;>decide
theorem two_one {rule d x z:_}{f t:Rat}(hr:rule=1\/rule=2)(hd:d=1\/d= -1)(hx:f<=x/\x<=t)(hz:f<=z/\z<=t):lenV f t (sel rule (runs 0 (Stb.stab ltM [((x:Rat),(d:Int)),(z,-d)])))=absQ (x-z):=by
 have h0:(d=1\/d= -1)->fillsV (0+d) rule=true:=fun h=>by rw[Int.zero_add];exact fills1 hr h
 have h1:fillsV (0+d) rule=true:=h0 hd;have h2:fillsV (0+ -d) rule=true:=by rw[Int.zero_add];exact fills1 hr (by omega)
 show lenV f t (sel rule (runs 0 (Stb.ins ltM [(x,d)] (z,-d))))=_;unfold Stb.ins;by_cases c:ltM (z,-d) (x,d)=true
 ·rw[if_pos c]
  have c1:z<=x:=by rcases ltM_iff.1 c with h|h;exact Rat.le_of_lt h;rw[show z=x from h.1];exact Rat.le_refl
  unfold sel runs runs;rw[List.filter_cons,if_pos h2];show lenV f t [(z,x)]=_;rw[lenV_cons,lenV_nil,len1_in hz.1 c1 hx.2];unfold absQ;grind
 rw[if_neg c];have c1:x<=z:=Rat.not_lt.1 (fun h=>c (ltM_iff.2 (.inl h)));unfold Stb.ins sel runs runs;rw[List.filter_cons,if_pos h1];show lenV f t [(x,z)]=_;rw[lenV_cons,lenV_nil,len1_in hx.1 c1 hz.2];unfold absQ;grind
theorem lt_irr (a:QI):ltM a a=false:=by
  rw[Bool.eq_false_iff];intro h;rcases ltM_iff.1 h with h|h
  · exact absurd h Rat.lt_irrefl
  omega
theorem lt_asym {a b:QI}(h:ltM a b=true):ltM b a=false:=by
  rw[Bool.eq_false_iff];intro k;rcases ltM_iff.1 h with h|h<;>rcases ltM_iff.1 k with k|k
  · grind
  · grind
  · grind
  omega
theorem twice_srt (p q:QI)(h:p≠q):∃a b,((a=p/\b=q)\/(a=q/\b=p))/\Stb.stab ltM [p,q,p,q]=[a,a,b,b]/\a.1<=b.1:=by
 have tot:ltM p q=true\/ltM q p=true:=by
  by_cases c:ltM p q=true
  ·exact .inl c
  right;rw[ltM_iff]at c⊢;have h1:¬p.1<q.1:=fun h=>c (.inl h)
  have h2:¬(p.1=q.1/\q.2<p.2):=fun h=>c (.inr h)
  by_cases e:q.1<p.1
  ·exact .inl e
  have e2:q.1=p.1:=by grind
  refine .inr ⟨e2,?_⟩;have e3:¬q.2<p.2:=fun k=>h2 ⟨e2.symm,k⟩
  have e4:p.2≠q.2:=fun k=>h (Prod.ext e2.symm k)
  omega
 have le:∀{a b:QI},ltM a b=true->a.1<=b.1:=fun k=>by rcases ltM_iff.1 k with k|k;exact Rat.le_of_lt k;rw[k.1];exact Rat.le_refl
 rcases tot with c|c
 ·refine⟨p,q,.inl ⟨rfl,rfl⟩,?_,le c⟩
  have c2:=lt_asym c;show Stb.ins ltM (Stb.ins ltM (Stb.ins ltM [p] q) p) q=_;simp[Stb.ins,lt_irr,c,c2]
 refine⟨q,p,.inr ⟨rfl,rfl⟩,?_,le c⟩;have c2:=lt_asym c;show Stb.ins ltM (Stb.ins ltM (Stb.ins ltM [p] q) p) q=_;simp[Stb.ins,lt_irr,c,c2]
theorem two_two {d:Int}{x z f t:Rat}(hd:d=1\/d= -1)(hx:f<=x/\x<=t)(hz:f<=z/\z<=t):lenV f t (sel 1 (runs 0 (Stb.stab ltM [(x,d),(z,-d),(x,d),(z,-d)])))=absQ (x-z)/\lenV f t (sel 2 (runs 0 (Stb.stab ltM [(x,d),(z,-d),(x,d),(z,-d)])))=0:=by
 obtain⟨⟨ax,ad⟩,⟨bx,bd⟩,h1,h2,h3⟩:=twice_srt (x,d) (z,-d) (fun h=>by have:=congrArg Prod.snd h;simp only at this;omega);rw[h2];have hb:(ad=1\/ad= -1)/\bd= -ad/\(f<=ax/\ax<=t)/\(f<=bx/\bx<=t)/\absQ (x-z)=bx-ax:=by
  simp only at h3;rcases h1 with⟨e1,e2⟩|⟨e1,e2⟩<;>injection e1 with e1 e3<;>injection e2 with e2 e4<;>subst e1<;>subst e2<;>subst e3<;>subst e4
  ·exact⟨hd,rfl,hx,hz,by unfold absQ;grind⟩
  exact⟨by omega,by omega,hz,hx,by unfold absQ;grind⟩
 obtain⟨k1,rfl,k3,k4,k5⟩:=hb;rw[k5];simp only at h3;have r:runs 0 [(ax,ad),(ax,ad),(bx,-ad),(bx,-ad)]=[((ax,ax),ad),((ax,bx),2*ad),((bx,bx),ad)]:=by
  simp only[runs,List.cons.injEq,Prod.mk.injEq,true_and,and_true];omega
 rw[r];have l0:∀u:Rat,f<=u/\u<=t->len1 f t (u,u)=0:=fun u hu=>by rw[len1_in hu.1 Rat.le_refl hu.2];grind
 have l1:=len1_in (f:=f) (t:=t) k3.1 h3 k4.2;constructor
 ·rcases k1 with rfl|rfl
  ·show lenV f t [(ax,ax),(ax,bx),(bx,bx)]=_
   simp only[lenV_cons,lenV_nil,l0 _ k3,l0 _ k4,l1];grind
  show lenV f t [(ax,ax),(ax,bx),(bx,bx)]=_;simp only[lenV_cons,lenV_nil,l0 _ k3,l0 _ k4,l1];grind
 rcases k1 with rfl|rfl
 ·show lenV f t [(ax,ax),(bx,bx)]=_
  simp only[lenV_cons,lenV_nil,l0 _ k3,l0 _ k4];grind
 show lenV f t [(ax,ax),(bx,bx)]=_;simp only[lenV_cons,lenV_nil,l0 _ k3,l0 _ k4];grind
theorem absQ_mm (x z:Rat):absQ x*absQ z=absQ (x*z):=by
  have h:=absQ_mul (x:=x) (absQ_nn z);rw[<-h];by_cases c:z<0
  · rw[show absQ z= -z from if_pos c,show x* -z= -(x*z)by grind,absQ_neg]
  rw[show absQ z=z from if_neg c]
def triD (a b c:Int×Int):Int:=(b.1-a.1)*(c.2-a.2)-(c.1-a.1)*(b.2-a.2)
theorem triD_swap (a b c:Int×Int):triD a c b= -triD a b c:=by unfold triD;grind
theorem xatV_end {a b:Int×Int}(h:a.2≠b.2)(y:Rat):xatV a.1 a.2 b.1 b.2 y=(a.1:Rat)+(y-(a.2:Rat))*(((b.1:Rat)-a.1)/((b.2:Rat)-a.2)):=by
  unfold xatV;rw[Rat.div_def,Rat.div_def,Rat.intCast_sub,Rat.intCast_sub,show((1:Int):Rat)=1 from rfl];grind
theorem xatV_end2 {a b:Int×Int}(h:a.2≠b.2)(y:Rat):xatV b.1 b.2 a.1 a.2 y=(a.1:Rat)+(y-(a.2:Rat))*(((b.1:Rat)-a.1)/((b.2:Rat)-a.2)):=by
 rw[xatV_end (Ne.symm h)];have h1:(b.2:Rat)-a.2≠0:=by
  intro c;have:(a.2:Rat)=(b.2:Rat):=by grind
  exact h (by exact_mod_cast this)
 have h2:(a.2:Rat)-b.2≠0:=by grind
 have k1:=Rat.mul_inv_cancel _ h1;have k2:=Rat.mul_inv_cancel _ h2;rw[Rat.div_def,Rat.div_def];have e:((a.2:Rat)-b.2)⁻¹= -(((b.2:Rat)-a.2)⁻¹):=by
  generalize ((b.2:Rat)-a.2)⁻¹=i at*
  generalize ((a.2:Rat)-b.2)⁻¹=j at*
  generalize (a.2:Rat)=p at*
  generalize (b.2:Rat)=q at*
  have:i+j=0:=by
   have:(i+j)*((q-p)*(p-q))=0:=by grind
   rcases Rat.mul_eq_zero.1 this with h|h
   ·exact h
   rcases Rat.mul_eq_zero.1 h with h|h<;>contradiction
  grind
 rw[e];generalize ((b.2:Rat)-a.2)⁻¹=i at*
 generalize (a.2:Rat)=p at*
 generalize (b.2:Rat)=q at*
 generalize (a.1:Rat)=u at*
 generalize (b.1:Rat)=v at*
 grind
def lonW (v u w:Int×Int)(y:Rat):Rat:=absQ ((y-(v.2:Rat))*(((u.1:Rat)-v.1)/((u.2:Rat)-v.2)-((w.1:Rat)-v.1)/((w.2:Rat)-v.2)))
theorem lonW_swap (v u w:Int×Int)(y:Rat):lonW v w u y=lonW v u w y:=by
  unfold lonW;rw[<-absQ_neg];congr 1;grind
theorem xat_diff {v u w:Int×Int}{y:Rat}(h1:v.2≠u.2)(h2:v.2≠w.2):∀x z:Rat,(x=xatV v.1 v.2 u.1 u.2 y\/x=xatV u.1 u.2 v.1 v.2 y)->(z=xatV v.1 v.2 w.1 w.2 y\/z=xatV w.1 w.2 v.1 v.2 y)->absQ (x-z)=lonW v u w y/\absQ (z-x)=lonW v u w y:=by
 intro x z hx hz;have e1:x=(v.1:Rat)+(y-(v.2:Rat))*(((u.1:Rat)-v.1)/((u.2:Rat)-v.2)):=by
  rcases hx with h|h
  ·rw[h,xatV_end h1]
  rw[h,xatV_end2 h1]
 have e2:z=(v.1:Rat)+(y-(v.2:Rat))*(((w.1:Rat)-v.1)/((w.2:Rat)-v.2)):=by
  rcases hz with h|h
  ·rw[h,xatV_end h2]
  rw[h,xatV_end2 h2]
 have e3:x-z=(y-(v.2:Rat))*(((u.1:Rat)-v.1)/((u.2:Rat)-v.2)-((w.1:Rat)-v.1)/((w.2:Rat)-v.2)):=by rw[e1,e2];grind
 constructor
 ·unfold lonW;rw[e3]
 unfold lonW;rw[<-e3,<-absQ_neg];congr 1;grind
theorem lonW_D {v u w:Int×Int}{y:Rat}(h1:v.2≠u.2)(h2:v.2≠w.2):lonW v u w y*absQ (((u.2:Rat)-v.2)*((w.2:Rat)-v.2))=absQ ((y-(v.2:Rat))*((triD v u w:Int):Rat)):=by
 unfold lonW;rw[absQ_mm];congr 1;unfold triD;have h1:(u.2:Rat)-v.2≠0:=by
  intro c;have:(v.2:Rat)=(u.2:Rat):=by grind
  exact h1 (by exact_mod_cast this)
 have h2:(w.2:Rat)-v.2≠0:=by
  intro c;have:(v.2:Rat)=(w.2:Rat):=by grind
  exact h2 (by exact_mod_cast this)
 have k1:=Rat.mul_inv_cancel _ h1;have k2:=Rat.mul_inv_cancel _ h2;rw[Rat.div_def,Rat.div_def,Rat.intCast_sub,Rat.intCast_mul,Rat.intCast_mul,Rat.intCast_sub,Rat.intCast_sub,Rat.intCast_sub,Rat.intCast_sub];generalize ((u.2:Rat)-v.2)⁻¹=i at*
 generalize ((w.2:Rat)-v.2)⁻¹=j at*
 generalize (u.2:Rat)-v.2=p at*
 generalize (w.2:Rat)-v.2=q at*
 generalize (u.1:Rat)-v.1=a at*
 generalize (w.1:Rat)-v.1=b at*
 generalize y-(v.2:Rat)=t at*
 grind
def lonK (v u w:Int×Int):Rat:=absQ (((u.1:Rat)-v.1)/((u.2:Rat)-v.2)-((w.1:Rat)-v.1)/((w.2:Rat)-v.2))
theorem lonW_K (v u w:Int×Int)(y:Rat):lonW v u w y=absQ (y-(v.2:Rat))*lonK v u w:=(absQ_mm _ _).symm
theorem absQ_pos {x:Rat}(h:0<=x):absQ x=x:=if_neg (Rat.not_lt.2 h)
theorem lonK_D {v u w:Int×Int}(h1:v.2≠u.2)(h2:v.2≠w.2):lonK v u w*absQ (((u.2:Rat)-v.2)*((w.2:Rat)-v.2))=absQ ((triD v u w:Int):Rat):=by
  have h:=lonW_D (y:=(v.2:Rat)+1) h1 h2;rw[lonW_K]at h;have e:(v.2:Rat)+1-(v.2:Rat)=1:=by grind
  rw[e,absQ_pos (show(0:Rat)<=1 by decide),Rat.one_mul,Rat.one_mul]at h;exact h
theorem tri_sorted {W:Rat->Rat}{l:List Rat}{p q r:Int×Int}(h1:p.2<=q.2)(h2:q.2<=r.2)(h3:p.2<r.2)(hl:Hts (p.2:Rat) (r.2:Rat) l)(al:AffAll W l)
  (H1:∀y,(p.2:Rat)<y->y<(q.2:Rat)->W y=lonW p q r y)(H2:∀y,(q.2:Rat)<y->y<(r.2:Rat)->W y=lonW r p q y):bandSum W l=absQ ((triD p q r:Int):Rat)/2:=by
 have hPR:(p.2:Rat)<(r.2:Rat):=by exact_mod_cast h3
 have G1:∀y,(p.2:Rat)<y->y<(q.2:Rat)->W y=(y-(p.2:Rat))*lonK p q r:=fun y a b=>by rw[H1 y a b,lonW_K,absQ_pos (by grind)]
 have G2:∀y,(q.2:Rat)<y->y<(r.2:Rat)->W y=((r.2:Rat)-y)*lonK r p q:=fun y a b=>by
  rw[H2 y a b,lonW_K,<-absQ_neg,absQ_pos (by grind)];grind
 have A1:Aff W (p.2:Rat) (q.2:Rat):=⟨lonK p q r,-((p.2:Rat)*lonK p q r),fun y a b=>by rw[G1 y a b];grind⟩;have A2:Aff W (q.2:Rat) (r.2:Rat):=⟨-lonK r p q,(r.2:Rat)*lonK r p q,fun y a b=>by rw[G2 y a b];grind⟩;have K1:p.2<q.2->lonK p q r*(((q.2:Rat)-p.2)*((r.2:Rat)-p.2))=absQ ((triD p q r:Int):Rat):=fun c=>by
  have hc:(p.2:Rat)<(q.2:Rat):=by exact_mod_cast c
  have h:=lonK_D (v:=p) (u:=q) (w:=r) (by omega) (by omega);rwa[absQ_pos (Rat.mul_nonneg (by grind) (by grind))]at h
 have K2:q.2<r.2->lonK r p q*(((r.2:Rat)-p.2)*((r.2:Rat)-q.2))=absQ ((triD p q r:Int):Rat):=fun c=>by
  have hc:(q.2:Rat)<(r.2:Rat):=by exact_mod_cast c
  have h:=lonK_D (v:=r) (u:=p) (w:=q) (by omega) (by omega);have e:((p.2:Rat)-r.2)*((q.2:Rat)-r.2)=((r.2:Rat)-p.2)*((r.2:Rat)-q.2):=by grind
  rw[e,absQ_pos (Rat.mul_nonneg (by grind) (by grind)),show triD r p q=triD p q r by unfold triD;grind]at h;exact h
 have two:(2:Rat)*(2:Rat)⁻¹=1:=Rat.mul_inv_cancel 2 (by decide);have hne:(r.2:Rat)-p.2≠0:=by grind
 have canc:∀x z:Rat,x*((r.2:Rat)-p.2)=z*((r.2:Rat)-p.2)->x=z:=fun x z h=>by
  have:(x-z)*((r.2:Rat)-p.2)=0:=by grind
  rcases Rat.mul_eq_zero.1 this with h|h
  ·grind
  contradiction
 generalize hD:absQ ((triD p q r:Int):Rat)=D at*
 generalize hk1:lonK p q r=k1 at*
 generalize hk2:lonK r p q=k2 at*
 by_cases c1:p.2<q.2
 ·have hc1:(p.2:Rat)<(q.2:Rat):=by exact_mod_cast c1
  have m1:=mid_in hc1;have e1:=G1 _ m1.1 m1.2;have f1:=K1 c1;by_cases c2:q.2<r.2
  ·have hc2:(q.2:Rat)<(r.2:Rat):=by exact_mod_cast c2
   have m2:=mid_in hc2;have e2:=G2 _ m2.1 m2.2;have f2:=K2 c2;have hm:Hts (p.2:Rat) (r.2:Rat) [(p.2:Rat),(q.2:Rat),(r.2:Rat)]:=⟨by simp[hc1,hc2,hPR],by intro z hz;simp at hz;rcases hz with rfl|rfl|rfl<;>constructor<;>grind,by simp,by simp⟩;rw[band_same hl hm al ⟨A1,A2,trivial⟩];show W _*_+(W _*_+0)=_;rw[e1,e2];apply canc;simp only[Rat.div_def]at*;generalize (2:Rat)⁻¹=i at*
   generalize (p.2:Rat)=P at*
   generalize (q.2:Rat)=Q at*
   generalize (r.2:Rat)=R at*
   grind
  have e:q.2=r.2:=by omega
  have hm:Hts (p.2:Rat) (r.2:Rat) [(p.2:Rat),(r.2:Rat)]:=⟨by simp[hPR],by intro z hz;simp at hz;rcases hz with rfl|rfl<;>constructor<;>grind,by simp,by simp⟩;rw[e]at A1 e1 f1 hc1;rw[band_same hl hm al ⟨A1,trivial⟩];show W _*_+0=_;rw[e1];apply canc;simp only[Rat.div_def]at*;generalize (2:Rat)⁻¹=i at*
  generalize (p.2:Rat)=P at*
  generalize (r.2:Rat)=R at*
  grind
 have e:p.2=q.2:=by omega
 have hc2:(q.2:Rat)<(r.2:Rat):=by rw[<-e];exact hPR
 have m2:=mid_in hc2;have e2:=G2 _ m2.1 m2.2;have f2:=K2 (by omega);have hm:Hts (p.2:Rat) (r.2:Rat) [(p.2:Rat),(r.2:Rat)]:=⟨by simp[hPR],by intro z hz;simp at hz;rcases hz with rfl|rfl<;>constructor<;>grind,by simp,by simp⟩;rw[<-e]at A2 e2 f2;rw[band_same hl hm al ⟨A2,trivial⟩];show W _*_+0=_;rw[e2];apply canc;simp only[Rat.div_def]at*;generalize (2:Rat)⁻¹=i at*
 generalize (p.2:Rat)=P at*
 generalize (r.2:Rat)=R at*
 grind
def Lone (v u w:Int×Int)(y:Rat):Prop:=((v.2:Rat)<y/\y<(u.2:Rat)/\y<(w.2:Rat))\/(y<(v.2:Rat)/\(u.2:Rat)<y/\(w.2:Rat)<y)
theorem tri_any {W:Rat->Rat}{l:List Rat}{a b c:Int×Int}(h:min a.2 (min b.2 c.2)<max a.2 (max b.2 c.2))(hl:Hts ((min a.2 (min b.2 c.2):Int):Rat) ((max a.2 (max b.2 c.2):Int):Rat) l)(al:AffAll W l)
  (Ha:∀y,Lone a b c y->W y=lonW a b c y)(Hb:∀y,Lone b c a y->W y=lonW b c a y)(Hc:∀y,Lone c a b y->W y=lonW c a b y):bandSum W l=absQ ((triD a b c:Int):Rat)/2:=by
 have le:∀{m n:Int},m<=n->(m:Rat)<=(n:Rat):=fun h=>by exact_mod_cast h
 have Ha2:∀y,Lone a b c y->W y=lonW a c b y:=fun y k=>by rw[Ha y k,lonW_swap]
 have Hb2:∀y,Lone b c a y->W y=lonW b a c y:=fun y k=>by rw[Hb y k,lonW_swap]
 have Hc2:∀y,Lone c a b y->W y=lonW c b a y:=fun y k=>by rw[Hc y k,lonW_swap]
 have d:∀p q r:Int×Int,(triD p q r=triD a b c\/triD p q r= -triD a b c)->absQ ((triD p q r:Int):Rat)=absQ ((triD a b c:Int):Rat):=fun p q r k=>by
  rcases k with k|k
  ·rw[k]
  rw[k,Rat.intCast_neg,absQ_neg]
 have go:∀p q r:Int×Int,p.2<=q.2->q.2<=r.2->(triD p q r=triD a b c\/triD p q r= -triD a b c)->min a.2 (min b.2 c.2)=p.2->max a.2 (max b.2 c.2)=r.2->(∀y,Lone p q r y->W y=lonW p q r y)->(∀y,Lone r p q y->W y=lonW r p q y)->bandSum W l=absQ ((triD a b c:Int):Rat)/2:=fun p q r h1 h2 k e1 e2 g1 g2=>by
  rw[e1,e2]at h hl;rw[<-d p q r k];exact tri_sorted h1 h2 h hl al (fun y a b=>g1 y (.inl ⟨a,b,by have:=le h2;grind⟩)) (fun y a b=>g2 y (.inr ⟨b,by have:=le h1;grind,a⟩))
 have L2:∀{v u w:Int×Int} {y:Rat},Lone v u w y->Lone v w u y:=fun k=>by unfold Lone at k⊢;grind
 by_cases c1:a.2<=b.2
 ·by_cases c2:b.2<=c.2
  ·exact go a b c c1 c2 (.inl rfl) (by omega) (by omega) Ha Hc
  by_cases c3:a.2<=c.2
  ·exact go a c b c3 (by omega) (.inr (triD_swap a b c)) (by omega) (by omega) (fun y k=>Ha2 y (L2 k)) (fun y k=>Hb2 y (L2 k))
  exact go c a b (by omega) c1 (.inl (by unfold triD;grind)) (by omega) (by omega) Hc Hb
 by_cases c2:a.2<=c.2
 ·exact go b a c (by omega) c2 (.inr (by unfold triD;grind)) (by omega) (by omega) (fun y k=>Hb2 y (L2 k)) (fun y k=>Hc2 y (L2 k))
 by_cases c3:b.2<=c.2
 ·exact go b c a c3 (by omega) (.inl (by unfold triD;grind)) (by omega) (by omega) Hb Ha
 exact go c b a (by omega) (by omega) (.inr (by unfold triD;grind)) (by omega) (by omega) (fun y k=>Hc2 y (L2 k)) (fun y k=>Ha2 y (L2 k))
theorem xat_box {p q:Int×Int}{f t y:Rat}(h:((p.2:Rat)<y/\y<(q.2:Rat))\/((q.2:Rat)<y/\y<(p.2:Rat)))(hp:f<=(p.1:Rat)/\(p.1:Rat)<=t)(hq:f<=(q.1:Rat)/\(q.1:Rat)<=t):f<=xatV p.1 p.2 q.1 q.2 y/\xatV p.1 p.2 q.1 q.2 y<=t:=by
 have ne:p.2≠q.2:=fun c=>by rw[c]at h;grind
 rw[xatV_end ne];have h1:(q.2:Rat)-p.2≠0:=by grind
 have k1:=Rat.mul_inv_cancel _ h1;rw[Rat.div_def];obtain⟨s,hs⟩:∃s,s=(y-(p.2:Rat))*((q.2:Rat)-p.2)⁻¹:=⟨_,rfl⟩;have e1:s*((q.2:Rat)-p.2)=y-(p.2:Rat):=by rw[hs];generalize ((q.2:Rat)-p.2)⁻¹=i at*;grind
 have b1:0<=s:=by
  refine Rat.not_lt.1 (fun c=> ?_);rcases h with h|h
  ·have:=Rat.mul_lt_mul_of_pos_right c (show 0<(q.2:Rat)-p.2 by grind);grind
  have:=Rat.mul_lt_mul_of_pos_right c (show 0<(p.2:Rat)-q.2 by grind);grind
 have b2:s<=1:=by
  refine Rat.not_lt.1 (fun c=> ?_);have c':0<s-1:=by grind
  rcases h with h|h
  ·have:=Rat.mul_lt_mul_of_pos_right c' (show 0<(q.2:Rat)-p.2 by grind);grind
  have:=Rat.mul_lt_mul_of_pos_right c' (show 0<(p.2:Rat)-q.2 by grind);grind
 have e2:(p.1:Rat)+(y-(p.2:Rat))*(((q.1:Rat)-p.1)*((q.2:Rat)-p.2)⁻¹)=(1-s)*(p.1:Rat)+s*(q.1:Rat):=by rw[hs];grind
 rw[e2];have m1:=Rat.mul_nonneg b1 (show 0<=(q.1:Rat)-f by grind);have m2:=Rat.mul_nonneg (show 0<=1-s by grind) (show 0<=(p.1:Rat)-f by grind);have m3:=Rat.mul_nonneg b1 (show 0<=t-(q.1:Rat)by grind);have m4:=Rat.mul_nonneg (show 0<=1-s by grind) (show 0<=t-(p.1:Rat)by grind);grind
theorem cross_eq (y:Rat)(a:Int×Int):crossV y (a,a)=none:=by
  unfold crossV;rw[if_neg (fun c=>by have a:=c.1;have b:=c.2;simp only at a b;grind),if_neg (fun c=>by have a:=c.1;have b:=c.2;simp only at a b;grind)]
theorem tri_edges (y:Rat)(a b c:Int×Int):(ringEn [a,b,c] 3).filterMap (crossV y)=[(a,b),(b,c),(c,a)].filterMap (crossV y):=by
 have e:ringEn [a,b,c] 3=(if a=b then[]else[(a,b)])++((if b=c then[]else[(b,c)])++(if c=a then[]else[(c,a)])):=by
  have e0:edgeAt [a,b,c] 0=if a=b then none else some (a,b):=by simp[edgeAt]
  have e1:edgeAt [a,b,c] 1=if b=c then none else some (b,c):=by simp[edgeAt]
  have e2:edgeAt [a,b,c] 2=if c=a then none else some (c,a):=by simp[edgeAt]
  have k:∀p q:Int×Int,((if p=q then none else some (p,q):Option Edge)).toList=if p=q then[]else[(p,q)]:=fun p q=>by split<;>rfl
  have g:∀(i:Nat) (l:List Nat),(i::l).filterMap (edgeAt [a,b,c])=(edgeAt [a,b,c] i).toList++l.filterMap (edgeAt [a,b,c]):=fun i l=>by
   rw[List.filterMap_cons];cases edgeAt [a,b,c] i<;>rfl
  show[0,1,2].filterMap (edgeAt [a,b,c])=_;rw[g,g,g,e0,e1,e2,k,k,k,List.filterMap_nil,List.append_nil]
 have one:∀p q:Int×Int,(if p=q then[]else[(p,q)]).filterMap (crossV y)=[(p,q)].filterMap (crossV y):=fun p q=>by
  split
  ·rename_i h;subst h
   rw[List.filterMap_cons,cross_eq]
  rfl
 rw[e,List.filterMap_append,List.filterMap_append,one,one,one,<-List.filterMap_append,<-List.filterMap_append];rfl
theorem cr_none {y:Rat}{p q:Int×Int}(h:((p.2:Rat)<y/\(q.2:Rat)<y)\/(y<(p.2:Rat)/\y<(q.2:Rat))):crossV y (p,q)=none:=by
  unfold crossV;rw[if_neg (fun c=>by have a:=c.1;have b:=c.2;simp only at a b;grind),if_neg (fun c=>by have a:=c.1;have b:=c.2;simp only at a b;grind)]
theorem cr_up {y:Rat}{p q:Int×Int}(h:(p.2:Rat)<y/\y<(q.2:Rat)):crossV y (p,q)=some (xatV p.1 p.2 q.1 q.2 y,1):=by
  unfold crossV;rw[if_pos h]
theorem cr_down {y:Rat}{p q:Int×Int}(h:(q.2:Rat)<y/\y<(p.2:Rat)):crossV y (p,q)=some (xatV p.1 p.2 q.1 q.2 y,-1):=by
  unfold crossV;rw[if_neg (fun c=>by have a:=c.1;have b:=c.2;simp only at a b;grind),if_pos h]
theorem tri_two {a b c:Int×Int}{y f t:Rat}(ha:f<=(a.1:Rat)/\(a.1:Rat)<=t)(hb:f<=(b.1:Rat)/\(b.1:Rat)<=t)(hc:f<=(c.1:Rat)/\(c.1:Rat)<=t):
  (Lone a b c y->∃x z d,[(a,b),(b,c),(c,a)].filterMap (crossV y)=[(x,d),(z,-d)]/\(d=1\/d= -1)/\(f<=x/\x<=t)/\(f<=z/\z<=t)/\absQ (x-z)=lonW a b c y)/\
  (Lone b c a y->∃x z d,[(a,b),(b,c),(c,a)].filterMap (crossV y)=[(x,d),(z,-d)]/\(d=1\/d= -1)/\(f<=x/\x<=t)/\(f<=z/\z<=t)/\absQ (x-z)=lonW b c a y)/\
  (Lone c a b y->∃x z d,[(a,b),(b,c),(c,a)].filterMap (crossV y)=[(x,d),(z,-d)]/\(d=1\/d= -1)/\(f<=x/\x<=t)/\(f<=z/\z<=t)/\absQ (x-z)=lonW c a b y):=by
 have ne:∀{p q:Int×Int},((p.2:Rat)<y/\y<(q.2:Rat))\/((q.2:Rat)<y/\y<(p.2:Rat))->p.2≠q.2:=fun h e=>by rw[e]at h;grind
 refine⟨fun h=> ?_,fun h=> ?_,fun h=> ?_⟩<;>rcases h with⟨h1,h2,h3⟩|⟨h1,h2,h3⟩
 ·refine⟨_,_,1,by rw[List.filterMap_cons,cr_up ⟨h1,h2⟩,List.filterMap_cons,cr_none (.inr ⟨h2,h3⟩),List.filterMap_cons,cr_down ⟨h1,h3⟩];rfl,.inl rfl,xat_box (.inl ⟨h1,h2⟩) ha hb,xat_box (.inr ⟨h1,h3⟩) hc ha,(xat_diff (ne (.inl ⟨h1,h2⟩)) (ne (.inl ⟨h1,h3⟩)) _ _ (.inl rfl) (.inr rfl)).1⟩
 ·refine⟨_,_,-1,by rw[List.filterMap_cons,cr_down ⟨h2,h1⟩,List.filterMap_cons,cr_none (.inl ⟨h2,h3⟩),List.filterMap_cons,cr_up ⟨h3,h1⟩];rfl,.inr rfl,xat_box (.inr ⟨h2,h1⟩) ha hb,xat_box (.inl ⟨h3,h1⟩) hc ha,(xat_diff (ne (.inr ⟨h2,h1⟩)) (ne (.inr ⟨h3,h1⟩)) _ _ (.inl rfl) (.inr rfl)).1⟩
 ·refine⟨_,_,-1,by rw[List.filterMap_cons,cr_down ⟨h1,h3⟩,List.filterMap_cons,cr_up ⟨h1,h2⟩,List.filterMap_cons,cr_none (.inr ⟨h2,h3⟩)];rfl,.inr rfl,xat_box (.inr ⟨h1,h3⟩) ha hb,xat_box (.inl ⟨h1,h2⟩) hb hc,(xat_diff (ne (.inl ⟨h1,h2⟩)) (ne (.inl ⟨h1,h3⟩)) _ _ (.inl rfl) (.inr rfl)).2⟩
 ·refine⟨_,_,1,by rw[List.filterMap_cons,cr_up ⟨h3,h1⟩,List.filterMap_cons,cr_down ⟨h2,h1⟩,List.filterMap_cons,cr_none (.inl ⟨h2,h3⟩)];rfl,.inl rfl,xat_box (.inl ⟨h3,h1⟩) ha hb,xat_box (.inr ⟨h2,h1⟩) hb hc,(xat_diff (ne (.inr ⟨h2,h1⟩)) (ne (.inr ⟨h3,h1⟩)) _ _ (.inl rfl) (.inr rfl)).2⟩
 ·refine⟨_,_,-1,by rw[List.filterMap_cons,cr_none (.inr ⟨h2,h3⟩),List.filterMap_cons,cr_down ⟨h1,h3⟩,List.filterMap_cons,cr_up ⟨h1,h2⟩];rfl,.inr rfl,xat_box (.inr ⟨h1,h3⟩) hb hc,xat_box (.inl ⟨h1,h2⟩) hc ha,(xat_diff (ne (.inl ⟨h1,h2⟩)) (ne (.inl ⟨h1,h3⟩)) _ _ (.inl rfl) (.inr rfl)).2⟩
 refine⟨_,_,1,by rw[List.filterMap_cons,cr_none (.inl ⟨h2,h3⟩),List.filterMap_cons,cr_up ⟨h3,h1⟩,List.filterMap_cons,cr_down ⟨h2,h1⟩];rfl,.inl rfl,xat_box (.inl ⟨h3,h1⟩) hb hc,xat_box (.inr ⟨h2,h1⟩) hc ha,(xat_diff (ne (.inr ⟨h2,h1⟩)) (ne (.inr ⟨h3,h1⟩)) _ _ (.inl rfl) (.inr rfl)).2⟩
theorem edges_tri1 (a b c:Int×Int):edgesV [[a,b,c]]=ringEn [a,b,c] 3:=by
  show ringEn [a,b,c] 3++[]=_;rw[List.append_nil]
theorem edges_tri2 (a b c:Int×Int):edgesV [[a,b,c],[a,b,c]]=ringEn [a,b,c] 3++ringEn [a,b,c] 3:=by
  show ringEn [a,b,c] 3++(ringEn [a,b,c] 3++[])=_;rw[List.append_nil]
theorem tri_flat {a b c:Int×Int}(h:max a.1 (max b.1 c.1)<=min a.1 (min b.1 c.1)\/max a.2 (max b.2 c.2)<=min a.2 (min b.2 c.2)):absQ ((triD a b c:Int):Rat)/2=0:=by
  have e:triD a b c=0:=by
    unfold triD;rcases h with h|h
    · rw[show b.1=a.1 by omega,show c.1=a.1 by omega];grind
    rw[show b.2=a.2 by omega,show c.2=a.2 by omega];grind
  rw[e];decide+kernel
theorem tri_area {rule:Int}{rs:List Ring}{a b c lo hi:Int×Int}{g:Rat->Rat}(hlo:lo=(min a.1 (min b.1 c.1),min a.2 (min b.2 c.2)))(hhi:hi=(max a.1 (max b.1 c.1),max a.2 (max b.2 c.2)))(hok:okR rs=true)(oa:okP a)(ob:okP b)(oc:okP c)
  (hw:∀y x z d,[(a,b),(b,c),(c,a)].filterMap (crossV y)=[(x,d),(z,-d)]->(d=1\/d= -1)->((lo.1:Rat)<=x/\x<=(hi.1:Rat))->((lo.1:Rat)<=z/\z<=(hi.1:Rat))->widV rule lo hi rs y=absQ (x-z)):areaV rule lo hi rs=absQ ((triD a b c:Int):Rat)/2:=by
 by_cases n1:hi.1<=lo.1
 ·rw[show areaV rule lo hi rs=0 from if_pos (.inl n1)]
  subst hlo hhi;exact(tri_flat (.inl n1)).symm
 by_cases n2:hi.2<=lo.2
 ·rw[show areaV rule lo hi rs=0 from if_pos (.inr n2)]
  subst hlo hhi;exact(tri_flat (.inr n2)).symm
 have pa:=okP_out oa;have pb:=okP_out ob;have pc:=okP_out oc
 have ol:okP lo:=by subst hlo;simp[okP,okPt];omega
 have oh:okP hi:=by subst hhi;simp[okP,okPt];omega
 have k:evOk lo hi rs:=⟨hok,ol,oh,by omega⟩;have hl:=refL_hts k;rw[area_box (by omega) (by omega)];have r1:∀p:Int×Int,lo.1<=p.1->p.1<=hi.1->(lo.1:Rat)<=(p.1:Rat)/\(p.1:Rat)<=(hi.1:Rat):=fun p h1 h2=>⟨by exact_mod_cast h1,by exact_mod_cast h2⟩
 have ra:=r1 a (by subst hlo;simp only;omega) (by subst hhi;simp only;omega);have rb:=r1 b (by subst hlo;simp only;omega) (by subst hhi;simp only;omega);have rc:=r1 c (by subst hlo;simp only;omega) (by subst hhi;simp only;omega);refine tri_any (a:=a) (b:=b) (c:=c) (by subst hlo hhi;simp only at n2;omega) (by rw[hlo,hhi]at hl;rw[hlo,hhi];exact hl) (refL_aff rule k) (fun y h=> ?_) (fun y h=> ?_) (fun y h=> ?_)
 ·obtain⟨x,z,d,e1,e2,e3,e4,e5⟩:=(tri_two ra rb rc).1 h
  rw[hw y x z d e1 e2 e3 e4,e5]
 ·obtain⟨x,z,d,e1,e2,e3,e4,e5⟩:=(tri_two ra rb rc).2.1 h
  rw[hw y x z d e1 e2 e3 e4,e5]
 obtain⟨x,z,d,e1,e2,e3,e4,e5⟩:=(tri_two ra rb rc).2.2 h;rw[hw y x z d e1 e2 e3 e4,e5]
theorem area_tri {rule:Int}{a b c lo hi:Int×Int}(hr:rule=1\/rule=2)(hlo:lo=(min a.1 (min b.1 c.1),min a.2 (min b.2 c.2)))(hhi:hi=(max a.1 (max b.1 c.1),max a.2 (max b.2 c.2)))(hok:okR [[a,b,c]]=true)(oa:okP a)(ob:okP b)(oc:okP c):
    areaV rule lo hi [[a,b,c]]=absQ ((triD a b c:Int):Rat)/2:=
  tri_area (g:=fun _=>0) hlo hhi hok oa ob oc fun y x z d e1 e2 e3 e4=>by
    rw[widV_sel,marksV_ofA,edgesOf_t hok,edges_tri1,tri_edges,e1];exact two_one hr e2 e3 e4
theorem area_tri2 {a b c lo hi:Int×Int}(hlo:lo=(min a.1 (min b.1 c.1),min a.2 (min b.2 c.2)))(hhi:hi=(max a.1 (max b.1 c.1),max a.2 (max b.2 c.2)))(hok:okR [[a,b,c],[a,b,c]]=true)(oa:okP a)(ob:okP b)(oc:okP c):
    areaV 1 lo hi [[a,b,c],[a,b,c]]=absQ ((triD a b c:Int):Rat)/2:=
  tri_area (g:=fun _=>0) hlo hhi hok oa ob oc fun y x z d e1 e2 e3 e4=>by
    rw[widV_sel,marksV_ofA,edgesOf_t hok,edges_tri2,List.filterMap_append,tri_edges,e1];exact(two_two e2 e3 e4).1
theorem area_tri3 {a b c lo hi:Int×Int}(hlo:lo=(min a.1 (min b.1 c.1),min a.2 (min b.2 c.2)))(hhi:hi=(max a.1 (max b.1 c.1),max a.2 (max b.2 c.2)))(hok:okR [[a,b,c],[a,b,c]]=true)(oa:okP a)(ob:okP b)(oc:okP c):
  areaV 2 lo hi [[a,b,c],[a,b,c]]=0:=by
 have pa:=okP_out oa;have pb:=okP_out ob;have pc:=okP_out oc
 by_cases n1:hi.1<=lo.1
 ·exact if_pos (.inl n1)
 by_cases n2:hi.2<=lo.2
 ·exact if_pos (.inr n2)
 have ol:okP lo:=by subst hlo;simp[okP,okPt];omega
 have oh:okP hi:=by subst hhi;simp[okP,okPt];omega
 have k:evOk lo hi [[a,b,c],[a,b,c]]:=⟨hok,ol,oh,by omega⟩;rw[area_box (by omega) (by omega)];have hl:=refL_hts k;have r1:∀p:Int×Int,lo.1<=p.1->p.1<=hi.1->(lo.1:Rat)<=(p.1:Rat)/\(p.1:Rat)<=(hi.1:Rat):=fun p h1 h2=>⟨by exact_mod_cast h1,by exact_mod_cast h2⟩
 have ra:=r1 a (by subst hlo;simp only;omega) (by subst hhi;simp only;omega);have rb:=r1 b (by subst hlo;simp only;omega) (by subst hhi;simp only;omega);have rc:=r1 c (by subst hlo;simp only;omega) (by subst hhi;simp only;omega);have hw:∀y,(y≠(a.2:Rat)/\y≠(b.2:Rat)/\y≠(c.2:Rat))->widV 2 lo hi [[a,b,c],[a,b,c]] y=0:=fun y ⟨m1,m2,m3⟩=>by
  rw[widV_sel,marksV_ofA,edgesOf_t hok,edges_tri2,List.filterMap_append,tri_edges];have cs:Lone a b c y\/Lone b c a y\/Lone c a b y\/ [(a,b),(b,c),(c,a)].filterMap (crossV y)=[]:=by
   have nn:∀p q:Int×Int,crossV y (p,q)=none\/((p.2:Rat)<y/\y<(q.2:Rat))\/((q.2:Rat)<y/\y<(p.2:Rat)):=fun p q=>by
    unfold crossV;by_cases h1:(p.2:Rat)<y/\y<(q.2:Rat)
    ·exact .inr (.inl h1)
    by_cases h2:(q.2:Rat)<y/\y<(p.2:Rat)
    ·exact .inr (.inr h2)
    left;rw[if_neg h1,if_neg h2]
   rcases nn a b with h1|h1
   ·rcases nn b c with h2|h2
    ·rcases nn c a with h3|h3
     ·right;right;right
      rw[List.filterMap_cons,h1,List.filterMap_cons,h2,List.filterMap_cons,h3];rfl
     unfold Lone;grind
    unfold Lone;grind
   unfold Lone;grind
  rcases cs with h|h|h|h
  ·obtain⟨x,z,d,e1,e2,e3,e4,_⟩:=(tri_two ra rb rc).1 h
   rw[e1];exact(two_two e2 e3 e4).2
  ·obtain⟨x,z,d,e1,e2,e3,e4,_⟩:=(tri_two ra rb rc).2.1 h
   rw[e1];exact(two_two e2 e3 e4).2
  ·obtain⟨x,z,d,e1,e2,e3,e4,_⟩:=(tri_two ra rb rc).2.2 h
   rw[e1];exact(two_two e2 e3 e4).2
  rw[h];rfl
 have key:∀{l:List Rat},(∀(i:Nat) (p q y:Rat),l[i]?=some p->l[i+1]?=some q->p<y->y<q->widV 2 lo hi [[a,b,c],[a,b,c]] y=0)->l.Pairwise (· < ·)->bandSum (widV 2 lo hi [[a,b,c],[a,b,c]]) l=0:=by
  intro l;induction l with
  |nil=>intros;rfl
  |cons x l ih=>
   intro h hs;cases l with
   |nil=>rfl
   |cons z l=>
    obtain⟨h1,h2⟩:=List.pairwise_cons.1 hs;have m:=mid_in (h1 z (by simp));show _*_+bandSum _ (z::l)=0;rw[h 0 x z _ rfl rfl m.1 m.2,ih (fun i p q y e1 e2=>h (i+1) p q y e1 e2) h2];grind
 refine key (fun i p q y e1 e2 h1 h2=>hw y ?_) hl.srt;have g:=fun r (hr:r∈refAll lo hi [[a,b,c],[a,b,c]])=>listed_ok k hr e1 e2
 have v:∀p:Int×Int,p∈[a,b,c]->(p.2:Rat)∈refAll lo hi [[a,b,c],[a,b,c]]:=fun p hp=>List.mem_append.2 (.inl (by unfold refP;exact List.mem_flatMap.2 ⟨[a,b,c],by simp,List.mem_map.2 ⟨p,hp,rfl⟩⟩))
 exact⟨fun e=>g _ (v a (by simp)) (e▸⟨h1,h2⟩),fun e=>g _ (v b (by simp)) (e▸⟨h1,h2⟩),fun e=>g _ (v c (by simp)) (e▸⟨h1,h2⟩)⟩
end Go.Proofs.YtngikkggjidenabGreat
namespace Go.Proofs.YtngikkggjidenabGreat
open Go.RowKit
attribute [local go_sem ↓] Go.wp_at_zero Go.wp_at_succ run_max_ii run_min_ii
theorem same04I_any (n m:Bool)(u v:Value)(z:Int)(w:World)(hu:IntC w n u z)(hv:IntC w m v z)(hL:Nm.nl z.natAbs<=1000000):
    Calls Tryz.prog 28 #[.agg #[.bool n,u],.agg #[.bool m,v]] w fun e w'=>e= .returned (.bool true)/\Ext w w':=by
  obtain⟨rfl,p,cp,rfl,_,_,h3⟩:=hu;obtain⟨rfl,q,cq,rfl,_,_,h4⟩:=hv;unfold Nm.nl at hL;generalize Nm.digs z.natAbs=xs at*
  generalize decide (z<0)=s at*
  have H3:=zH h3;have H4:=zH h4;clear h3 h4;have HG:=zH (show∀x,Ext ((w.alloc (.cells #[.bool s,.slice p xs.length cp] 31)).alloc (.cells #[.bool s,.slice q xs.length cq] 31)) x->
      x.cell? ⟨w.heap.size,0,none⟩=some (.bool s)/\x.cell? ⟨w.heap.size,1,none⟩=some (.slice p xs.length cp)/\x.cell? ⟨w.heap.size+1,0,none⟩=some (.bool s)/\x.cell? ⟨w.heap.size+1,1,none⟩=some (.slice q xs.length cq)from fun x h=>
    ⟨h.get (by simp),h.get (by simp),h.get (by simp),h.get (by simp)⟩)
  have HW:=zH (show Ext w ((w.alloc (.cells #[.bool s,.slice p xs.length cp] 31)).alloc (.cells #[.bool s,.slice q xs.length cq] 31))from((Ext.refl _).alloc _).alloc _);have hbb:(s != s)=false:=by cases s<;>rfl
  go_enter Tryz.func28,Tryz.ntmps28
  go_wp2_with fail
  generalize ((w.alloc (.cells #[.bool s,.slice p xs.length cp] 31)).alloc (.cells #[.bool s,.slice q xs.length cq] 31))=wa at*
  go_loopw [5] (fun i wr=>∃k:Nat,k<=xs.length/\i= .int .i64 k/\Ext wa wr) (fun i _=>xs.length-(intOf i).toNat)
  case atStart=>exact⟨0,Nat.zero_le _,rfl,Ext.refl _⟩
  obtain⟨k,hk,rfl,he⟩:=hrel;have gl:=HG.out _ he;have HE:=zH he;clear he;by_cases hlt:k<xs.length
  · obtain⟨b,o,rfl,hb⟩:=H3.out (by omega)
    obtain⟨b2,o2,rfl,hb2⟩:=H4.out (by omega);have c0:=(HW.out.trans HE.out).get (hb k hlt);have c1:=(HW.out.trans HE.out).get (hb2 k hlt);clear hb hb2;generalize (xs.getD k 0:Nat)=d at c0 c1
    go_wp2_with fail
    go_quiet (fail)
    go_wp2_with fail
    go_roundw
    case rel=>exact⟨k+1,hlt,by go_num,HE.out.drewN _⟩
    case measure=>simp[intOf];omega
  go_wp2_with fail
  go_ret
  exact⟨rfl,HW.out.trans HE.out⟩
theorem same04G_any (a b:RV)(z1 z2:Int)(w:World)(ha1:IntC w a.n (.slice a.p a.l a.c) z1)(ha2:IntC w a.m (.slice a.p2 a.l2 a.c2) z2)(hb1:IntC w b.n (.slice b.p b.l b.c) z1)(hb2:IntC w b.m (.slice b.p2 b.l2 b.c2) z2)(hl1:Nm.nl z1.natAbs<=1000000)(hl2:Nm.nl z2.natAbs<=1000000):
    Calls Tryz.prog 11 #[.agg #[.bool a.n,.slice a.p a.l a.c,.bool a.m,.slice a.p2 a.l2 a.c2],.agg #[.bool b.n,.slice b.p b.l b.c,.bool b.m,.slice b.p2 b.l2 b.c2]] w fun e w'=>e= .returned (.bool true)/\Ext w w':=by
  have H1:=zH (fun W (x:Ext w W)=>same04I_any a.n b.n _ _ z1 W (ha1.ext x) (hb1.ext x) hl1);have H2:=zH (fun W (x:Ext w W)=>same04I_any a.m b.m _ _ z2 W (ha2.ext x) (hb2.ext x) hl2);have HG:=zH (show∀x,Ext ((w.alloc (.cells #[.bool a.n,.slice a.p a.l a.c,.bool a.m,.slice a.p2 a.l2 a.c2] 33)).alloc (.cells #[.bool b.n,.slice b.p b.l b.c,.bool b.m,.slice b.p2 b.l2 b.c2] 33)) x->
      x.cell? ⟨w.heap.size,0,none⟩=some (.bool a.n)/\x.cell? ⟨w.heap.size,1,none⟩=some (.slice a.p a.l a.c)/\x.cell? ⟨w.heap.size,2,none⟩=some (.bool a.m)/\x.cell? ⟨w.heap.size,3,none⟩=some (.slice a.p2 a.l2 a.c2)/\
      x.cell? ⟨w.heap.size+1,0,none⟩=some (.bool b.n)/\x.cell? ⟨w.heap.size+1,1,none⟩=some (.slice b.p b.l b.c)/\x.cell? ⟨w.heap.size+1,2,none⟩=some (.bool b.m)/\x.cell? ⟨w.heap.size+1,3,none⟩=some (.slice b.p2 b.l2 b.c2)from fun x h=>
    ⟨h.get (by simp),h.get (by simp),h.get (by simp),h.get (by simp),h.get (by simp),h.get (by simp),h.get (by simp),h.get (by simp)⟩)
  have HW:=zH (show Ext w ((w.alloc (.cells #[.bool a.n,.slice a.p a.l a.c,.bool a.m,.slice a.p2 a.l2 a.c2] 33)).alloc (.cells #[.bool b.n,.slice b.p b.l b.c,.bool b.m,.slice b.p2 b.l2 b.c2] 33))from((Ext.refl _).alloc _).alloc _);clear ha1 ha2 hb1 hb2;go_enter Tryz.func11,Tryz.ntmps11
  go_wp2_with fail
  generalize ((w.alloc (.cells #[.bool a.n,.slice a.p a.l a.c,.bool a.m,.slice a.p2 a.l2 a.c2] 33)).alloc (.cells #[.bool b.n,.slice b.p b.l b.c,.bool b.m,.slice b.p2 b.l2 b.c2] 33))=wa at*
  have gl:=HG.out _ (Ext.refl _);go_wp2_with fail
  refine(H1.out _ HW.out).mono ?_;rintro e wx ⟨rfl,hx1⟩;clear gl;have gl:=HG.out _ hx1;go_wp2_with fail
  refine(H2.out _ (HW.out.trans hx1)).mono ?_;rintro e wy ⟨rfl,hx2⟩;go_wp2_with fail
  go_ret
  exact⟨rfl,HW.out.trans (hx1.trans hx2)⟩
theorem same04_any (a b:RV)(q:Rat)(L:Nat)(w:World)(ha:a.Is w q)(hb:b.Is w q)(hq:Nm.rl q<=L)(hL:L<=1000000):
    Calls Tryz.prog 11 #[.agg #[.bool a.n,.slice a.p a.l a.c,.bool a.m,.slice a.p2 a.l2 a.c2],.agg #[.bool b.n,.slice b.p b.l b.c,.bool b.m,.slice b.p2 b.l2 b.c2]] w fun e w'=>e= .returned (.bool true)/\Ext w w':=
  same04G_any a b q.num (q.den:Int) w ha.1 ha.2 hb.1 hb.2 (by have:=Nat.le_max_left (Nm.nl q.num.natAbs) (Nm.nl q.den);unfold Nm.rl at hq;omega) (by have:=Nat.le_max_right (Nm.nl q.num.natAbs) (Nm.nl q.den);unfold Nm.rl at hq;simp only[Int.natAbs_natCast];omega)
theorem IntC.zero (w:World):IntC w false (.slice none 0 0) 0:=by
  refine⟨by decide,none,0,?_⟩;simp[Nm.digs];exact Nm.Dg.nil
theorem ringLitP {w0 w:World}{m:List Ent}{i j X1 X2:Nat}(h:Hp w0 w m)(ps:List (Int×Int))(h1:m[i]?=some (.blk X1 28 (ps.flatMap fun p=>[.int .i64 p.1,.int .i64 p.2])))
  (h2:m[j]?=some (.blk X2 44 [.slice (some ⟨X1,0,none⟩) ps.length ps.length])):RingsV w (.slice (some ⟨X2,0,none⟩) 1 1) [ps]:=by
 refine⟨_,1,rfl,fun _=>⟨X2,0,rfl,fun i r hr=> ?_⟩⟩;have hi:i=0:=by have:=(List.getElem?_eq_some_iff.1 hr).1;simp at this;omega
 subst hi;have hr2:r=ps:=by simpa using hr.symm
 subst hr2;refine⟨_,r.length,h.cell h2 0 rfl,⟨_,r.length,rfl,fun _=>⟨X1,0,rfl,fun i hi=> ?_⟩⟩⟩;have hp:r[i]?=some r[i]:=List.getElem?_eq_getElem hi;have hg:r.getD i (0,0)=r[i]:=by simp[hi]
 rw[hg];have h3:=h.cell h1 (i*2+0) (flat_get (f:=fun p:Int×Int=>([.int .i64 p.1,.int .i64 p.2]:List Value)) (fun _=>rfl) r i r[i] hp 0 _ rfl);have h4:=h.cell h1 (i*2+1) (flat_get (f:=fun p:Int×Int=>([.int .i64 p.1,.int .i64 p.2]:List Value)) (fun _=>rfl) r i r[i] hp 1 _ rfl);rw[Nat.add_zero]at h3;rw[Nat.zero_add];exact⟨h3,h4⟩
theorem q19FromInts (a b:Int)(w:World)(h1: -9223372036854775808<=a)(h2:a<=9223372036854775807)(h3: -9223372036854775808<=b)(h4:b<=9223372036854775807)(hb:b≠0):
    Calls Tryz.prog 18 #[.int .i64 a,.int .i64 b] w fun e w'=>∃c,e= .returned (.tuple #[.agg c,.int .i64 0])/\NIs w' c ((a:Rat)/(b:Rat))/\Ext w w':=by
  refine(r3fromInts_any a b w h1 h2 h3 h4 hb).mono fun e w' h=> ?_
  obtain⟨c,rfl,h3,h4⟩:=RetRE.v h;exact⟨_,rfl,⟨c,rfl,by rw[<-Rat.divInt_eq_div];exact h3⟩,h4⟩
def exH:List Ring:=[[(0,0),(256,0),(0,256)]]
theorem exH_tot:tot exH<=24:=by decide
theorem exH_pix:areaV 1 (cornV 0 0) (pixB 0 0) exH/((65536:Int):Rat)=((1:Int):Rat)/((2:Int):Rat):=by
  have e1:cornV 0 0=(0,0):=by decide
  have e2:pixB 0 0=(256,256):=by decide
  rw[e1,e2,show exH=[[((0:Int),(0:Int)),(256,0),(0,256)]]from rfl,area_tri (.inl rfl) (by decide) (by decide) (by decide) (by decide) (by decide) (by decide)];decide+kernel
theorem exH_totV:totV 2 exH=((1:Int):Rat)/((2:Int):Rat):=by
  have e1:bbV exH=((0,0),(256,256)):=by decide
  unfold totV;rw[if_neg (by decide),e1,show exH=[[((0:Int),(0:Int)),(256,0),(0,256)]]from rfl,area_tri (.inr rfl) (by decide) (by decide) (by decide) (by decide) (by decide) (by decide)];decide+kernel
theorem half_any (w:World):Calls Tryz.prog 22 #[] w fun e w'=>∃g,e= .returned (.slice (some ⟨g,0,none⟩) exH.length 1)/\RingsV w' (.slice (some ⟨g,0,none⟩) exH.length 1) exH/\Ext w w':=by
 go_enter Tryz.func22,Tryz.ntmps22
 have H0:=zH (Hp.start w);go_upto_region 0 with fail
 refine wl ?_;refine zI1 (Hp.start _) _ ?_;go_upto_region 1 with fail
 refine wl ?_;refine zI3 (Hp.start _) _ _ _ ?_;refine aL' 3 28 [.int .i64 0,.int .i64 0,.int .i64 256,.int .i64 0,.int .i64 0,.int .i64 256] H0.out ?_;intro X5 w6 H7 _;refine aL' 1 44 [.slice (some ⟨X5,0,none⟩) 3 3] H7.out ?_;intro X9 w10 H11 _;refine zI1 (Hp.start _) _ ?_;go_wp2_with fail
 go_ret
 exact⟨_,rfl,ringLitP H11.out [(0,0),(256,0),(0,256)] (i:=0) (j:=1) (by rfl) (by rfl),H11.out.ext⟩
theorem example19_any (w:World):Calls Tryz.prog 8 #[] w fun e w'=>e= .returned (.bool true)/\Ext w w':=by
 go_enter Tryz.func8,Tryz.ntmps8
 have H0:=zH (Hp.start w);go_upto_region 0 with fail
 refine wl ?_;refine zq (.bool false) ?_;go_upto_region 1 with fail
 refine wl ?_;refine zc (half_any _) ?_;rintro e w15 ⟨g16,rfl,hr_,hx⟩;have H17:=zH (H0.out.step hx);have HH16:=zH hr_;clear hr_ hx;refine zn ?_;refine zc ((pixel_any (some ⟨g16,0,none⟩) 1 exH 1 0 0 _ HH16.out dC (by intro r_ hr_;simp[exH]at hr_;subst hr_;decide) exH_tot dC).mono (fun _ _ h_=>RetZ.ok h_ dC)) ?_;rintro e w19 ⟨r20,rfl,h1_,h2_,hx⟩;have H21:=zH (H17.out.step hx);have R20:=zH (exH_pix▸h1_);clear h1_ h2_ hx;refine zn ?_;refine zI3 (Hp.start _) _ _ _ ?_;refine aA' 33 rz H21.out ?_;intro X26 w27 H28 D28;refine aS' 0 (rc r20) H28.out ?_;intro w31 H32 D32;refine zq (.int .i64 0) ?_;go_upto_region 2 with fail
 refine wl ?_;refine zc (half_any _) ?_;rintro e w35 ⟨g36,rfl,hr_,hx⟩;have H37:=zH (H32.out.step hx);have D37:=zH (Dig.of_ext hx);have HH36:=zH hr_;clear hr_ hx;refine zn ?_;refine zc ((total_any (some ⟨g36,0,none⟩) 1 exH 2 _ HH36.out dC (by intro r_ hr_;simp[exH]at hr_;subst hr_;decide) exH_tot dC).mono (fun _ _ h_=>RetZ.ok h_ dC)) ?_;rintro e w39 ⟨r40,rfl,h1_,h2_,hx⟩;have H41:=zH (H37.out.step hx);have D41:=zH (Dig.of_ext hx);have R40:=zH (exH_totV▸h1_);clear h1_ h2_ hx;refine zn ?_;refine zI3 (Hp.start _) _ _ _ ?_;refine aA' 33 rz H41.out ?_;intro X46 w47 H48 D48;refine aS' 1 (rc r40) H48.out ?_;intro w51 H52 D52;refine zq (.int .i64 0) ?_;go_upto_region 3 with fail
 refine wl ?_;refine zc (q19FromInts 1 2 _ dC dC dC dC dC) ?_;rintro e w55 ⟨c_,rfl,hc_,hx⟩;have H57:=zH (H52.out.step hx);have D57:=zH (Dig.of_ext hx);obtain⟨r56,rfl,hr_⟩:=hc_;have R56:=zH hr_;have B56:=zH (show Nm.rl (((1:Int):Rat)/((2:Int):Rat))<=8 from by decide+kernel);clear hr_ hx;refine zn ?_;refine zI3 (Hp.start _) _ _ _ ?_;refine aA' 33 rz H57.out ?_;intro X62 w63 H64 D64;refine aS' 2 (rc r56) H64.out ?_;intro w67 H68 D68;refine zq (.int .i64 0) ?_;go_upto_region 4 with fail
 refine wl ?_;refine zc (half_any _) ?_;rintro e w71 ⟨g72,rfl,hr_,hx⟩;have H73:=zH (H68.out.step hx);have D73:=zH (Dig.of_ext hx);have HH72:=zH hr_;clear hr_ hx;refine zn ?_;refine zI2 (Hp.start _) _ _ ?_;refine zc ((inbox_any (some ⟨g72,0,none⟩) 1 exH 3 (0,0) (0,0) _ HH72.out dC (by intro r_ hr_;simp[exH]at hr_;subst hr_;decide) exH_tot dC).mono (fun _ _ h_=>RetZ.bad h_ dC)) ?_;rintro e w77 ⟨rfl,hx⟩;have H78:=zH (H73.out.step hx);have D78:=zH (Dig.of_ext hx);clear hx;refine⟨.tuple #[.agg z4,.int .i64 2],by rw[show inbE 3 (0,0) (0,0) exH=2 by decide],?_⟩;try simp only[Act.put,zA,zB,zC]
 refine zI3 (Hp.start _) _ _ _ ?_;refine aA' 33 rz H78.out ?_;intro X83 w84 H85 D85;refine aS' 3 rz H85.out ?_;intro w88 H89 D89;refine zq (.int .i64 2) ?_;go_upto_region 5 with fail
 refine wl ?_;refine zq (.int .i64 0) ?_;refine zp (.bool true) (by exact ezq (e:=(dec_t (by omega)))) ?_;refine zI3 H89.out (.bool true) _ _ ?_;have DD96:=tD (tD (tD (tD (tD (tD (tD (tD (tD (tD (tD (tD D28 D32) D37) D41) D48) D52) D57) D64) D68) D73) D78) D85) D89;have DD97:=tD (tD (tD (tD (tD D64 D68) D73) D78) D85) D89;refine aC H89.out (same04_any r20 r56 (((1:Int):Rat)/((2:Int):Rat)) 60000 _ (R20.out.dig DD96.out) (R56.out.dig DD97.out) (Nat.le_trans B56.out (by omega)) dC) ?_;intro w95 H98 D98;refine zI3 (Hp.start _) (.bool true) (.bool true) _ ?_;refine zp (.bool true) (by exact ezq (e:=(dec_t (by omega)))) ?_;refine zI4 H98.out (.bool true) (.bool true) _ _ ?_;have DD107:=tD (tD (tD (tD (tD (tD (tD (tD (tD D48 D52) D57) D64) D68) D73) D78) D85) D89) D98;have DD108:=tD DD97 D98;refine aC H98.out (same04_any r40 r56 (((1:Int):Rat)/((2:Int):Rat)) 60000 _ (R40.out.dig DD107.out) (R56.out.dig DD108.out) (Nat.le_trans B56.out (by omega)) dC) ?_;intro w106 H109 _;refine zI3 (Hp.start _) (.bool true) (.bool true) _ ?_;refine zp (.bool true) (by exact ezq (e:=(dec_t (by omega)))) ?_;refine qV (.bool true) ?_;refine zq (.bool true) ?_;go_wp2_with fail
 go_ret
 exact⟨rfl,H109.out.ext⟩
theorem clamp8_any (n lo hi:Int)(w:World)(h1:lo<=n)(h2:n<=hi):Calls Tryz.prog 84 #[.int .i64 n,.int .i64 lo,.int .i64 hi] w fun e w'=>e= .returned (.int .i64 n)/\Ext w w':=by
 go_enter Tryz.func84,Tryz.ntmps84
 have H0:=zH (Hp.start w);go_upto_region 0 with fail
 refine wl ?_;refine zq (.int .i64 0) ?_;go_upto_region 1 with fail
 refine wl ?_;refine qV (.int .i64 n) ?_;refine zq (.int .i64 lo) ?_;refine zp (.bool false) (by exact ezl (e:=(dec_f (by omega)))) ?_;go_upto_region 3 with fail
 refine wl ?_;refine qV (.int .i64 n) ?_;refine zq (.int .i64 hi) ?_;refine zp (.bool false) (by exact ezg (e:=(dec_f (by omega)))) ?_;go_upto_region 5 with fail
 refine wl ?_;refine qV (.int .i64 n) ?_;refine zq (.int .i64 n) ?_;go_wp2_with fail
 go_ret
 exact⟨rfl,H0.out.ext⟩
theorem hold11_any (p:Int×Int)(w:World)(h:okP p):Calls Tryz.prog 53 #[.agg #[.int .i64 p.1,.int .i64 p.2]] w fun e w'=>e= .returned (.agg #[.int .i64 p.1,.int .i64 p.2])/\Ext w w':=by
 have op:=okP_out h;go_enter Tryz.func53,Tryz.ntmps53
 have H0:=zH (Hp.start w);go_upto_region 0 with fail
 refine wl ?_;refine aA' 28 [.int .i64 p.1,.int .i64 p.2] H0.out ?_;intro X10 w11 H12 _;refine aA' 28 [.int .i64 0,.int .i64 0] H12.out ?_;intro X15 w16 H17 _;go_upto_region 1 with fail
 refine wp_region_held_drew (S:=fun x=>Fr (fun kz=>kz=X15) w16 x) kR (Fr.of_ext zb) (fun _=> ?_);have H20:=zH (H17.out.step (Ext.refl w16).drew);refine zx 0 (bs 8 1) (.pointer (some ⟨X10,0,none⟩)) (Fr.of_ext zb) ?_;refine md_ld1 (g:=X10) (o:=0) (v:= .int .i64 p.1) (i:=1) (listed':=(bs 8 3)) rR kR kR kR (by intro _ _ _ h;exact h) rR (fun x hx=>Fr.cell hx (show World.cell? w16 ⟨X10,0,none⟩=some (.int .i64 p.1)from cell_of_range (H17.out.range (i:=0) rR 0 1)) (H17.out.offBlk (i:=0) (j:=1) rR rR dC rR)) (by intro x hq;go_simp<;>with_reducible rfl) (Fr.of_ext zb) kR ?_;try simp only[Act.put,zA,zB,zC]
 refine zx 3 (bs 8 11) (.pointer (some ⟨X10,1,none⟩)) (Fr.of_ext zb) ?_;refine md_ld1 (g:=X10) (o:=1) (v:= .int .i64 p.2) (i:=4) (listed':=(bs 8 27)) rR kR kR kR (by intro _ _ _ h;exact h) rR (fun x hx=>Fr.cell hx (show World.cell? w16 ⟨X10,1,none⟩=some (.int .i64 p.2)from cell_of_range (H17.out.range (i:=0) rR 1 1)) (H17.out.offBlk (i:=0) (j:=1) rR rR dC rR)) (by intro x hq;go_simp<;>with_reducible rfl) (Fr.of_ext zb) kR ?_;try simp only[Act.put,zA,zB,zC]
 refine mC 2 (bs 8 31) (clamp8_any p.1 (-1048576) 1048576 _ (by omega) (by omega)) ?_;rintro e w24 ⟨rfl,hx⟩;have H25:=zH (H20.out.step hx);have S28:=zH (show Fr (fun kz=>kz=X15) w16 w24 from(Fr.of_ext zb).trans (Fr.of_ext hx));clear hx;refine zm S28.out ?_;refine mC 5 (bs 8 63) (clamp8_any p.2 (-1048576) 1048576 _ (by omega) (by omega)) ?_;rintro e w29 ⟨rfl,hx⟩;have H30:=zH (H25.out.step hx);have S33:=zH (S28.out.trans (Fr.of_ext hx));clear hx;refine zm S33.out ?_;refine zx 6 (bs 8 127) (.agg #[.int .i64 p.1,.int .i64 p.2]) S33.out ?_;refine md_st (i:=7) (listed':=(bs 8 255)) rR kR rR kR _ _ _ rR H30.out (ix:=1) rR 0 [.int .i64 p.1,.int .i64 p.2] rR rR (by simp) kR (by simp[Value.oneCell']) (by simp[NoUL]) ?_;intro w35 hh hd ho;have H36:=hN hh;have S38:=zH (Fr.trans_new S33.out ho (fun j hj=> .inl (by simpa using hj.symm)));clear hh hd ho;refine⟨S38.out,?_⟩
 (try simp only[Act.put])
 refine wpAnyH_done kR ?_ _;go_wp2_with fail
 refine bodyPost_ret (v:= .agg #[.int .i64 p.1,.int .i64 p.2]) ?_ rfl ⟨rfl,H36.out.ext⟩;exact results_cell1 rfl rfl ((H36.out.blk (i:=1) rR).loadVar rfl rfl rR)
theorem wedge11_any (u v:Int×Int)(w:World)(hu:(-2097152<=u.1/\u.1<=2097152)/\(-2097152<=u.2/\u.2<=2097152))(hv:(-2097152<=v.1/\v.1<=2097152)/\(-2097152<=v.2/\v.2<=2097152)):
  Calls Tryz.prog 62 #[.agg #[.int .i64 u.1,.int .i64 u.2],.agg #[.int .i64 v.1,.int .i64 v.2]] w fun e w'=>e= .returned (.int .i64 (cr u v))/\Ext w w':=by
 have m1:=mul_bd hu.1 hv.2;have m2:=mul_bd hu.2 hv.1;go_enter Tryz.func62,Tryz.ntmps62
 have H0:=zH (Hp.start w);go_upto_region 0 with fail
 refine wl ?_;refine aA' 28 [.int .i64 u.1,.int .i64 u.2] H0.out ?_;intro X175 w176 H177 _;refine aA' 28 [.int .i64 v.1,.int .i64 v.2] H177.out ?_;intro X180 w181 H182 _;refine zq (.int .i64 0) ?_;go_upto_region 1 with fail
 refine wl ?_;refine zI4 H182.out _ _ _ _ ?_;refine zp (.int .i64 (u.1*v.2)) (by exact ez3 (by omega)) ?_;refine zI4 H182.out _ _ _ _ ?_;refine zp (.int .i64 (u.2*v.1)) (by exact ez3 (by omega)) ?_;refine zp (.int .i64 ((u.1*v.2)-(u.2*v.1))) (by exact ez2 (by omega)) ?_;refine zq (.int .i64 ((u.1*v.2)-(u.2*v.1))) ?_;go_wp2_with fail
 go_ret
 exact⟨rfl,H182.out.ext⟩
theorem cross11_any (p q:Int×Int)(w:World)(hp:okP p)(hq:okP q):
  Calls Tryz.prog 38 #[.agg #[.int .i64 p.1,.int .i64 p.2],.agg #[.int .i64 q.1,.int .i64 q.2]] w fun e w'=>e= .returned (.int .i64 (cr p q))/\Ext w w':=by
 have op:=okP_out hp;have oq:=okP_out hq;go_enter Tryz.func38,Tryz.ntmps38
 have H0:=zH (Hp.start w);go_upto_region 0 with fail
 refine wl ?_;refine aA' 28 [.int .i64 p.1,.int .i64 p.2] H0.out ?_;intro X52 w53 H54 _;refine aA' 28 [.int .i64 q.1,.int .i64 q.2] H54.out ?_;intro X57 w58 H59 _;refine zq (.int .i64 0) ?_;go_upto_region 1 with fail
 refine zy ?_;have H63:=zH (H59.out.step (Ext.refl w58).drew);refine zJ2 H59.out zb (bs 6 5) 0 2 _ _ ?_;refine mC 1 (bs 6 7) (hold11_any p _ hp) ?_;rintro e w65 ⟨rfl,hx⟩;have H66:=zH (H63.out.step hx);have S68:=zH (zb.trans hx);clear hx;refine zm S68.out ?_;refine mC 3 (bs 6 15) (hold11_any q _ hq) ?_;rintro e w69 ⟨rfl,hx⟩;have H70:=zH (H66.out.step hx);have S72:=zH (S68.out.trans hx);clear hx;refine zm S72.out ?_;refine mC 4 (bs 6 31) (wedge11_any p q _ ⟨⟨by omega,by omega⟩,⟨by omega,by omega⟩⟩ ⟨⟨by omega,by omega⟩,⟨by omega,by omega⟩⟩) ?_;rintro e w73 ⟨rfl,hx⟩;have H74:=zH (H70.out.step hx);have S76:=zH (S72.out.trans hx);clear hx;refine zm S76.out ?_;refine zx 5 (bs 6 63) (.int .i64 (cr p q)) S76.out ?_;refine wpAnyH_done kR ?_ _;go_wp2_with fail
 go_ret
 exact⟨rfl,H74.out.ext⟩
def nxtI (r:Ring)(k:Nat):Int×Int:=r.getD ((k+1)%r.length) (0,0)
def dblV (r:Ring)(k:Nat):Int:=((List.range k).map fun i=>cr (r.getD i (0,0)) (nxtI r i)).sum
theorem dblV_succ (r:Ring)(k:Nat):dblV r (k+1)=dblV r k+cr (r.getD k (0,0)) (nxtI r k):=by
  unfold dblV;rw[List.range_succ,List.map_append,List.sum_append];simp
theorem crA_bd {p q:Int×Int}(hp:okP p)(hq:okP q): -2199023255552<=cr p q/\cr p q<=2199023255552:=by
  have op:=okP_out hp;have oq:=okP_out hq;have m:∀a b:Int,-1048576<=a/\a<=1048576-> -1048576<=b/\b<=1048576-> -1099511627776<=a*b/\a*b<=1099511627776:=fun a b h1 h2=>by
    have h:(a*b).natAbs<=1048576*1048576:=by rw[Int.natAbs_mul];exact Nat.mul_le_mul (by omega) (by omega)
    omega
  have m1:=m _ _ op.1 oq.2;have m2:=m _ _ op.2 oq.1;unfold cr;omega
theorem dblV_bd {r:Ring}(h:∀p,p∈r->okP p)(hr:0<r.length):∀k,k<=r.length-> -(2199023255552*(k:Int))<=dblV r k/\dblV r k<=2199023255552*(k:Int)
  |0,_=>by unfold dblV;simp
  | k+1,hk=>by
    have ih:=dblV_bd h hr k (by omega);have g:∀i,i<r.length->okP (r.getD i (0,0)):=fun i hi=>by
      rw[List.getD_eq_getElem?_getD,List.getElem?_eq_getElem hi];exact h _ (List.getElem_mem hi)
    have c:=crA_bd (g k (by omega)) (g ((k+1)%r.length) (Nat.mod_lt _ hr));rw[dblV_succ];unfold nxtI;omega
theorem next16_any (A:Option Addr)(c:Nat)(r:Ring)(k:Nat)(w:World)(hp:PtsV w (.slice A r.length c) r)(hk:k<r.length)(hl:r.length<=1048576):
  Calls Tryz.prog 39 #[.slice A r.length c,.int .i64 k] w fun e w'=>e= .returned (.agg #[.int .i64 (nxtI r k).1,.int .i64 (nxtI r k).2])/\Ext w w':=by
 obtain⟨A',c',e,hA⟩:=hp;injection e with e1_ _ e3_
 subst e1_ e3_;obtain⟨g,off,rfl,hpa_⟩:=hA (by intro h_;rw[h_]at hk;simp at hk);have hmod:(k+1)%r.length<r.length:=Nat.mod_lt _ (by omega);obtain⟨p,hp_⟩:∃p,r[(k+1)%r.length]?=some p:=⟨_,List.getElem?_eq_getElem hmod⟩;have HPK:=zH (range_pt hpa_ hp_);have HNX:=zH (show nxtI r k=p from by unfold nxtI;rw[List.getD_eq_getElem?_getD,hp_];rfl);have HREM:=zH (show(((k+1:Nat):Int)).tmod (r.length:Int)=(((k+1)%r.length:Nat):Int)by rw[Int.tmod_eq_emod_of_nonneg (by omega)];simp);clear hA hpa_ hp_;generalize hj_:(k+1)%r.length=j at*
 clear hj_;rw[HNX.out];go_enter Tryz.func39,Tryz.ntmps39
 have H0:=zH (Hp.start w);go_upto_region 0 with fail
 refine wl ?_;refine aA' 28 [.int .i64 0,.int .i64 0] H0.out ?_;intro X99 w100 H101 _;go_upto_region 1 with fail
 refine wl ?_;refine zI2 (Hp.start _) _ (.int .i64 (k:Int)) ?_;refine zp (.int .i64 ((k+1:Nat):Int)) (by exact ez1 (by omega)) ?_;refine zI2 (Hp.start _) _ (.int .i64 ((r.length:Nat):Int)) ?_;refine zp (.int .i64 (j:Int)) (by exact ev_rem rR rR rR (by omega) HREM.out (by omega) (by omega)) ?_;refine zp (.pointer (some ⟨g,off+j*2,none⟩)) (by exact ezi (k:=j) Tryz.underlying44 (l:=hmod) (f:=rfl)) ?_;refine zd g (off+j*2) [.int .i64 p.1,.int .i64 p.2] (range_ext HPK.out H101.out.ext) Tryz.underlying28 ?_;refine aS' 0 [.int .i64 p.1,.int .i64 p.2] H101.out ?_;intro w111 H112 _;go_wp2_with fail
 refine bodyPost_ret (v:= .agg #[.int .i64 p.1,.int .i64 p.2]) ?_ rfl ⟨rfl,H112.out.ext⟩;exact results_cell1 rfl rfl ((H112.out.blk (i:=0) rR).loadVar rfl rfl rR)
theorem one_ring {w0 w:World}{m:List Ent}{A:Option Addr}{c i X:Nat}{r:Ring}(hp:PtsV w0 (.slice A r.length c) r)(h:Hp w0 w m)(hi:m[i]?=some (.blk X 44 [.slice A r.length c])):RingsV w (.slice (some ⟨X,0,none⟩) 1 1) [r]:=by
  refine⟨_,1,rfl,fun _=>⟨X,0,rfl,fun j q hq=> ?_⟩⟩;have hj:j=0:=by have:=(List.getElem?_eq_some_iff.1 hq).1;simp at this;omega
  subst hj;obtain rfl:r=q:=by simpa using hq
  exact⟨A,c,by have h3:=h.cell hi 0 rfl;rw[Nat.zero_add];exact h3,hp.ext h.ext⟩
theorem dbl16_any (A:Option Addr)(c:Nat)(r:Ring)(w:World)(hp:PtsV w (.slice A r.length c) r)(ho:okR [r]=true):
  Calls Tryz.prog 17 #[.slice A r.length c] w fun e w'=>e= .returned (.int .i64 (dblV r r.length))/\Ext w w':=by
 have HPT:=zH hp;have HOK:=zH ho;have hrl:r.length<=4096:=by have h_:=okR_tot ho;rw[<-flat_tot]at h_;simpa using h_
 have HOKP:=zH (show∀p,p∈r->okP p from fun p_ hp_=>okR_pts ho (List.mem_singleton.2 rfl) hp_);clear hp ho;go_enter Tryz.func17,Tryz.ntmps17
 have H0:=zH (Hp.start w);go_upto_region 0 with fail
 refine wl ?_;refine zq (.int .i64 0) ?_;go_upto_region 1 with fail
 refine wl ?_;refine zI1 (Hp.start _) _ ?_;refine aL' 1 44 [.slice A r.length c] H0.out ?_;intro X116 w117 H118 _;refine zc (r16Valid_any (.slice (some ⟨X116,0,none⟩) 1 1) [r] _ (one_ring HPT.out H118.out (i:=0) rR) (show 1<=1048576 by decide) (fun r_ h_=>by rw[List.mem_singleton.1 h_];exact Nat.le_trans hrl dC)) ?_;rintro e w120 ⟨rfl,hx⟩;have H121:=zH (H118.out.step hx);clear hx;refine⟨.bool true,by rw[HOK.out],?_⟩;try simp only[Act.put,zA,zB,zC]
 refine zq (.bool false) ?_;go_upto_region 3 with fail
 refine wl ?_;refine zq (.int .i64 0) ?_;go_upto_region 4 with fail
 refine wl ?_;refine zq (.int .i64 0) ?_;go_wp2_with fail
 go_loopg [3,4] (r.length) (fun cq v126 v127 wr=>∃(k:Nat),cq=r.length-k/\v126= .int .i64 (dblV r k)/\v127= .int .i64 (k:Int)/\(k<=r.length)/\Hp w wr [.blk X116 44 [.slice A r.length c]]/\Dig w120 wr)
 case atStart=>exact⟨0,rfl,rfl,rfl,Nat.zero_le _,H121.out,Dig.refl _⟩
 obtain⟨k,rfl,rfl,rfl,q_HKI,hh_,hd_⟩:=hrel;generalize wr=w128 at*
 have HKI:=zH q_HKI;clear q_HKI;have H130:=zH hh_;have D130:=zH hd_;clear hh_ hd_ H121;rcases emH (k<r.length)with HLT|HLT
 ·have hlt:=HLT.out
  obtain⟨A',c',e_,hA_⟩:=HPT.out;injection e_ with e1_ _ e3_
  subst e1_ e3_;obtain⟨g,off,rfl,hpa_⟩:=hA_ (by intro h_;rw[h_]at hlt;simp at hlt);obtain⟨p,hp_⟩:∃p,r[k]?=some p:=⟨_,List.getElem?_eq_getElem hlt⟩;have HPK:=zH (range_pt hpa_ hp_);have HGK:=zH (show r.getD k (0,0)=p from by rw[List.getD_eq_getElem?_getD,hp_];rfl);have HOA:=zH (HOKP.out p (List.mem_of_getElem? hp_));have HOB:=zH (show okP (nxtI r k)from by have hm_:(k+1)%r.length<r.length:=Nat.mod_lt _ (by omega);unfold nxtI;rw[List.getD_eq_getElem?_getD,List.getElem?_eq_getElem hm_];exact HOKP.out _ (List.getElem_mem hm_));have hcb:=crA_bd HOA.out HOB.out;have hdb:=dblV_bd HOKP.out (by omega) k (by omega);have HSU:=zH (show dblV r (k+1)=dblV r k+cr p (nxtI r k)from by rw[dblV_succ,HGK.out]);clear hA_ hpa_ hp_;go_upto_region 5 with fail
  refine wl ?_;refine zI3 (Hp.start _) (.int .i64 (k:Int)) _ (.int .i64 ((r.length:Nat):Int)) ?_;refine zp (.bool true) (by exact ezl (e:=(dec_t (by omega)))) ?_;go_upto_region 7 with fail
  refine zy ?_;have H136:=zH (H130.out.step (Ext.refl w128).drew);have D136:=zH (Dig.of_ext (w:=w128) zb);refine zJ3 (Hp.start _) zb (bs 11 7) 0 1 2 (.int .i64 (dblV r k)) _ (.int .i64 (k:Int)) ?_;refine zo 3 (bs 11 15) (v:= .pointer (some ⟨g,off+k*2,none⟩)) zb ?_ (hv:=by intro w hSw;exact ezi (k:=k) Tryz.underlying44 (l:=hlt) (f:=rfl));refine zg 4 (bs 11 31) g (off+k*2) [.int .i64 p.1,.int .i64 p.2] (range_ext HPK.out H130.out.ext) Tryz.underlying28 zb ?_;refine zJ2 (Hp.start _) zb (bs 11 127) 5 6 _ (.int .i64 (k:Int)) ?_;refine mC 7 (bs 11 255) (next16_any (some ⟨g,off,none⟩) c r k _ (HPT.out.ext H136.out.ext) hlt (Nat.le_trans hrl dC)) ?_;rintro e w144 ⟨rfl,hx⟩;have H145:=zH (H136.out.step hx);have D145:=zH (show Dig w128.drew w144 from Dig.of_ext hx);have S147:=zH (zb.trans hx);clear hx;refine zm S147.out ?_;refine mC 8 (bs 11 511) (cross11_any p (nxtI r k) _ HOA.out HOB.out) ?_;rintro e w148 ⟨rfl,hx⟩;have H149:=zH (H145.out.step hx);have D149:=zH (Dig.of_ext hx);have S151:=zH (S147.out.trans hx);clear hx;refine zm S151.out ?_;refine zu 9 (bs 11 1023) (v:= .int .i64 ((dblV r k)+(cr p (nxtI r k)))) S151.out ?_ (hv:=by intro w hSw;exact ez1 (by omega));refine zx 10 (bs 11 2047) (.int .i64 ((dblV r k)+(cr p (nxtI r k)))) S151.out ?_;refine wpAnyH_done kR ?_ _;go_upto_region 6 with fail
  refine wl ?_;refine zq (.int .i64 (k:Int)) ?_;refine zp (.int .i64 ((k+1:Nat):Int)) (by exact ez1 (by omega)) ?_;refine zq (.int .i64 ((k+1:Nat):Int)) ?_;have DD157:=tD (tD (tD D130 D136) D145) D149;go_wp2_with fail
  go_roundg (r.length-(k+1))
  case measure=>exact(by omega)
  case rel=>exact⟨k+1,rfl,(by rw[HSU.out]),(by go_num),hlt,H149.out,DD157.out⟩
 have hlt:=HLT.out;have hkk:=HKI.out;obtain rfl:k=r.length:=by omega
 go_upto_region 5 with fail
 refine wl ?_;refine zI3 (Hp.start _) (.int .i64 ((r.length:Nat):Int)) _ (.int .i64 ((r.length:Nat):Int)) ?_;refine zp (.bool false) (by exact ezl (e:=(dec_f (Int.lt_irrefl _)))) ?_;go_upto_region 8 with fail
 refine wl ?_;refine zI2 (Hp.start _) (.int .i64 (dblV r r.length)) (.int .i64 (dblV r r.length)) ?_;go_wp2_with fail
 go_ret
 exact⟨rfl,H130.out.ext⟩
end Go.Proofs.YtngikkggjidenabGreat
namespace Go.Proofs.YtngikkggjidenabGreat
open Go.ChangeShapes Go.WideShapes Go.ChangeAt Go.RowKit
theorem own:ownKnob Tryz.prog.godebug=none:=by kernel_rfl
theorem laidOut:laidOutB Tryz.prog=true:=by kernel_rfl
theorem cells_int:Tryz.prog.cellsOf 3=1:=by kernel_rfl
theorem cells_pt:Tryz.prog.cellsOf 28=2:=by kernel_rfl
section
variable {H:Type} {enc:TypeId×Value->H} {w:World} {base:Nat} {spare:Nat->Bool} {held:Bool}
theorem pt_open {fuel:Nat}{cs:List Value}{x:DataW H×List MemPlace}(h:DataW.trod enc Tryz.prog w base spare held fuel 28 cs=some x):∃a:Int×Int,cs=[.int .i64 a.1,.int .i64 a.2]:=by
  obtain⟨y0,y1,n,_,hl,h0,h1⟩:=trod_struct2 Tryz.underlying28 h;rw[cells_pt]at hl;rw[cells_int]at h0 h1;obtain⟨a,e0,_,_⟩:=DataW.trod_int Tryz.underlying3 h0;obtain⟨b,e1,_,_⟩:=DataW.trod_int Tryz.underlying3 h1;match cs,hl with
  | [u,v],_=>
    simp at e0 e1;exact⟨(a,b),by rw[e0,e1]⟩
end
end Go.Proofs.YtngikkggjidenabGreat
namespace Go.Proofs.YtngikkggjidenabGreat
open Go.ChangeShapes Go.WideShapes Go.ChangeAt Go.RowKit
section
variable {H:Type} {enc:TypeId×Value->H} {P:Program} {w:World} {base:Nat} {spare:Nat->Bool} {held:Bool}
end
end Go.Proofs.YtngikkggjidenabGreat
namespace Go.Proofs.YtngikkggjidenabGreat
open Go.ChangeShapes Go.WideShapes Go.ChangeAt Go.RowKit
def RV.Raw (w:World)(a:RV):Prop:=∃xs ys,DigS w (.slice a.p a.l a.c) xs/\DigS w (.slice a.p2 a.l2 a.c2) ys
theorem RV.Raw.val {w:World}{a:RV}(h:a.Raw w):∃q:Rat,∀L,a.l<=L->a.l2<=L->a.In L w q:=by
  obtain⟨xs,ys,h1,h2⟩:=h;have e1:a.l=xs.length:=by obtain⟨p,c,e,_⟩:=h1;injection e
  have e2:a.l2=ys.length:=by obtain⟨p,c,e,_⟩:=h2;injection e
  refine⟨Rat.divInt (sg a.n (Nm.val xs)) (sg a.m (Nm.val ys)),fun L k1 k2=> ?_⟩;exact⟨_,_,⟨_,⟨xs,h1,rfl,by omega⟩,rfl⟩,⟨_,⟨ys,h2,rfl,by omega⟩,rfl⟩,rfl⟩
section
variable {H:Type} {enc:TypeId×Value->H} {w:World} {base:Nat} {held:Bool}
end
end Go.Proofs.YtngikkggjidenabGreat
namespace Go.Proofs.YtngikkggjidenabGreat
open Go.ChangeShapes Go.WideShapes Go.ChangeAt Go.RowKit
theorem okWide_structQ {P:Program}{w:World}{r:Reach}{base:Nat}{t:TypeId}{fs:Array Field}{v:Value}(ht:P.underlying t=some (.struct fs))(h:Value.okWide P w r base t v):∃cs,v= .agg cs/\cs.size=P.cellsOf t:=by
  simp only[Value.okWide,ht]at h;obtain⟨cs,h1,h2,_⟩:=h;exact⟨cs,h1,h2⟩
instance:Inhabited RV:=⟨⟨false,none,0,0,false,none,0,0⟩⟩
section
variable {H:Type} {enc:TypeId×Value->H} {w:World} {base:Nat} {held:Bool}
end
end Go.Proofs.YtngikkggjidenabGreat
