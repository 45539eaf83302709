import Derived.Laws.BytesArg
import Derived.Test.YtlipfipniibpoacGreatRows
import Derived.ProofKit
import Derived.OpenShut
import Derived.Below
import Derived.Deep.Slices
import Derived.Lib.SmallJoins
import Derived.ChangeSlices
import Derived.Test.YtlipfipniibpoacGreatM8
set_option maxRecDepth 100000
set_option maxHeartbeats 4000000
namespace Go.Proofs.YtlipfipniibpoacGreat
open Go.RowKit
section
attribute [local go_sem ↓] Go.wp_at_zero Go.wp_at_succ Aj Ai
theorem bD (px py:Int)(a b:Int×Int)(w:World)(hp:(-1048576<=px/\px<=1048320)/\ -1048576<=py/\py<=1048320)(oa:Du a)(ob:Du b):
  Calls Tryz.prog 57 #[.agg #[iV px,iV py],.agg #[iV a.1,iV a.2],.agg #[iV b.1,iV b.2]] w fun e w'=>∃r:RV,e= .returned (.agg #[.bool r.n,.slice r.p r.l r.c,.bool r.m,.slice r.p2 r.l2 r.c2])/\r.Is w' (Hs (px,py) a b)/\Aa w w':=by
 have C4:=zH oa;have C3:=zH ob;have ka:=Bi oa;have kb:=Bi ob;clear oa ob;go_enter Tryz.func57,Tryz.ntmps57
 have H0:=zH (Hp.start w);go_upto_region 0 with fail
 refine wl ?_;refine Cm 66 [iV px,iV py] H0.1 ?_;intro X1 w2 H3 _;refine Cm 41 [iV a.1,iV a.2] H3.1 ?_;intro X6 w7 H8 _;refine Cm 41 [iV b.1,iV b.2] H8.1 ?_;intro L8 W2 V1 _;refine Cm 33 rz V1.1 ?_;intro Q8 S8 O5 _;go_upto_region 1 with fail
 refine zy ?_;have V0:=zH (O5.1.step (Aa.refl S8).drew);refine yF O5.1 zb (bs 18 255) 0 1 2 3 4 5 6 7 _ _ _ _ _ _ (iV (min a.2 b.2)) (iV (max py (min a.2 b.2))) ?_;refine qP O5.1 zb (bs 18 32255) 8 10 11 12 13 14 _ _ _ _ _ (iV (max a.2 b.2)) ?_;refine mC 9 (bs 18 32767) (fB px py _ ⟨⟨by omega,by omega⟩,by omega,by omega⟩) ?_;rintro e Q5 ⟨rfl,hx⟩;have D2:=zH (V0.1.step hx);have R0:=zH (zb.trans hx);clear hx;refine zm R0.1 ?_;refine lJ Ac R0.1 (bs 18 262143) 15 16 17 (iV (min (py+256) (max a.2 b.2))) (iV (max py (min a.2 b.2))) (iV (min (py+256) (max a.2 b.2))) ?_;refine wpAnyH_done kR ?_ _;obtain⟨lo,L3⟩:∃lo,max py (min a.2 b.2)=lo:=⟨_,rfl⟩;obtain⟨hi,L4⟩:∃hi,min (py+256) (max a.2 b.2)=hi:=⟨_,rfl⟩;rw[L3,L4];have K0:=zH (show Ye (px,py).2 a b=lo from L3);have K1:=zH (show Yk (px,py).2 a b=hi from L4);have W4: -1048576<=lo/\lo<=1048576/\ -1048576<=hi/\hi<=1048576:=by omega
 have N5:=zH (show min a.2 b.2<=lo/\hi<=max a.2 b.2 by omega);clear L3 L4;rcases Co (hi<=lo)with H1|H1
 ·go_upto_region 2 with fail
  refine wl ?_;refine Bq Ac (iV lo) (iV hi) ?_;refine zp (.bool true) (by exact Jm (e:=(Ae H1.1))) ?_;refine Hf Ac (.bool true) _ _ _ _ _ _ _ ?_;refine zk ?_;refine zq (.bool true) ?_;go_upto_region 3 with fail
  refine wl ?_;refine zc (Cx 0 _ (by omega) (by omega)) ?_;rintro e W1 ⟨c_,rfl,A6,hx⟩;have U9:=zH (D2.1.step hx);obtain⟨C1,rfl,A1⟩:=A6;have T9:=zH A1;clear A1 hx;refine zn ?_;refine Cy 3 (rc C1) U9.1 ?_;intro W0 S2 V4;go_wp2_with fail
  refine bodyPost_ret (v:= .agg #[.bool C1.n,.slice C1.p C1.l C1.c,.bool C1.m,.slice C1.p2 C1.l2 C1.c2]) ?_ rfl ⟨C1,rfl,(show Hs (px,py) a b=(((0):Int):Rat)from(by unfold Hs;rw[K0.1,K1.1];exact if_pos (.inl H1.1)))▸(T9.1.dig V4.1),S2.1.ext⟩;exact An rfl rfl ((S2.1.blk (i:=3) rR).loadVar rfl rfl rR)
 rcases Co (max a.1 b.1<=px)with H2|H2
 ·go_upto_region 2 with fail
  refine wl ?_;refine Bq Ac (iV lo) (iV hi) ?_;refine zp (.bool false) (by exact Jm (e:=(Ah H1.1))) ?_;refine Hf D2.1 (.bool false) _ _ _ _ (iV (max a.1 b.1)) _ _ ?_;refine zp (.bool true) (by exact Ju (e:=(Ae H2.1))) ?_;refine zq (.bool true) ?_;go_upto_region 3 with fail
  refine wl ?_;refine zc (Cx 0 _ (by omega) (by omega)) ?_;rintro e V9 ⟨c_,rfl,A6,hx⟩;have U8:=zH (D2.1.step hx);obtain⟨C0,rfl,A1⟩:=A6;have T8:=zH A1;clear A1 hx;refine zn ?_;refine Cy 3 (rc C0) U8.1 ?_;intro V8 S1 V3;go_wp2_with fail
  refine bodyPost_ret (v:= .agg #[.bool C0.n,.slice C0.p C0.l C0.c,.bool C0.m,.slice C0.p2 C0.l2 C0.c2]) ?_ rfl ⟨C0,rfl,(show Hs (px,py) a b=(((0):Int):Rat)from(by unfold Hs;rw[K0.1,K1.1];exact if_pos (.inr H2.1)))▸(T8.1.dig V3.1),S1.1.ext⟩;exact An rfl rfl ((S1.1.blk (i:=3) rR).loadVar rfl rfl rR)
 go_upto_region 2 with fail
 refine wl ?_;refine qV (iV lo) ?_;refine zq (iV hi) ?_;refine zp (.bool false) (by exact Jm (e:=(Ah H1.1))) ?_;refine Hf D2.1 (.bool false) _ _ _ _ (iV (max a.1 b.1)) _ _ ?_;refine zp (.bool false) (by exact Ju (e:=(Ah H2.1))) ?_;refine zq (.bool false) ?_;rcases Co (px+256<=min a.1 b.1)with H3|H3
 ·go_upto_region 4 with fail
  refine zy ?_;have U7:=zH (D2.1.step (Aa.refl Q5).drew);refine qP D2.1 zb (bs 8 63) 0 1 2 3 4 5 _ _ _ _ (iV (min a.1 b.1)) _ ?_;refine mC 6 (bs 8 127) (Pj px py _ ⟨⟨by omega,by omega⟩,by omega,by omega⟩) ?_;rintro e V7 ⟨rfl,hx⟩;have U6:=zH (U7.1.step hx);have Q9:=zH (zb.trans hx);clear hx;refine zm Q9.1 ?_;refine zu 7 (bs 8 255) (v:= .bool true) Q9.1 ?_ (hv:=by intro w D7;exact Jm (e:=(Ae H3.1)));refine wpAnyH_done kR ?_ _;go_upto_region 5 with fail
  refine wl ?_;refine Bq Ac (iV hi) (iV lo) ?_;refine zp (iV (hi-lo)) (by exact Tx (by have L2:=(show lo<hi from Int.not_le.1 H1.1);omega)) ?_;refine zp (iV (256*(hi-lo))) (by exact eO (by have L2:=(show lo<hi from Int.not_le.1 H1.1);omega)) ?_;refine zc (Cx (256*(hi-lo)) _ (by have L2:=(show lo<hi from Int.not_le.1 H1.1);omega) (by have L2:=(show lo<hi from Int.not_le.1 H1.1);omega)) ?_;rintro e V6 ⟨c_,rfl,A6,hx⟩;have U5:=zH (U6.1.step hx);obtain⟨B9,rfl,A1⟩:=A6;have T7:=zH A1;clear A1 hx;refine zn ?_;refine Cy 3 (rc B9) U5.1 ?_;intro V5 S0 V2;go_wp2_with fail
  refine bodyPost_ret (v:= .agg #[.bool B9.n,.slice B9.p B9.l B9.c,.bool B9.m,.slice B9.p2 B9.l2 B9.c2]) ?_ rfl ⟨B9,rfl,(show Hs (px,py) a b=((256*(hi-lo):Int):Rat)from(by unfold Hs;rw[K0.1,K1.1];exact(if_neg (fun h_=>by have D8:=H1.1;have D1:=H2.1;omega)).trans (if_pos H3.1)))▸(T7.1.dig V2.1),S0.1.ext⟩;exact An rfl rfl ((S0.1.blk (i:=3) rR).loadVar rfl rfl rR)
 go_upto_region 4 with fail
 refine zy ?_;have P2:=zH (D2.1.step (Aa.refl Q5).drew);refine qP D2.1 zb (bs 8 63) 0 1 2 3 4 5 _ _ _ _ (iV (min a.1 b.1)) _ ?_;refine mC 6 (bs 8 127) (Pj px py _ ⟨⟨by omega,by omega⟩,by omega,by omega⟩) ?_;rintro e T2 ⟨rfl,hx⟩;have P1:=zH (P2.1.step hx);have G5:=zH (zb.trans hx);clear hx;refine zm G5.1 ?_;refine zu 7 (bs 8 255) (v:= .bool false) G5.1 ?_ (hv:=by intro w D7;exact Jm (e:=(Ah H3.1)));refine wpAnyH_done kR ?_ _;go_upto_region 6 with fail
 refine wl ?_;refine zc (Cx 0 _ (by omega) (by omega)) ?_;rintro e T1 ⟨c_,rfl,A6,hx⟩;have P0:=zH (P1.1.step hx);obtain⟨D6,rfl,A1⟩:=A6;have N4:=zH A1;clear A1 hx;refine zn ?_;refine Cm 33 rz P0.1 ?_;intro A5 T0 O9 Q1;refine Cy 4 (rc D6) O9.1 ?_;intro S9 H7 Q0;go_upto_region 7 with fail
 refine wl ?_;refine Kf H7.1 _ _ _ (iV lo) (iV hi) ?_;refine zc (tB px py a b lo hi _ hp C4.1 C3.1 ⟨by omega,by omega⟩ ⟨by omega,by omega⟩) ?_;rintro e F7 ⟨Ap,nn,cp,ep,rfl,D8,B3,D1,D0,hx⟩;have R9:=zH D8;have E2:=zH D1;have R8:=zH D0;have HA:=zH (show 0<nn->∃g,Ap=some ⟨g,0,none⟩from by obtain⟨A_,c_,e_,k_⟩:=Be.form B3;injection e_ with e1_ e2_ e3_;subst e1_;exact k_);have H6:=zH (show Hp w F7 [.blk X1 66 [iV px,iV py],.blk X6 41 [iV a.1,iV a.2],.blk L8 41 [iV b.1,iV b.2],.blk Q8 33 rz,.blk A5 33 (rc D6),ro 33 4 Ap nn cp Bp.cells ep]from H7.1.addRow hx B3);have P9:=zH (Af.of_ext hx);clear B3 D8 D1 D0 hx;refine zn ?_;refine Cs Ac _ ?_;go_upto_region 8 with fail
 refine wl ?_;refine zq (iV 0) ?_;have J9:=zH (show nn=ep.length/\nn<=4 from⟨R9.1,by rw[R9.1,<-eZZ (f:=Bp.q),E2.1];exact Yj _ _ _ _ _⟩);have W3:=J9.1.2;have J8:=zH (show∀z,z∈(Iw px a b lo hi)->Nm.rl z<=20 from fun z hz=>oQ hz C4.1 C3.1 ⟨by omega,by omega⟩ ⟨by omega,by omega⟩ hp.1);have R7:=zH (show∀z,z∈(Iw px a b lo hi)->((min a.2 b.2:Int):Rat)<=z/\z<=((max a.2 b.2:Int):Rat)from fun z hz=>by have D8:=tA hz (by have:=H1.1;omega);have D1:((min a.2 b.2:Int):Rat)<=((lo:Int):Rat):=(by exact_mod_cast N5.1.1);have D0:((hi:Int):Rat)<=((max a.2 b.2:Int):Rat):=(by exact_mod_cast N5.1.2);exact⟨Rat.le_trans D1 D8.1,Rat.le_trans D8.2 D0⟩);have R6:=zH (show a.2≠b.2 from fun h_=>by have D1:=N5.1;have D0:=H1.1;omega);have U4:=zH (show∀k,Nm.rl (Ja (Un px a b) ((Iw px a b lo hi).take k))<=486 from fun k=>by have h_:=Ti (F:=(Un px a b)) (C:=120) (l:=(Iw px a b lo hi).take k) (fun x hx y hy=>lO C4.1 C3.1 (J8.1 x (List.mem_of_mem_take hx)) (J8.1 y (List.mem_of_mem_take hy)) ⟨by omega,by omega⟩);have D1:=Yj px a b lo hi;have D0:((Iw px a b lo hi).take k).length<=4:=(by rw[dXX];omega);have W6:=hXX (120+1) D0;omega);have I5:=tD (tD Q1 Q0) P9;go_wp2_with fail
 go_loopg [11] (nn) (fun cq K9 wr=>∃(i:Nat) (A0:RV),cq=nn-i/\K9= iV (i:Int)/\(i<nn)/\(A0.Is wr (Ja (Un px a b) ((Iw px a b lo hi).take (i+1))))/\Hp w wr [.blk X1 66 [iV px,iV py],.blk X6 41 [iV a.1,iV a.2],.blk L8 41 [iV b.1,iV b.2],.blk Q8 33 [.bool false,.slice none 0 0,.bool false,.slice none 0 0],.blk A5 33 [.bool A0.n,.slice A0.p A0.l A0.c,.bool A0.m,.slice A0.p2 A0.l2 A0.c2],.row 33 4 (.slice Ap nn cp) (nn) (List.flatMap Bp.cells ep)]/\Af F7 wr)
 case atStart=>exact⟨0,D6,rfl,rfl,(by rw[J9.1.1,<-eZZ (f:=Bp.q),E2.1];exact sZ _ _ _ _ _),(by have h_:Ja (Un px a b) ((Iw px a b lo hi).take 1)=(((0):Int):Rat):=jP _ _;rw[h_];exact(N4.1.dig I5.1)),H6.1,Af.refl _⟩
 obtain⟨i,A0,rfl,rfl,C8,G0,Q6,Q7⟩:=hrel;generalize wr=B1 at*
 have U3:=zH C8;clear C8;have RZ:=zH G0;clear G0;have B2:=zH Q6;have P8:=zH Q7;clear Q6 Q7 H6;have BZ:=zH (U4.1 (i+1));rcases Co (i+1<nn)with HLT|HLT
 ·have J7:=HLT.1
  have hj:i<nn:=by omega
  obtain⟨gp,rfl⟩:=HA.1 (by omega);have T5:=J9.1.1;obtain⟨xe,C2⟩:∃e,ep[i]?=some e:=⟨_,aQQ (by omega)⟩;obtain⟨ye,J6⟩:∃e,ep[i+1]?=some e:=⟨_,aQQ (by omega)⟩;have HX:=zH C2;have HY:=zH J6;have G7:=zH (R8.1 xe (bZZ C2)).1;have R5:=zH (show xe.q∈(Iw px a b lo hi)from by rw[<-E2.1];exact List.mem_map_of_mem (bZZ C2));have B7:=zH (J8.1 _ R5.1);have R3:=zH (R7.1 _ R5.1);have U1:=zH (Yr (px:=px) (Le C4.1 C3.1 B7.1) ⟨by omega,by omega⟩);have G6:=zH (R8.1 ye (bZZ J6)).1;have R2:=zH (show ye.q∈(Iw px a b lo hi)from by rw[<-E2.1];exact List.mem_map_of_mem (bZZ J6));have B6:=zH (J8.1 _ R2.1);have R1:=zH (R7.1 _ R2.1);have U0:=zH (Yr (px:=px) (Le C4.1 C3.1 B6.1) ⟨by omega,by omega⟩);have U2:=zH (Th (Un px a b) (Iw px a b lo hi) i xe.q ye.q (by rw[<-E2.1,kZZ,HX.1];rfl) (by rw[<-E2.1,kZZ,HY.1];rfl));clear C2 J6 T5;go_upto_region 9 with fail
  refine wl ?_;refine zq (iV (i:Int)) ?_;refine zp (iV ((i+1:Nat):Int)) (by exact Hm (by omega)) ?_;refine Bq Ac _ (iV (nn:Int)) ?_;refine zp (.bool true) (by exact Dv (e:=(Ae (by omega)))) ?_;go_upto_region 11 with fail
  refine zy ?_;have E6:=zH (B2.1.step (Aa.refl B1).drew);have J0:=zH (Af.of_ext (w:=B1) zb);refine zg 0 (bs 13 1) X6 (0) [iV a.1,iV a.2] (B2.1.range (i:=1) rR 0 2) Tryz.underlying41 zb ?_;refine zg 1 (bs 13 3) L8 (0) [iV b.1,iV b.2] (B2.1.range (i:=2) rR 0 2) Tryz.underlying41 zb ?_;refine Ra Ac zb (bs 13 15) 2 3 _ (iV (i:Int)) ?_;refine zo 4 (bs 13 31) (v:= .pointer (some ⟨gp,i*4,none⟩)) zb ?_ (hv:=by intro w D7;exact Jo (k:=i) Tryz.underlying118 (l:=hj) (f:=(dZZ _).symm));refine zg 5 (bs 13 63) gp (i*4) (rc xe.a) (B2.1.elem (f:=Bp.cells) (i:=5) rR Bp.len HX.1) Tryz.underlying33 zb ?_;refine gG 10 (some 12) 33 rz B1 E6.1 ?_;have D4:=tD P8 J0;refine gL 6 (bs 13 1087) (bs 13 127) zb.size E6.1 zb (fun xq A4=>Rc 20 a.1 a.2 b.1 b.2 _ xe.q _ (RV.Is.nin (G7.1.dig (D4.1.trans (Af.of_ext A4))) B7.1) dC dC C4.1 C3.1 R6.1 R3.1.1 R3.1.2) (by rintro x_ e J5 ⟨c_,rfl,A6,hx⟩;exact hx) ?_;rintro xq e K8 A4 ⟨c_,rfl,A6,hx⟩;replace hx:=A4.trans hx;clear A4;have O8:=zH (E6.1.step hx);have I9:=zH (show Af B1.drew K8 from Af.of_ext hx);have B5:=zH (zb.trans hx);obtain⟨F9,rfl,A1⟩:=A6;have N3:=zH A1;have Q4:=zH (Le (L:=20) C4.1 C3.1 B7.1);clear A1 hx;refine⟨_,rfl,?_⟩;try simp only[Act.put,zA,zB,zC]
  refine gK 7 (bs 13 1151) (bs 13 255) _ B5.1 ?_;refine gK 8 (bs 13 1279) (bs 13 511) _ B5.1 ?_;refine gK 9 (bs 13 1535) (bs 13 1023) (.bool true) B5.1 ?_;refine gE (bs 13 2047) B5.1.size O8.1 B5.1 ?_;intro L7 K7 hx hh hs C9;have O7:=hN hh;have F6:=zH (Af.of_ext hx);have M5:=zH (show Aa B1 K7 from hs);have P5:=zH (show B1.heap.size<=L7 from C9);clear hh hx C9 hs;try simp only[Act.put,zA,zB,zC]
  refine bS 6 11 (bs 13 4095) (rc F9) O7.1 M5.1 P5.1 ?_;intro B0 E5 F5 M4;refine zx 12 (bs 13 8191) (.bool true) M4.1 ?_;refine wpAnyH_done kR ?_ _;go_upto_region 12 with fail
  refine zy ?_;have E4:=zH (E5.1.step (Aa.refl B0).drew);have F4:=zH (Af.of_ext (w:=B0) zb);refine xC E5.1 zb (bs 14 15) 0 1 2 3 _ _ _ (iV (i:Int)) ?_;refine zu 4 (bs 14 31) (v:= iV ((i+1:Nat):Int)) zb ?_ (hv:=by intro w D7;exact Hm (by omega));refine zo 5 (bs 14 63) (v:= .pointer (some ⟨gp,(i+1)*4,none⟩)) zb ?_ (hv:=by intro w D7;exact Jo (k:=i+1) Tryz.underlying118 (l:=J7) (f:=(dZZ _).symm));refine zg 6 (bs 14 127) gp ((i+1)*4) (rc ye.a) (E5.1.elem (f:=Bp.cells) (i:=5) rR Bp.len HY.1) Tryz.underlying33 zb ?_;refine gG 11 (some 14) 33 rz B0 E4.1 ?_;have D3:=tD (tD (tD (tD D4 I9) F6) F5) F4;refine gL 7 (bs 14 2175) (bs 14 255) zb.size E4.1 zb (fun xq A4=>Rc 20 a.1 a.2 b.1 b.2 _ ye.q _ (RV.Is.nin (G6.1.dig (D3.1.trans (Af.of_ext A4))) B6.1) dC dC C4.1 C3.1 R6.1 R1.1.1 R1.1.2) (by rintro x_ e J5 ⟨c_,rfl,A6,hx⟩;exact hx) ?_;rintro xq e K6 A4 ⟨c_,rfl,A6,hx⟩;replace hx:=A4.trans hx;clear A4;have O6:=zH (E4.1.step hx);have F3:=zH (show Af B0.drew K6 from Af.of_ext hx);have B4:=zH (zb.trans hx);obtain⟨F8,rfl,A1⟩:=A6;have N2:=zH A1;have Q3:=zH (Le (L:=20) C4.1 C3.1 B6.1);clear A1 hx;refine⟨_,rfl,?_⟩;try simp only[Act.put,zA,zB,zC]
  refine gK 8 (bs 14 2303) (bs 14 511) _ B4.1 ?_;refine gK 9 (bs 14 2559) (bs 14 1023) _ B4.1 ?_;refine gK 10 (bs 14 3071) (bs 14 2047) (.bool true) B4.1 ?_;refine gE (bs 14 4095) B4.1.size O6.1 B4.1 ?_;intro L6 K5 hx hh hs C9;have O4:=hN hh;have C7:=zH (Af.of_ext hx);have M3:=zH (show Aa B0 K5 from hs);have P4:=zH (show B0.heap.size<=L6 from C9);clear hh hx C9 hs;try simp only[Act.put,zA,zB,zC]
  refine bS 7 12 (bs 14 8191) (rc F8) O4.1 M3.1 P4.1 ?_;intro A9 H5 C6 M2;refine zx 13 (bs 14 16383) (.bool true) M2.1 ?_;refine wpAnyH_done kR ?_ _;go_upto_region 13 with fail
  refine zy ?_;have E3:=zH (H5.1.step (Aa.refl A9).drew);have C5:=zH (Af.of_ext (w:=A9) zb);refine xC H5.1 zb (bs 9 27) 0 1 3 4 _ _ _ _ ?_;refine gG 7 (some 16) 33 rz A9 E3.1 ?_;have I4:=tD (tD (tD (tD (tD (tD F6 F5) F4) F3) C7) C6) C5;refine gL 2 (bs 9 155) (bs 9 31) zb.size E3.1 zb (fun xq A4=>fI px py F9 (Fi a.1 a.2 b.1 b.2 xe.q) _ ⟨by omega,by omega⟩ (N3.1.dig (I4.1.trans (Af.of_ext A4))) (Ar Q4.1 dC)) (by rintro x_ e J5 ⟨L1,rfl,A1,hx⟩;exact hx) ?_;rintro xq e K4 A4 ⟨L1,rfl,A1,hx⟩;replace hx:=A4.trans hx;clear A4;have H4:=zH (E3.1.step hx);have F2:=zH (show Af A9.drew K4 from Af.of_ext hx);have E1:=zH (zb.trans hx);have N1:=zH A1;have J4:=zH (show Nm.rl (Ix px (Fi a.1 a.2 b.1 b.2 xe.q))<=31 from U1.1);clear A1 hx;refine⟨_,rfl,?_⟩;try simp only[Act.put,zA,zB,zC]
  have I3:=tD (tD (tD C7 C6) C5) F2;refine gL 5 (bs 9 159) (bs 9 63) E1.1.size H4.1 E1.1 (fun xq A4=>fI px py F8 (Fi a.1 a.2 b.1 b.2 ye.q) _ ⟨by omega,by omega⟩ (N2.1.dig (I3.1.trans (Af.of_ext A4))) (Ar Q3.1 dC)) (by rintro x_ e J5 ⟨L0,rfl,A1,hx⟩;exact hx) ?_;rintro xq e S7 A4 ⟨L0,rfl,A1,hx⟩;replace hx:=A4.trans hx;clear A4;have G9:=zH (H4.1.step hx);have F1:=zH (Af.of_ext hx);have E0:=zH (E1.1.trans hx);have N0:=zH A1;have J3:=zH (show Nm.rl (Ix px (Fi a.1 a.2 b.1 b.2 ye.q))<=31 from U0.1);clear A1 hx;refine⟨_,rfl,?_⟩;try simp only[Act.put,zA,zB,zC]
  refine gL 6 (bs 9 191) (bs 9 127) E0.1.size G9.1 E0.1 (fun xq A4=>xH (L:=60000) (RV.Is.nin (N1.1.dig (F1.1.trans (Af.of_ext A4))) (Ar J4.1 (by omega))) (RV.Is.nin (N0.1.dig (Af.of_ext A4)) (Ar J3.1 (by omega))) (by omega)) (by rintro x_ e J5 ⟨c_,rfl,A6,hx⟩;exact hx) ?_;rintro xq e S6 A4 ⟨c_,rfl,A6,hx⟩;replace hx:=A4.trans hx;clear A4;have O3:=zH (G9.1.step hx);have I8:=zH (Af.of_ext hx);have G4:=zH (E0.1.trans hx);obtain⟨A3,rfl,A1⟩:=A6;have M9:=zH A1;clear A1;have J2:=zH (show Nm.rl (((Ix px (Fi a.1 a.2 b.1 b.2 xe.q))+(Ix px (Fi a.1 a.2 b.1 b.2 ye.q)))/2)<=2*60+3 from mZ (Ar J4.1 (by decide)) (Ar J3.1 (by decide)));clear hx;refine⟨_,rfl,?_⟩;try simp only[Act.put,zA,zB,zC]
  refine gE (bs 9 255) G4.1.size O3.1 G4.1 ?_;intro D9 K3 hx hh hs C9;have O2:=hN hh;have F0:=zH (Af.of_ext hx);have M1:=zH (show Aa A9 K3 from hs);have P3:=zH (show A9.heap.size<=D9 from C9);clear hh hx C9 hs;try simp only[Act.put,zA,zB,zC]
  refine bS 8 8 (bs 9 511) (rc A3) O2.1 M1.1 P3.1 ?_;intro A2 A7 E9 T6;refine wpAnyH_done kR ?_ _;go_upto_region 14 with fail
  refine wp_region_held_drew (S:=fun x=>Fr (fun kz=>kz=A5) A2 x) kR (Fr.of_ext zb) (fun _=> ?_);have O1:=zH (A7.1.step (Aa.refl A2).drew);have E8:=zH (Af.of_ext (w:=A2) zb);refine zr 1 (bs 15 2) D9 (0) [.bool A3.n,.slice A3.p A3.l A3.c,.bool A3.m,.slice A3.p2 A3.l2 A3.c2] (fun x hx=>Fr.range hx (show World.rangeAt A2 D9 (0) [.bool A3.n,.slice A3.p A3.l A3.c,.bool A3.m,.slice A3.p2 A3.l2 A3.c2]from(A7.1.range (i:=8) rR 0 4)) (A7.1.offBlk (i:=8) (j:=4) rR rR dC rR)) Tryz.underlying33 (Fr.of_ext zb) ?_;refine zx 2 (bs 15 6) (.slice (some ⟨gp,0,none⟩) nn cp) (Fr.of_ext zb) ?_;refine zx 3 (bs 15 14) (iV (i:Int)) (Fr.of_ext zb) ?_;refine zu 4 (bs 15 30) (v:= iV ((i+1:Nat):Int)) (Fr.of_ext zb) ?_ (hv:=by intro w D7;exact Hm (by omega));refine zo 5 (bs 15 62) (v:= .pointer (some ⟨gp,(i+1)*4,none⟩)) (Fr.of_ext zb) ?_ (hv:=by intro w D7;exact Jo (k:=i+1) Tryz.underlying118 (l:=J7) (f:=(dZZ _).symm));refine zr 6 (bs 15 126) gp ((i+1)*4) [.bool ye.a.n,.slice ye.a.p ye.a.l ye.a.c,.bool ye.a.m,.slice ye.a.p2 ye.a.l2 ye.a.c2] (fun x hx=>Fr.range hx (show World.rangeAt A2 gp ((i+1)*4) [.bool ye.a.n,.slice ye.a.p ye.a.l ye.a.c,.bool ye.a.m,.slice ye.a.p2 ye.a.l2 ye.a.c2]from(A7.1.elem (f:=Bp.cells) (i:=5) rR Bp.len HY.1)) (A7.1.offBlk (i:=5) (j:=4) rR rR dC rR)) Tryz.underlying33 (Fr.of_ext zb) ?_;refine zx 7 (bs 15 254) (.slice (some ⟨gp,0,none⟩) nn cp) (Fr.of_ext zb) ?_;refine zx 8 (bs 15 510) (iV (i:Int)) (Fr.of_ext zb) ?_;refine zo 9 (bs 15 1022) (v:= .pointer (some ⟨gp,i*4,none⟩)) (Fr.of_ext zb) ?_ (hv:=by intro w D7;exact Jo (k:=i) Tryz.underlying118 (l:=hj) (f:=(dZZ _).symm));refine zr 10 (bs 15 2046) gp (i*4) [.bool xe.a.n,.slice xe.a.p xe.a.l xe.a.c,.bool xe.a.m,.slice xe.a.p2 xe.a.l2 xe.a.c2] (fun x hx=>Fr.range hx (show World.rangeAt A2 gp (i*4) [.bool xe.a.n,.slice xe.a.p xe.a.l xe.a.c,.bool xe.a.m,.slice xe.a.p2 xe.a.l2 xe.a.c2]from(A7.1.elem (f:=Bp.cells) (i:=5) rR Bp.len HX.1)) (A7.1.offBlk (i:=5) (j:=4) rR rR dC rR)) Tryz.underlying33 (Fr.of_ext zb) ?_;refine Fd.go (j:=0) (dj:=some 102) (u:= .agg #[.bool A0.n,.slice A0.p A0.l A0.c,.bool A0.m,.slice A0.p2 A0.l2 A0.c2]) ?_;have B8:=tD (tD (tD (tD (tD (tD (tD (tD (tD (tD D3 F3) C7) C6) C5) F2) F1) I8) F0) E9) E8;refine Hl (b:=A2) (i:=11) (lj:=(bs 15 2047)) (li:=(bs 15 4094)) rR rR kR kR kR kR kR dC kR rR rR (fun x_ h_=>Fr.of_ext h_) (Aa.refl A2).drew (fun x_ h_=>Je _ _ rR A5 (0) [.bool A0.n,.slice A0.p A0.l A0.c,.bool A0.m,.slice A0.p2 A0.l2 A0.c2] rR (Bu (show World.rangeAt A2 A5 (0) [.bool A0.n,.slice A0.p A0.l A0.c,.bool A0.m,.slice A0.p2 A0.l2 A0.c2]from A7.1.range (i:=4) rR 0 4) h_) Tryz.underlying33 rR kR) rR (by go_simp) kR (aP (L:=60000) (RV.Is.nin (G6.1.dig B8.1) (Ar B6.1 (by omega))) (RV.Is.nin (G7.1.dig B8.1) (Ar B7.1 (by omega))) (by omega)) ?_;rintro e D5 ⟨c_,rfl,A6,hx⟩;have O0:=zH (O1.1.step hx);have E7:=zH (show Af A2.drew D5 from Af.of_ext hx);have G1:=zH (show Aa A2 D5 from(Aa.refl A2).drew.trans hx);have M0:=zH (show Fr (fun kz=>kz=A5) A2 D5 from(Fr.of_ext zb).trans (Fr.of_ext hx));obtain⟨T4,rfl,A1⟩:=A6;have M8:=zH A1;clear A1;have J1:=zH (show Nm.rl (ye.q-xe.q)<=20+20+1 from by have h1:=B6.1;have h2:=B7.1;have h3:=Nm.rl_sub ye.q xe.q;omega);have C2:=hx;clear hx;refine⟨_,rfl,C2,?_⟩;try simp only[Act.put,zA,zB,zC]
  clear C2;have I1:=tD (tD (tD F0 E9) E8) E7;refine Hl (b:=A2) (i:=12) (lj:=(bs 15 4095)) (li:=(bs 15 8190)) rR rR kR kR kR kR kR dC kR rR rR (fun x_ h_=>Fr.of_ext h_) G1.1 (fun x_ h_=>Je _ _ rR A5 (0) [.bool A0.n,.slice A0.p A0.l A0.c,.bool A0.m,.slice A0.p2 A0.l2 A0.c2] rR (Bu (show World.rangeAt A2 A5 (0) [.bool A0.n,.slice A0.p A0.l A0.c,.bool A0.m,.slice A0.p2 A0.l2 A0.c2]from A7.1.range (i:=4) rR 0 4) h_) Tryz.underlying33 rR kR) rR (by go_simp) kR (Xs (L:=60000) (RV.Is.nin (M9.1.dig I1.1) (Ar J2.1 (by omega))) (RV.Is.nin M8.1 (Ar J1.1 (by omega))) (by omega)) ?_;rintro e K2 ⟨c_,rfl,A6,hx⟩;have N9:=zH (O0.1.step hx);have I7:=zH (Af.of_ext hx);have L5:=zH (show Aa A2 K2 from G1.1.trans hx);have G3:=zH (M0.1.trans (Fr.of_ext hx));obtain⟨T3,rfl,A1⟩:=A6;have M7:=zH A1;clear A1;have Q2:=zH (show Nm.rl ((((Ix px (Fi a.1 a.2 b.1 b.2 xe.q))+(Ix px (Fi a.1 a.2 b.1 b.2 ye.q)))/2)*(ye.q-xe.q))<=123+(20+20+1)from by have h1:=J2.1;have h2:=J1.1;have h3:=Nm.rl_mul (((Ix px (Fi a.1 a.2 b.1 b.2 xe.q))+(Ix px (Fi a.1 a.2 b.1 b.2 ye.q)))/2) (ye.q-xe.q);omega);have C2:=hx;clear hx;refine⟨_,rfl,C2,?_⟩;try simp only[Act.put,zA,zB,zC]
  clear C2;refine My rR kR rR rR G3.1 (Je _ _ rR A5 (0) [.bool A0.n,.slice A0.p A0.l A0.c,.bool A0.m,.slice A0.p2 A0.l2 A0.c2] rR (Bu (show World.rangeAt A2 A5 (0) [.bool A0.n,.slice A0.p A0.l A0.c,.bool A0.m,.slice A0.p2 A0.l2 A0.c2]from A7.1.range (i:=4) rR 0 4) L5.1) Tryz.underlying33 rR kR) (show _=(bs 15 8191)by kernel_rfl) ?_;try simp only[Act.put,zA,zB,zC]
  have I0:=tD (tD (tD (tD (tD (tD (tD (tD (tD (tD (tD (tD (tD (tD (tD (tD J0 I9) F6) F5) F4) F3) C7) C6) C5) F2) F1) I8) F0) E9) E8) E7) I7;refine mC 13 (bs 15 16383) (jL (L:=60000) (RV.Is.nin (RZ.1.dig I0.1) (Ar BZ.1 (by omega))) (RV.Is.nin M7.1 (Ar Q2.1 (by omega))) (by omega)) ?_;rintro e S5 ⟨c_,rfl,A6,hx⟩;have N8:=zH (N9.1.step hx);have P7:=zH (Af.of_ext hx);have G2:=zH (G3.1.trans (Fr.of_ext hx));obtain⟨A8,rfl,A1⟩:=A6;have M6:=zH A1;clear A1 hx;refine zm G2.1 ?_;refine Ea (i:=14) (listed':=(bs 15 32767)) rR kR rR kR _ _ _ rR N8.1 (ix:=4) rR 0 [.bool A8.n,.slice A8.p A8.l A8.c,.bool A8.m,.slice A8.p2 A8.l2 A8.c2] rR rR (by simp) kR (by simp[Value.oneCell']) (by simp[At]) ?_;intro S4 hh hd ho;have N7:=hN hh;have I6:=zH (hd);have L9:=zH (Fr.trans_new G2.1 ho (fun j hj=> .inl (by simpa using hj.symm)));clear hh hd ho;refine⟨L9.1,?_⟩
  (try simp only[Act.put])
  refine wpAnyH_done kR ?_ _;go_upto_region 10 with fail
  refine wl ?_;refine zq (iV (i:Int)) ?_;refine zp (iV ((i+1:Nat):Int)) (by exact Hm (by omega)) ?_;refine zq (iV ((i+1:Nat):Int)) ?_;have H9:=tD (tD (tD (tD B8 E7) I7) P7) I6;go_wp2_with fail
  go_roundg (nn-(i+1))
  case measure=>exact(by omega)
  case rel=>exact⟨i+1,A8,rfl,(by go_num),J7,(by rw[U2.1];exact(M6.1.dig I6.1)),N7.1.take 6,H9.1⟩
 have J7:=HLT.1;have W5:=U3.1;go_upto_region 9 with fail
 refine wl ?_;refine zq (iV (i:Int)) ?_;refine zp (iV ((i+1:Nat):Int)) (by exact Hm (by omega)) ?_;refine Bq Ac _ (iV (nn:Int)) ?_;refine zp (.bool false) (by exact Dv (e:=(Ah (by omega)))) ?_;go_upto_region 15 with fail
 refine wl ?_;refine zd A5 (0) (rc A0) (B2.1.range (i:=4) rR 0 4) Tryz.underlying33 ?_;refine Cy 3 (rc A0) B2.1 ?_;intro S3 G8 P6;have N6:=zH (show(Iw px a b lo hi).take (i+1)=(Iw px a b lo hi)from cQQ (by rw[<-E2.1,eZZ,<-J9.1.1];omega));go_wp2_with fail
 refine bodyPost_ret (v:= .agg #[.bool A0.n,.slice A0.p A0.l A0.c,.bool A0.m,.slice A0.p2 A0.l2 A0.c2]) ?_ rfl ⟨A0,rfl,(show Hs (px,py) a b=Ja (Un px a b) ((Iw px a b lo hi).take (i+1))from by rw[N6.1];unfold Hs;rw[K0.1,K1.1];exact(if_neg (fun h_=>by have D8:=H1.1;have D1:=H2.1;omega)).trans (if_neg (fun h_=>by have D0:=H3.1;omega)))▸(RZ.1.dig P6.1),G8.1.ext⟩;exact An rfl rfl ((G8.1.blk (i:=3) rR).loadVar rfl rfl rR)
end
section
open Go.RowKit Go.Shelf
attribute [local go_sem] Oper.semAt_some
attribute [local go_sem ↓] Go.wp_at_zero Go.wp_at_succ Aj Ai
def zW (px py:Int)(Xp Xr Bs:Nat)(w W1:World)(pre:List Uj)(W:World):Prop:=
  ∃r:RV,Hp w W [.blk Xp 66 [iV px,iV py],.blk Xr 33 [.bool false,.slice none 0 0,.bool false,.slice none 0 0],.blk Bs 33 [.bool r.n,.slice r.p r.l r.c,.bool r.m,.slice r.p2 r.l2 r.c2]]/\Af W1 W/\r.Is W (Mp (px,py) (pre.map Subtype.val))/\W1.heap.size<=W.heap.size
theorem rF (px py:Int)(Xp Xr Bs:Nat)(w W1:World)(hw:w.heap.size<=W1.heap.size):OwnFrom W1.heap.size (zW px py Xp Xr Bs w W1):=by
  rintro s W W' row ⟨r,h1,h2,h3,h4⟩ hg hr;have d:Af W W':=Af.kept hg (fun k hk=>(hr k hk).2);exact⟨r,h1.kept hg (fun k hk=>⟨Ar hw (hr k hk).1,(hr k hk).2⟩),h2.trans d,h3.dig d,Ar h4 hg.size⟩
def zJ (Xp Xr Bs:Nat)(W1:World)(x:Uj)(a':Act)(W:World):Prop:=
  ∃(J:Nat->Value) (Xa Xb:Nat),Ad W Xa 41 ([iV x.1.1.1,iV x.1.1.2]:List Value).toArray/\Ad W Xb 41 ([iV x.1.2.1,iV x.1.2.2]:List Value).toArray/\Xa≠Xb/\W1.heap.size<=Xa/\W1.heap.size<=Xb/\a'={tmps:=#[J 0,J 1,.pointer (some ⟨Xp,0,none⟩),J 3,.pointer (some ⟨Xr,0,none⟩),.pointer (some ⟨Bs,0,none⟩),.pointer (some ⟨Xa,0,none⟩),.pointer (some ⟨Xb,0,none⟩),J 8,J 9,J 10,J 11,J 12,J 13,J 14,J 15,J 16,J 17,J 18,J 19,J 20,J 21,J 22,J 23,J 24,J 25,J 26,J 27,J 28,J 29,J 30,J 31,J 32,J 33,J 34,J 35,J 36,J 37,J 38,J 39,J 40,J 41,J 42,J 43,J 44,J 45],defers:=[]}
theorem rG (Xp Xr Bs:Nat)(W1:World)(x:Uj)(a':Act):OwnFrom W1.heap.size (fun(_:Unit) W=>zJ Xp Xr Bs W1 x a' W):=by
  rintro _ W W' row ⟨J,Xa,Xb,h1,h2,h3⟩ hg hr;exact⟨J,Xa,Xb,h1.kept hg (fun k hk=>(hr k hk).2),h2.kept hg (fun k hk=>(hr k hk).2),h3⟩
theorem vD {Xp Xr Bs Xa Xb:Nat}{W1 W:World}{x:Uj}{a':Act}(h1:Ad W Xa 41 ([iV x.1.1.1,iV x.1.1.2]:List Value).toArray)(h2:Ad W Xb 41 ([iV x.1.2.1,iV x.1.2.2]:List Value).toArray)(h3:Xa≠Xb)(h4:W1.heap.size<=Xa)(h5:W1.heap.size<=Xb)
    (h6:a'={tmps:=#[a'.tmps.getD 0 undef,a'.tmps.getD 1 undef,.pointer (some ⟨Xp,0,none⟩),a'.tmps.getD 3 undef,.pointer (some ⟨Xr,0,none⟩),.pointer (some ⟨Bs,0,none⟩),.pointer (some ⟨Xa,0,none⟩),.pointer (some ⟨Xb,0,none⟩),a'.tmps.getD 8 undef,a'.tmps.getD 9 undef,a'.tmps.getD 10 undef,a'.tmps.getD 11 undef,a'.tmps.getD 12 undef,a'.tmps.getD 13 undef,a'.tmps.getD 14 undef,a'.tmps.getD 15 undef,a'.tmps.getD 16 undef,a'.tmps.getD 17 undef,a'.tmps.getD 18 undef,a'.tmps.getD 19 undef,a'.tmps.getD 20 undef,a'.tmps.getD 21 undef,a'.tmps.getD 22 undef,a'.tmps.getD 23 undef,a'.tmps.getD 24 undef,a'.tmps.getD 25 undef,a'.tmps.getD 26 undef,a'.tmps.getD 27 undef,a'.tmps.getD 28 undef,a'.tmps.getD 29 undef,a'.tmps.getD 30 undef,a'.tmps.getD 31 undef,a'.tmps.getD 32 undef,a'.tmps.getD 33 undef,a'.tmps.getD 34 undef,a'.tmps.getD 35 undef,a'.tmps.getD 36 undef,a'.tmps.getD 37 undef,a'.tmps.getD 38 undef,a'.tmps.getD 39 undef,a'.tmps.getD 40 undef,a'.tmps.getD 41 undef,a'.tmps.getD 42 undef,a'.tmps.getD 43 undef,a'.tmps.getD 44 undef,a'.tmps.getD 45 undef],defers:=[]}):zJ Xp Xr Bs W1 x a' W:=⟨fun q=>a'.tmps.getD q undef,Xa,Xb,h1,h2,h3,h4,h5,h6⟩
theorem Pe (p:Int×Int)(l:List Dw)(e:Dw):Mp p (l++[e])=Sg p (Mp p l) e:=by unfold Mp;rw[List.foldl_append];rfl
theorem mD {p:Int×Int}(hp:(-1048576<=p.1/\p.1<=1048320)/\ -1048576<=p.2/\p.2<=1048320){l:List Uj}(h:l.length<=16):Nm.rl (Mp p (l.map Subtype.val))<=8018:=by
  have h1:=lR hp (l:=l.map Subtype.val) (s:=((0:Int):Rat)) (fun e he=>by obtain⟨x,_,rfl⟩:=List.mem_map.1 he;exact x.2);have h2:=Bk 0 (by omega) (by omega);rw[eZZ]at h1;have h3:=hXX 501 h;unfold Mp;omega
theorem Zl (px py:Int)(u:Value)(rs:List Av)(w:World)(hu:Cu w u rs)(hn:rs.length<=1048576)(hr:∀r,r∈rs->r.length<=1048576)(hok:Ge rs=true)(htot:Gm rs<=16)(hp:(-1048576<=px/\px<=1048320)/\ -1048576<=py/\py<=1048320):
  Calls Tryz.prog 26 #[.agg #[iV px,iV py],u] w fun e w'=>∃r:RV,e= .returned (.agg #[.bool r.n,.slice r.p r.l r.c,.bool r.m,.slice r.p2 r.l2 r.c2])/\r.Is w' (Sf rs (px,py))/\Nm.rl (Sf rs (px,py))<=8030/\Aa w w':=by
 have HU:=zH hu;have HN:=zH hn;have HR:=zH hr;have HV:=zH hok;have N1:=zH htot;clear hu hr hok;refine(callsIn_wide (n:=4)).1 ?_;refine callsIn_of_wp_marks Tryz.func26 rfl trivial ?_ rfl;simp only[Tryz.ntmps26,List.size_toArray,hQQ,List.length_nil,Nat.reduceAdd,Nat.reduceSub,Array.replicate_succ,Array.replicate_zero,List.push_toArray,List.append_toArray,fQQ,iZZ];refine wpIn_wide.2 ?_;refine Go.Code.wp_mono Ka.m ?_;have H0:=zH (Hp.start w);go_upto_region 0 with fail
 refine wl ?_;refine Cm 66 [iV px,iV py] H0.1 ?_;intro X1 w2 H3 _;refine Cm 33 rz H3.1 ?_;intro X6 w7 H8 _;go_upto_region 1 with fail
 refine wl ?_;refine zc (Cx 0 _ (by omega) (by omega)) ?_;rintro e Q3 ⟨c_,rfl,A3,hx⟩;have O8:=zH (H8.1.step hx);obtain⟨H9,rfl,A2⟩:=A3;have M3:=zH A2;clear A2 hx;refine zn ?_;refine Cm 33 rz O8.1 ?_;intro A0 Q2 O7 P2;refine Cy 2 (rc H9) O7.1 ?_;intro Q1 F8 P1;go_upto_region 2 with fail
 refine wl ?_;refine qV (u) ?_;refine zc (Qa u rs _ (HU.1.ext F8.1.ext) HN.1 HR.1) ?_;rintro e A5 ⟨Bx,ve,rfl,I6,L5,B2,hR,hx⟩;have N7:=zH I6;have N6:=zH L5;have N5:=zH B2;rw[if_pos HV.1]at hR;have N2:=zH hR;clear I6 B2 hR;have J5:=zH (F8.1.step hx);have P0:=zH (Af.of_ext hx);clear hx;refine zn ?_;have Q6:=F8.1.lt (i:=2) (k:=A0) (by rfl) rfl;have N3:=zH (show Fq (fun k=>¬(fun k=>k=A0\/A5.heap.size<=k) k) A5 ve rs from N2.1.imp (fun k h hk=>by rcases hk with rfl|hk;omega;omega));have D4:=zH (show w.heap.size<=A5.heap.size from J5.1.ext.size);have L2:¬(fun k=>k=A0\/A5.heap.size<=k) Bx:=fun hk=>by have h1:=N7.1;have h9:=N6.1;rcases hk with hk|hk;omega;omega
 have J4:=zH (show(Cd rs).length<=16 from Ar (Ev rs) N1.1);go_wp2_with fail
 have G6:=tD (tD P2 P1) P0;refine wpIn_wide.1 (Na (n:=4) (by omega) (fun k=>k=A0\/A5.heap.size<=k) Bx ve rs rR N5.1 L2 N3.1 HN.1 HV.1 J4.1 (fun k h=> .inr h) (zW px py X1 X6 A0 w A5) (rF px py X1 X6 A0 w A5 D4.1) ⟨H9,J5.1,Af.refl _,(M3.1.dig G6.1),Cj _⟩ (zJ X1 X6 A0 A5) (rG X1 X6 A0 A5) ?assign ?body ?done);case assign=>
  intro l pre x W K hi hK;obtain⟨r,hh,hd,B0,B5⟩:=hi;have B8:=zH B5;have H0:=zH hh;have HK:=zH hK;have B9:=zH B0;have HD:=zH hd;clear B5 hh hK B0 hd;unfold Ib;simp only[zA,zB,zC];refine wpIn_seq ?_;refine Ab kR (fun⟨_,_,h⟩=>h) ?_;refine aA 41 [iV 0,iV 0] H0.1 ?_;intro I7 K6 O6 hx B1;have J2:=zH (show W.heap.size<=I7 from Ar (Fr.of_ext (G:=fun kz=>False) (Aa.refl W)).size B1);have K4:=zH (Af.of_ext hx);have N0:=zH (show Fr (fun kz=>False) W K6 from(Fr.of_ext (G:=fun kz=>False) (Aa.refl W)).trans (Fr.of_ext hx));clear hx B1;refine aS 3 [iV x.1.1.1,iV x.1.1.2] O6.1 ?_;intro Q0 O5 hd ho;have K3:=zH (hd);have J3:=zH (N0.1.trans_new ho (fun j hj=> .inr (by injection hj with hj;rw[<-hj];exact J2.1)));clear hd ho;refine Ab kR (fun⟨_,_,h⟩=>h) ?_;refine aA 41 [iV 0,iV 0] O5.1 ?_;intro Q8 P9 O4 hx B1;have J1:=zH (Ar J3.1.size B1);have K2:=zH (Af.of_ext hx);have M9:=zH (J3.1.trans (Fr.of_ext hx));clear hx B1;refine aS 4 [iV x.1.2.1,iV x.1.2.2] O4.1 ?_;intro P8 D5 hd ho;have K1:=zH (hd);have E8:=zH (M9.1.trans_new ho (fun j hj=> .inr (by injection hj with hj;rw[<-hj];exact J1.1)));clear hd ho;refine HK.1 _ _ (KeepsFrom.of_fr E8.1 (fun _ h=>h.elim)) (E8.1.imp (fun _ h=>h.elim)) ⟨r,D5.1.take 3,HD.1.trans (((K4.1.trans K3.1).trans K2.1).trans K1.1),B9.1.dig (((K4.1.trans K3.1).trans K2.1).trans K1.1),Ar B8.1 E8.1.size⟩ (vD (D5.1.blk (i:=3) rR) (D5.1.blk (i:=4) rR) ?_ (Ar B8.1 J2.1) (Ar B8.1 J1.1) rR);exact fun e=>D5.1.apart 3 4 _ _ (by rfl) (by rfl) (by decide) I7 (by rfl) (by rw[e];rfl)
 case body=>
  intro l pre ed a' W hi L4 L1;obtain⟨r,hh,hd,B0,B5⟩:=hi;obtain⟨J,Xa,Xb,I5,I4,I1,I3,C2,rfl⟩:=L4;have B8:=zH B5;have HD:=zH hd;have B9:=zH B0;have B3:=zH ed.2;have C7:=zH (mD (p:=(px,py)) hp (l:=pre) (by omega));have H0:=zH (show Hp w W [.blk X1 66 [iV px,iV py],.blk X6 33 rz,.blk A0 33 (rc r),.blk Xa 41 [iV ed.1.1.1,iV ed.1.1.2],.blk Xb 41 [iV ed.1.2.1,iV ed.1.2.2]]from hh.addTyp2 I5 I4 I1 (Ar D4.1 I3) (Ar D4.1 C2) (by simp[At]) (by simp[At]) (by simp[Dc.typ]));have B4:=zH (show Fr (fun kz=>kz=A0) W W from Fr.of_ext (Aa.refl W));clear hh hd B0 B5 I5 I4 I1 I3 C2;rcases Co (ed.1.1.2<ed.1.2.2)with H1|H1
  ·gi_upto_region 5 with fail
   refine Ab kR (fun⟨_,_,h⟩=>h) ?_;refine Ej H0.1 _ _ _ _ ?_;refine zp (.bool true) (by exact Dv (e:=(Ae H1.1))) ?_;refine zq (.bool true) ?_;refine wpList_nil ?_;gi_upto_region 6 with fail
   refine Dx (S:=fun x=>Fr (fun kz=>kz=A0) W x) kR kR (fun⟨_,_,h⟩=>h) (Fr.of_ext zb) (fun _=> ?_);have O3:=zH (H0.1.step (Aa.refl W).drew);have K0:=zH (Af.of_ext (w:=W) zb);have M8:=zH (B4.1.trans (Fr.of_ext (Aa.refl W).drew));refine mR 1 (bs 7 2) X1 (0) [iV px,iV py] (fun x hx=>Fr.range hx (show World.rangeAt W X1 (0) [iV px,iV py]from(H0.1.range (i:=0) rR 0 2)) (H0.1.offBlk (i:=0) (j:=2) rR rR dC rR)) Tryz.underlying66 (Fr.of_ext zb) ?_;refine mR 2 (bs 7 6) Xa (0) [iV ed.1.1.1,iV ed.1.1.2] (fun x hx=>Fr.range hx (show World.rangeAt W Xa (0) [iV ed.1.1.1,iV ed.1.1.2]from(H0.1.range (i:=3) rR 0 2)) (H0.1.offBlk (i:=3) (j:=2) rR rR dC rR)) Tryz.underlying41 (Fr.of_ext zb) ?_;refine zr 3 (bs 7 14) Xb (0) [iV ed.1.2.1,iV ed.1.2.2] (fun x hx=>Fr.range hx (show World.rangeAt W Xb (0) [iV ed.1.2.1,iV ed.1.2.2]from(H0.1.range (i:=4) rR 0 2)) (H0.1.offBlk (i:=4) (j:=2) rR rR dC rR)) Tryz.underlying41 (Fr.of_ext zb) ?_;refine Fd.go (j:=0) (dj:=some 21) (u:= .agg #[.bool r.n,.slice r.p r.l r.c,.bool r.m,.slice r.p2 r.l2 r.c2]) ?_;refine Hl (b:=W) (i:=4) (lj:=(bs 7 15)) (li:=(bs 7 30)) rR rR kR kR kR kR kR dC kR rR rR (fun x_ h_=>Fr.of_ext h_) (Aa.refl W).drew (fun x_ h_=>Je _ _ rR A0 (0) [.bool r.n,.slice r.p r.l r.c,.bool r.m,.slice r.p2 r.l2 r.c2] rR (Bu (show World.rangeAt W A0 (0) [.bool r.n,.slice r.p r.l r.c,.bool r.m,.slice r.p2 r.l2 r.c2]from H0.1.range (i:=2) rR 0 4) h_) Tryz.underlying33 rR kR) rR (by go_simp) kR (bD px py ed.1.1 ed.1.2 _ hp B3.1.1 B3.1.2) ?_;rintro e D7 ⟨Q5,rfl,A2,hx⟩;have O2:=zH (O3.1.step hx);have J9:=zH (show Af W.drew D7 from Af.of_ext hx);have M7:=zH (M8.1.trans (Fr.of_ext hx));have L7:=zH (show Aa W D7 from(Aa.refl W).drew.trans hx);have J0:=zH (show Fr (fun kz=>kz=A0) W D7 from(Fr.of_ext zb).trans (Fr.of_ext hx));have M2:=zH A2;have P4:=zH (Yg (p:=(px,py)) B3.1.1 B3.1.2 hp);clear A2;have C1:=hx;clear hx;refine⟨_,rfl,C1,?_⟩;try simp only[Act.put,zA,zB,zC]
   clear C1;refine My rR kR rR rR J0.1 (Je _ _ rR A0 (0) [.bool r.n,.slice r.p r.l r.c,.bool r.m,.slice r.p2 r.l2 r.c2] rR (Bu (show World.rangeAt W A0 (0) [.bool r.n,.slice r.p r.l r.c,.bool r.m,.slice r.p2 r.l2 r.c2]from H0.1.range (i:=2) rR 0 4) L7.1) Tryz.underlying33 rR kR) (show _=(bs 7 31)by kernel_rfl) ?_;try simp only[Act.put,zA,zB,zC]
   have G5:=tD K0 J9;refine mC 5 (bs 7 63) (jL (L:=60000) (RV.Is.nin (B9.1.dig G5.1) (Ar C7.1 (by omega))) (RV.Is.nin M2.1 (Ar P4.1 (by omega))) (by omega)) ?_;rintro e P7 ⟨c_,rfl,A3,hx⟩;have O1:=zH (O2.1.step hx);have O9:=zH (Af.of_ext hx);have M6:=zH (M7.1.trans (Fr.of_ext hx));have I9:=zH (J0.1.trans (Fr.of_ext hx));obtain⟨A8,rfl,A2⟩:=A3;have M1:=zH A2;clear A2 hx;refine zm I9.1 ?_;refine Ea (i:=6) (listed':=(bs 7 127)) rR kR rR kR _ _ _ rR O1.1 (ix:=2) rR 0 [.bool A8.n,.slice A8.p A8.l A8.c,.bool A8.m,.slice A8.p2 A8.l2 A8.c2] rR rR (by simp) kR (by simp[Value.oneCell']) (by simp[At]) ?_;intro P6 hh hd ho;have O0:=hN hh;have J8:=zH (hd);have E7:=zH (M6.1.trans_new ho (fun j hj=> .inl (by injection hj with hj;exact hj.symm)));have L8:=zH (Fr.trans_new I9.1 ho (fun j hj=> .inl (by simpa using hj.symm)));clear hh hd ho;refine⟨L8.1,?_⟩
   (try simp only[Act.put])
   refine wpAnyH_done kR ?_ _;gi_wp2
   exact⟨(KeepsFrom.of_fr E7.1 (fun k hk o ho=>H0.1.cells (i:=2) (by rfl) (by rw[hk];rfl) o ho)),(E7.1.imp (fun k hk=> .inl hk)),A8,O0.1.take 3,HD.1.trans (((K0.1.trans J9.1).trans O9.1).trans J8.1),(by rw[jXX,show[ed].map Subtype.val=[ed.1]from rfl,Pe,show Sg (px,py) (Mp (px,py) (pre.map Subtype.val)) ed.1=(Mp (px,py) (pre.map Subtype.val))+Hs (px,py) ed.1.1 ed.1.2 from if_pos H1.1];exact(M1.1.dig J8.1)),Ar B8.1 E7.1.size⟩
  gi_upto_region 5 with fail
  refine Ab kR (fun⟨_,_,h⟩=>h) ?_;refine Ej H0.1 _ _ _ _ ?_;refine zp (.bool false) (by exact Dv (e:=(Ah H1.1))) ?_;refine zq (.bool false) ?_;refine wpList_nil ?_;rcases Co (ed.1.2.2<ed.1.1.2)with H2|H2
  ·gi_upto_region 7 with fail
   refine Ab kR (fun⟨_,_,h⟩=>h) ?_;refine Ej H0.1 _ _ _ _ ?_;refine zp (.bool true) (by exact Tw (e:=(Ae H2.1))) ?_;refine zq (.bool true) ?_;refine wpList_nil ?_;gi_upto_region 8 with fail
   refine Dx (S:=fun x=>Fr (fun kz=>kz=A0) W x) kR kR (fun⟨_,_,h⟩=>h) (Fr.of_ext zb) (fun _=> ?_);have N9:=zH (H0.1.step (Aa.refl W).drew);have J7:=zH (Af.of_ext (w:=W) zb);have M5:=zH (B4.1.trans (Fr.of_ext (Aa.refl W).drew));refine mR 1 (bs 7 2) X1 (0) [iV px,iV py] (fun x hx=>Fr.range hx (show World.rangeAt W X1 (0) [iV px,iV py]from(H0.1.range (i:=0) rR 0 2)) (H0.1.offBlk (i:=0) (j:=2) rR rR dC rR)) Tryz.underlying66 (Fr.of_ext zb) ?_;refine mR 2 (bs 7 6) Xa (0) [iV ed.1.1.1,iV ed.1.1.2] (fun x hx=>Fr.range hx (show World.rangeAt W Xa (0) [iV ed.1.1.1,iV ed.1.1.2]from(H0.1.range (i:=3) rR 0 2)) (H0.1.offBlk (i:=3) (j:=2) rR rR dC rR)) Tryz.underlying41 (Fr.of_ext zb) ?_;refine zr 3 (bs 7 14) Xb (0) [iV ed.1.2.1,iV ed.1.2.2] (fun x hx=>Fr.range hx (show World.rangeAt W Xb (0) [iV ed.1.2.1,iV ed.1.2.2]from(H0.1.range (i:=4) rR 0 2)) (H0.1.offBlk (i:=4) (j:=2) rR rR dC rR)) Tryz.underlying41 (Fr.of_ext zb) ?_;refine Fd.go (j:=0) (dj:=some 33) (u:= .agg #[.bool r.n,.slice r.p r.l r.c,.bool r.m,.slice r.p2 r.l2 r.c2]) ?_;refine Hl (b:=W) (i:=4) (lj:=(bs 7 15)) (li:=(bs 7 30)) rR rR kR kR kR kR kR dC kR rR rR (fun x_ h_=>Fr.of_ext h_) (Aa.refl W).drew (fun x_ h_=>Je _ _ rR A0 (0) [.bool r.n,.slice r.p r.l r.c,.bool r.m,.slice r.p2 r.l2 r.c2] rR (Bu (show World.rangeAt W A0 (0) [.bool r.n,.slice r.p r.l r.c,.bool r.m,.slice r.p2 r.l2 r.c2]from H0.1.range (i:=2) rR 0 4) h_) Tryz.underlying33 rR kR) rR (by go_simp) kR (bD px py ed.1.1 ed.1.2 _ hp B3.1.1 B3.1.2) ?_;rintro e D6 ⟨Q4,rfl,A2,hx⟩;have N8:=zH (N9.1.step hx);have J6:=zH (show Af W.drew D6 from Af.of_ext hx);have M4:=zH (M5.1.trans (Fr.of_ext hx));have L6:=zH (show Aa W D6 from(Aa.refl W).drew.trans hx);have I8:=zH (show Fr (fun kz=>kz=A0) W D6 from(Fr.of_ext zb).trans (Fr.of_ext hx));have M0:=zH A2;have P3:=zH (Yg (p:=(px,py)) B3.1.1 B3.1.2 hp);clear A2;have C1:=hx;clear hx;refine⟨_,rfl,C1,?_⟩;try simp only[Act.put,zA,zB,zC]
   clear C1;refine My rR kR rR rR I8.1 (Je _ _ rR A0 (0) [.bool r.n,.slice r.p r.l r.c,.bool r.m,.slice r.p2 r.l2 r.c2] rR (Bu (show World.rangeAt W A0 (0) [.bool r.n,.slice r.p r.l r.c,.bool r.m,.slice r.p2 r.l2 r.c2]from H0.1.range (i:=2) rR 0 4) L6.1) Tryz.underlying33 rR kR) (show _=(bs 7 31)by kernel_rfl) ?_;try simp only[Act.put,zA,zB,zC]
   have G4:=tD J7 J6;refine mC 5 (bs 7 63) (aP (L:=60000) (RV.Is.nin (B9.1.dig G4.1) (Ar C7.1 (by omega))) (RV.Is.nin M0.1 (Ar P3.1 (by omega))) (by omega)) ?_;rintro e P5 ⟨c_,rfl,A3,hx⟩;have G3:=zH (N8.1.step hx);have H6:=zH (Af.of_ext hx);have F5:=zH (M4.1.trans (Fr.of_ext hx));have C6:=zH (I8.1.trans (Fr.of_ext hx));obtain⟨A7,rfl,A2⟩:=A3;have L9:=zH A2;clear A2 hx;refine zm C6.1 ?_;refine Ea (i:=6) (listed':=(bs 7 127)) rR kR rR kR _ _ _ rR G3.1 (ix:=2) rR 0 [.bool A7.n,.slice A7.p A7.l A7.c,.bool A7.m,.slice A7.p2 A7.l2 A7.c2] rR rR (by simp) kR (by simp[Value.oneCell']) (by simp[At]) ?_;intro K9 hh hd ho;have G2:=hN hh;have D3:=zH (hd);have B7:=zH (F5.1.trans_new ho (fun j hj=> .inl (by injection hj with hj;exact hj.symm)));have E3:=zH (Fr.trans_new C6.1 ho (fun j hj=> .inl (by simpa using hj.symm)));clear hh hd ho;refine⟨E3.1,?_⟩
   (try simp only[Act.put])
   refine wpAnyH_done kR ?_ _;gi_wp2
   exact⟨(KeepsFrom.of_fr B7.1 (fun k hk o ho=>H0.1.cells (i:=2) (by rfl) (by rw[hk];rfl) o ho)),(B7.1.imp (fun k hk=> .inl hk)),A7,G2.1.take 3,HD.1.trans (((J7.1.trans J6.1).trans H6.1).trans D3.1),(by rw[jXX,show[ed].map Subtype.val=[ed.1]from rfl,Pe,show Sg (px,py) (Mp (px,py) (pre.map Subtype.val)) ed.1=(Mp (px,py) (pre.map Subtype.val))-Hs (px,py) ed.1.1 ed.1.2 from(if_neg (fun h_=>by have E1:=H1.1;omega)).trans (if_pos H2.1)];exact(L9.1.dig D3.1)),Ar B8.1 B7.1.size⟩
  gi_upto_region 7 with fail
  refine Ab kR (fun⟨_,_,h⟩=>h) ?_;refine Ej H0.1 _ _ _ _ ?_;refine zp (.bool false) (by exact Tw (e:=(Ah H2.1))) ?_;refine zq (.bool false) ?_;refine wpList_nil ?_;gi_wp2
  exact⟨(KeepsFrom.of_fr B4.1 (fun k hk o ho=>H0.1.cells (i:=2) (by rfl) (by rw[hk];rfl) o ho)),(B4.1.imp (fun k hk=> .inl hk)),r,H0.1.take 3,HD.1.trans (Af.refl _),(by rw[jXX,show[ed].map Subtype.val=[ed.1]from rfl,Pe,show Sg (px,py) (Mp (px,py) (pre.map Subtype.val)) ed.1=(Mp (px,py) (pre.map Subtype.val))from(if_neg (fun h_=>by have E1:=H1.1;omega)).trans (if_neg (fun h_=>by have E1:=H2.1;omega))];exact B9.1),Ar B8.1 B4.1.size⟩
 rintro D xs W hD I0 ⟨r,hh,hd,B0,B5⟩ hK;have H0:=zH hh;have F7:=zH B0;have F6:=zH I0;have HD:=zH hK;have N4:=zH hD;have B9:=zH (show r.Is W (Mp (px,py) (Cd rs))from by rw[<-F6.1];exact F7.1);have C7:=zH (show Nm.rl (Mp (px,py) (Cd rs))<=8018 from by rw[<-F6.1];exact mD (p:=(px,py)) hp (by rw[<-eZZ (f:=Subtype.val),F6.1];exact J4.1));clear hh hd B0 B5 I0 hK hD;have B4:=zH (show Fr (fun kz=>kz=X6) W W from Fr.of_ext (Aa.refl W));go_upto_region 9 with fail
 refine zy ?_;have C0:=zH (H0.1.step (Aa.refl W).drew);have H5:=zH (Af.of_ext (w:=W) zb);have F4:=zH (B4.1.trans (Fr.of_ext (Aa.refl W).drew));refine Rp H0.1 zb (bs 9 1) 0 _ ?_;refine gG 6 (some 8) 33 rz W C0.1 ?_;refine gL 1 (bs 9 65) (bs 9 3) zb.size C0.1 zb (fun xq A9=>Cx 65536 _ (by omega) (by omega)) (by rintro x_ e K5 ⟨c_,rfl,A3,hx⟩;exact hx) ?_;rintro xq e D9 A9 ⟨c_,rfl,A3,hx⟩;replace hx:=A9.trans hx;clear A9;have C9:=zH (C0.1.step hx);have H4:=zH (show Af W.drew D9 from Af.of_ext hx);have F3:=zH (F4.1.trans (Fr.of_ext hx));have B6:=zH (zb.trans hx);obtain⟨L0,rfl,A2⟩:=A3;have E5:=zH A2;have H7:=zH (Bk 65536 (by omega) (by omega));clear A2 hx;refine⟨_,rfl,?_⟩;try simp only[Act.put,zA,zB,zC]
 have D2:=tD H5 H4;refine gL 2 (bs 9 67) (bs 9 7) B6.1.size C9.1 B6.1 (fun xq A9=>xG (L:=60000) (RV.Is.nin (B9.1.dig (D2.1.trans (Af.of_ext A9))) (Ar C7.1 (by omega))) (RV.Is.nin (E5.1.dig (Af.of_ext A9)) (Ar H7.1 (by omega))) dC dC) (by rintro x_ e K5 ⟨c_,rfl,A3,hx⟩;exact hx) ?_;rintro xq e K8 A9 ⟨c_,rfl,A3,hx⟩;replace hx:=A9.trans hx;clear A9;have G1:=zH (C9.1.step hx);have F2:=zH (F3.1.trans (Fr.of_ext hx));have A4:=zH (B6.1.trans hx);obtain⟨A1,rfl,A2⟩:=A3;have E4:=zH A2;clear A2 hx;refine⟨_,rfl,?_⟩;try simp only[Act.put,zA,zB,zC]
 refine gK 3 (bs 9 71) (bs 9 15) _ A4.1 ?_;refine gK 4 (bs 9 79) (bs 9 31) _ A4.1 ?_;refine gK 5 (bs 9 95) (bs 9 63) (iV 0) A4.1 ?_;refine gE (bs 9 127) A4.1.size G1.1 A4.1 ?_;intro C4 D8 hx hh hs B1;have G0:=hN hh;have G9:=zH (Af.of_ext hx);have F1:=zH (F2.1.trans (Fr.of_ext hx));have E2:=zH (show Aa W D8 from hs);have D0:=zH (show W.heap.size<=C4 from B1);have E6:=zH (show W.heap.size<=C4 from Ar B4.1.size D0.1);clear hh hx B1 hs;try simp only[Act.put,zA,zB,zC]
 refine Ea (i:=7) (listed':=(bs 9 255)) rR kR rR kR _ _ _ rR G0.1 (ix:=3) rR 0 [.bool A1.n,.slice A1.p A1.l A1.c,.bool A1.m,.slice A1.p2 A1.l2 A1.c2] rR rR (by simp) kR (by simp[Value.oneCell']) (by simp[At]) ?_;intro K7 hh hd ho;have C8:=hN hh;have G8:=zH (hd);have F0:=zH (F1.1.trans_new ho (fun j hj=> .inr (by injection hj with hj;rw[<-hj];exact E6.1)));have C5:=zH (Ba.ext ho E2.1 D0.1);clear hh hd ho;refine⟨C5.1,?_⟩
 (try simp only[Act.put])
 refine zx 8 (bs 9 511) (iV 0) C5.1 ?_;refine wpAnyH_done kR ?_ _;go_upto_region 10 with fail
 refine wl ?_;refine Cs C8.1 _ ?_;refine aS 1 (rc A1) C8.1 ?_;intro A6 F9 hd ho;have G7:=zH (hd);have E9:=zH (F0.1.trans_new ho (fun j hj=> .inl (by injection hj with hj;exact hj.symm)));clear hd ho;have D1:=tD (tD G9 G8) G7;go_wp2_with fail
 have E0:A6.heap[D]?=some (.deferred (some [])):=(E9.1.block D (Array.getElem?_eq_some_iff.1 HD.1).1 (fun e=>by have h1:=H0.1.cells (i:=1) (k:=D) (by rfl) (by rw[e];rfl) _ HD.1;cases h1)).trans HD.1;refine⟨by simp,.inl ⟨_,_,rfl,run_takeDeferred E0,?_⟩⟩;have C3:=F9.1.kept (grownBy_putObj' A6 D (.deferred none)) (fun k hk=>by injection hk with hk;subst hk;exact⟨Ar D4.1 N4.1,_,E0,rfl⟩);have L3:Af A6 _:=Af.kept (grownBy_putObj' A6 D (.deferred none)) (fun k hk=>by injection hk with hk;subst hk;exact⟨_,E0,rfl⟩);refine⟨_,An rfl rfl ((C3.blk (i:=1) rR).loadVar rfl rfl rR),A1,rfl,(E4.1.dig D1.1).dig L3,?_,C3.ext⟩;exact Ar (Nm.rl_div _ _) (by have E1:=C7.1;have Q7:=Bk 65536 (by omega) (by omega);omega)
end
section
attribute [local go_sem ↓] Go.wp_at_zero Go.wp_at_succ Aj Ai
def aT (n:Int):Bool:=decide (n< -4096)||decide (4096<=n)
theorem Lh {n:Int}:aT n=true↔n< -4096\/4096<=n:=by unfold aT;simp
def mE (rs:List Av)(x y:Int):Int:=if Ge rs=true then(if aT x=true\/aT y=true then 6 else 0)else 12
theorem Lg (n:Int)(w:World):Calls Tryz.prog 25 #[iV n] w fun e w'=>e= .returned (.bool (aT n))/\Aa w w':=by
 go_enter Tryz.func25,Tryz.ntmps25
 have H0:=zH (Hp.start w);go_upto_region 0 with fail
 refine wl ?_;refine zq (.bool false) ?_;rcases Co (n< -4096)with H1|H1
 ·go_upto_region 1 with fail
  refine wl ?_;refine zq (iV n) ?_;refine zp (.bool true) (by exact Dv (e:=(Ae H1.1))) ?_;refine Kf Ac (.bool true) _ _ (.bool true) (.bool true) ?_;have HB:=zH (Lh.2 (.inl H1.1));go_wp2_with fail
  go_ret
  exact⟨by rw[HB.1]<;>rfl,H0.1.ext⟩
 rcases Co (4096<=n)with H2|H2
 ·go_upto_region 1 with fail
  refine wl ?_;refine zq (iV n) ?_;refine zp (.bool false) (by exact Dv (e:=(Ah H1.1))) ?_;refine Bq Ac (.bool false) (iV n) ?_;refine zp (.bool true) (by exact Jm (e:=(Ae H2.1))) ?_;refine Bq Ac (.bool true) (.bool true) ?_;have HB:=zH (Lh.2 (.inr H2.1));go_wp2_with fail
  go_ret
  exact⟨by rw[HB.1]<;>rfl,H0.1.ext⟩
 go_upto_region 1 with fail
 refine wl ?_;refine zq (iV n) ?_;refine zp (.bool false) (by exact Dv (e:=(Ah H1.1))) ?_;refine qV (.bool false) ?_;refine zq (iV n) ?_;refine zp (.bool false) (by exact Jm (e:=(Ah H2.1))) ?_;refine qV (.bool false) ?_;refine zq (.bool false) ?_;have HB:=zH (show aT n=false from Bool.eq_false_iff.2 (fun h_=>by have A2:=Lh.1 h_;have A1:=H1.1;have A0:=H2.1;omega));go_wp2_with fail
 go_ret
 exact⟨by rw[HB.1]<;>rfl,H0.1.ext⟩
theorem dK (A:Option Addr)(cap:Nat)(rs:List Av)(x y:Int)(w:World)(hu:Cu w (.slice A rs.length cap) rs)(hn:rs.length<=1048576)(hr:∀r,r∈rs->r.length<=1048576)(hs:Ge rs=true->Gm rs<=16)(hx: -9223372036854775808<=x/\x<=9223372036854775807)(hy: -9223372036854775808<=y/\y<=9223372036854775807):
  Calls Tryz.prog 8 #[.slice A rs.length cap,iV x,iV y] w (Uf 8030 (mE rs x y) (Sf rs (x*256,y*256)) w):=by
 have HU:=zH hu;have HN:=zH hn;have A4:=zH hr;clear hu hr;have A3:=zH hs;clear hs;go_enter Tryz.func8,Tryz.ntmps8
 have H0:=zH (Hp.start w);go_upto_region 0 with fail
 refine wl ?_;refine Cm 33 rz H0.1 ?_;intro D8 D4 A2 _;refine zq (iV 0) ?_;rcases Co (Ge rs=true)with HV|HV
 ·go_upto_region 1 with fail
  refine wl ?_;refine Cs Ac _ ?_;refine zc (Cc _ rs _ (HU.1.ext A2.1.ext) HN.1 A4.1) ?_;rintro e D3 ⟨rfl,hx⟩;have A5:=zH (A2.1.step hx);clear hx;refine⟨.bool true,by rw[HV.1],?_⟩;try simp only[Act.put,zA,zB,zC]
  refine zq (.bool false) ?_;go_upto_region 3 with fail
  refine wl ?_;refine Cs Ac _ ?_;rcases Co (aT x=true)with HX|HX
  ·go_upto_region 4 with fail
   refine wl ?_;refine Bq Ac _ (iV x) ?_;refine aC A5.1 ((Lg x _).mono fun _ _ h_=>(⟨h_.1.trans (by rw[HX.1]),h_.2⟩:_=Ending.returned (.bool true)/\Aa _ _)) ?_;intro D2 B9 _;refine Kf Ac (.bool true) _ _ _ (.bool true) ?_;go_upto_region 5 with fail
   refine wl ?_;refine zq (.agg z4) ?_;refine Cy 0 rz B9.1 ?_;intro D1 B1 _;refine zq (iV 6) ?_;have HE:=zH (show mE rs x y=6 from(if_pos HV.1).trans (if_pos (.inl HX.1)));go_wp2_with fail
   refine bodyPost_ret (v:= .tuple #[.agg z4,iV 6]) ?_ rfl ⟨RV.zero,by rw[HE.1]<;>rfl,fun h_=>absurd h_ (by rw[HE.1];decide),fun _=>rfl,B1.1.ext⟩;exact Aq rfl rfl ((B1.1.blk (i:=0) rR).loadVar rfl rfl rR) rfl
  have FX:=zH (Bool.eq_false_iff.2 HX.1);rcases Co (aT y=true)with HY|HY
  ·go_upto_region 4 with fail
   refine wl ?_;refine Bq Ac _ (iV x) ?_;refine aC A5.1 ((Lg x _).mono fun _ _ h_=>(⟨h_.1.trans (by rw[FX.1]),h_.2⟩:_=Ending.returned (.bool false)/\Aa _ _)) ?_;intro D0 B8 _;refine Dh Ac (.bool false) _ (iV y) ?_;refine aC B8.1 ((Lg y _).mono fun _ _ h_=>(⟨h_.1.trans (by rw[HY.1]),h_.2⟩:_=Ending.returned (.bool true)/\Aa _ _)) ?_;intro C9 B7 _;refine zq (.bool true) ?_;go_upto_region 5 with fail
   refine wl ?_;refine zq (.agg z4) ?_;refine Cy 0 rz B7.1 ?_;intro C8 B0 _;refine zq (iV 6) ?_;have HE:=zH (show mE rs x y=6 from(if_pos HV.1).trans (if_pos (.inr HY.1)));go_wp2_with fail
   refine bodyPost_ret (v:= .tuple #[.agg z4,iV 6]) ?_ rfl ⟨RV.zero,by rw[HE.1]<;>rfl,fun h_=>absurd h_ (by rw[HE.1];decide),fun _=>rfl,B0.1.ext⟩;exact Aq rfl rfl ((B0.1.blk (i:=0) rR).loadVar rfl rfl rR) rfl
  have FY:=zH (Bool.eq_false_iff.2 HY.1);have HP:=zH (show(-1048576<=x*256/\x*256<=1048320)/\ -1048576<=y*256/\y*256<=1048320 from by have D7:=mt Lh.2 HX.1;have D6:=mt Lh.2 HY.1;omega);have D5:=HP.1;go_upto_region 4 with fail
  refine wl ?_;refine Bq Ac _ (iV x) ?_;refine aC A5.1 ((Lg x _).mono fun _ _ h_=>(⟨h_.1.trans (by rw[FX.1]),h_.2⟩:_=Ending.returned (.bool false)/\Aa _ _)) ?_;intro C7 B6 _;refine Dh Ac (.bool false) _ (iV y) ?_;refine aC B6.1 ((Lg y _).mono fun _ _ h_=>(⟨h_.1.trans (by rw[FY.1]),h_.2⟩:_=Ending.returned (.bool false)/\Aa _ _)) ?_;intro C6 A9 _;refine zq (.bool false) ?_;go_upto_region 6 with fail
  refine wl ?_;refine zq (iV x) ?_;refine zp (iV (x*256)) (by exact eO (by omega)) ?_;refine zq (iV y) ?_;refine zp (iV (y*256)) (by exact eO (by omega)) ?_;refine Bq Ac _ _ ?_;refine zc (Zl (x*256) (y*256) _ rs _ (HU.1.ext A9.1.ext) HN.1 A4.1 HV.1 (A3.1 HV.1) HP.1) ?_;rintro e C5 ⟨A0,rfl,A6,A7,hx⟩;have B5:=zH (A9.1.step hx);have B2:=zH A6;have C1:=zH A7;clear A6 A7 hx;refine zn ?_;refine Cy 0 (rc A0) B5.1 ?_;intro C4 A8 C0;refine zq (iV 0) ?_;have HE:=zH (show mE rs x y=0 from(if_pos HV.1).trans (if_neg (fun h_=>h_.elim HX.1 HY.1)));go_wp2_with fail
  refine bodyPost_ret (v:= .tuple #[.agg #[.bool A0.n,.slice A0.p A0.l A0.c,.bool A0.m,.slice A0.p2 A0.l2 A0.c2],iV 0]) ?_ rfl ⟨A0,by rw[HE.1]<;>rfl,fun _=>⟨(B2.1.dig C0.1),C1.1⟩,fun h_=>absurd HE.1 h_,A8.1.ext⟩;exact Aq rfl rfl ((A8.1.blk (i:=0) rR).loadVar rfl rfl rR) rfl
 have B3:=zH (Bool.eq_false_iff.2 HV.1);go_upto_region 1 with fail
 refine wl ?_;refine Cs Ac _ ?_;refine zc (Cc _ rs _ (HU.1.ext A2.1.ext) HN.1 A4.1) ?_;rintro e C3 ⟨rfl,hx⟩;have B4:=zH (A2.1.step hx);clear hx;refine⟨.bool false,by rw[B3.1],?_⟩;try simp only[Act.put,zA,zB,zC]
 refine zq (.bool true) ?_;go_upto_region 2 with fail
 refine wl ?_;refine zq (.agg z4) ?_;refine Cy 0 rz B4.1 ?_;intro C2 A1 _;refine zq (iV 12) ?_;have HE:=zH (show mE rs x y=12 from if_neg HV.1);go_wp2_with fail
 refine bodyPost_ret (v:= .tuple #[.agg z4,iV 12]) ?_ rfl ⟨RV.zero,by rw[HE.1]<;>rfl,fun h_=>absurd h_ (by rw[HE.1];decide),fun _=>rfl,A1.1.ext⟩;exact Aq rfl rfl ((A1.1.blk (i:=0) rR).loadVar rfl rfl rR) rfl
end
section
open Go.RowKit Go.Shelf
attribute [local go_sem] Oper.semAt_some
attribute [local go_sem ↓] Go.wp_at_zero Go.wp_at_succ Aj Ai
def qJ (rs:List Av)(r:R4):Int:=if Ge rs=true then(if r.ok=true then(if r.area<=65536 then 0 else 5)else 6)else 12
def uE (rs:List Av)(x y:Int):Int:=Ls (Sf rs (x*256,y*256))
theorem Wf {α β:Type}{f:α->List β}{c:Nat}(h:∀x,(f x).length=c):∀{l:List α} {k j:Nat} {x:α} {y:β},l[k]?=some x->(f x)[j]?=some y->(l.flatMap f)[k*c+j]?=some y
  | [],k,j,x,y,h1,_=>by simp at h1
  | a::l,0,j,x,y,h1,h2=>by
    simp at h1;subst h1;rw[Nat.zero_mul,dZZ,List.flatMap_cons,dQQ (List.getElem?_eq_some_iff.1 h2).1];exact h2
  | a::l,k+1,j,x,y,h1,h2=>by
    have ih:=Wf h (l:=l) (k:=k) (by simpa using h1) h2;rw[List.flatMap_cons,cXX (by rw[h,kQQ];omega),h,show(k+1)*c+j-c=k*c+j by rw[kQQ];omega];exact ih
theorem bI {p q n:Int}(h:p<=n)(k:n<q):(Gz p q)[(n-p).toNat]?=some n:=by
  unfold Gz;rw[kZZ,List.getElem?_range (by omega)];show some (p+(((n-p).toNat:Nat):Int))=some n;congr 1;omega
theorem nQ {q:R4}{x y:Int}(h:q.In x y):(Qv q)[q.at x y]?=some (x,y):=by
 have h1:=Wf (Xf q) (l:=Gz q.y0 q.y1) (k:=(y-q.y0).toNat) (j:=(x-q.x0).toNat) (x:=y) (y:=(x,y)) (bI h.1.1 h.1.2) (by
  unfold dO;rw[kZZ,bI h.2.1 h.2.2];rfl)
 rw[Ht]at h1;have e:q.at x y=(y-q.y0).toNat*(q.x1-q.x0).toNat+(x-q.x0).toNat:=by
  have e1:=Im h;obtain⟨⟨a,b⟩,c,d⟩:=h;have e2:(((y-q.y0).toNat:Nat):Int)=y-q.y0:=by omega
  have e3:(((q.x1-q.x0).toNat:Nat):Int)=q.x1-q.x0:=by omega
  have e4:(((x-q.x0).toNat:Nat):Int)=x-q.x0:=by omega
  have e5:(((y-q.y0).toNat*(q.x1-q.x0).toNat+(x-q.x0).toNat:Nat):Int)=(y-q.y0)*(q.x1-q.x0)+(x-q.x0):=by
   rw[Int.natCast_add,fZZ,e2,e3,e4]
  omega
 rw[e];exact h1
theorem nP {q:R4}{v:Int->Int->Int}{es:List Int}(h:es=(Qv q).map fun p=>v p.1 p.2)(hx:q.x0<=q.x1)(hy:q.y0<=q.y1):Ke q v es:=by
  subst h;refine⟨?_,fun x y hi=>by rw[kZZ,nQ hi];rfl⟩;rw[eZZ,Su,Ht,Ht,fZZ,Int.mul_comm];congr 1<;>omega
def aAB (Bl Br Bz Bm:Nat)(A0:Option Addr)(n0 c0:Nat)(q qr:R4)(rs:List Av)(w W1:World)(pre:List fE)(W:World):Prop:=
  ∃(A:Option Addr) (n c:Nat) (es:List Int),Hp w W [.blk Bl 22 [.slice A0 n0 c0],.blk Br 26 [iV qr.x0,iV qr.y0,iV qr.x1,iV qr.y1],.blk Bz 49 [iV 0,iV 0,iV 0,iV 0,.slice none 0 0],.blk Bm 49 [iV q.x0,iV q.y0,iV q.x1,iV q.y1,.slice A n c],.row 5 1 (.slice A n c) (n) (List.flatMap Ay es)]/\es=(pre.map Subtype.val).map (fun p=>uE rs p.1 p.2)/\n=es.length/\W1.heap.size<=W.heap.size
theorem uF (Bl Br Bz Bm:Nat)(A0:Option Addr)(n0 c0:Nat)(q qr:R4)(rs:List Av)(w W1:World)(hw:w.heap.size<=W1.heap.size):OwnFrom W1.heap.size (aAB Bl Br Bz Bm A0 n0 c0 q qr rs w W1):=by
  rintro s W W' row ⟨A,n,c,es,h1,h2,h3,h4⟩ hg hr;exact⟨A,n,c,es,h1.kept hg (fun k hk=>⟨Ar hw (hr k hk).1,(hr k hk).2⟩),h2,h3,Ar h4 hg.size⟩
def zM (Bl Br Bz Bm:Nat)(W1:World)(x:fE)(a':Act)(W:World):Prop:=
  ∃(J:Nat->Value) (Xt:Nat),Ad W Xt 26 ([iV x.1.1,iV x.1.2,iV (x.1.1+1),iV (x.1.2+1)]:List Value).toArray/\W1.heap.size<=Xt/\a'={tmps:=#[J 0,J 1,.pointer (some ⟨Bl,0,none⟩),.pointer (some ⟨Br,0,none⟩),.pointer (some ⟨Bz,0,none⟩),J 5,.pointer (some ⟨Bm,0,none⟩),.pointer (some ⟨Xt,0,none⟩),J 8,J 9,J 10,J 11,J 12,J 13,J 14,J 15,J 16,J 17,J 18,J 19,J 20,J 21,J 22,J 23,J 24,J 25,J 26,J 27,J 28,J 29,J 30,J 31,J 32,J 33,J 34,J 35,J 36,J 37,J 38,J 39,J 40,J 41,J 42,J 43,J 44,J 45,J 46,J 47],defers:=[]}
theorem uG (Bl Br Bz Bm:Nat)(W1:World)(x:fE)(a':Act):OwnFrom W1.heap.size (fun(_:Unit) W=>zM Bl Br Bz Bm W1 x a' W):=by
  rintro _ W W' row ⟨J,Xt,h1,h2⟩ hg hr;exact⟨J,Xt,h1.kept hg (fun k hk=>(hr k hk).2),h2⟩
theorem wY {Bl Br Bz Bm Xt:Nat}{W1 W:World}{x:fE}{a':Act}(h1:Ad W Xt 26 ([iV x.1.1,iV x.1.2,iV (x.1.1+1),iV (x.1.2+1)]:List Value).toArray)(h2:W1.heap.size<=Xt)(h3:a'={tmps:=#[a'.tmps.getD 0 undef,a'.tmps.getD 1 undef,.pointer (some ⟨Bl,0,none⟩),.pointer (some ⟨Br,0,none⟩),.pointer (some ⟨Bz,0,none⟩),a'.tmps.getD 5 undef,.pointer (some ⟨Bm,0,none⟩),.pointer (some ⟨Xt,0,none⟩),a'.tmps.getD 8 undef,a'.tmps.getD 9 undef,a'.tmps.getD 10 undef,a'.tmps.getD 11 undef,a'.tmps.getD 12 undef,a'.tmps.getD 13 undef,a'.tmps.getD 14 undef,a'.tmps.getD 15 undef,a'.tmps.getD 16 undef,a'.tmps.getD 17 undef,a'.tmps.getD 18 undef,a'.tmps.getD 19 undef,a'.tmps.getD 20 undef,a'.tmps.getD 21 undef,a'.tmps.getD 22 undef,a'.tmps.getD 23 undef,a'.tmps.getD 24 undef,a'.tmps.getD 25 undef,a'.tmps.getD 26 undef,a'.tmps.getD 27 undef,a'.tmps.getD 28 undef,a'.tmps.getD 29 undef,a'.tmps.getD 30 undef,a'.tmps.getD 31 undef,a'.tmps.getD 32 undef,a'.tmps.getD 33 undef,a'.tmps.getD 34 undef,a'.tmps.getD 35 undef,a'.tmps.getD 36 undef,a'.tmps.getD 37 undef,a'.tmps.getD 38 undef,a'.tmps.getD 39 undef,a'.tmps.getD 40 undef,a'.tmps.getD 41 undef,a'.tmps.getD 42 undef,a'.tmps.getD 43 undef,a'.tmps.getD 44 undef,a'.tmps.getD 45 undef,a'.tmps.getD 46 undef,a'.tmps.getD 47 undef],defers:=[]}):zM Bl Br Bz Bm W1 x a' W:=⟨fun q=>a'.tmps.getD q undef,Xt,h1,h2,h3⟩
theorem Hp.addNew {w0 w:World}{m:List Dc}{X:Nat}{T:TypeId}{zs:List Value}(h:Hp w0 w m)(B:Ad w X T zs.toArray)(hz:w0.heap.size<=X)(hn:At zs)(ht:∀e,e∈m->e.typ≠T\/∀k,e.own=some k->k<X):Hp w0 w (m++[.blk X T zs]):=
  h.add ⟨hz,B,hn⟩ (fun i f hf k hk e=>by
    injection e with e
    subst e;rcases ht f (bZZ hf)with h1|h1
    · exact h1 (h.typ hf B hk)
    have:=h1 _ hk;omega)
theorem oN {Bm l:Nat}{T:TypeId}{A:Option Addr}{n c m:Nat}{xs:List Value}{b:Nat}{W W':World}(h:Fr (fun k=>k=Bm\/Value.ownBlock (.slice A n c)=some k) W W')(hr:Be W b T 1 (.slice A n c) m xs):Kq Bm T l W W':=⟨h.size,fun k o ho h1 _ h3=>by
 have A0:=(Array.getElem?_eq_some_iff.1 ho).1;refine(h.block k A0 (fun g=> ?_)).trans ho;rcases g with g|g
 ·exact h1 g
 obtain⟨_,⟨e,_⟩|⟨g2,c2,rest,e,_,hb,_⟩⟩:=hr
 ·injection e with e1;subst e1;simp[Value.ownBlock]at g
 injection e with e1 e2 e3
 subst e1;have hk:g2=k:=by simpa[Value.ownBlock]using g
 subst hk;unfold Ad at hb;rw[hb]at ho;injection ho with ho
 exact h3 _ ho.symm⟩
set_option maxRecDepth 200000 in
theorem uD (A:Option Addr)(cap:Nat)(rs:List Av)(r:R4)(w:World)(hu:Cu w (.slice A rs.length cap) rs)(hn:rs.length<=1048576)(hr:∀r,r∈rs->r.length<=1048576)(hs:Ge rs=true->r.ok=true->Gm rs<=16):
  Calls Tryz.prog 21 #[.slice A rs.length cap,.agg #[iV r.x0,iV r.y0,iV r.x1,iV r.y1]] w (Ep (qJ rs r) r (uE rs) w):=by
 have HU:=zH hu;have HN:=zH hn;have D9:=zH hr;clear hu hr;have D7:=zH hs;clear hs;refine(callsIn_wide (n:=13)).1 ?_;refine callsIn_of_wp_marks Tryz.func21 rfl trivial ?_ rfl;simp only[Tryz.ntmps21,List.size_toArray,hQQ,List.length_nil,Nat.reduceAdd,Nat.reduceSub,Array.replicate_succ,Array.replicate_zero,List.push_toArray,List.append_toArray,fQQ,iZZ];refine wpIn_wide.2 ?_;refine Go.Code.wp_mono Ka.m ?_;have H0:=zH (Hp.start w);go_upto_region 0 with fail
 refine wl ?_;refine Cm 22 [.slice A rs.length cap] H0.1 ?_;intro X1 w2 H3 _;refine Cm 26 [iV r.x0,iV r.y0,iV r.x1,iV r.y1] H3.1 ?_;intro X6 w7 H8 _;refine Cm 49 [iV 0,iV 0,iV 0,iV 0,.slice none 0 0] H8.1 ?_;intro A7 M5 B3 _;refine zq (iV 0) ?_;rcases Co (Ge rs=true)with HV|HV
 ·go_upto_region 1 with fail
  refine wl ?_;refine Cs B3.1 _ ?_;refine zc (Cc _ rs _ (HU.1.ext B3.1.ext) HN.1 D9.1) ?_;rintro e M4 ⟨rfl,hx⟩;have C8:=zH (B3.1.step hx);clear hx;refine⟨.bool true,by rw[HV.1],?_⟩;try simp only[Act.put,zA,zB,zC]
  refine Bq Ac (.bool false) (.bool false) ?_;rcases Co (r.ok=true)with HRO|HRO
  ·go_upto_region 3 with fail
   refine wl ?_;refine Cs C8.1 _ ?_;refine aC C8.1 ((Qj r _).mono fun _ _ h_=>(⟨h_.1.trans (by rw[HRO.1]),h_.2⟩:_=Ending.returned (.bool true)/\Aa _ _)) ?_;intro M3 C7 _;refine Bq Ac (.bool false) (.bool false) ?_;rcases Co (r.area<=65536)with HA|HA
   ·go_upto_region 5 with fail
    refine wl ?_;refine Cs C7.1 _ ?_;refine aC C7.1 (Nz r _) ?_;intro M2 G7 _;refine zp (.bool false) (by exact Tw (e:=(Ah (by have h_:=HA.1;omega)))) ?_;refine zq (.bool false) ?_;go_upto_region 7 with fail
    refine wl ?_;refine Cs G7.1 _ ?_;refine aC G7.1 (Sp r _) ?_;intro M1 L5 _;refine Cs Ac _ ?_;refine Cm 49 [iV 0,iV 0,iV 0,iV 0,.slice none 0 0] L5.1 ?_;intro A0 M0 L4 _;refine Cy 3 [iV r.can.x0,iV r.can.y0,iV r.can.x1,iV r.can.y1,.slice none 0 0] L4.1 ?_;intro G9 L3 _;generalize B2:r.can=q at*
    have HQ:=zH B2;have hb:=r.can_bd;rw[B2]at hb;have HB:=zH hb;clear B2 hb;have E1:=zH (show Hp w G9 [.blk X1 22 [.slice A rs.length cap],.blk X6 26 [iV r.x0,iV r.y0,iV r.x1,iV r.y1],.blk A7 49 [iV 0,iV 0,iV 0,iV 0,.slice none 0 0],.blk A0 49 [iV q.x0,iV q.y0,iV q.x1,iV q.y1,.slice none 0 0],ro 5 1 none 0 0 Ay ([])]from L3.1.addNil 5 1);go_upto_region 8 with fail
    refine wl ?_;refine Cs Ac _ ?_;refine zd A0 (0) [iV q.x0,iV q.y0,iV q.x1,iV q.y1] (E1.1.range (i:=3) rR 0 4) Tryz.underlying26 ?_;refine zc (iF q _) ?_;rintro e B1 ⟨Cr,Cw,Ch,rfl,D1,D0,F9,F8,F7,F6,I9,I8,I7,hx⟩;rw[show q.can=q from by rw[<-HQ.1];exact Ui r]at D1;have K3:=zH D1;have K2:=zH D0;have K1:=zH F9;have D8:=zH (And.intro F8 (And.intro F7 F6));clear D1 D0 F9 F8 F7 F6 I9 I8 I7;have C6:=zH (E1.1.step hx);clear hx;refine zn ?_;have I5:=C6.1.lt (i:=3) (k:=A0) (by rfl) rfl;have D6:=zH (show w.heap.size<=B1.heap.size from C6.1.ext.size);have I4:=E1.1.lt (i:=3) (k:=A0) (by rfl) rfl;have K5:=zH (show((Qv q).length:Int)<=65536 from by rw[Su,Ht,Ht,fZZ];have h_:=HA.1;unfold R4.area at h_;rw[HQ.1]at h_;have D0:=HB.1.2;rw[Int.mul_comm,Int.toNat_of_nonneg (by omega),Int.toNat_of_nonneg (by omega)];exact h_);go_wp2_with fail
    refine wpIn_wide.1 (Ur (n:=13) (by omega) rR (enters_of Tryz.func75 kR rfl) (iE 12 dC Cr Cw Ch A0 5 q B1 K3.1 K2.1 K1.1 (by have h_:=D8.1;omega) (by have h_:=D8.1;omega) (by have h_:=D8.1;omega) dC dC dC HB.1.1 I5) (aAB X1 X6 A7 A0 A rs.length cap q r rs w B1) (uF X1 X6 A7 A0 A rs.length cap q r rs w B1 D6.1) ⟨none,0,0,[],C6.1,rfl,rfl,Cj _⟩ (zM X1 X6 A7 A0 B1) (uG X1 X6 A7 A0 B1) ?assign ?body ?done);case assign=>
     intro l pre x W K hi hK;obtain⟨Az,n,c,es,hh,A4,A3,A5⟩:=hi;have C3:=zH A5;have H0:=zH hh;have HK:=zH hK;have E0:=zH A4;have B8:=zH A3;clear A5 hh hK A4 A3;unfold qY;simp only[zA,zB,zC];refine Ab kR (fun⟨_,_,h⟩=>h) ?_;refine aA 26 [iV 0,iV 0,iV 0,iV 0] H0.1 ?_;intro J0 G8 L2 hx B6;have G4:=zH (show W.heap.size<=J0 from Ar (Fr.of_ext (G:=fun kz=>False) (Aa.refl W)).size B6);have J9:=zH (show Fr (fun kz=>False) W G8 from(Fr.of_ext (G:=fun kz=>False) (Aa.refl W)).trans (Fr.of_ext hx));clear hx B6;refine aS 5 [iV x.1.1,iV x.1.2,iV (x.1.1+1),iV (x.1.2+1)] L2.1 ?_;intro L9 G6 hd ho;have C2:=zH (J9.1.trans_new ho (fun j hj=> .inr (by injection hj with hj;rw[<-hj];exact G4.1)));clear hd ho;exact HK.1 _ _ (KeepsFrom.of_fr C2.1 (fun _ h=>h.elim)) ⟨C2.1.size,fun k o ho _ _ _=>(C2.1.block k (Array.getElem?_eq_some_iff.1 ho).1 (fun h=>h)).trans ho⟩ ⟨Az,n,c,es,G6.1.take 5,E0.1,B8.1,Ar C3.1 C2.1.size⟩ (wY (G6.1.blk (i:=5) (by rfl)) (Ar C3.1 G4.1) (by rfl))
    case body=>
     intro l pre ed a' W hi I6 I1;obtain⟨Az,n,c,es,hh,A4,A3,A5⟩:=hi;obtain⟨J,Xt,F3,F2,rfl⟩:=I6;have C3:=zH A5;have E0:=zH A4;have B8:=zH A3;have I3:=ed.2;unfold yN at I3;have C4:=zH (show n<=65536 from by rw[A3,A4,eZZ,eZZ];have h_:=K5.1;omega);have H0:=zH (show Hp w W [.blk X1 22 [.slice A rs.length cap],.blk X6 26 [iV r.x0,iV r.y0,iV r.x1,iV r.y1],.blk A7 49 [iV 0,iV 0,iV 0,iV 0,.slice none 0 0],.blk A0 49 [iV q.x0,iV q.y0,iV q.x1,iV q.y1,.slice Az n c],ro 5 1 Az n c Ay es,.blk Xt 26 [iV ed.1.1,iV ed.1.2,iV (ed.1.1+1),iV (ed.1.2+1)]]from hh.addNew F3 (Ar D6.1 F2) (by simp[At]) (by simp only[List.forall_mem_cons,List.not_mem_nil,false_imp_iff,implies_true,and_true];exact⟨.inl (by simp[Dc.typ]),.inr (fun k hk=>by injection hk with hk;have h_:=C6.1.lt (i:=1) (k:=X6) (by rfl) rfl;omega),.inl (by simp[Dc.typ]),.inl (by simp[Dc.typ]),.inl (by simp[Dc.typ])⟩));clear hh A4 A3 A5 F3 F2;have C5:=zH (show Fr (fun kz=>kz=A0\/Value.ownBlock (.slice Az n c)=some kz) W W from Fr.of_ext (Aa.refl W));have K4:=zH (show(-1048576<=ed.1.1*256/\ed.1.1*256<=1048320)/\ -1048576<=ed.1.2*256/\ed.1.2*256<=1048320 from by omega);gi_upto_region 10 with fail
     refine Ab kR (fun⟨_,_,h⟩=>h) ?_;refine Bq H0.1 _ _ ?_;refine zp (iV (ed.1.1*256)) (by exact eO (by have C9:=C4.1;omega)) ?_;refine Bq H0.1 _ _ ?_;refine zp (iV (ed.1.2*256)) (by exact eO (by have C9:=C4.1;omega)) ?_;refine Cs Ac _ ?_;refine aA 66 [iV 0,iV 0] H0.1 ?_;intro D2 L8 L1 hx B6;have J3:=zH (show W.heap.size<=D2 from Ar C5.1.size B6);have J8:=zH (C5.1.trans (Fr.of_ext hx));clear hx B6;refine aS 6 [iV (ed.1.1*256),iV (ed.1.2*256)] L1.1 ?_;intro A1 A2 hd ho;have J7:=zH (J8.1.trans_new ho (fun j hj=> .inr (by injection hj with hj;rw[<-hj];exact J3.1)));clear hd ho;refine wpList_nil ?_;gi_upto_region 11 with fail
     refine Dx (S:=fun x=>Fr (fun kz=>kz=A0\/Value.ownBlock (.slice Az n c)=some kz) A1 x) kR kR (fun⟨_,_,h⟩=>h) (Fr.of_ext zb) (fun _=> ?_);have G5:=zH (A2.1.step (Aa.refl A1).drew);have J6:=zH (J7.1.trans (Fr.of_ext (Aa.refl A1).drew));refine mX 0 (bs 10 1) (.pointer (some ⟨A0,4,none⟩)) (Fr.of_ext zb) ?_;refine zr 2 (bs 10 5) D2 (0) [iV (ed.1.1*256),iV (ed.1.2*256)] (fun x hx=>Fr.range hx (show World.rangeAt A1 D2 (0) [iV (ed.1.1*256),iV (ed.1.2*256)]from(A2.1.range (i:=6) rR 0 2)) (fun hk=>hk.elim (A2.1.offBlk (i:=6) (j:=3) rR rR dC rR) (A2.1.offRow (i:=6) (j:=4) rR rR dC rR))) Tryz.underlying66 (Fr.of_ext zb) ?_;refine Ec (g:=X1) (o:=0) (v:= .slice A rs.length cap) (i:=3) (listed':=(bs 10 13)) rR kR kR kR (by intro _ _ _ h;exact h) rR (fun x hx=>Fr.cell hx (show World.cell? A1 ⟨X1,0,none⟩=some (.slice A rs.length cap)from Ak (A2.1.range (i:=0) rR 0 1)) (fun hk=>hk.elim (A2.1.offBlk (i:=0) (j:=3) rR rR dC rR) (A2.1.offRow (i:=0) (j:=4) rR rR dC rR))) (by intro x hq;go_simp<;>with_reducible rfl) (Fr.of_ext zb) kR ?_;try simp only[Act.put,zA,zB,zC]
     refine Fd.go (j:=1) (dj:=some 39) (u:= .slice Az n c) ?_;refine Hl (b:=A1) (i:=4) (lj:=(bs 10 15)) (li:=(bs 10 29)) rR rR kR kR kR kR kR dC kR rR rR (fun x_ h_=>Fr.of_ext h_) (Aa.refl A1).drew (fun x_ h_=>(by have B2:=Ak (Bu (show World.rangeAt A1 A0 (4) [.slice Az n c]from A2.1.range (i:=3) rR 4 1) h_);go_simp<;>with_reducible rfl)) rR (by go_simp) kR (Zl (ed.1.1*256) (ed.1.2*256) _ rs _ (HU.1.ext G5.1.ext) HN.1 D9.1 HV.1 (D7.1 HV.1 HRO.1) K4.1) ?_;rintro e E9 ⟨I0,rfl,F1,F4,hx⟩;have L0:=zH (G5.1.step hx);have J5:=zH (J6.1.trans (Fr.of_ext hx));have G2:=zH (show Aa A1 E9 from(Aa.refl A1).drew.trans hx);have J1:=zH (show Fr (fun kz=>kz=A0\/Value.ownBlock (.slice Az n c)=some kz) A1 E9 from(Fr.of_ext zb).trans (Fr.of_ext hx));have J2:=zH F1;have L7:=zH F4;clear F1 F4;have B5:=hx;clear hx;refine⟨_,rfl,B5,?_⟩;try simp only[Act.put,zA,zB,zC]
     clear B5;refine Hl (b:=A1) (i:=5) (lj:=(bs 10 31)) (li:=(bs 10 61)) rR rR kR kR kR kR kR dC kR rR rR (fun x_ h_=>Fr.of_ext h_) G2.1 (fun x_ h_=>(by have B2:=Ak (Bu (show World.rangeAt A1 A0 (4) [.slice Az n c]from A2.1.range (i:=3) rR 4 1) h_);go_simp<;>with_reducible rfl)) rR (by go_simp) kR (Kp I0 (Sf rs (ed.1.1*256,ed.1.2*256)) _ (J2.1.isIn (Ar L7.1 dC))) ?_;rintro e B0 ⟨rfl,hx⟩;have K9:=zH (L0.1.step hx);have J4:=zH (J5.1.trans (Fr.of_ext hx));have G1:=zH (show Aa A1 B0 from G2.1.trans hx);have G3:=zH (J1.1.trans (Fr.of_ext hx));have B5:=hx;clear hx;refine⟨_,rfl,B5,?_⟩;try simp only[Act.put,zA,zB,zC]
     clear B5;refine xO (v:= .slice (some ⟨B0.heap.size,0,none⟩) 1 1) (w':=(B0.alloc (.cells ([.int .u8 (Ls (Sf rs (ed.1.1*256,ed.1.2*256)))]:List Value).toArray 5))) (b:=A1) (i:=6) (lj:=(bs 10 63)) (li:=(bs 10 125)) rR rR kR kR kR kR kR dC kR rR rR (fun x_ h_=>Fr.of_ext h_) G1.1 (fun x_ h_=>(by have B2:=Ak (Bu (show World.rangeAt A1 A0 (4) [.slice Az n c]from A2.1.range (i:=3) rR 4 1) h_);go_simp<;>with_reducible rfl)) rR (by go_simp) ((Aa.refl B0).alloc _) kR ?_;try simp only[Act.put,zA,zB,zC]
     refine My rR kR rR rR (G3.1.trans (Fr.of_ext ((Aa.refl B0).alloc _))) (aAC (p:=⟨A0,4,none⟩) (by intro x hq;go_simp<;>with_reducible rfl) _ (Ak (Bu (show World.rangeAt A1 A0 (4) [.slice Az n c]from A2.1.range (i:=3) rR 4 1) (G1.1.trans ((Aa.refl B0).alloc _))))) (show _=(bs 10 127)by kernel_rfl) ?_;try simp only[Act.put,zA,zB,zC]
     refine oK (j:=7) (listed':=(bs 10 255)) rR kR rR _ _ _ rR yX rR K9.1 (ix:=4) rR 1 1 [.int .u8 (Ls (Sf rs (ed.1.1*256,ed.1.2*256)))] rR rfl (by simp[Value.oneCell']) (by simp[At]) dC (by unfold maxLen;exact(by have C9:=C4.1;omega)) (by have C9:=C4.1;omega) kR ?_;intro G0 B7 E8 hf hh hd hg;have L6:=zH hf;clear hf;rw[show List.flatMap Ay es++[.int .u8 (Ls (Sf rs (ed.1.1*256,ed.1.2*256)))]=_ from Hc Ay _ (Ls (Sf rs (ed.1.1*256,ed.1.2*256)))]at hh;have E7:=hN hh;have D5:=zH (show Fr (fun kz=>kz=A0\/Value.ownBlock (.slice Az n c)=some kz) W E8 from(J4.1.trans (Fr.of_ext (Al.alloc _))).trans_new hg (fun j hj=> .inl (.inr hj)));have A8:=zH (show Fr (fun kz=>kz=A0\/Value.ownBlock (.slice Az n c)=some kz) A1 E8 from Fr.trans_new (G3.1.trans (Fr.of_ext (Al.alloc _))) hg (fun j hj=> .inl (.inr hj)));clear hh hd hg;refine⟨A8.1,?_⟩;try simp only[Act.put,zA,zB,zC]
     refine zx 8 (bs 10 511) (.pointer (some ⟨A0,4,none⟩)) A8.1 ?_;refine vV (i:=9) (listed':=(bs 10 1023)) rR kR rR kR _ _ _ rR E7.1 (ix:=3) rR 4 (.slice (some ⟨G0,0,none⟩) (n+1) B7) rR rR (by simp) kR (by simp[Value.cells]) (by simp[Value.oneCell']) (by simp[At]) ?_;intro H9 hh hd ho;have E6:=hN hh;have A9:=zH (D5.1.trans_new ho (fun j hj=> .inl (.inl (by injection hj with hj;exact hj.symm))));have D3:=zH (Fr.trans_new A8.1 ho (fun j hj=> .inl (.inl (by injection hj with hj;exact hj.symm))));clear hh hd ho;refine⟨D3.1,?_⟩
     (try simp only[Act.put])
     refine wpAnyH_done kR ?_ _;gi_wp2
     exact⟨(KeepsFrom.of_fr A9.1 (fun k hk o ho=>hk.elim (fun e=>H0.1.cells (i:=3) (by rfl) (by rw[e];rfl) o ho) (fun e=>H0.1.cells (i:=4) (by rfl) (by exact e) o ho))),oN A9.1 (H0.1.row (i:=4) (by rfl)),some ⟨G0,0,none⟩,n+1,B7,es++[(Ls (Sf rs (ed.1.1*256,ed.1.2*256)))],E6.1.take 5,(by rw[E0.1,jXX,jXX];rfl),(by rw[aZZ,<-B8.1];rfl),Ar C3.1 A9.1.size⟩
    rintro Dz xs W hD F0 ⟨Az,n,c,es,hh,A4,A3,A5⟩ hK;have H0:=zH hh;have B8:=zH A3;have HD:=zH hK;have K8:=zH hD;have K7:=zH (show Ke q (uE rs) es from nP (by rw[A4,F0]) HB.1.2.1 HB.1.2.2);clear hh A4 A3 A5 F0 hK hD;have C5:=zH (show Fr (fun kz=>kz=A7) W W from Fr.of_ext (Aa.refl W));go_upto_region 12 with fail
    refine wl ?_;refine Cs H0.1 _ ?_;refine aS 2 [iV q.x0,iV q.y0,iV q.x1,iV q.y1,.slice Az n c] H0.1 ?_;intro B4 E5 hd ho;have D4:=zH (C5.1.trans_new ho (fun j hj=> .inl (by injection hj with hj;exact hj.symm)));clear hd ho;refine zq (iV 0) ?_;go_wp2_with fail
    have F5:B4.heap[Dz]?=some (.deferred (some [])):=(D4.1.block Dz (Array.getElem?_eq_some_iff.1 HD.1).1 (fun e=>by have h1:=H0.1.cells (i:=2) (k:=Dz) (by rfl) (by rw[e];rfl) _ HD.1;cases h1)).trans HD.1;refine⟨by simp,.inl ⟨_,_,rfl,run_takeDeferred F5,?_⟩⟩;have A6:=E5.1.kept (grownBy_putObj' B4 Dz (.deferred none)) (fun k hk=>by injection hk with hk;subst hk;exact⟨Ar D6.1 K8.1,_,F5,rfl⟩);have HE:=zH (show qJ rs r=0 from(if_pos HV.1).trans ((if_pos HRO.1).trans (if_pos HA.1)));exact⟨_,Aq rfl rfl ((A6.blk (i:=2) (by rfl)).loadVar rfl rfl (by rfl)) rfl,q,Az,n,c,es,by rw[HE.1]<;>rfl,B8.1,A6.row (i:=4) (by rfl),fun _=>⟨HQ.1.symm,by rw[HQ.1];exact K7.1,HA.1⟩,fun h_=>absurd HE.1 h_,A6.ext⟩
   go_upto_region 5 with fail
   refine wl ?_;refine Cs C7.1 _ ?_;refine aC C7.1 (Nz r _) ?_;intro H7 E4 _;refine zp (.bool true) (by exact Tw (e:=(Ae (by have h_:=HA.1;omega)))) ?_;refine zq (.bool true) ?_;go_upto_region 6 with fail
   refine wl ?_;refine Cs Ac _ ?_;refine Cy 2 [iV 0,iV 0,iV 0,iV 0,.slice none 0 0] E4.1 ?_;intro H6 C1 _;refine zq (iV 5) ?_;have HE:=zH (show qJ rs r=5 from(if_pos HV.1).trans ((if_pos HRO.1).trans (if_neg HA.1)));go_wp2_with fail
   exact⟨_,Aq rfl rfl ((C1.1.blk (i:=2) (by rfl)).loadVar rfl rfl (by rfl)) rfl,R4.zero,none,0,0,[],by rw[HE.1]<;>rfl,rfl,Be.nil _ _ _ _,fun h_=>absurd h_ (by rw[HE.1];decide),fun _=>⟨rfl,rfl⟩,C1.1.ext⟩
  have K6:=zH (Bool.eq_false_iff.2 HRO.1);go_upto_region 3 with fail
  refine wl ?_;refine Cs C8.1 _ ?_;refine aC C8.1 ((Qj r _).mono fun _ _ h_=>(⟨h_.1.trans (by rw[K6.1]),h_.2⟩:_=Ending.returned (.bool false)/\Aa _ _)) ?_;intro H5 E3 _;refine Bq Ac (.bool true) (.bool true) ?_;go_upto_region 4 with fail
  refine wl ?_;refine Cs Ac _ ?_;refine Cy 2 [iV 0,iV 0,iV 0,iV 0,.slice none 0 0] E3.1 ?_;intro H4 C0 _;refine zq (iV 6) ?_;have HE:=zH (show qJ rs r=6 from(if_pos HV.1).trans (if_neg HRO.1));go_wp2_with fail
  exact⟨_,Aq rfl rfl ((C0.1.blk (i:=2) (by rfl)).loadVar rfl rfl (by rfl)) rfl,R4.zero,none,0,0,[],by rw[HE.1]<;>rfl,rfl,Be.nil _ _ _ _,fun h_=>absurd h_ (by rw[HE.1];decide),fun _=>⟨rfl,rfl⟩,C0.1.ext⟩
 have K0:=zH (Bool.eq_false_iff.2 HV.1);go_upto_region 1 with fail
 refine wl ?_;refine Cs B3.1 _ ?_;refine zc (Cc _ rs _ (HU.1.ext B3.1.ext) HN.1 D9.1) ?_;rintro e H2 ⟨rfl,hx⟩;have E2:=zH (B3.1.step hx);clear hx;refine⟨.bool false,by rw[K0.1],?_⟩;try simp only[Act.put,zA,zB,zC]
 refine qV (.bool true) ?_;refine zq (.bool true) ?_;go_upto_region 2 with fail
 refine wl ?_;refine Cs Ac _ ?_;refine Cy 2 [iV 0,iV 0,iV 0,iV 0,.slice none 0 0] E2.1 ?_;intro H1 B9 _;refine zq (iV 12) ?_;have HE:=zH (show qJ rs r=12 from if_neg HV.1);go_wp2_with fail
 exact⟨_,Aq rfl rfl ((B9.1.blk (i:=2) (by rfl)).loadVar rfl rfl (by rfl)) rfl,R4.zero,none,0,0,[],by rw[HE.1]<;>rfl,rfl,Be.nil _ _ _ _,fun h_=>absurd h_ (by rw[HE.1];decide),fun _=>⟨rfl,rfl⟩,B9.1.ext⟩
end
section
theorem rL {w:World}{b n c:Nat}{A:Option Addr}{es:List Int}(hr:Be w b 5 1 (.slice A n c) n (List.flatMap Ay es)):(convert 47 9 (.slice A n c)).run Tryz.prog w= .ok (.string (strOfNums es)) w:=by
 obtain⟨h1,⟨e,h0⟩|⟨g,A0,rest,e,_,hb,_⟩⟩:=id hr
 ·injection e with e1 e2 e3
  subst e1;have hz:es=[]:=by
   cases es with
   |nil=>rfl
   |cons x l=>simp[Ay]at h1;omega
  subst hz;exact run_convert_bytes_nil w 47 5 Tryz.underlying47 Tryz.underlying5 n c 9 Tryz.underlying9
 injection e with e1 e2 e3
 subst e1;have hl:es.length=n:=by rw[Dj Gl]at h1;omega
 refine run_convert_bytes_arg w 47 5 Tryz.underlying47 Tryz.underlying5 g 0 n c es hl (fun i hi=> ?_) 9 Tryz.underlying9;have hg:es[i]?=some (es.getD i 0):=by simp[List.getD,aQQ (show i<es.length by omega)]
 have h2:=Hv Gl es i _ hg 0 (.int .u8 (es.getD i 0)) rfl;rw[nQQ,mQQ]at h2;rw[dZZ,hb.cell,aXX,dQQ (List.getElem?_eq_some_iff.1 h2).1];exact h2
theorem pA {o:Oper}{ρ:Operand->Value}{w:World}{b n c:Nat}{A:Option Addr}{es:List Int}{s:ByteArray}{x:Operand}(ho:o.op= .convert 47 9 x)(hx:ρ x= .slice A n c)(hr:Be w b 5 1 (.slice A n c) n (List.flatMap Ay es))(hs:strOfNums es=s):(execOp ρ o).run Tryz.prog w= .ok (.value (.string s)) w:=by
  subst hs;have h:=rL hr;unfold execOp;simp only[ho,hx];simp[go_sem,h]
theorem tL {P:Program}{o:Oper}{ρ:Operand->Value}{w:World}{s s':ByteArray}{b:Bool}{t t':TypeId}{x y:Operand}(ho:o.op= .binOp .neq t x y t')(hx:ρ x= .string s)(hy:ρ y= .string s')(hE:(!(s.toList==s'.toList))=b):(execOp ρ o).run P w= .ok (.value (.bool b)) w:=by
  subst hE;unfold execOp;simp only[ho,hx,hy];simp[go_sem]
theorem tO {P:Program}{o:Oper}{ρ:Operand->Value}{w:World}{s s':ByteArray}{b:Bool}{t t':TypeId}{x y:Operand}(ho:o.op= .binOp .eql t x y t')(hx:ρ x= .string s)(hy:ρ y= .string s')(hE:(s.toList==s'.toList)=b):(execOp ρ o).run P w= .ok (.value (.bool b)) w:=by
  subst hE;unfold execOp;simp only[ho,hx,hy];simp[go_sem]
end
section
open Go.ChangeShapes Go.WideShapes Go.ChangeAt Go.RowKit
theorem own:ownKnob Tryz.prog.godebug=none:=by kernel_rfl
theorem gO:laidOutB Tryz.prog=true:=by kernel_rfl
theorem Wp:Tryz.prog.cellsOf 3=1:=by kernel_rfl
theorem Ub:Tryz.prog.cellsOf 41=2:=by kernel_rfl
theorem Xv {P:Program}{w:World}{r:Reach}{base:Nat}{t e:TypeId}{n:Nat}{v:Value}(ht:P.underlying t=some (.array n e))(h:Value.okWide P w r base t v):∃cs,v= .agg cs/\cs.size=P.cellsOf t:=by
  simp only[Value.okWide,ht]at h;obtain⟨cs,h1,h2,_⟩:=h;exact⟨cs,h1,h2⟩
section
variable {H:Type} {enc:TypeId×Value->H} {w:World} {base:Nat} {spare:Nat->Bool} {held:Bool}
theorem aBP {fuel:Nat}{cs:List Value}{x:DataW H×List MemPlace}(h:DataW.trod enc Tryz.prog w base spare held fuel 41 cs=some x):∃a:Int×Int,cs=[.int .i64 a.1,.int .i64 a.2]:=by
  obtain⟨y0,y1,n,_,hl,h0,h1⟩:=trod_struct2 Tryz.underlying41 h;rw[Ub]at hl;rw[Wp]at h0 h1;obtain⟨a,e0,_,_⟩:=DataW.trod_int Tryz.underlying3 h0;obtain⟨b,e1,_,_⟩:=DataW.trod_int Tryz.underlying3 h1;match cs,hl with
  | [u,v],_=>
    simp at e0 e1;exact⟨(a,b),by rw[e0,e1]⟩
end
section
variable {H:Type} {enc:TypeId×Value->H} {P:Program} {w:World} {base:Nat} {spare:Nat->Bool} {held:Bool}
theorem Rz {t e:TypeId}{fuel:Nat}{cs:List Value}{x:DataW H×List MemPlace}(ht:P.underlying t=some (.slice e))(hs:0<P.cellsOf e)(h:DataW.trod enc P w base spare held fuel t cs=some x):
    ∃ A len cap,cs=[.slice A len cap]/\len<=cap/\cap<=maxLen/\(0<len->∃g off,A=some ⟨g,off,none⟩/\∀i,i<len->∃(cs':List Value) (n:Nat) (y:DataW H×List MemPlace),cs'.length=P.cellsOf e/\
      (∀j u,cs'[j]?=some u->w.cell? ⟨g,off+i*P.cellsOf e+j,none⟩=some u)/\DataW.trod enc P w base spare held n e cs'=some y):=by
  rcases Deep.open_slice ht h with⟨rfl,_⟩|⟨a,len,cap,m,n,D,Pl,rfl,hb,hl,hm,hmm,_,hx⟩
  · exact⟨none,0,0,rfl,Cj _,eQQ _,fun h0=>absurd h0 (by omega)⟩
  refine⟨some a,len,cap,rfl,hl,hm,fun h0=> ?_⟩;have A5:len<=m:=by rw[hmm];split<;>omega
  have A2:a.spot=none:=by
    obtain⟨cs',h1,h2⟩:=hx 0 (by omega);obtain⟨_,A1,A0⟩:=World.cells?_some h1;have g0:=A0 0 hs;cases hq:a.spot with
    |none=>rfl
    | some s=>
      exfalso;obtain⟨c0,A4⟩:∃c0,cs'[0]?=some c0:=by
        cases cs' with
        |nil=>simp at A1;omega
        |cons c _=>exact⟨c,rfl⟩
      rw[A4]at g0;have e:((a.add (0*P.cellsOf e)).add 0).spot=some s:=by simp[Addr.add,hq]
      unfold World.cell? at g0;rw[e]at g0;revert g0
      split<;>simp
  obtain⟨g,off,sp⟩:=a;obtain rfl:sp=none:=A2;refine⟨g,off,rfl,fun i hi=> ?_⟩;obtain⟨cs',h1,h2⟩:=hx i (by omega);obtain⟨_,A1,A0⟩:=World.cells?_some h1;refine⟨cs',n,_,A1,fun j u hj=> ?_,h2⟩;have A3:j<P.cellsOf e:=by
    have:=(List.getElem?_eq_some_iff.1 hj).1;omega
  have g1:=A0 j A3;rw[hj]at g1;have e:((⟨g,off,none⟩:Addr).add (i*P.cellsOf e)).add j=⟨g,off+i*P.cellsOf e+j,none⟩:=by
    rw[Deep.add_add];unfold Addr.add;by_cases hz:i*P.cellsOf e+j=0
    · rw[if_pos hz]
      congr 1;omega
    rw[if_neg hz];congr 1;show off+(i*P.cellsOf e+j)=off+i*P.cellsOf e+j;omega
  rw[e]at g1;exact g1
end
theorem gF {α:Type}[Inhabited α](n:Nat)(p:Nat->α->Prop)(h:∀i,i<n->∃x,p i x):∃l:List α,l.length=n/\∀i (d:α),i<n->p i (l.getD i d):=by
  obtain⟨f,hf⟩:=Deep.choose_lt (p:=p) h;refine⟨(List.range n).map f,by simp,fun i d hi=> ?_⟩;have e:((List.range n).map f).getD i d=f i:=by simp[List.getD,hi]
  rw[e];exact hf i hi
section
variable {H:Type} {enc:TypeId×Value->H} {w:World} {base:Nat} {held:Bool}
end
theorem Hw:Tryz.prog.cellsOf 39=1:=by kernel_rfl
instance:Inhabited RV:=⟨⟨false,none,0,0,false,none,0,0⟩⟩
section
variable {H:Type} {enc:TypeId×Value->H} {w:World} {base:Nat} {held:Bool}
theorem dQ {fuel:Nat}{cs:List Value}{x:DataW H×List MemPlace}(h:DataW.trod enc Tryz.prog w base (fun _=>true) held fuel 39 cs=some x):
  ∃(A:Option Addr) (l:Av) (cap:Nat),cs=[.slice A l.length cap]/\l.length<=maxLen/\Gr w (.slice A l.length cap) l:=by
 obtain⟨A,A0,cap,rfl,hl,hm,hx⟩:=Rz Tryz.underlying39 (by rw[Ub];decide) h;by_cases h0:0<A0
 ·obtain⟨g,A1,rfl,A2⟩:=hx h0
  rw[Ub]at A2;obtain⟨l,rfl,A3⟩:=gF (α:=Int×Int) A0 (fun i s=>∀j u,[Value.int .i64 s.1,.int .i64 s.2][j]?=some u->w.cell? ⟨g,A1+i*2+j,none⟩=some u) (fun i hi=>by
   obtain⟨A4,n,y,_,h2,h3⟩:=A2 i hi;obtain⟨s,rfl⟩:=aBP h3;exact⟨s,h2⟩)
  refine⟨_,l,cap,rfl,by omega,_,cap,rfl,fun _=>⟨g,A1,rfl,fun i hi=> ?_⟩⟩;have h:=A3 i (0,0) hi;exact⟨h 0 _ rfl,h 1 _ rfl⟩
 obtain rfl:A0=0:=by omega
 exact⟨A,[],cap,rfl,eQQ _,A,cap,rfl,fun hn=>absurd rfl hn⟩
theorem Zs {fuel:Nat}{cs:List Value}{x:DataW H×List MemPlace}(h:DataW.trod enc Tryz.prog w base (fun _=>true) held fuel 22 cs=some x):
  ∃(A:Option Addr) (l:List Av) (cap:Nat),cs=[.slice A l.length cap]/\l.length<=maxLen/\Cu w (.slice A l.length cap) l/\∀r,r∈l->r.length<=maxLen:=by
 obtain⟨A,A0,cap,rfl,hl,hm,hx⟩:=Rz Tryz.underlying22 (by rw[Hw];decide) h;by_cases h0:0<A0
 ·obtain⟨g,A1,rfl,A2⟩:=hx h0
  rw[Hw]at A2;obtain⟨l,rfl,A3⟩:=gF (α:=Av) A0 (fun i r=>(∃B cb,w.cell? ⟨g,A1+i,none⟩=some (.slice B r.length cb)/\Gr w (.slice B r.length cb) r)/\r.length<=maxLen) (fun i hi=>by
   obtain⟨A4,n,y,_,h2,h3⟩:=A2 i hi;obtain⟨B,r,cb,rfl,hr,hp⟩:=dQ h3;have:=h2 0 _ rfl;simp only[nQQ,mQQ]at this;exact⟨r,⟨B,cb,this,hp⟩,hr⟩)
  refine⟨_,l,cap,rfl,by omega,⟨_,cap,rfl,fun _=>⟨g,A1,rfl,fun i x hx=> ?_⟩⟩,fun x hx=> ?_⟩
  ·have h:=(A3 i [] (List.getElem?_eq_some_iff.1 hx).1).1
   rw[bQQ,hx]at h;exact h
  obtain⟨i,hi⟩:=List.mem_iff_getElem?.1 hx;have h:=(A3 i [] (List.getElem?_eq_some_iff.1 hi).1).2;rw[bQQ,hi]at h;exact h
 obtain rfl:A0=0:=by omega
 exact⟨A,[],cap,rfl,eQQ _,⟨A,cap,rfl,fun hn=>absurd hn (by simp)⟩,fun x hx=>by simp at hx⟩
end
end
section
attribute [local go_sem ↓] Go.wp_at_zero Go.wp_at_succ Aj Ai
theorem Vj {w0 w:World}{m:List Dc}{i j X1 X2:Nat}(h:Hp w0 w m)(ps:List (Int×Int))(h1:m[i]?=some (.blk X1 41 (ps.flatMap fun p=>[iV p.1,iV p.2])))
  (h2:m[j]?=some (.blk X2 39 [.slice (some ⟨X1,0,none⟩) ps.length ps.length])):Cu w (.slice (some ⟨X2,0,none⟩) 1 1) [ps]:=by
 refine⟨_,1,rfl,fun _=>⟨X2,0,rfl,fun i r hr=> ?_⟩⟩;have hi:i=0:=by have:=(List.getElem?_eq_some_iff.1 hr).1;simp at this;omega
 subst hi;have A0:r=ps:=by simpa using hr.symm
 subst A0;refine⟨_,r.length,h.cell h2 0 rfl,⟨_,r.length,rfl,fun _=>⟨X1,0,rfl,fun i hi=> ?_⟩⟩⟩;have hp:r[i]?=some r[i]:=aQQ hi;have hg:r.getD i (0,0)=r[i]:=by simp[hi]
 rw[hg];have h3:=h.cell h1 (i*2+0) (Hv (f:=fun p:Int×Int=>([iV p.1,iV p.2]:List Value)) (fun _=>rfl) r i r[i] hp 0 _ rfl);have h4:=h.cell h1 (i*2+1) (Hv (f:=fun p:Int×Int=>([iV p.1,iV p.2]:List Value)) (fun _=>rfl) r i r[i] hp 1 _ rfl);rw[mQQ]at h3;rw[dZZ];exact⟨h3,h4⟩
theorem aB (a b:Int)(w:World)(h1: -9223372036854775808<=a)(h2:a<=9223372036854775807)(h3: -9223372036854775808<=b)(h4:b<=9223372036854775807)(hb:b≠0):
    Calls Tryz.prog 18 #[iV a,iV b] w fun e w'=>∃c,e= .returned (.tuple #[.agg c,iV 0])/\Mo w' c ((a:Rat)/(b:Rat))/\Aa w w':=by
  refine(Sr a b w h1 h2 h3 h4 hb).mono fun e w' h=> ?_
  obtain⟨c,rfl,h3,h4⟩:=Lu.v h;exact⟨_,rfl,⟨c,rfl,by rw[<-Rat.divInt_eq_div];exact h3⟩,h4⟩
def Gi:List Av:=[[(0,0),(256,0),(0,256)]]
def qU:List Av:=[[(0,256),(256,0),(0,0)]]
theorem vG {L:Nat}{w:World}{cs:Array Value}{q:Rat}(hp:Gy L w cs q)(hL:L<=60000):
    Calls Tryz.prog 12 #[.agg cs] w fun e w'=>∃c,e= .returned (.agg c)/\Mo w' c (-q)/\Aa w w':=by
  obtain⟨a,rfl,h1⟩:=hp;refine(jB _ _ _ _ L q w h1 (by omega)).mono fun e w' h=> ?_
  obtain⟨c,rfl,h3,h4⟩:=Ih.v h;exact⟨_,rfl,⟨c,rfl,h3⟩,h4⟩
theorem pU {r:R4}(h:r.emp=false):r.can=r:=if_neg (by rw[h];decide)
theorem kP {es:List Int}(h:Ke (⟨-1,0,2,1⟩:R4).can (Fo 1 Gi) es):es=[0,128,0]:=by
  rw[pU (by decide)]at h;refine h.ext ⟨by decide,fun x y hi=> ?_⟩ dC dC;obtain⟨⟨a,b⟩,c,d⟩:=hi;simp only at a b c d;obtain rfl:y=0:=by omega
  rcases(by omega:x= -1\/x=0\/x=1)with rfl|rfl|rfl<;>decide+kernel
theorem kQ {es:List Int}(h:Ke (⟨0,0,1,1⟩:R4).can (uE Gi) es):es=[128]:=by
  rw[pU (by decide)]at h;refine h.ext ⟨by decide,fun x y hi=> ?_⟩ dC dC;obtain⟨⟨a,b⟩,c,d⟩:=hi;simp only at a b c d;obtain rfl:y=0:=by omega
  obtain rfl:x=0:=by omega
  decide+kernel
theorem Rl:(fC (Fo 2 Gi) (⟨-3,-3,4,4⟩:R4).can).x0=0/\(fC (Fo 2 Gi) (⟨-3,-3,4,4⟩:R4).can).y0=0/\(fC (Fo 2 Gi) (⟨-3,-3,4,4⟩:R4).can).x1=1/\(fC (Fo 2 Gi) (⟨-3,-3,4,4⟩:R4).can).y1=1:=by decide+kernel
section
variable (A:Option Addr) (w:World) (hu:Cu w (.slice A Gi.length 1) Gi)
include hu
theorem yT:Calls Tryz.prog 13 #[.slice A Gi.length 1,iV 1,.agg #[iV (-1),iV 0,iV 2,iV 1]] w fun e w'=>∃(A:Option Addr) (c:Nat),e= .returned (.tuple #[.agg #[iV (-1),iV 0,iV 2,iV 1,.slice A 3 c],iV 0])/\Be w' w.heap.size 5 1 (.slice A 3 c) 3 (List.flatMap Ay [0,128,0])/\Aa w w':=by
 refine(En A 1 Gi 1 ⟨-1,0,2,1⟩ w hu dC (by intro r_ A0;simp[Gi]at A0;subst A0;decide) (fun _ _=>by decide) dC).mono fun e w' h=> ?_
 obtain⟨A,n,c,es,rfl,h1,h2,h3,_,hx⟩:=Ep.ok h (by decide);obtain rfl:=kP h3;have h1:n=3:=h1;subst h1;exact⟨A,c,rfl,h2,hx⟩
theorem yS:Calls Tryz.prog 13 #[.slice A Gi.length 1,iV 3,.agg #[iV 0,iV 0,iV 1,iV 1]] w fun e w'=>∃(A:Option Addr) (c:Nat),e= .returned (.tuple #[.agg #[iV 0,iV 0,iV 0,iV 0,.slice A 0 c],iV 2])/\Be w' w.heap.size 5 1 (.slice A 0 c) 0 (List.flatMap Ay [])/\Aa w w':=by
 refine(En A 1 Gi 3 ⟨0,0,1,1⟩ w hu dC (by intro r_ A0;simp[Gi]at A0;subst A0;decide) (fun _ _=>by decide) dC).mono fun e w' h=> ?_
 obtain⟨A,c,rfl,h2,hx⟩:=Ep.bad h (by decide);exact⟨A,c,rfl,h2,hx⟩
theorem yR:Calls Tryz.prog 13 #[.slice A Gi.length 1,iV 1,.agg #[iV (-200),iV (-200),iV 200,iV 200]] w fun e w'=>∃(A:Option Addr) (c:Nat),e= .returned (.tuple #[.agg #[iV 0,iV 0,iV 0,iV 0,.slice A 0 c],iV 5])/\Be w' w.heap.size 5 1 (.slice A 0 c) 0 (List.flatMap Ay [])/\Aa w w':=by
 refine(En A 1 Gi 1 ⟨-200,-200,200,200⟩ w hu dC (by intro r_ A0;simp[Gi]at A0;subst A0;decide) (fun _ _=>by decide) dC).mono fun e w' h=> ?_
 obtain⟨A,c,rfl,h2,hx⟩:=Ep.bad h (by decide);exact⟨A,c,rfl,h2,hx⟩
theorem yV:Calls Tryz.prog 20 #[.slice A Gi.length 1,iV 2,.agg #[iV (-3),iV (-3),iV 4,iV 4]] w fun e w'=>e= .returned (.tuple #[.agg #[iV 0,iV 0,iV 1,iV 1],iV 0])/\Aa w w':=by
 refine(uB A 1 Gi 2 ⟨-3,-3,4,4⟩ w hu dC (by intro r_ A0;simp[Gi]at A0;subst A0;decide) (fun _ _=>by decide) dC).mono fun e w' h=> ?_
 obtain⟨rfl,hx⟩:=h;rw[show aAJ 2 Gi ⟨-3,-3,4,4⟩=fC (Fo 2 Gi) (⟨-3,-3,4,4⟩:R4).can from if_pos (by decide),Rl.1,Rl.2.1,Rl.2.2.1,Rl.2.2.2];exact⟨rfl,hx⟩
theorem yW:Calls Tryz.prog 21 #[.slice A Gi.length 1,.agg #[iV 0,iV 0,iV 1,iV 1]] w fun e w'=>∃(A:Option Addr) (c:Nat),e= .returned (.tuple #[.agg #[iV 0,iV 0,iV 1,iV 1,.slice A 1 c],iV 0])/\Be w' w.heap.size 5 1 (.slice A 1 c) 1 (List.flatMap Ay [128])/\Aa w w':=by
 refine(uD A 1 Gi ⟨0,0,1,1⟩ w hu dC (by intro r_ A0;simp[Gi]at A0;subst A0;decide) (fun _ _=>by decide)).mono fun e w' h=> ?_
 obtain⟨A,n,c,es,rfl,h1,h2,h3,_,hx⟩:=Ep.ok h (by decide);obtain rfl:=kQ h3;have h1:n=1:=h1;subst h1;exact⟨A,c,rfl,h2,hx⟩
theorem yQ:Calls Tryz.prog 23 #[.slice A Gi.length 1,iV 1,iV 0,iV 0] w fun e w'=>e= .returned (.int .u8 128)/\Aa w w':=by
  refine(Kr A 1 Gi 1 0 0 w hu dC (by intro r_ A0;simp[Gi]at A0;subst A0;decide) (fun _=>by decide) dC).mono fun e w' h=> ?_
  rw[show Fo 1 Gi 0 0=128 by decide+kernel]at h;exact h
end
theorem yP (A:Option Addr)(w:World)(hu:Cu w (.slice A 1 1) qU):Calls Tryz.prog 8 #[.slice A 1 1,iV 0,iV 0] w fun e w'=>∃r:RV,e= .returned (.tuple #[.agg #[.bool r.n,.slice r.p r.l r.c,.bool r.m,.slice r.p2 r.l2 r.c2],iV 0])/\r.Is w' (-(((1:Int):Rat)/((2:Int):Rat)))/\Aa w w':=by
 refine(dK A 1 qU 0 0 w hu dC (by intro r_ A0;simp[qU]at A0;subst A0;decide) (fun _=>by decide) dC dC).mono fun e w' h=> ?_
 obtain⟨r,rfl,h1,_,hx⟩:=Uf.ok h (by decide);exact⟨r,rfl,(show Sf qU (0*256,0*256)= -(((1:Int):Rat)/((2:Int):Rat))by decide+kernel)▸h1,hx⟩
theorem yU (r:RV)(w:World)(h:r.Is w (((1:Int):Rat)/((2:Int):Rat)))(hl:Nm.rl (((1:Int):Rat)/((2:Int):Rat))<=8):Calls Tryz.prog 22 #[.agg #[.bool r.n,.slice r.p r.l r.c,.bool r.m,.slice r.p2 r.l2 r.c2]] w fun e w'=>e= .returned (.int .u8 128)/\Aa w w':=by
  refine(Kp r (((1:Int):Rat)/((2:Int):Rat)) w (h.isIn (Ar hl dC))).mono fun e w' h=> ?_
  rw[show Ls (((1:Int):Rat)/((2:Int):Rat))=128 by decide+kernel]at h;exact h
theorem Ij (w:World):Calls Tryz.prog 19 #[] w fun e w'=>∃g,e= .returned (.slice (some ⟨g,0,none⟩) Gi.length 1)/\Cu w' (.slice (some ⟨g,0,none⟩) Gi.length 1) Gi/\Aa w w':=by
 go_enter Tryz.func19,Tryz.ntmps19
 have H0:=zH (Hp.start w);go_upto_region 0 with fail
 refine wl ?_;refine Cs Ac _ ?_;go_upto_region 1 with fail
 refine wl ?_;refine Dh Ac _ _ _ ?_;refine cS 3 41 [iV 0,iV 0,iV 256,iV 0,iV 0,iV 256] H0.1 ?_;intro X5 w6 H7 _;refine cS 1 39 [.slice (some ⟨X5,0,none⟩) 3 3] H7.1 ?_;intro X9 A1 A0 _;refine Cs Ac _ ?_;go_wp2_with fail
 go_ret
 exact⟨_,rfl,Vj A0.1 [(0,0),(256,0),(0,256)] (i:=0) (j:=1) (by rfl) (by rfl),A0.1.ext⟩
set_option maxRecDepth 200000 in
theorem Fe (w:World):Calls Tryz.prog 7 #[] w fun e w'=>e= .returned (.bool true)/\Aa w w':=by
 go_enter Tryz.func7,Tryz.ntmps7
 have H0:=zH (Hp.start w);go_upto_region 0 with fail
 refine wl ?_;refine zq (.bool false) ?_;go_upto_region 1 with fail
 refine wl ?_;refine zc (aB 1 2 _ dC dC dC dC dC) ?_;rintro e O1 ⟨c_,rfl,D1,hx⟩;have L2:=zH (H0.1.step hx);obtain⟨B0,rfl,A1⟩:=D1;have H3:=zH A1;have H4:=zH (show Nm.rl (((1:Int):Rat)/((2:Int):Rat))<=8 from by decide+kernel);clear A1 hx;refine zn ?_;refine Dh Ac _ _ _ ?_;refine Cm 33 rz L2.1 ?_;intro C7 O0 L1 M7;refine Cy 0 (rc B0) L1.1 ?_;intro N9 L0 M6;refine zq (iV 0) ?_;go_upto_region 2 with fail
 refine wl ?_;refine zc (Ij _) ?_;rintro e N8 ⟨O5,rfl,A1,hx⟩;have K9:=zH (L0.1.step hx);have M5:=zH (Af.of_ext hx);have E2:=zH A1;clear A1 hx;refine zn ?_;refine Cs Ac _ ?_;refine zc (yT _ _ (E2.1)) ?_;rintro e H7 ⟨A6,A4,rfl,A0,hx⟩;have K8:=zH (show Hp w H7 [.blk C7 33 (rc B0),ro 5 1 A6 3 A4 Ay ([0,128,0])]from K9.1.addRow hx A0);have M4:=zH (Af.of_ext hx);clear A0 hx;refine zn ?_;refine Dh Ac _ _ _ ?_;refine Cm 49 [iV 0,iV 0,iV 0,iV 0,.slice none 0 0] K8.1 ?_;intro D3 N7 K7 M3;refine Cy 2 [iV (-1),iV 0,iV 2,iV 1,.slice A6 3 A4] K7.1 ?_;intro N6 K6 M2;refine zq (iV 0) ?_;go_upto_region 3 with fail
 refine wl ?_;refine zc (Ij _) ?_;rintro e N5 ⟨O4,rfl,A1,hx⟩;have K5:=zH (K6.1.step hx);have M1:=zH (Af.of_ext hx);have E1:=zH A1;clear A1 hx;refine zn ?_;refine Cs Ac _ ?_;refine aC K5.1 (yV _ _ (E1.1)) ?_;intro N4 K4 M0;refine Dh Ac _ _ _ ?_;refine Cm 26 [iV 0,iV 0,iV 0,iV 0] K4.1 ?_;intro D2 N3 K3 L9;refine Cy 3 [iV 0,iV 0,iV 1,iV 1] K3.1 ?_;intro N2 K2 L8;refine zq (iV 0) ?_;go_upto_region 4 with fail
 refine wl ?_;refine zc (Ij _) ?_;rintro e N1 ⟨O3,rfl,A1,hx⟩;have K1:=zH (K2.1.step hx);have L7:=zH (Af.of_ext hx);have E0:=zH A1;clear A1 hx;refine zn ?_;refine Cs Ac _ ?_;refine zc (yS _ _ (E0.1)) ?_;rintro e H6 ⟨B2,B1,rfl,A0,hx⟩;have K0:=zH (show Hp w H6 [.blk C7 33 (rc B0),ro 5 1 A6 3 A4 Ay ([0,128,0]),.blk D3 49 [iV (-1),iV 0,iV 2,iV 1,.slice A6 3 A4],.blk D2 26 [iV 0,iV 0,iV 1,iV 1],ro 5 1 B2 0 B1 Ay ([])]from K1.1.addRow hx A0);have L6:=zH (Af.of_ext hx);clear A0 hx;refine zn ?_;refine Dh Ac _ _ _ ?_;refine Cm 49 [iV 0,iV 0,iV 0,iV 0,.slice none 0 0] K0.1 ?_;intro H2 N0 J9 L5;refine Cy 5 [iV 0,iV 0,iV 0,iV 0,.slice B2 0 B1] J9.1 ?_;intro M9 J8 L4;refine zq (iV 2) ?_;go_upto_region 5 with fail
 refine wl ?_;refine zc (Ij _) ?_;rintro e M8 ⟨O2,rfl,A1,hx⟩;have J7:=zH (J8.1.step hx);have L3:=zH (Af.of_ext hx);have D9:=zH A1;clear A1 hx;refine zn ?_;refine Cs Ac _ ?_;refine zc (yR _ _ (D9.1)) ?_;rintro e H5 ⟨C8,C6,rfl,A0,hx⟩;have F6:=zH (show Hp w H5 [.blk C7 33 (rc B0),ro 5 1 A6 3 A4 Ay ([0,128,0]),.blk D3 49 [iV (-1),iV 0,iV 2,iV 1,.slice A6 3 A4],.blk D2 26 [iV 0,iV 0,iV 1,iV 1],ro 5 1 B2 0 B1 Ay ([]),.blk H2 49 [iV 0,iV 0,iV 0,iV 0,.slice B2 0 B1],ro 5 1 C8 0 C6 Ay ([])]from J7.1.addRow hx A0);have G8:=zH (Af.of_ext hx);clear A0 hx;refine zn ?_;refine Dh Ac _ _ _ ?_;refine Cm 49 [iV 0,iV 0,iV 0,iV 0,.slice none 0 0] F6.1 ?_;intro D6 J1 F5 G7;refine Cy 7 [iV 0,iV 0,iV 0,iV 0,.slice C8 0 C6] F5.1 ?_;intro J0 F4 G6;refine zq (iV 5) ?_;go_upto_region 6 with fail
 refine wl ?_;refine Dh Ac _ _ _ ?_;refine cS 3 41 [iV 0,iV 256,iV 256,iV 0,iV 0,iV 0] F4.1 ?_;intro A8 I9 F3 G5;refine cS 1 39 [.slice (some ⟨A8,0,none⟩) 3 3] F3.1 ?_;intro D5 I8 B9 G4;refine zc (yP _ _ (Vj B9.1 [(0,256),(256,0),(0,0)] (i:=8) (j:=9) rR rR)) ?_;rintro e I7 ⟨B3,rfl,A1,hx⟩;have F2:=zH (B9.1.step hx);have G3:=zH (Af.of_ext hx);have D8:=zH A1;have H1:=zH (show Nm.rl (-(((1:Int):Rat)/((2:Int):Rat)))<=8 from by decide+kernel);clear A1 hx;refine zn ?_;refine Dh Ac _ _ _ ?_;refine Cm 33 rz F2.1 ?_;intro D4 I6 F1 C4;refine Cy 10 (rc B3) F1.1 ?_;intro A7 B8 C3;refine zq (iV 0) ?_;go_upto_region 7 with fail
 refine zy ?_;have F0:=zH (B8.1.step (Aa.refl A7).drew);have C2:=zH (Af.of_ext (w:=A7) zb);refine zx 0 (bs 9 1) (iV 0) zb ?_;refine zu 1 (bs 9 3) (v:= .bool false) zb ?_ (hv:=by intro w J3;exact Jn (e:=(Ah (fun h_=>h_ rfl))));refine lJ B8.1 zb (bs 9 47) 2 3 5 (.bool false) _ _ ?_;have C1:=tD (tD C4 C3) C2;refine mC 4 (bs 9 63) (vG (L:=60000) (RV.Is.nin (D8.1.dig C1.1) (Ar H1.1 (by omega))) (by omega)) ?_;rintro e D0 ⟨c_,rfl,D1,hx⟩;have E9:=zH (F0.1.step hx);have G2:=zH (show Af A7.drew D0 from Af.of_ext hx);have B5:=zH (zb.trans hx);obtain⟨J2,rfl,A1⟩:=D1;have D7:=zH A1;have G9:=zH (show Nm.rl (-(-(((1:Int):Rat)/((2:Int):Rat))))<=8 from by decide+kernel);clear A1 hx;refine zm B5.1 ?_;have A5:=tD (tD (tD (tD (tD (tD (tD (tD (tD (tD (tD (tD (tD (tD (tD (tD (tD (tD (tD (tD (tD (tD (tD (tD M7 M6) M5) M4) M3) M2) M1) M0) L9) L8) L7) L6) L5) L4) L3) G8) G7) G6) G5) G4) G3) C4) C3) C2) G2;refine mC 6 (bs 9 127) (vH (L:=60000) (RV.Is.nin D7.1 (Ar G9.1 (by omega))) (RV.Is.nin (H3.1.dig A5.1) (Ar H4.1 (by omega))) (by omega)) ?_;rintro e I5 ⟨rfl,hx⟩;have E8:=zH (E9.1.step hx);have G1:=zH (Af.of_ext hx);have A9:=zH (B5.1.trans hx);clear hx;refine zm A9.1 ?_;refine zu 7 (bs 9 255) (v:= .bool false) A9.1 ?_ (hv:=by intro w J3;exact Jn (e:=(Ah (fun hh=>hh (Pk.2 (by decide+kernel))))));refine zx 8 (bs 9 511) (.bool false) A9.1 ?_;refine wpAnyH_done kR ?_ _;go_upto_region 9 with fail
 refine wl ?_;refine zc (Ij _) ?_;rintro e I4 ⟨J5,rfl,A1,hx⟩;have E7:=zH (E8.1.step hx);have G0:=zH (Af.of_ext hx);have B7:=zH A1;clear A1 hx;refine zn ?_;refine Cs Ac _ ?_;refine zc (yW _ _ (B7.1)) ?_;rintro e C9 ⟨C5,B4,rfl,A0,hx⟩;have E6:=zH (show Hp w C9 [.blk C7 33 (rc B0),ro 5 1 A6 3 A4 Ay ([0,128,0]),.blk D3 49 [iV (-1),iV 0,iV 2,iV 1,.slice A6 3 A4],.blk D2 26 [iV 0,iV 0,iV 1,iV 1],ro 5 1 B2 0 B1 Ay ([]),.blk H2 49 [iV 0,iV 0,iV 0,iV 0,.slice B2 0 B1],ro 5 1 C8 0 C6 Ay ([]),.blk D6 49 [iV 0,iV 0,iV 0,iV 0,.slice C8 0 C6],.blk A8 41 [iV 0,iV 256,iV 256,iV 0,iV 0,iV 0],.blk D5 39 [.slice (some ⟨A8,0,none⟩) 3 3],.blk D4 33 (rc B3),ro 5 1 C5 1 B4 Ay ([128])]from E7.1.addRow hx A0);have F9:=zH (Af.of_ext hx);clear A0 hx;refine zn ?_;refine Dh Ac _ _ _ ?_;refine Cm 49 [iV 0,iV 0,iV 0,iV 0,.slice none 0 0] E6.1 ?_;intro J6 I3 E5 F8;refine Cy 12 [iV 0,iV 0,iV 1,iV 1,.slice C5 1 B4] E5.1 ?_;intro I1 A3 F7;refine zq (iV 0) ?_;go_upto_region 10 with fail
 refine wl ?_;refine zq (iV 0) ?_;refine zp (.bool false) (by exact Jn (e:=(Ah (fun h_=>h_ rfl)))) ?_;refine Dh A3.1 (.bool false) _ _ ?_;refine zp (.string {data:=#[128]}) (by exact pA rR rR (A3.1.row (i:=11) rR) rR) ?_;refine zp (.bool false) (by exact tL rR rR rR (by simp)) ?_;refine zq (.bool false) ?_;go_upto_region 12 with fail
 refine wl ?_;refine Cs A3.1 _ ?_;have C0:=tD (tD (tD (tD (tD A5 G1) G0) F9) F8) F7;refine aC A3.1 (yU B0 _ (H3.1.dig C0.1) H4.1) ?_;intro I0 E4 _;refine zp (.bool true) (by exact gU rR rR rR dC) ?_;refine qV (.bool true) ?_;refine zc (Ij _) ?_;rintro e H9 ⟨J4,rfl,A1,hx⟩;have E3:=zH (E4.1.step hx);have B6:=zH A1;clear A1 hx;refine zn ?_;refine aC E3.1 (yQ _ _ (B6.1)) ?_;intro H8 A2 _;refine zp (.bool true) (by exact gU rR rR rR dC) ?_;refine Ej A2.1 (.bool true) (.bool true) _ _ ?_;refine zp (.string {data:=#[0,128,0]}) (by exact pA rR rR (A2.1.row (i:=1) rR) rR) ?_;refine zp (.bool true) (by exact tO rR rR rR (by simp)) ?_;refine Dh Ac (.bool true) (.bool true) _ ?_;refine zp (.bool true) (by exact bQ (e:=dC)) ?_;refine Hf A2.1 (.bool true) (.bool true) _ _ (.bool true) (.bool true) (.bool true) _ ?_;refine zp (.bool true) (by exact bQ (e:=dC)) ?_;refine Dh Ac (.bool true) (.bool true) _ ?_;refine zp (.bool true) (by exact bQ (e:=dC)) ?_;refine Dh Ac (.bool true) (.bool true) _ ?_;refine zp (.bool true) (by exact bQ (e:=dC)) ?_;refine qV (.bool true) ?_;refine zq (.bool true) ?_;go_wp2_with fail
 go_ret
 exact⟨rfl,A2.1.ext⟩
end
section
open Go.RowKit Go.Shelf
end
section
attribute [local go_sem ↓] Go.wp_at_zero Go.wp_at_succ Aj Ai
end
section
def aBM (t:Int×Int)(e:Dw):Dw:=(aBL t e.2,aBL t e.1)
def nG (r:Av):List Dw:=(List.range r.length).map fun i=>(r.getD i (0,0),r.getD ((i+1)%r.length) (0,0))
def aAL (t:Int×Int)(r:Av):Av:=r.reverse.map (aBL t)
theorem Iu (r:Av):(nG r).length=r.length:=by unfold nG;simp
theorem aAO {r:Av}{i:Nat}(h:i<r.length):(nG r)[i]?=some (r[i],r[(i+1)%r.length]'(Nat.mod_lt _ (by omega))):=by
  unfold nG;rw[kZZ,List.getElem?_range h];simp only[Option.map_some,Option.some.injEq,Prod.mk.injEq];have h2:(i+1)%r.length<r.length:=Nat.mod_lt _ (by omega);exact⟨by simp[List.getD,h],by simp[List.getD,h2]⟩
theorem aBR {α β:Type}(f:α->Option β)(g:α->β)(p:β->Bool):∀l:List α,(∀x,x∈l->f x=if p (g x)=true then some (g x)else none)->l.filterMap f=(l.map g).filter p
  | [],_=>rfl
  | x::l,h=>by
    have ih:=aBR f g p l (fun y hy=>h y (cZZ _ hy));rw[List.filterMap_cons,h x (by simp),List.map_cons,List.filter_cons,ih];by_cases k:p (g x)=true
    · rw[if_pos k,if_pos k]
    rw[if_neg k,if_neg k]
theorem aAS (r:Av):Cd [r]=(nG r).filter (fun e=>decide (e.1≠e.2)):=by
  unfold Cd Es nG;rw[List.flatMap_cons,List.flatMap_nil,hZZ];refine aBR _ _ _ _ (fun i hi=> ?_);have hl:=List.mem_range.1 hi;have h2:(i+1)%r.length<r.length:=Nat.mod_lt _ (by omega);rw[cC (aQQ hl) (aQQ h2)];by_cases h:r[i]=r[(i+1)%r.length]
  · rw[if_pos h];simp[List.getD,hl,h2,h]
  rw[if_neg h];simp[List.getD,hl,h2,h]
theorem aAK (t:Int×Int)(r:Av):(aAL t r).length=r.length:=by unfold aAL;simp
theorem aAN {t:Int×Int}{r:Av}{i:Nat}(h:i<r.length):(aAL t r)[i]'(by rw[aAK];exact h)=aBL t (r[r.length-1-i]):=by
  unfold aAL;simp
theorem aBB (t:Int×Int)(r:Av):nG (aAL t r)=(((nG r).take (r.length-1)).reverse++(nG r).drop (r.length-1)).map (aBM t):=by
 apply List.ext_getElem?;intro i;by_cases hi:i<r.length
 ·rw[aAO (by rw[aAK];exact hi),kZZ]
  have A0:((nG r).take (r.length-1)).reverse.length=r.length-1:=by rw[List.length_reverse,dXX,Iu];omega
  by_cases h1:i<r.length-1
  ·rw[dQQ (by omega),List.getElem?_reverse (by rw[dXX,Iu];omega),dXX,Iu,Nat.min_eq_left (by omega),List.getElem?_take_of_lt (by omega),aAO (by omega)]
   simp only[Option.map_some,Option.some.injEq];unfold aBM;have e1:(i+1)%(aAL t r).length=i+1:=by rw[aAK];exact Nat.mod_eq_of_lt (by omega)
   have e2:(r.length-1-1-i+1)%r.length=r.length-1-i:=by rw[Nat.mod_eq_of_lt (by omega)];omega
   refine Prod.ext ?_ ?_
   ·rw[aAN hi];simp only[e2]
   simp only[e1];rw[aAN (by omega)];congr 2;omega
  have A1:i=r.length-1:=by omega
  rw[cXX (by omega),A0,List.getElem?_drop,show r.length-1+(i-(r.length-1))=r.length-1 by omega,aAO (by omega)];simp only[Option.map_some,Option.some.injEq];unfold aBM;have e1:(i+1)%(aAL t r).length=0:=by rw[aAK,show i+1=r.length by omega,Nat.mod_self]
  have e2:(r.length-1+1)%r.length=0:=by rw[show r.length-1+1=r.length by omega,Nat.mod_self]
  refine Prod.ext ?_ ?_
  ·rw[aAN hi];simp only[e2];congr 2;omega
  simp only[e1];rw[aAN (by omega)];congr 2
 rw[lQQ (by rw[Iu,aAK];omega),lQQ (by rw[eZZ,aZZ,List.length_reverse,dXX,List.length_drop,Iu];omega)]
theorem aBA (t:Int×Int)(r:Av):∃D L:List Dw,Cd [r]=D++L/\Cd [aAL t r]=(D.reverse++L).map (aBM t)/\L.length<=1:=by
 refine⟨((nG r).take (r.length-1)).filter (fun e=>decide (e.1≠e.2)),((nG r).drop (r.length-1)).filter (fun e=>decide (e.1≠e.2)),?_,?_,?_⟩
 ·rw[aAS,<-List.filter_append,List.take_append_drop]
 ·rw[aAS,aBB,List.filter_map]
  have e:((fun e:Dw=>decide (e.1≠e.2)) ∘ aBM t)=(fun e:Dw=>decide (e.1≠e.2)):=by
   funext e;unfold aBM;simp only[Function.comp];rw[decide_eq_decide];constructor
   ·intro h k;exact h (by rw[k])
   intro h k;exact h ((aBS.1 k).symm)
  rw[e,List.filter_append,List.filter_reverse]
 refine Ar (List.length_filter_le _ _) ?_;rw[List.length_drop,Iu];omega
end
section
theorem aAV {a b:Int×Int}(h:a.1≠b.1)(x:Int):Nj b a x=Nj a b x:=by
  unfold Nj;have h1:((b.1:Int):Rat)-((a.1:Int):Rat)≠0:=fun c=>by
    have e:((a.1:Int):Rat)=((b.1:Int):Rat):=by grind
    exact h (by exact_mod_cast e)
  rw[Rat.intCast_sub,Rat.intCast_sub,Rat.intCast_sub,Rat.intCast_sub,Rat.intCast_sub,Rat.intCast_sub];have h2:((a.1:Int):Rat)-((b.1:Int):Rat)≠0:=by grind
  have k1:=Rat.mul_inv_cancel _ h1;have k2:=Rat.mul_inv_cancel _ h2;rw[Rat.div_def,Rat.div_def];grind
theorem aBW {a b:Int×Int}(h:a.2≠b.2)(y:Rat):Fi b.1 b.2 a.1 a.2 y=Fi a.1 a.2 b.1 b.2 y:=by rw[aBE h,lM h]
theorem aAT {a b:Int×Int}{lo hi x:Int}(h:a.1≠b.1):Yo b a lo hi x↔Yo a b lo hi x:=by
  unfold Yo;rw[aAV h,Int.min_comm b.1,Int.max_comm b.1];exact⟨fun k=>⟨⟨k.1.1.symm,k.1.2⟩,k.2⟩,fun k=>⟨⟨k.1.1.symm,k.1.2⟩,k.2⟩⟩
theorem aAX (a b:Int×Int)(lo hi x:Int):Uv b a lo hi x=Uv a b lo hi x:=by
  unfold Uv;by_cases h:a.1=b.1
  · rw[if_neg (fun c:Yo b a lo hi x=>c.1.1 h.symm),if_neg (fun c:Yo a b lo hi x=>c.1.1 h)]
  by_cases c:Yo a b lo hi x
  · rw[if_pos c,if_pos ((aAT h).2 c),aAV h]
  rw[if_neg c,if_neg (fun k=>c ((aAT h).1 k))]
theorem aBG (p a b:Int×Int):Hs p b a=Hs p a b:=by
 unfold Hs;have e1:Ye p.2 b a=Ye p.2 a b:=by unfold Ye;rw[Int.min_comm]
 have e2:Yk p.2 b a=Yk p.2 a b:=by unfold Yk;rw[Int.max_comm]
 rw[e1,e2,Int.max_comm b.1,Int.min_comm b.1];by_cases h:a.2=b.2
 ·have c:Yk p.2 a b<=Ye p.2 a b:=by unfold Yk Ye;rw[h];omega
  rw[if_pos (.inl c),if_pos (.inl c)]
 have e3:Un p.1 b a=Un p.1 a b:=by funext x y;unfold Un;rw[aBW h,aBW h]
 have e4:Iw p.1 b a (Ye p.2 a b) (Yk p.2 a b)=Iw p.1 a b (Ye p.2 a b) (Yk p.2 a b):=by unfold Iw bL;rw[aAX a b _ _ p.1,aAX a b _ _ (p.1+256)]
 rw[e3,e4]
def aAY (p:Int×Int)(e:Dw):Rat:=if e.1.2<e.2.2 then Hs p e.1 e.2 else if e.2.2<e.1.2 then-Hs p e.1 e.2 else 0
theorem aBT (p:Int×Int)(s:Rat)(e:Dw):Sg p s e=s+aAY p e:=by
  unfold Sg aAY;split
  · rfl
  split<;>grind
theorem aBQ (p:Int×Int):∀(l:List Dw) (s:Rat),l.foldl (Sg p) s=s+(l.map (aAY p)).sum
  | [],s=>by simp;grind
  |e::l,s=>by rw[List.foldl_cons,aBQ p l,aBT,List.map_cons,List.sum_cons];grind
theorem nE (p:Int×Int)(l:List Dw):Mp p l=(l.map (aAY p)).sum:=by unfold Mp;rw[aBQ];grind
theorem aAM (p:Int×Int)(l m:List Dw):Mp p (l++m)=Mp p l+Mp p m:=by rw[nE,nE,nE,jXX,List.sum_append]
theorem aAQ (a:Int×Int):aBL (0,0) a=a:=by unfold aBL;simp
theorem aBN (p:Int×Int)(e:Dw):aAY p (aBM (0,0) e)= -aAY p e:=by
  unfold aBM aAY;rw[aAQ,aAQ];simp only;rw[aBG p e.1 e.2];rcases Int.lt_trichotomy e.1.2 e.2.2 with h|h|h
  · rw[if_neg (by omega),if_pos h,if_pos h]
  · rw[if_neg (by omega),if_neg (by omega),if_neg (by omega),if_neg (by omega)]<;>grind
  rw[if_pos h,if_neg (by omega),if_pos h];grind
theorem aBH (p:Int×Int):∀l:List Dw,Mp p (l.map (aBM (0,0)))= -Mp p l
  | []=>by show((0:Int):Rat)= -((0:Int):Rat);grind
  | e::l=>by
    have ih:=aBH p l;rw[nE,nE]at ih;rw[nE,nE,List.map_cons,List.map_cons,List.map_cons,List.sum_cons,List.sum_cons,aBN,ih];grind
theorem aBC (p:Int×Int):∀l:List Dw,Mp p l.reverse=Mp p l
  | []=>rfl
  | e::l=>by
    rw[List.reverse_cons,aAM,aBC p l,nE,nE,nE,List.map_cons,List.map_cons,List.sum_cons,List.sum_cons];simp;grind
theorem aBI (p:Int×Int)(r:Av):Mp p (Cd [aAL (0,0) r])= -Mp p (Cd [r]):=by
  obtain⟨D,L,h1,h2,_⟩:=aBA (0,0) r;rw[h1,h2,aBH,aAM,aAM,aBC]
theorem aBK (r:Av):aAL (0,0) r=r.reverse:=by
  unfold aAL;rw[show aBL (0,0)=id from funext aAQ,List.map_id]
theorem aAU (r:Av)(rs:List Av):Cd (r::rs)=Cd [r]++Cd rs:=by unfold Cd;simp
theorem aAR (p:Int×Int)(r:Av)(rs:List Av):Sf (r::rs) p=Sf [r] p+Sf rs p:=by
  unfold Sf;rw[aAU,aAM];rw[Rat.div_def,Rat.div_def,Rat.div_def];grind
theorem aBD (p:Int×Int):∀rs:List Av,Sf rs p=(rs.map fun r=>Sf [r] p).sum
  | []=>by simp[Sf,Mp,Cd];grind
  |r::rs=>by rw[aAR,aBD p rs];rfl
theorem aAW (p:Int×Int):∀rs:List Av,Sf (rs.map List.reverse) p= -Sf rs p
  | []=>by simp[Sf,Mp,Cd];grind
  | r::rs=>by
    rw[List.map_cons,aAR p r.reverse,aAR p r rs,aAW p rs];have e:Sf [r.reverse] p= -Sf [r] p:=by
      unfold Sf;rw[<-aBK,aBI,Rat.div_def,Rat.div_def];grind
    rw[e];grind
end
section
attribute [local go_sem ↓] Go.wp_at_zero Go.wp_at_succ Aj Ai
namespace addlaw
theorem okR_oneA {rs:List Av}{k:Nat}{r:Av}(h:Ge rs=true)(hr:rs[k]?=some r):Ge [r]=true:=by
  unfold Ge at h⊢;rw[gXX]at h⊢;have h1:=of_decide_eq_true h.1;have h2:=Ho hr;have h3:=Hn rs (k+1);refine⟨decide_eq_true (by simp[Gm];omega),?_⟩;simp only[List.all_cons,List.all_nil,Bool.and_true];exact List.all_eq_true.1 h.2 r (bZZ hr)
theorem Be.lowA {w:World}{b b':Nat}{t:TypeId}{size:Nat}{v:Value}{n:Nat}{xs:List Value}(h:Be w b t size v n xs)(hb:b'<=b):Be w b' t size v n xs:=by
  obtain⟨h1,h2|⟨g,A0,rest,h3,h4,h5⟩⟩:=h
  · exact⟨h1,.inl h2⟩
  exact⟨h1,.inr ⟨g,A0,rest,h3,Ar hb h4,h5⟩⟩
theorem take_map_succA {α β:Type}{l:List α}{k:Nat}{x:α}{f:α->β}(h:l[k]?=some x):(l.take (k+1)).map f=(l.take k).map f++[f x]:=by
  rw[List.take_add_one,h];simp
theorem ev_sub1 {P:Program}{ρ:Operand->Value}{o:Oper}{w:World}{g off n c i:Nat}{t e:TypeId}{x y z:Operand}(ho:o.op= .slice t x (some y) (some z) none)(ht:P.underlying t=some (.slice e))(hs:(P.info? e).map (·.size)=some 1)
  (hx:ρ x= .slice (some ⟨g,off,none⟩) n c)(hy:ρ y= iV ((i:Nat):Int))(hz:ρ z= iV ((i+1:Nat):Int))(hi:i<c):(execOp ρ o).run P w= .ok (.value (.slice (some ⟨g,off+i,none⟩) 1 (c-i))) w:=by
 have A0:P.elem t=e:=by simp[Program.elem,ht]
 have h1:P.underlying t=some (.slice (P.elem t)):=by rw[A0];exact ht
 unfold execOp;simp only[ho,hx,hy,hz,Option.map_some,Option.map_none,Sem.run_bind,run_sliceAt_slice _ _ _ _ _ _ h1,run_slice_lh w t (some ⟨g,off,none⟩) n c h1 .i64 .i64 ((i:Nat):Int) ((i+1:Nat):Int) (by omega) (by omega) (by omega),A0];cases hq:P.info? e with
 |none=>simp[hq]at hs
 |some j=>
  have h2:j.size=1:=by simpa[hq]using hs
  have hz:¬(c=i):=by omega
  simp[sizeOf,typeInfo,hq,h2,sliced,Addr.add,hz]
theorem rings_one {w:World}{g off n cap c i:Nat}{rs:List Av}{r:Av}(h:Cu w (.slice (some ⟨g,off,none⟩) n cap) rs)(hi:rs[i]?=some r):Cu w (.slice (some ⟨g,off+i,none⟩) [r].length c) [r]:=by
 obtain⟨A,cu,hv,hA⟩:=h;injection hv with e1 _ _
 obtain⟨g1,A0,e2,hp⟩:=hA (by have:=(List.getElem?_eq_some_iff.1 hi).1;omega);rw[<-e1]at e2;injection e2 with e2
 injection e2 with e3 e4 _
 subst e3 e4;refine⟨_,c,rfl,fun _=>⟨g,off+i,rfl,fun j x hj=> ?_⟩⟩;obtain rfl:j=0:=by have:=(List.getElem?_eq_some_iff.1 hj).1;simp at this;omega
 injection hj with hj
 subst hj;exact hp i r hi
theorem okR_rev {rs:List Av}(h:Ge rs=true):Ge (rs.map List.reverse)=true:=by
  unfold Ge at h⊢;rw[gXX]at h⊢;refine⟨?_,List.all_eq_true.2 fun r hr=> ?_⟩
  · have e:Gm (rs.map List.reverse)=Gm rs:=by
      unfold Gm;rw[List.foldl_map];simp only[List.length_reverse]
    rw[e];exact h.1
  obtain⟨r0,h0,rfl⟩:=List.mem_map.1 hr;have h2:=List.all_eq_true.1 h.2 r0 h0;unfold De at h2⊢;exact List.all_eq_true.2 fun p hp=>List.all_eq_true.1 h2 p (List.mem_reverse.1 hp)
theorem tot_rev (rs:List Av):Gm (rs.map List.reverse)=Gm rs:=by
  unfold Gm;rw[List.foldl_map];simp only[List.length_reverse]
def szV (rs:List Av)(x y:Int):Rat:=if mE rs x y=0 then Sf rs (x*256,y*256)else 0
theorem zero_in (w:World)(L:Nat):RV.zero.In L w 0:=by
  have hz:=Pq ((nZ w).isIn (L:=L) (by simp[Nm.nl_zero]));exact⟨0,0,hz,hz,by simp⟩
theorem Uf.any {B:Nat}{E:Int}{q:Rat}{w w':World}{e:Ending}(h:Uf B E q w e w')(hB:B<=8030):∃r:RV,e= .returned (.tuple #[.agg #[.bool r.n,.slice r.p r.l r.c,.bool r.m,.slice r.p2 r.l2 r.c2],iV E])/\r.In 8030 w' (if E=0 then q else 0)/\Aa w w':=by
  obtain⟨r,rfl,h1,h2,hx⟩:=h;refine⟨r,rfl,?_,hx⟩;by_cases c:E=0
  · rw[if_pos c];exact(h1 c).1.isIn (Ar (h1 c).2 hB)
  rw[if_neg c,h2 c];exact zero_in w' 8030
theorem sgaE_same {rs rs':List Av}(h:Ge rs=true)(h':Ge rs'=true)(x y:Int):mE rs' x y=mE rs x y:=by unfold mE;rw[h,h']
theorem szV_sum {rs:List Av}(h:Ge rs=true)(h1:∀r,r∈rs->Ge [r]=true)(x y:Int):(rs.map fun r=>szV [r] x y).sum=szV rs x y:=by
 by_cases c:mE rs x y=0
 ·have e:rs.map (fun r=>szV [r] x y)=rs.map (fun r=>Sf [r] (x*256,y*256)):=List.map_congr_left fun r hr=>if_pos ((sgaE_same h (h1 r hr) x y).trans c)
  rw[e,<-aBD,szV,if_pos c]
 have e:rs.map (fun r=>szV [r] x y)=rs.map (fun _=>(0:Rat)):=List.map_congr_left fun r hr=>if_neg (fun k=>c ((sgaE_same h (h1 r hr) x y).symm.trans k))
 rw[e,szV,if_neg c];clear e c h1 h;induction rs with
 |nil=>rfl
 |cons r l ih=>rw[List.map_cons,List.sum_cons,ih];exact Rat.zero_add 0
theorem szV_back {rs:List Av}(h:Ge rs=true)(x y:Int):szV (rs.map List.reverse) x y= -szV rs x y:=by
  unfold szV;rw[sgaE_same h (okR_rev h)];split
  · exact aAW _ rs
  rfl
theorem sga_one (A:Option Addr)(c:Nat)(r:Av)(x y:Int)(w:World)(hu:Cu w (.slice A [r].length c) [r])(hr:r.length<=1048576)(ht:Gm [r]<=16)(hx: -9223372036854775808<=x/\x<=9223372036854775807)(hy: -9223372036854775808<=y/\y<=9223372036854775807):
    Calls Tryz.prog 8 #[.slice A 1 c,iV x,iV y] w (Uf 8030 (mE [r] x y) (Sf [r] (x*256,y*256)) w):=dK A c [r] x y w hu (by simp) (by simpa using hr) (fun _=>ht) hx hy
theorem calls_len3 {P:Program}{f:FuncId}{A:Option Addr}{c n m:Nat}{u v:Value}{w:World}{Φ:Ending->World->Prop}(h:n=m)(k:Calls P f #[.slice A n c,u,v] w Φ):Calls P f #[.slice A m c,u,v] w Φ:=h▸k
theorem aAP.Ok.frB {b:Nat}{w0 W W':World}{m:List Dc}{ix g:Nat}{T:TypeId}{cs:List Value}{o:aAP}(h:o.Ok b W)(H:Hp w0 W m)(hi:m[ix]?=some (.blk g T cs))(hT:T≠41)(x:Fr (fun k=>k=g) W W'):o.Ok b W':=by
 obtain⟨h1,h2|⟨g1,A1,rest,h3,h4,h5,h6⟩⟩:=h
 ·exact⟨h1,.inl h2⟩
 refine⟨h1,.inr ⟨g1,A1,rest,h3,h4,?_,h6⟩⟩;have h7:Ad W g1 41 _:=h5;refine(x.block g1 h7.lt (fun hk=> ?_)).trans h7;have hk:g1=g:=hk;subst hk;have h8:=H.blk hi;have h9:=(show W.heap[g1]?=_ from h8).symm.trans (show W.heap[g1]?=_ from h7);injection h9 with h9
 injection h9 with _ A0
 exact hT A0
theorem sum_snoc (l:List Rat)(x:Rat):(l++[x]).sum=l.sum+x:=by rw[List.sum_append];simp[Rat.add_zero]
theorem rev_at {r:Av}{k:Nat}{p:Int×Int}(hk:k<r.length)(h:r[r.length-1-k]?=some p):r.reverse[k]?=some p:=by rw[List.getElem?_reverse hk];exact h
theorem light20_len {rs:List Av}{r:R4}(h:Cg rs r=true)(hr:r.ok=true)(ho:Ge rs=true):rs.length<=8:=by
  unfold Cg at h;rw[ho,hr]at h;simp only[Bool.not_true,Bool.false_or,gXX,decide_eq_true_eq]at h;exact h.1.1
set_option maxRecDepth 200000 in
theorem walk (A:Option Addr)(rs:List Av)(cap:Nat)(a b:Int)(w:World)(hu:Cu w (.slice A rs.length cap) rs)(hc:rs.length<=cap)(hn:rs.length<=1048576)(hr:∀r,r∈rs->r.length<=1048576)(hab:(-9223372036854775808<=a/\a<=9223372036854775807)/\(-9223372036854775808<=b/\b<=9223372036854775807)):
  Calls Tryz.prog 3 #[.slice A rs.length cap,.agg #[iV a,iV b]] w fun e w'=>e= .returned (.bool true)/\Aa w w':=by
 have HU:=zH hu;have HC:=zH hc;have HN:=zH hn;have C8:=zH hr;have E2:=zH hab;clear hu hc hn hr hab;go_enter Tryz.func3,Tryz.ntmps3
 have H0:=zH (Hp.start w);go_upto_region 0 with fail
 refine wl ?_;refine Cm 23 [iV a,iV b] H0.1 ?_;intro X1 w2 H3 _;refine zq (.bool false) ?_;rcases Co (Cg rs (⟨0,0,0,0⟩:R4)=true)with HLG|HLG
 ·rcases Co (Ge rs=true)with HV|HV
  ·go_upto_region 1 with fail
   refine wl ?_;refine Bq Ac _ _ ?_;refine aC H3.1 ((Hr A cap rs ⟨0,0,0,0⟩ _ (HU.1.ext H3.1.ext) HN.1 C8.1).mono fun _ _ h_=>(⟨h_.1.trans (by rw[HLG.1]),h_.2⟩:_=Ending.returned (.bool true)/\Aa _ _)) ?_;intro X6 O7 _;refine Dh Ac (.bool false) (.bool false) _ ?_;refine zc (Fv _ rs _ (HU.1.ext O7.1.ext) HN.1 C8.1) ?_;rintro e X5 ⟨rfl,hx⟩;have L4:=zH (O7.1.step hx);clear hx;refine⟨.bool true,by rw[HV.1],?_⟩;try simp only[Act.put,zA,zB,zC]
   refine Bq Ac (.bool false) (.bool false) ?_;have J7:=zH (show Gm rs<=16 from Ee HLG.1 (by decide) HV.1);have O3:=zH (light20_len HLG.1 (by decide) HV.1);have hn:=HN.1;have R7:=O3.1;go_upto_region 3 with fail
   refine wl ?_;refine Kf L4.1 _ _ _ _ _ ?_;refine zc ((dK A cap rs a b _ (HU.1.ext L4.1.ext) HN.1 C8.1 (fun _=>J7.1) E2.1.1 E2.1.2).mono (fun _ _ h_=>Uf.any h_ dC)) ?_;rintro e X4 ⟨B1,rfl,A8,hx⟩;have W3:=zH (L4.1.step hx);have H8:=zH (show RV.In 8030 _ B1 (szV rs a b)from A8);clear A8 hx;refine zn ?_;refine Dh Ac _ _ (iV (mE rs a b)) ?_;refine Cm 33 rz W3.1 ?_;intro N4 X3 W2 W6;refine Cy 1 (rc B1) W2.1 ?_;intro X2 W1 W5;refine zq (iV (mE rs a b)) ?_;go_upto_region 4 with fail
   refine wl ?_;refine zc (aBO 0 _ (by omega) (by omega)) ?_;rintro e X0 ⟨c_,rfl,F0,hx⟩;have W0:=zH (W1.1.step hx);have W4:=zH (Af.of_ext hx);obtain⟨I5,rfl,A9⟩:=F0;have S5:=zH A9;clear A9 hx;refine zn ?_;refine Cm 33 rz W0.1 ?_;intro F3 W9 V9 P5;refine Cy 2 (rc I5) V9.1 ?_;intro M9 V8 P4;have O6:=zH (show Hp w M9 [.blk X1 23 [iV a,iV b],.blk N4 33 (rc B1),.blk F3 33 (rc I5),ro 39 1 none 0 0 aAP.cells ([])]from V8.1.addNil 39 1);go_upto_region 5 with fail
   refine wl ?_;refine Cs Ac _ ?_;go_upto_region 6 with fail
   refine wl ?_;refine Dh Ac _ (iV ((rs.length:Nat):Int)) _ ?_;have M0:=tD P5 P4;go_wp2_with fail
   go_loopg [8,38] (rs.length) (fun cq R1 R0 wr=>∃(i:Nat) (A4:Option Addr) (c4:Nat) (os:List aAP) (rS:RV) (sq:Rat),cq=rs.length-i/\R1= .slice A4 i c4/\R0= iV (i:Int)/\(i<=rs.length)/\(os.map aAP.l=(rs.take i).map List.reverse)/\(os.length=i)/\(∀o,o∈os->o.Ok w.heap.size wr)/\(sq=((rs.take i).map fun r=>szV [r] a b).sum)/\(rS.Is wr sq)/\(Nm.rl sq<=8031*i+1)/\Hp w wr [.blk X1 23 [iV a,iV b],.blk N4 33 [.bool B1.n,.slice B1.p B1.l B1.c,.bool B1.m,.slice B1.p2 B1.l2 B1.c2],.blk F3 33 [.bool rS.n,.slice rS.p rS.l rS.c,.bool rS.m,.slice rS.p2 rS.l2 rS.c2],.row 39 1 (.slice A4 i c4) (i) (List.flatMap aAP.cells os)]/\Af M9 wr)
   case atStart=>exact⟨0,none,0,[],I5,(((0):Int):Rat),rfl,rfl,rfl,eQQ _,rfl,rfl,(fun o_ ho_=>by cases ho_),(by simp),(S5.1.dig M0.1),(by decide+kernel),O6.1,Af.refl _⟩
   obtain⟨i,A4,c4,os,rS,sq,rfl,rfl,rfl,C5,C2,C3,B2,B8,B9,C0,E8,E9⟩:=hrel;generalize wr=A7 at*
   have U9:=zH C5;clear C5;have O1:=zH C2;clear C2;have O2:=zH C3;clear C3;have G1:=zH B2;clear B2;have N8:=zH B8;clear B8;have N9:=zH B9;clear B9;have J9:=zH C0;clear C0;have E3:=zH E8;have P3:=zH E9;clear E8 E9 O6;rcases Co (i<rs.length)with HLT|HLT
   ·have E0:=HLT.1
    obtain⟨r,A6⟩:∃r,rs[i]?=some r:=⟨_,aQQ E0⟩;have G0:=zH A6;have R5:=C8.1 r (bZZ A6);have R7:=O3.1;have R9:=HC.1;obtain⟨g,A2,rfl,D5⟩:∃g A2,A=some ⟨g,A2,none⟩/\∀i r,rs[i]?=some r->∃B cb,World.cell? w ⟨g,A2+i,none⟩=some (.slice B r.length cb)/\Gr w (.slice B r.length cb) r:=by obtain⟨A_,Y1,I7,S0⟩:=HU.1;injection I7 with e1_ e2_ e3_;subst e1_;obtain⟨g_,I6,e_,h_⟩:=S0 (by omega);exact⟨g_,I6,e_,h_⟩
    obtain⟨B,cb,A8,Y2,S2,I7,E1⟩:=D5 i r A6;injection I7 with e1_ e2_ e3_
    subst e1_;subst e3_;have T9:=zH E1;have T7:=zH (rings_one (c:=cap-i) HU.1 A6);have U2:=zH (okR_oneA HV.1 A6);have T5:=zH (sgaE_same HV.1 U2.1 a b);have T1:=zH (show Gm [r]<=16 from by have A8:=Ho A6;have E1:=Hn rs (i+1);have Y0:=J7.1;simp only[Gm,List.foldl_cons,List.foldl_nil];omega);go_upto_region 7 with fail
    refine wl ?_;refine zp (.bool true) (by exact Dv (e:=(Ae (by omega)))) ?_;go_upto_region 8 with fail
    refine wl ?_;refine Bq Ac (iV (i:Int)) (iV (i:Int)) ?_;go_upto_region 9 with fail
    refine zy ?_;have H9:=zH (E3.1.step (Aa.refl A7).drew);have P2:=zH (Af.of_ext (w:=A7) zb);have T0:=zH (show Fr (fun kz=>kz=F3) A7 A7.drew from(Fr.of_ext (G:=fun kz=>kz=F3) (Aa.refl A7)).trans (Fr.of_ext (Aa.refl A7).drew));refine lJ Ac zb (bs 16 7) 0 1 2 _ (iV (i:Int)) (iV (i:Int)) ?_;refine zu 3 (bs 16 15) (v:= iV ((i+1:Nat):Int)) zb ?_ (hv:=by intro w B0;exact Hm (by omega));refine zu 4 (bs 16 31) (v:= .slice (some ⟨g,A2+i,none⟩) 1 (cap-i)) zb ?_ (hv:=by intro w B0;exact ev_sub1 rR Tryz.underlying22 kR rR rR rR (by omega));refine xC E3.1 zb (bs 16 511) 5 6 7 8 _ _ _ _ ?_;refine gG 13 (some 10) 33 rz A7 H9.1 ?_;refine gL 9 (bs 16 8703) (bs 16 1023) zb.size H9.1 zb (fun xq H7=>(sga_one (some ⟨g,A2+i,none⟩) (cap-i) r a b _ (T7.1.ext (H9.1.step H7).ext) R5 T1.1 E2.1.1 E2.1.2).mono (fun _ _ h_=>Uf.any h_ dC)) (by rintro x_ e W7 ⟨B3,rfl,A8,hx⟩;exact hx) ?_;rintro xq e P7 H7 ⟨B3,rfl,A8,hx⟩;replace hx:=H7.trans hx;clear H7;have V7:=zH (H9.1.step hx);have P1:=zH (show Af A7.drew P7 from Af.of_ext hx);have S9:=zH (T0.1.trans (Fr.of_ext hx));have F4:=zH (zb.trans hx);have N6:=zH (show RV.In 8030 _ B3 (szV [r] a b)from A8);clear A8 hx;refine⟨_,rfl,?_⟩;try simp only[Act.put,zA,zB,zC]
    refine gK 10 (bs 16 9215) (bs 16 2047) _ F4.1 ?_;refine gK 11 (bs 16 10239) (bs 16 4095) _ F4.1 ?_;refine gK 12 (bs 16 12287) (bs 16 8191) (iV (mE [r] a b)) F4.1 ?_;refine gE (bs 16 16383) F4.1.size V7.1 F4.1 ?_;intro N3 P6 hx hh hs N2;have V6:=hN hh;have M2:=zH (Af.of_ext hx);have S8:=zH (S9.1.trans (Fr.of_ext hx));have S4:=zH (show Aa A7 P6 from hs);have O8:=zH (show A7.heap.size<=N3 from N2);have S6:=zH (show A7.heap.size<=N3 from Ar (Fr.of_ext (G:=fun kz=>kz=F3) (Aa.refl A7)).size O8.1);clear hh hx N2 hs;try simp only[Act.put,zA,zB,zC]
    refine Ea (i:=14) (listed':=(bs 16 32767)) rR kR rR kR _ _ _ rR V6.1 (ix:=4) rR 0 [.bool B3.n,.slice B3.p B3.l B3.c,.bool B3.m,.slice B3.p2 B3.l2 B3.c2] rR rR (by simp) kR (by simp[Value.oneCell']) (by simp[At]) ?_;intro W8 hh hd ho;have O5:=hN hh;have M1:=zH (hd);have S7:=zH (S8.1.trans_new ho (fun j hj=> .inr (by injection hj with hj;rw[<-hj];exact S6.1)));have N5:=zH (Ba.ext ho S4.1 O8.1);clear hh hd ho;refine⟨N5.1,?_⟩
    (try simp only[Act.put])
    refine zx 15 (bs 16 65535) (iV (mE [r] a b)) N5.1 ?_;refine wpAnyH_done kR ?_ _;go_upto_region 10 with fail
    refine wl ?_;refine Bq Ac (iV (mE [r] a b)) (iV (mE rs a b)) ?_;refine zp (.bool false) (by exact Jn (e:=(Ah (fun h_=>h_ T5.1)))) ?_;have X7:=J9.1;go_upto_region 12 with fail
    refine wl ?_;refine Bq O5.1 _ _ ?_;have G9:=tD (tD (tD P2 P1) M2) M1;have D2:=tD M2 M1;refine zc (aBU (L:=60000) (RV.Is.nin (N9.1.dig G9.1) (Ar J9.1 (by omega))) (RV.In.nin (RV.In.mono (N6.1.dig D2.1) (by omega))) (by omega)) ?_;rintro e Q9 ⟨c_,rfl,F0,hx⟩;have L9:=zH (O5.1.step hx);have H6:=zH (Af.of_ext hx);have J5:=zH (S7.1.trans (Fr.of_ext hx));obtain⟨D3,rfl,A9⟩:=F0;have J3:=zH A9;clear A9;have G8:=tD D2 H6;have M8:=zH (show Nm.rl (sq+(szV [r] a b))<=(8031*i+1)+8030+1 from by have h1:=J9.1;have h2:=(show Nm.rl (szV [r] a b)<=8030 from by have h:=(N6.1.dig G8.1).rl;omega);have h3:=Nm.rl_add sq (szV [r] a b);omega);clear hx;refine zn ?_;refine aS 2 (rc D3) L9.1 ?_;intro A3 G3 hd ho;have H5:=zH (hd);have J4:=zH (J5.1.trans_new ho (fun j hj=> .inl (by simpa using hj.symm)));clear hd ho;have T3:=zH (show D3.Is A3 (sq+(szV [r] a b))from(J3.1.dig H5.1));have T4:=zH (show Nm.rl (sq+(szV [r] a b))<=8031*(i+1)+1 from Ar M8.1 (by omega));have U1:=zH (fun o_ ho_=>aAP.Ok.frB (G1.1 o_ ho_) E3.1 (ix:=2) (by rfl) (by decide) J4.1);have G7:=tD (tD (tD (tD (tD (tD P3 P2) P1) M2) M1) H6) H5;have V3:=zH (G7.1);have HB:=G3;have K0:=zH (G3.1.ext.get A8);have V0:=zH (Hp.start A3);clear A6 D5 A8 E1 e2_;have D6:=zH (show Hp A3 A3 [ro 41 2 none 0 0 Yx ([])]from V0.1.addNil 41 2);go_upto_region 13 with fail
    refine wl ?_;refine Cs Ac _ ?_;go_upto_region 14 with fail
    refine wl ?_;refine Bq Ac _ (iV (i:Int)) ?_;refine zp (.pointer (some ⟨g,A2+i,none⟩)) (by exact Jo (k:=i) Tryz.underlying22 (l:=E0) (f:=(show A2+i=A2+i*1 by omega))) ?_;refine ze g (A2+i) (.slice B r.length cb) (Lx (D6.1.ext.get K0.1)) ?_;refine Bq Ac (iV ((r.length:Nat):Int)) _ ?_;go_wp2_with fail
    go_loopg [12,65] (r.length) (fun cq I4 I3 wr=>∃(k:Nat) (A5:Option Addr) (c5:Nat) (qs:List (Int×Int)),cq=r.length-k/\I4= .slice A5 k c5/\I3= iV (k:Int)/\(k<=r.length)/\(qs=r.reverse.take k)/\Hp A3 wr [.row 41 2 (.slice A5 k c5) (k) (List.flatMap Yx qs)]/\Af A3 wr)
    case atStart=>exact⟨0,none,0,[],rfl,rfl,rfl,eQQ _,rfl,D6.1,Af.refl _⟩
    obtain⟨k,A5,c5,qs,rfl,rfl,rfl,C4,C1,E8,E9⟩:=hrel;generalize wr=A0 at*
    have U8:=zH C4;clear C4;have O0:=zH C1;clear C1;have A1:=zH E8;have M6:=zH E9;clear E8 E9 D6;rcases Co (k<r.length)with HLU|HLU
    ·have E7:=HLU.1
     have R6:r≠ []:=by intro h_;rw[h_]at E7;simp at E7
     obtain⟨gr,D4,rfl,E6⟩:=T9.1 R6;have N0:r.length-1-k<r.length:=by omega
     obtain⟨p,D5⟩:∃p,r[r.length-1-k]?=some p:=⟨_,aQQ N0⟩;have HP:=zH D5;have U0:=zH (Bu (aBJ E6 D5) HB.1.ext);have V5:=zH (rev_at E7 D5);clear E6 D5;go_upto_region 15 with fail
     refine wl ?_;refine zp (.bool true) (by exact Dv (e:=(Ae (by omega)))) ?_;go_upto_region 16 with fail
     refine wl ?_;refine Bq Ac (iV (k:Int)) (iV (k:Int)) ?_;go_upto_region 17 with fail
     refine wp_region_held_drew (S:=fun x=>Fr (fun kz=>Value.ownBlock (.slice A5 k c5)=some kz) A0 x) kR (Fr.of_ext zb) (fun _=> ?_);have L8:=zH (A1.1.step (Aa.refl A0).drew);have M5:=zH (Af.of_ext (w:=A0) zb);refine zx 0 (bs 18 1) (.slice A5 k c5) (Fr.of_ext zb) ?_;refine zx 1 (bs 18 3) (.slice (some ⟨g,A2,none⟩) rs.length cap) (Fr.of_ext zb) ?_;refine zx 2 (bs 18 7) (iV (i:Int)) (Fr.of_ext zb) ?_;refine zu 3 (bs 18 15) (v:= .pointer (some ⟨g,A2+i,none⟩)) (Fr.of_ext zb) ?_ (hv:=by intro w B0;exact Jo (k:=i) Tryz.underlying22 (l:=E0) (f:=(show A2+i=A2+i*1 by omega)));refine Ec (g:=g) (o:=A2+i) (v:= .slice (some ⟨gr,D4,none⟩) r.length cb) (i:=4) (listed':=(bs 18 31)) rR kR kR kR (by intro _ _ _ h;exact h) rR (fun x hx=>Aa.get (Fr.base hx A1.1 (fun kz hk=>A1.1.ge (i:=0) rR (show Dc.own (.row 41 2 (.slice A5 k c5) (k) (List.flatMap Yx qs))=some kz from hk))) (show World.cell? A3 ⟨g,A2+i,none⟩=some (.slice (some ⟨gr,D4,none⟩) r.length cb)from Ak (Lx K0.1))) (by intro x hq;go_simp<;>with_reducible rfl) (Fr.of_ext zb) kR ?_;try simp only[Act.put,zA,zB,zC]
     refine zx 5 (bs 18 63) (.slice (some ⟨g,A2,none⟩) rs.length cap) (Fr.of_ext zb) ?_;refine zx 6 (bs 18 127) (iV (i:Int)) (Fr.of_ext zb) ?_;refine zu 7 (bs 18 255) (v:= .pointer (some ⟨g,A2+i,none⟩)) (Fr.of_ext zb) ?_ (hv:=by intro w B0;exact Jo (k:=i) Tryz.underlying22 (l:=E0) (f:=(show A2+i=A2+i*1 by omega)));refine Ec (g:=g) (o:=A2+i) (v:= .slice (some ⟨gr,D4,none⟩) r.length cb) (i:=8) (listed':=(bs 18 511)) rR kR kR kR (by intro _ _ _ h;exact h) rR (fun x hx=>Aa.get (Fr.base hx A1.1 (fun kz hk=>A1.1.ge (i:=0) rR (show Dc.own (.row 41 2 (.slice A5 k c5) (k) (List.flatMap Yx qs))=some kz from hk))) (show World.cell? A3 ⟨g,A2+i,none⟩=some (.slice (some ⟨gr,D4,none⟩) r.length cb)from Ak (Lx K0.1))) (by intro x hq;go_simp<;>with_reducible rfl) (Fr.of_ext zb) kR ?_;try simp only[Act.put,zA,zB,zC]
     refine zx 9 (bs 18 1023) (iV ((r.length:Nat):Int)) (Fr.of_ext zb) ?_;refine zu 10 (bs 18 2047) (v:= iV (((r.length-1):Nat):Int)) (Fr.of_ext zb) ?_ (hv:=by intro w B0;exact oZ rR rR rR (by omega) (by omega) (by omega));refine zx 11 (bs 18 4095) (iV (k:Int)) (Fr.of_ext zb) ?_;refine zu 12 (bs 18 8191) (v:= iV (((r.length-1-k):Nat):Int)) (Fr.of_ext zb) ?_ (hv:=by intro w B0;exact oZ rR rR rR (by omega) (by omega) (by omega));refine zo 13 (bs 18 16383) (v:= .pointer (some ⟨gr,D4+(r.length-1-k)*2,none⟩)) (Fr.of_ext zb) ?_ (hv:=by intro w B0;exact Jo (k:=(r.length-1-k)) Tryz.underlying39 (l:=N0) (f:=rfl));refine zr 14 (bs 18 32767) gr (D4+(r.length-1-k)*2) [iV p.1,iV p.2] (fun x hx=>Bu (show World.rangeAt A3 gr (D4+(r.length-1-k)*2) [iV p.1,iV p.2]from U0.1) (Fr.base hx A1.1 (fun kz hk=>A1.1.ge (i:=0) rR (show Dc.own (.row 41 2 (.slice A5 k c5) (k) (List.flatMap Yx qs))=some kz from hk)))) Tryz.underlying41 (Fr.of_ext zb) ?_;refine mU 15 (bs 18 65535) (v:= .slice (some ⟨A0.drew.heap.size,0,none⟩) 1 1) (w':=(A0.drew.alloc (.cells ([iV p.1,iV p.2]:List Value).toArray 41))) ((Fr.of_ext zb).trans (Fr.of_ext ((Aa.refl A0.drew).alloc _))) ?_;try simp only[Act.put,zA,zB,zC]
     refine oK (j:=16) (listed':=(bs 18 131071)) rR kR rR _ _ _ rR gY rR L8.1 (ix:=0) rR 1 1 [iV p.1,iV p.2] rR rfl (by simp[Value.oneCell']) (by simp[At]) dC (by unfold maxLen;exact(by omega)) (by omega) kR ?_;intro F2 C7 E4 hf hh hd hg;have P0:=zH hf;clear hf;rw[show List.flatMap Yx qs++[iV p.1,iV p.2]=_ from Hc Yx _ (p.1,p.2)]at hh;have L7:=hN hh;have M4:=zH (show Af A0.drew E4 from hd);have F8:=zH (show Fr (fun kz=>Value.ownBlock (.slice A5 k c5)=some kz) A0 E4 from Fr.trans_new ((Fr.of_ext zb).trans (Fr.of_ext (Al.alloc _))) hg (fun j hj=> .inl hj));clear hh hd hg;refine⟨F8.1,?_⟩;try simp only[Act.put,zA,zB,zC]
     refine zx 17 (bs 18 262143) (.slice (some ⟨F2,0,none⟩) (k+1) C7) F8.1 ?_;refine wpAnyH_done kR ?_ _;go_upto_region 18 with fail
     refine wl ?_;refine zp (iV ((k+1:Nat):Int)) (by exact Hm (by omega)) ?_;refine zq (iV ((k+1:Nat):Int)) ?_;have G6:=tD (tD M6 M5) M4;go_wp2_with fail
     go_roundg (r.length-(k+1))
     case measure=>exact(by omega)
     case rel=>exact⟨k+1,some ⟨F2,0,none⟩,C7,qs++[(p.1,p.2)],rfl,rfl,(by go_num),E7,(by rw[O0.1,List.take_add_one,V5.1];rfl),L7.1,G6.1⟩
    have E7:=HLU.1;have X8:=U8.1;obtain rfl:k=r.length:=by omega
    go_upto_region 15 with fail
    refine wl ?_;refine zp (.bool false) (by exact Dv (e:=(Ah (Int.lt_irrefl _)))) ?_;have N1:=O0.1;have I8:qs=r.reverse:=by rw[N1];exact cQQ (by rw[List.length_reverse];exact Cj _)
    have I9:qs.length=r.length:=by rw[I8,List.length_reverse]
    have T8:=zH I8;have T6:=zH (show(⟨A5,c5,qs⟩:aAP).Ok w.heap.size A0 from by have h_:=Be.lowA (A1.1.row (i:=0) (by rfl)) HB.1.ext.size;rw[<-I9]at h_;exact h_);have J6:=zH (HB.1.step A1.1.ext);have V1:=zH (fun o_ ho_=>(U1.1 o_ ho_).ext A1.1.ext);have V2:=zH (V3.1.trans (Af.of_ext A1.1.ext));have T2:=zH (T3.1.dig (Af.of_ext A1.1.ext));clear N1 I8;rw[<-I9];clear I9;go_upto_region 19 with fail
    refine wl ?_;refine Bq Ac _ _ ?_;refine zp (w':=(A0.alloc (.cells ([.slice A5 qs.length c5]:List Value).toArray 39))) (.slice (some ⟨A0.heap.size,0,none⟩) 1 1) (by go_simp) ?_;refine Tj rR _ _ _ rR aBX rR J6.1 (ix:=3) rR 1 1 [.slice A5 qs.length c5] rR rfl (by simp[Value.oneCell']) (by simp[At]) dC (by unfold maxLen;exact(by omega)) (by omega) ?_;intro F1 C6 I1 hf hh hd hg;have O9:=zH hf;clear hf;rw[show List.flatMap aAP.cells os++[.slice A5 qs.length c5]=_ from Hc aAP.cells _ (⟨A5,c5,qs⟩:aAP)]at hh;have L6:=hN hh;have H4:=zH (hd);have F9:=zH (show Fr (fun kz=>Value.ownBlock (.slice A4 i c4)=some kz) A0 I1 from((Fr.of_ext (G:=fun kz=>Value.ownBlock (.slice A4 i c4)=some kz) (Aa.refl A0)).trans (Fr.of_ext (Al.alloc _))).trans_new hg (fun j hj=> .inl hj));clear hh hd hg;try simp only[Act.put,zA,zB,zC]
    refine zq (.slice (some ⟨F1,0,none⟩) (i+1) C6) ?_;go_upto_region 20 with fail
    refine wl ?_;refine zp (iV ((i+1:Nat):Int)) (by exact Hm (by omega)) ?_;refine zq (iV ((i+1:Nat):Int)) ?_;go_wp2_with fail
    go_roundg (rs.length-(i+1))
    case measure=>exact(by omega)
    case rel=>exact⟨i+1,some ⟨F1,0,none⟩,C6,os++[(⟨A5,c5,qs⟩:aAP)],D3,(sq+(szV [r] a b)),rfl,rfl,(by go_num),E0,(by rw[jXX,O1.1,take_map_succA G0.1,<-T8.1];rfl),(by rw[aZZ,O2.1];rfl),(fun o_ ho_=>(List.mem_append.1 ho_).elim (fun h_=>(V1.1 o_ h_).fr J6.1 (ix:=3) (by rfl) F9.1) (fun h_=>by rw[List.mem_singleton.1 h_];exact T6.1.fr J6.1 (ix:=3) (by rfl) F9.1)),(by rw[take_map_succA G0.1,sum_snoc,<-N8.1]),(T2.1.dig H4.1),T4.1,L6.1.take 4,(V2.1.trans H4.1)⟩
   have E0:=HLT.1;have X9:=U9.1;obtain rfl:i=rs.length:=by omega
   go_upto_region 7 with fail
   refine wl ?_;refine zp (.bool false) (by exact Dv (e:=(Ah (Int.lt_irrefl _)))) ?_;have J0:=O2.1;have U4:=zH (show os.map aAP.l=rs.map List.reverse from by rw[O1.1,mXX]);have K1:=zH (show(rs.map List.reverse).length=rs.length from by rw[eZZ]);have U3:=zH (show Cu A7 (.slice A4 (rs.map List.reverse).length c4) (rs.map List.reverse)from by have h_:=E3.1.row (i:=3) (by rfl);rw[<-J0]at h_;have E1:=aAZ h_ G1.1;rw[U4.1,J0,<-K1.1]at E1;exact E1);have U6:=zH (show(rs.map List.reverse).length<=1048576 from by rw[K1.1];exact HN.1);have U5:=zH (show∀r,r∈rs.map List.reverse->r.length<=1048576 from fun r_ A9=>by obtain⟨R3,S1,rfl⟩:=List.mem_map.1 A9;rw[List.length_reverse];exact C8.1 R3 S1);have N7:=zH (show sq=szV rs a b from by rw[N8.1,mXX];exact szV_sum HV.1 (fun r_ A9=>by obtain⟨j_,R8⟩:=List.mem_iff_getElem?.1 A9;exact okR_oneA HV.1 R8) a b);have V4:=zH (szV_back HV.1 a b);have O4:=zH (sgaE_same HV.1 (okR_rev HV.1) a b);clear J0;have D1:=tD (tD (tD (tD (tD W6 W5) W4) P5) P4) P3;have J8:=zH (show Nm.rl sq<=8030 from by rw[N7.1];exact(H8.1.dig D1.1).rl);go_upto_region 21 with fail
   refine wl ?_;refine Kf E3.1 _ _ _ _ _ ?_;refine zc ((calls_len3 K1.1 (dK A4 c4 (rs.map List.reverse) a b _ (U3.1.ext Al) U6.1 U5.1 (fun _=>by rw[tot_rev];exact J7.1) E2.1.1 E2.1.2)).mono (fun _ _ h_=>Uf.any h_ dC)) ?_;rintro e Q8 ⟨E5,rfl,A8,hx⟩;have L5:=zH (E3.1.step hx);have H2:=zH (Af.of_ext hx);have J2:=zH (show RV.In 8030 _ E5 (szV (rs.map List.reverse) a b)from A8);clear A8 hx;refine zn ?_;refine Dh Ac _ _ (iV (mE (rs.map List.reverse) a b)) ?_;refine Cm 33 rz L5.1 ?_;intro S3 Q7 L3 D9;refine Cy 4 (rc E5) L3.1 ?_;intro B4 B7 D8;refine zq (iV (mE (rs.map List.reverse) a b)) ?_;rcases Co (mE rs a b=0)with HE|HE
   ·go_upto_region 22 with fail
    refine zy ?_;have L2:=zH (B7.1.step (Aa.refl B4).drew);have D7:=zH (Af.of_ext (w:=B4) zb);refine Ra Ac zb (bs 24 3) 0 1 (iV (mE (rs.map List.reverse) a b)) (iV (mE rs a b)) ?_;refine zu 2 (bs 24 7) (v:= .bool true) zb ?_ (hv:=by intro w B0;exact bQ (e:=(Ae O4.1)));refine Ra Ac zb (bs 24 31) 3 4 (.bool true) (iV (mE rs a b)) ?_;refine zu 5 (bs 24 63) (v:= .bool false) zb ?_ (hv:=by intro w B0;exact Jn (e:=(Ah (fun h_=>h_ HE.1))));refine lJ B7.1 zb (bs 24 511) 6 7 8 (.bool false) _ _ ?_;have G5:=tD (tD (tD H2 D9) D8) D7;have D0:=tD (tD (tD (tD D1 H2) D9) D8) D7;refine mC 9 (bs 24 1023) (vH (L:=60000) (RV.Is.nin (N9.1.dig G5.1) (Ar J8.1 (by omega))) (RV.In.nin (RV.In.mono (H8.1.dig D0.1) (by omega))) (by omega)) ?_;rintro e I0 ⟨rfl,hx⟩;have L1:=zH (L2.1.step hx);have H1:=zH (show Af B4.drew I0 from Af.of_ext hx);have B6:=zH (zb.trans hx);clear hx;refine zm B6.1 ?_;refine zu 10 (bs 24 2047) (v:= .bool true) B6.1 ?_ (hv:=by intro w B0;exact bQ (e:=(Ae (Pk.2 N7.1))));refine lJ B7.1 B6.1 (bs 24 24575) 11 12 14 (.bool true) _ _ ?_;have C9:=tD D0 H1;refine mC 13 (bs 24 32767) (vG (L:=60000) (RV.In.nin (RV.In.mono (H8.1.dig C9.1) (by omega))) (by omega)) ?_;rintro e Q6 ⟨c_,rfl,F0,hx⟩;have L0:=zH (L1.1.step hx);have M3:=zH (Af.of_ext hx);have F7:=zH (B6.1.trans hx);obtain⟨R2,rfl,A9⟩:=F0;have J1:=zH A9;have M7:=zH (show Nm.rl (-(szV rs a b))<=60000 from by have h_:=(H8.1.dig C9.1).rl;rw[Nm.rl_neg];omega);clear A9 hx;refine zm F7.1 ?_;have G4:=tD (tD (tD (tD D9 D8) D7) H1) M3;refine mC 15 (bs 24 65535) (vH (L:=60000) (RV.Is.nin J1.1 (Ar M7.1 (by omega))) (RV.In.nin (RV.In.mono (J2.1.dig G4.1) (by omega))) (by omega)) ?_;rintro e Q5 ⟨rfl,hx⟩;have K9:=zH (L0.1.step hx);have B5:=zH (F7.1.trans hx);clear hx;refine zm B5.1 ?_;refine zu 16 (bs 24 131071) (v:= .bool true) B5.1 ?_ (hv:=by intro w B0;exact bQ (e:=(Ae (Pk.2 V4.1.symm))));refine xC Ac B5.1 (bs 24 2097151) 17 18 19 20 (.bool true) (.bool true) (.bool true) (.bool true) ?_;refine mC 21 (bs 24 4194303) (Fe _) ?_;rintro e Q4 ⟨rfl,hx⟩;have K8:=zH (K9.1.step hx);have F6:=zH (B5.1.trans hx);clear hx;refine zm F6.1 ?_;refine Ra Ac F6.1 (bs 24 16777215) 22 23 (.bool true) (.bool true) ?_;refine wpAnyH_done kR ?_ _;go_wp2_with fail
    go_ret
    exact⟨rfl,K8.1.ext⟩
   go_upto_region 22 with fail
   refine zy ?_;have K7:=zH (B7.1.step (Aa.refl B4).drew);refine Ra Ac zb (bs 24 3) 0 1 (iV (mE (rs.map List.reverse) a b)) (iV (mE rs a b)) ?_;refine zu 2 (bs 24 7) (v:= .bool true) zb ?_ (hv:=by intro w B0;exact bQ (e:=(Ae O4.1)));refine Ra Ac zb (bs 24 31) 3 4 (.bool true) (iV (mE rs a b)) ?_;refine zu 5 (bs 24 63) (v:= .bool true) zb ?_ (hv:=by intro w B0;exact Jn (e:=(Ae HE.1)));refine yF Ac zb (bs 24 16383) 6 7 8 9 10 11 12 13 (.bool true) _ _ _ _ _ _ _ ?_;refine aCA Ac zb (bs 24 2097151) 14 15 16 17 18 19 20 _ _ _ _ (.bool true) (.bool true) (.bool true) ?_;refine mC 21 (bs 24 4194303) (Fe _) ?_;rintro e Q3 ⟨rfl,hx⟩;have K6:=zH (K7.1.step hx);have F5:=zH (zb.trans hx);clear hx;refine zm F5.1 ?_;refine Ra Ac F5.1 (bs 24 16777215) 22 23 (.bool true) (.bool true) ?_;refine wpAnyH_done kR ?_ _;go_wp2_with fail
   go_ret
   exact⟨rfl,K6.1.ext⟩
  go_upto_region 1 with fail
  refine wl ?_;refine Bq Ac _ _ ?_;refine aC H3.1 ((Hr A cap rs ⟨0,0,0,0⟩ _ (HU.1.ext H3.1.ext) HN.1 C8.1).mono fun _ _ h_=>(⟨h_.1.trans (by rw[HLG.1]),h_.2⟩:_=Ending.returned (.bool true)/\Aa _ _)) ?_;intro Q2 G2 _;refine Dh Ac (.bool false) (.bool false) _ ?_;refine zc (Fv _ rs _ (HU.1.ext G2.1.ext) HN.1 C8.1) ?_;rintro e Q1 ⟨rfl,hx⟩;have K5:=zH (G2.1.step hx);clear hx;refine⟨.bool false,by rw[Bool.eq_false_iff.2 HV.1],?_⟩;try simp only[Act.put,zA,zB,zC]
  refine Bq Ac (.bool true) (.bool true) ?_;go_upto_region 2 with fail
  refine wl ?_;refine aC K5.1 (Fe _) ?_;intro Q0 K4 _;refine zq (.bool true) ?_;go_wp2_with fail
  go_ret
  exact⟨rfl,K4.1.ext⟩
 have U7:=zH (Bool.eq_false_iff.2 HLG.1);go_upto_region 1 with fail
 refine wl ?_;refine Bq Ac _ _ ?_;refine aC H3.1 ((Hr A cap rs ⟨0,0,0,0⟩ _ (HU.1.ext H3.1.ext) HN.1 C8.1).mono fun _ _ h_=>(⟨h_.1.trans (by rw[U7.1]),h_.2⟩:_=Ending.returned (.bool false)/\Aa _ _)) ?_;intro P9 K3 _;refine Pc Ac (.bool true) (.bool true) _ _ _ (.bool true) ?_;go_upto_region 2 with fail
 refine wl ?_;refine aC K3.1 (Fe _) ?_;intro P8 K2 _;refine zq (.bool true) ?_;go_wp2_with fail
 go_ret
 exact⟨rfl,K2.1.ext⟩
end addlaw
end
end Go.Proofs.YtlipfipniibpoacGreat
