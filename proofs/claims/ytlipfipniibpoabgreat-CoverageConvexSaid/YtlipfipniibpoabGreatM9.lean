import Derived.Laws.BytesArg
import Derived.Test.YtlipfipniibpoabGreatRows
import Derived.ProofKit
import Derived.OpenShut
import Derived.Below
import Derived.Deep.Slices
import Derived.Lib.SmallJoins
import Derived.ChangeSlices
import Derived.Test.YtlipfipniibpoabGreatM8
set_option maxRecDepth 100000
set_option maxHeartbeats 4000000
namespace Go.Proofs.YtlipfipniibpoabGreat
open Go.RowKit
open Go.Proofs.Tryz
section
attribute [local go_sem ↓] Go.wp_at_zero Go.wp_at_succ Ae Ad
theorem fC (px py:Int)(a b:Int×Int)(w:World)(hp:(-1048576<=px/\px<=1048320)/\ -1048576<=py/\py<=1048320)(oa:Du a)(ob:Du b):
  Calls prog 77 #[.agg #[iV px,iV py],.agg #[iV a.1,iV a.2],.agg #[iV b.1,iV b.2]] w fun e w'=>∃r:RV,e= .returned (rg r)/\r.Is w' (Ey (px,py) a b)/\Aa w w':=by
 have C4:=zH oa;have C3:=zH ob;have ka:=Bd oa;have kb:=Bd ob;clear oa ob;go_enter func77,ntmps77
 have H0:=zH (Hp.start w);go_upto_region 0 with fail;apply wl;apply Cm 79 [iV px,iV py] H0.1;intro X1 w2 H3 _;apply Cm 44 [iV a.1,iV a.2] H3.1;intro X6 w7 H8 _;apply Cm 44 [iV b.1,iV b.2] H8.1;intro L8 W2 V1 _;refine Cm 58 rz V1.1 ?_;intro Q8 S8 O5 _;go_upto_region 1 with fail;refine zy ?_;have V0:=zH (O5.1.step (Aa.refl S8).drew);refine aGV O5.1 zb (bs 18 255) 0 1 2 3 4 5 6 7 _ _ _ _ _ _ (iV (min a.2 b.2)) (iV (max py (min a.2 b.2))) ?_;refine aBN O5.1 zb (bs 18 32255) 8 10 11 12 13 14 _ _ _ _ _ (iV (max a.2 b.2)) ?_;refine mC 9 (bs 18 32767) (kL px py _ ⟨⟨ω,ω⟩,ω,ω⟩) ?_;rintro e Q5 ⟨rfl,hx⟩;have D2:=zH (V0.1.step hx);have R0:=zH (zb.trans hx);clear hx;apply zm R0.1;refine rN Af R0.1 (bs 18 262143) 15 16 17 (iV (min (py+256) (max a.2 b.2))) (iV (max py (min a.2 b.2))) (iV (min (py+256) (max a.2 b.2))) ?_;refine wpAnyH_done kR ?_ _;obtain⟨lo,L3⟩:∃lo,max py (min a.2 b.2)=lo:=⟨_,rfl⟩;obtain⟨hi,L4⟩:∃hi,min (py+256) (max a.2 b.2)=hi:=⟨_,rfl⟩;rw[L3,L4];have K0:=zH (show Lt (px,py).2 a b=lo from L3);have K1:=zH (show Lu (px,py).2 a b=hi from L4);have W4: -1048576<=lo/\lo<=1048576/\ -1048576<=hi/\hi<=1048576:=ω
 have N5:=zH (show min a.2 b.2<=lo/\hi<=max a.2 b.2 by omega);clear L3 L4;rcases Cx (hi<=lo)with H1|H1
 ·go_upto_region 2 with fail
  apply wl;refine Cc Af (iV lo) (iV hi) ?_;apply zp τ (by exact Od (e:=(An H1.1)));refine Iu Af τ _ _ _ _ _ _ _ ?_;refine zk ?_;apply zq τ;go_upto_region 3 with fail;apply wl;refine zc (Cz 0 _ ω ω) ?_;rintro e W1 ⟨c_,rfl,A6,hx⟩;have U9:=zH (D2.1.step hx);obtain⟨C1,rfl,A1⟩:=A6;have T9:=zH A1;clear A1 hx;refine zn ?_;apply Da 3 (rc C1) U9.1;intro W0 S2 V4;go_wp2_with fail
  refine bodyPost_ret (v:= (rg C1)) ?_ rfl ⟨C1,rfl,(show Ey (px,py) a b=(((0):Int):Rat)from(by unfold Ey;rw[K0.1,K1.1];exact if_pos (.inl H1.1)))▸(T9.1.dig V4.1),S2.1.ext⟩;exact Ak rfl rfl ((S2.1.blk (i:=3) rR).loadVar rfl rfl rR)
 rcases Cx (max a.1 b.1<=px)with H2|H2
 ·go_upto_region 2 with fail
  apply wl;refine Cc Af (iV lo) (iV hi) ?_;apply zp φ (by exact Od (e:=(Al H1.1)));refine Iu D2.1 φ _ _ _ _ (iV (max a.1 b.1)) _ _ ?_;apply zp τ (by exact Qg (e:=(An H2.1)));apply zq τ;go_upto_region 3 with fail;apply wl;refine zc (Cz 0 _ ω ω) ?_;rintro e V9 ⟨c_,rfl,A6,hx⟩;have U8:=zH (D2.1.step hx);obtain⟨C0,rfl,A1⟩:=A6;have T8:=zH A1;clear A1 hx;refine zn ?_;apply Da 3 (rc C0) U8.1;intro V8 S1 V3;go_wp2_with fail
  refine bodyPost_ret (v:= (rg C0)) ?_ rfl ⟨C0,rfl,(show Ey (px,py) a b=(((0):Int):Rat)from(by unfold Ey;rw[K0.1,K1.1];exact if_pos (.inr H2.1)))▸(T8.1.dig V3.1),S1.1.ext⟩;exact Ak rfl rfl ((S1.1.blk (i:=3) rR).loadVar rfl rfl rR)
 go_upto_region 2 with fail;apply wl;apply qV (iV lo);apply zq (iV hi);apply zp φ (by exact Od (e:=(Al H1.1)));refine Iu D2.1 φ _ _ _ _ (iV (max a.1 b.1)) _ _ ?_;apply zp φ (by exact Qg (e:=(Al H2.1)));apply zq φ;rcases Cx (px+256<=min a.1 b.1)with H3|H3
 ·go_upto_region 4 with fail
  refine zy ?_;have U7:=zH (D2.1.step (Aa.refl Q5).drew);refine aBN D2.1 zb (bs 8 63) 0 1 2 3 4 5 _ _ _ _ (iV (min a.1 b.1)) _ ?_;refine mC 6 (bs 8 127) (Ra px py _ ⟨⟨ω,ω⟩,ω,ω⟩) ?_;rintro e V7 ⟨rfl,hx⟩;have U6:=zH (U7.1.step hx);have Q9:=zH (zb.trans hx);clear hx;apply zm Q9.1;refine zu 7 (bs 8 255) (v:= .bool true) Q9.1 ?_ (hv:=by intro w D7;exact Od (e:=(An H3.1)));refine wpAnyH_done kR ?_ _;go_upto_region 5 with fail
  apply wl;refine Cc Af (iV hi) (iV lo) ?_;apply zp (iV (hi-lo)) (by exact Xg (by have L2:=(show lo<hi from Int.not_le.1 H1.1);omega));apply zp (iV (256*(hi-lo))) (by exact gZ (by have L2:=(show lo<hi from Int.not_le.1 H1.1);omega));refine zc (Cz (256*(hi-lo)) _ (by have L2:=(show lo<hi from Int.not_le.1 H1.1);omega) (by have L2:=(show lo<hi from Int.not_le.1 H1.1);omega)) ?_;rintro e V6 ⟨c_,rfl,A6,hx⟩;have U5:=zH (U6.1.step hx);obtain⟨B9,rfl,A1⟩:=A6;have T7:=zH A1;clear A1 hx;refine zn ?_;apply Da 3 (rc B9) U5.1;intro V5 S0 V2;go_wp2_with fail
  refine bodyPost_ret (v:= (rg B9)) ?_ rfl ⟨B9,rfl,(show Ey (px,py) a b=((256*(hi-lo):Int):Rat)from(by unfold Ey;rw[K0.1,K1.1];exact(if_neg (fun h_=>by have D8:=H1.1;have D1:=H2.1;omega)).trans (if_pos H3.1)))▸(T7.1.dig V2.1),S0.1.ext⟩;exact Ak rfl rfl ((S0.1.blk (i:=3) rR).loadVar rfl rfl rR)
 go_upto_region 4 with fail;refine zy ?_;have P2:=zH (D2.1.step (Aa.refl Q5).drew);refine aBN D2.1 zb (bs 8 63) 0 1 2 3 4 5 _ _ _ _ (iV (min a.1 b.1)) _ ?_;refine mC 6 (bs 8 127) (Ra px py _ ⟨⟨ω,ω⟩,ω,ω⟩) ?_;rintro e T2 ⟨rfl,hx⟩;have P1:=zH (P2.1.step hx);have G5:=zH (zb.trans hx);clear hx;apply zm G5.1;refine zu 7 (bs 8 255) (v:= .bool false) G5.1 ?_ (hv:=by intro w D7;exact Od (e:=(Al H3.1)));refine wpAnyH_done kR ?_ _;go_upto_region 6 with fail
 apply wl;refine zc (Cz 0 _ ω ω) ?_;rintro e T1 ⟨c_,rfl,A6,hx⟩;have P0:=zH (P1.1.step hx);obtain⟨D6,rfl,A1⟩:=A6;have N4:=zH A1;clear A1 hx;refine zn ?_;refine Cm 58 rz P0.1 ?_;intro A5 T0 O9 Q1;apply Da 4 (rc D6) O9.1;intro S9 H7 Q0;go_upto_region 7 with fail
 apply wl;refine Na H7.1 _ _ _ (iV lo) (iV hi) ?_;refine zc (zL px py a b lo hi _ hp C4.1 C3.1 ⟨ω,ω⟩ ⟨ω,ω⟩) ?_;rintro e F7 ⟨Ap,nn,cp,ep,rfl,D8,B3,D1,D0,hx⟩;have R9:=zH D8;have E2:=zH D1;have R8:=zH D0;have HA:=zH (show 0<nn->∃g,Ap=some ⟨g,0,none⟩from by obtain⟨A_,c_,e_,k_⟩:=Ba.form B3;injection e_ with e1_ e2_ e3_;subst e1_;exact k_);have H6:=zH (show Hp w F7 [.blk X1 79 [iV px,iV py],.blk X6 44 [iV a.1,iV a.2],.blk L8 44 [iV b.1,iV b.2],.blk Q8 58 rz,.blk A5 58 (rc D6),ro 58 4 Ap nn cp Ca.cells ep]from H7.1.addRow hx B3);have P9:=zH (Ah.of_ext hx);clear B3 D8 D1 D0 hx;refine zn ?_;refine Cn Af _ ?_;go_upto_region 8 with fail
 apply wl;apply zq (iV 0);have J9:=zH (show nn=ep.length/\nn<=4 from⟨R9.1,by rw[R9.1,<-fXX (f:=Ca.q),E2.1];exact bP _ _ _ _ _⟩);have W3:=J9.1.2;have J8:=zH (show∀z,z∈(Gb px a b lo hi)->Nm.rl z<=20 from fun z hz=>uU hz C4.1 C3.1 ⟨ω,ω⟩ ⟨ω,ω⟩ hp.1);have R7:=zH (show∀z,z∈(Gb px a b lo hi)->((min a.2 b.2:Int):Rat)<=z/\z<=((max a.2 b.2:Int):Rat)from fun z hz=>by have D8:=To hz (by have:=H1.1;omega);have D1:((min a.2 b.2:Int):Rat)<=((lo:Int):Rat):=(by exact_mod_cast N5.1.1);have D0:((hi:Int):Rat)<=((max a.2 b.2:Int):Rat):=(by exact_mod_cast N5.1.2);exact⟨Rat.le_trans D1 D8.1,Rat.le_trans D8.2 D0⟩);have R6:=zH (show a.2≠b.2 from fun h_=>by have D1:=N5.1;have D0:=H1.1;omega);have U4:=zH (show∀k,Nm.rl (Ex (Ma px a b) ((Gb px a b lo hi).take k))<=486 from fun k=>by have h_:=Vq (F:=(Ma px a b)) (C:=120) (l:=(Gb px a b lo hi).take k) (fun x hx y hy=>rV C4.1 C3.1 (J8.1 x (List.mem_of_mem_take hx)) (J8.1 y (List.mem_of_mem_take hy)) ⟨ω,ω⟩);have D1:=bP px a b lo hi;have D0:((Gb px a b lo hi).take k).length<=4:=(by rw[dXX];omega);have W6:=hXX (120+1) D0;omega);have I5:=tD (tD Q1 Q0) P9;go_wp2_with fail
 go_loopg [11] (nn) (fun cq K9 wr=>∃(i:Nat) (A0:RV),cq=nn-i/\K9= iV (i:Int)/\(i<nn)/\(A0.Is wr (Ex (Ma px a b) ((Gb px a b lo hi).take (i+1))))/\Hp w wr [.blk X1 79 [iV px,iV py],.blk X6 44 [iV a.1,iV a.2],.blk L8 44 [iV b.1,iV b.2],.blk Q8 58 [.bool false,.slice none 0 0,.bool false,.slice none 0 0],.blk A5 58 (rc A0),.row 58 4 (.slice Ap nn cp) (nn) (List.flatMap Ca.cells ep)]/\Ah F7 wr)
 case atStart=>exact⟨0,D6,rfl,rfl,(by rw[J9.1.1,<-fXX (f:=Ca.q),E2.1];exact zJ _ _ _ _ _),(by have h_:Ex (Ma px a b) ((Gb px a b lo hi).take 1)=(((0):Int):Rat):=pB _ _;rw[h_];exact(N4.1.dig I5.1)),H6.1,Ah.refl _⟩
 obtain⟨i,A0,rfl,rfl,C8,G0,Q6,Q7⟩:=hrel;generalize wr=B1 at*;have U3:=zH C8;clear C8;have RZ:=zH G0;clear G0;have B2:=zH Q6;have P8:=zH Q7;clear Q6 Q7 H6;have BZ:=zH (U4.1 (i+1));rcases Cx (i+1<nn)with HLT|HLT
 ·have J7:=HLT.1
  have hj:i<nn:=ω;obtain⟨gp,rfl⟩:=HA.1 ω;have T5:=J9.1.1;obtain⟨xe,C2⟩:∃e,ep[i]?=some e:=⟨_,aQQ ω⟩;obtain⟨ye,J6⟩:∃e,ep[i+1]?=some e:=⟨_,aQQ ω⟩;have HX:=zH C2;have HY:=zH J6;have G7:=zH (R8.1 xe (bZZ C2)).1;have R5:=zH (show xe.q∈(Gb px a b lo hi)from by rw[<-E2.1];exact List.mem_map_of_mem (bZZ C2));have B7:=zH (J8.1 _ R5.1);have R3:=zH (R7.1 _ R5.1);have U1:=zH (cJ (px:=px) (Md C4.1 C3.1 B7.1) ⟨ω,ω⟩);have G6:=zH (R8.1 ye (bZZ J6)).1;have R2:=zH (show ye.q∈(Gb px a b lo hi)from by rw[<-E2.1];exact List.mem_map_of_mem (bZZ J6));have B6:=zH (J8.1 _ R2.1);have R1:=zH (R7.1 _ R2.1);have U0:=zH (cJ (px:=px) (Md C4.1 C3.1 B6.1) ⟨ω,ω⟩);have U2:=zH (Vp (Ma px a b) (Gb px a b lo hi) i xe.q ye.q (by rw[<-E2.1,lQQ,HX.1];rfl) (by rw[<-E2.1,lQQ,HY.1];rfl));clear C2 J6 T5;go_upto_region 9 with fail
  apply wl;apply zq (iV (i:Int));apply zp (iV ((i+1:Nat):Int)) (by exact Ht ω);refine Cc Af _ (iV (nn:Int)) ?_;apply zp τ (by exact Eg (e:=(An ω)));go_upto_region 11 with fail;refine zy ?_;have E6:=zH (B2.1.step (Aa.refl B1).drew);have J0:=zH (Ah.of_ext (w:=B1) zb);refine zg 0 (bs 13 1) X6 (0) [iV a.1,iV a.2] (B2.1.range (i:=1) rR 0 2) underlying44 zb ?_;refine zg 1 (bs 13 3) L8 (0) [iV b.1,iV b.2] (B2.1.range (i:=2) rR 0 2) underlying44 zb ?_;refine cR Af zb (bs 13 15) 2 3 _ (iV (i:Int)) ?_;refine zo 4 (bs 13 31) (v:= .pointer (some ⟨gp,i*4,none⟩)) zb ?_ (hv:=by intro w D7;exact Ha (k:=i) underlying127 (l:=hj) (f:=(cZZ _).symm));refine zg 5 (bs 13 63) gp (i*4) (rc xe.a) (B2.1.elem (f:=Ca.cells) (i:=5) rR Ca.len HX.1) underlying58 zb ?_;refine gG 10 (some 12) 58 rz B1 E6.1 ?_;have D4:=tD P8 J0;refine gL 6 (bs 13 1087) (bs 13 127) zb.size E6.1 zb (fun xq A4=>Tc 20 a.1 a.2 b.1 b.2 _ xe.q _ (RV.Is.nin (G7.1.dig (D4.1.trans (Ah.of_ext A4))) B7.1) dC dC C4.1 C3.1 R6.1 R3.1.1 R3.1.2) (by rintro x_ e J5 ⟨c_,rfl,A6,hx⟩;exact hx) ?_;rintro xq e K8 A4 ⟨c_,rfl,A6,hx⟩;replace hx:=A4.trans hx;clear A4;have O8:=zH (E6.1.step hx);have I9:=zH (show Ah B1.drew K8 from Ah.of_ext hx);have B5:=zH (zb.trans hx);obtain⟨F9,rfl,A1⟩:=A6;have N3:=zH A1;have Q4:=zH (Md (L:=20) C4.1 C3.1 B7.1);clear A1 hx;refine⟨_,rfl,?_⟩;try simp only[ζ]
  refine gK 7 (bs 13 1151) (bs 13 255) _ B5.1 ?_;refine gK 8 (bs 13 1279) (bs 13 511) _ B5.1 ?_;refine gK 9 (bs 13 1535) (bs 13 1023) τ B5.1 ?_;refine gE (bs 13 2047) B5.1.size O8.1 B5.1 ?_;intro L7 K7 hx hh hs C9;have O7:=hN hh;have F6:=zH (Ah.of_ext hx);have M5:=zH (show Aa B1 K7 from hs);have P5:=zH (show B1.heap.size<=L7 from C9);clear hh hx C9 hs;try simp only[ζ]
  refine bS 6 11 (bs 13 4095) (rc F9) O7.1 M5.1 P5.1 ?_;intro B0 E5 F5 M4;refine zx 12 (bs 13 8191) τ M4.1 ?_;refine wpAnyH_done kR ?_ _;go_upto_region 12 with fail;refine zy ?_;have E4:=zH (E5.1.step (Aa.refl B0).drew);have F4:=zH (Ah.of_ext (w:=B0) zb);refine aEA E5.1 zb (bs 14 15) 0 1 2 3 _ _ _ (iV (i:Int)) ?_;refine zu 4 (bs 14 31) (v:= iV ((i+1:Nat):Int)) zb ?_ (hv:=by intro w D7;exact Ht ω);refine zo 5 (bs 14 63) (v:= .pointer (some ⟨gp,(i+1)*4,none⟩)) zb ?_ (hv:=by intro w D7;exact Ha (k:=i+1) underlying127 (l:=J7) (f:=(cZZ _).symm));refine zg 6 (bs 14 127) gp ((i+1)*4) (rc ye.a) (E5.1.elem (f:=Ca.cells) (i:=5) rR Ca.len HY.1) underlying58 zb ?_;refine gG 11 (some 14) 58 rz B0 E4.1 ?_;have D3:=tD (tD (tD (tD D4 I9) F6) F5) F4;refine gL 7 (bs 14 2175) (bs 14 255) zb.size E4.1 zb (fun xq A4=>Tc 20 a.1 a.2 b.1 b.2 _ ye.q _ (RV.Is.nin (G6.1.dig (D3.1.trans (Ah.of_ext A4))) B6.1) dC dC C4.1 C3.1 R6.1 R1.1.1 R1.1.2) (by rintro x_ e J5 ⟨c_,rfl,A6,hx⟩;exact hx) ?_;rintro xq e K6 A4 ⟨c_,rfl,A6,hx⟩;replace hx:=A4.trans hx;clear A4;have O6:=zH (E4.1.step hx);have F3:=zH (show Ah B0.drew K6 from Ah.of_ext hx);have B4:=zH (zb.trans hx);obtain⟨F8,rfl,A1⟩:=A6;have N2:=zH A1;have Q3:=zH (Md (L:=20) C4.1 C3.1 B6.1);clear A1 hx;refine⟨_,rfl,?_⟩;try simp only[ζ]
  refine gK 8 (bs 14 2303) (bs 14 511) _ B4.1 ?_;refine gK 9 (bs 14 2559) (bs 14 1023) _ B4.1 ?_;refine gK 10 (bs 14 3071) (bs 14 2047) τ B4.1 ?_;refine gE (bs 14 4095) B4.1.size O6.1 B4.1 ?_;intro L6 K5 hx hh hs C9;have O4:=hN hh;have C7:=zH (Ah.of_ext hx);have M3:=zH (show Aa B0 K5 from hs);have P4:=zH (show B0.heap.size<=L6 from C9);clear hh hx C9 hs;try simp only[ζ]
  refine bS 7 12 (bs 14 8191) (rc F8) O4.1 M3.1 P4.1 ?_;intro A9 H5 C6 M2;refine zx 13 (bs 14 16383) τ M2.1 ?_;refine wpAnyH_done kR ?_ _;go_upto_region 13 with fail;refine zy ?_;have E3:=zH (H5.1.step (Aa.refl A9).drew);have C5:=zH (Ah.of_ext (w:=A9) zb);refine aEA H5.1 zb (bs 9 27) 0 1 3 4 _ _ _ _ ?_;refine gG 7 (some 16) 58 rz A9 E3.1 ?_;have I4:=tD (tD (tD (tD (tD (tD F6 F5) F4) F3) C7) C6) C5;refine gL 2 (bs 9 155) (bs 9 31) zb.size E3.1 zb (fun xq A4=>kT px py F9 (Di a.1 a.2 b.1 b.2 xe.q) _ ⟨ω,ω⟩ (N3.1.dig (I4.1.trans (Ah.of_ext A4))) (Av Q4.1 dC)) (by rintro x_ e J5 ⟨L1,rfl,A1,hx⟩;exact hx) ?_;rintro xq e K4 A4 ⟨L1,rfl,A1,hx⟩;replace hx:=A4.trans hx;clear A4;have H4:=zH (E3.1.step hx);have F2:=zH (show Ah A9.drew K4 from Ah.of_ext hx);have E1:=zH (zb.trans hx);have N1:=zH A1;have J4:=zH (show Nm.rl (Ik px (Di a.1 a.2 b.1 b.2 xe.q))<=31 from U1.1);clear A1 hx;refine⟨_,rfl,?_⟩;try simp only[ζ]
  have I3:=tD (tD (tD C7 C6) C5) F2;refine gL 5 (bs 9 159) (bs 9 63) E1.1.size H4.1 E1.1 (fun xq A4=>kT px py F8 (Di a.1 a.2 b.1 b.2 ye.q) _ ⟨ω,ω⟩ (N2.1.dig (I3.1.trans (Ah.of_ext A4))) (Av Q3.1 dC)) (by rintro x_ e J5 ⟨L0,rfl,A1,hx⟩;exact hx) ?_;rintro xq e S7 A4 ⟨L0,rfl,A1,hx⟩;replace hx:=A4.trans hx;clear A4;have G9:=zH (H4.1.step hx);have F1:=zH (Ah.of_ext hx);have E0:=zH (E1.1.trans hx);have N0:=zH A1;have J3:=zH (show Nm.rl (Ik px (Di a.1 a.2 b.1 b.2 ye.q))<=31 from U0.1);clear A1 hx;refine⟨_,rfl,?_⟩;try simp only[ζ]
  refine gL 6 (bs 9 191) (bs 9 127) E0.1.size G9.1 E0.1 (fun xq A4=>aEG (L:=60000) (RV.Is.nin (N1.1.dig (F1.1.trans (Ah.of_ext A4))) (Av J4.1 ω)) (RV.Is.nin (N0.1.dig (Ah.of_ext A4)) (Av J3.1 ω)) ω) (by rintro x_ e J5 ⟨c_,rfl,A6,hx⟩;exact hx) ?_;rintro xq e S6 A4 ⟨c_,rfl,A6,hx⟩;replace hx:=A4.trans hx;clear A4;have O3:=zH (G9.1.step hx);have I8:=zH (Ah.of_ext hx);have G4:=zH (E0.1.trans hx);obtain⟨A3,rfl,A1⟩:=A6;have M9:=zH A1;clear A1;have J2:=zH (show Nm.rl (((Ik px (Di a.1 a.2 b.1 b.2 xe.q))+(Ik px (Di a.1 a.2 b.1 b.2 ye.q)))/2)<=2*60+3 from tF (Av J4.1 (by decide)) (Av J3.1 (by decide)));clear hx;refine⟨_,rfl,?_⟩;try simp only[ζ]
  refine gE (bs 9 255) G4.1.size O3.1 G4.1 ?_;intro D9 K3 hx hh hs C9;have O2:=hN hh;have F0:=zH (Ah.of_ext hx);have M1:=zH (show Aa A9 K3 from hs);have P3:=zH (show A9.heap.size<=D9 from C9);clear hh hx C9 hs;try simp only[ζ]
  refine bS 8 8 (bs 9 511) (rc A3) O2.1 M1.1 P3.1 ?_;intro A2 A7 E9 T6;refine wpAnyH_done kR ?_ _;go_upto_region 14 with fail;refine wp_region_held_drew (S:=fun x=>Fr (fun kz=>kz=A5) A2 x) kR (Fr.of_ext zb) (fun _=> ?_);have O1:=zH (A7.1.step (Aa.refl A2).drew);have E8:=zH (Ah.of_ext (w:=A2) zb);refine zr 1 (bs 15 2) D9 (0) (rc A3) (fun x hx=>Fr.range hx (show World.rangeAt A2 D9 (0) (rc A3)from(A7.1.range (i:=8) rR 0 4)) (A7.1.offBlk (i:=8) (j:=4) rR rR dC rR)) underlying58 (Fr.of_ext zb) ?_;refine zx 2 (bs 15 6) (.slice (π gp) nn cp) (Fr.of_ext zb) ?_;refine zx 3 (bs 15 14) (iV (i:Int)) (Fr.of_ext zb) ?_;refine zu 4 (bs 15 30) (v:= iV ((i+1:Nat):Int)) (Fr.of_ext zb) ?_ (hv:=by intro w D7;exact Ht ω);refine zo 5 (bs 15 62) (v:= .pointer (some ⟨gp,(i+1)*4,none⟩)) (Fr.of_ext zb) ?_ (hv:=by intro w D7;exact Ha (k:=i+1) underlying127 (l:=J7) (f:=(cZZ _).symm));refine zr 6 (bs 15 126) gp ((i+1)*4) (rc ye.a) (fun x hx=>Fr.range hx (show World.rangeAt A2 gp ((i+1)*4) (rc ye.a)from(A7.1.elem (f:=Ca.cells) (i:=5) rR Ca.len HY.1)) (A7.1.offBlk (i:=5) (j:=4) rR rR dC rR)) underlying58 (Fr.of_ext zb) ?_;refine zx 7 (bs 15 254) (.slice (π gp) nn cp) (Fr.of_ext zb) ?_;refine zx 8 (bs 15 510) (iV (i:Int)) (Fr.of_ext zb) ?_;refine zo 9 (bs 15 1022) (v:= .pointer (some ⟨gp,i*4,none⟩)) (Fr.of_ext zb) ?_ (hv:=by intro w D7;exact Ha (k:=i) underlying127 (l:=hj) (f:=(cZZ _).symm));refine zr 10 (bs 15 2046) gp (i*4) (rc xe.a) (fun x hx=>Fr.range hx (show World.rangeAt A2 gp (i*4) (rc xe.a)from(A7.1.elem (f:=Ca.cells) (i:=5) rR Ca.len HX.1)) (A7.1.offBlk (i:=5) (j:=4) rR rR dC rR)) underlying58 (Fr.of_ext zb) ?_;refine Fd.go (j:=0) (dj:=some 102) (u:= (rg A0)) ?_;have B8:=tD (tD (tD (tD (tD (tD (tD (tD (tD (tD D3 F3) C7) C6) C5) F2) F1) I8) F0) E9) E8;refine Ie (b:=A2) (i:=11) (lj:=(bs 15 2047)) (li:=(bs 15 4094)) rR rR kR kR kR kR kR dC kR rR rR (fun x_ h_=>Fr.of_ext h_) (Aa.refl A2).drew (fun x_ h_=>Kb _ _ rR A5 (0) (rc A0) rR (Bp (show World.rangeAt A2 A5 (0) (rc A0)from A7.1.range (i:=4) rR 0 4) h_) underlying58 rR kR) rR (by go_simp) kR (eN (L:=60000) (RV.Is.nin (G6.1.dig B8.1) (Av B6.1 ω)) (RV.Is.nin (G7.1.dig B8.1) (Av B7.1 ω)) ω) ?_;rintro e D5 ⟨c_,rfl,A6,hx⟩;have O0:=zH (O1.1.step hx);have E7:=zH (show Ah A2.drew D5 from Ah.of_ext hx);have G1:=zH (show Aa A2 D5 from(Aa.refl A2).drew.trans hx);have M0:=zH (show Fr (fun kz=>kz=A5) A2 D5 from(Fr.of_ext zb).trans (Fr.of_ext hx));obtain⟨T4,rfl,A1⟩:=A6;have M8:=zH A1;clear A1;have J1:=zH (show Nm.rl (ye.q-xe.q)<=20+20+1 from by have h1:=B6.1;have h2:=B7.1;have h3:=Nm.rl_sub ye.q xe.q;omega);have C2:=hx;clear hx;refine⟨_,rfl,C2,?_⟩;try simp only[ζ]
  clear C2;have I1:=tD (tD (tD F0 E9) E8) E7;refine Ie (b:=A2) (i:=12) (lj:=(bs 15 4095)) (li:=(bs 15 8190)) rR rR kR kR kR kR kR dC kR rR rR (fun x_ h_=>Fr.of_ext h_) G1.1 (fun x_ h_=>Kb _ _ rR A5 (0) (rc A0) rR (Bp (show World.rangeAt A2 A5 (0) (rc A0)from A7.1.range (i:=4) rR 0 4) h_) underlying58 rR kR) rR (by go_simp) kR (aR (L:=60000) (RV.Is.nin (M9.1.dig I1.1) (Av J2.1 ω)) (RV.Is.nin M8.1 (Av J1.1 ω)) ω) ?_;rintro e K2 ⟨c_,rfl,A6,hx⟩;have N9:=zH (O0.1.step hx);have I7:=zH (Ah.of_ext hx);have L5:=zH (show Aa A2 K2 from G1.1.trans hx);have G3:=zH (M0.1.trans (Fr.of_ext hx));obtain⟨T3,rfl,A1⟩:=A6;have M7:=zH A1;clear A1;have Q2:=zH (show Nm.rl ((((Ik px (Di a.1 a.2 b.1 b.2 xe.q))+(Ik px (Di a.1 a.2 b.1 b.2 ye.q)))/2)*(ye.q-xe.q))<=123+(20+20+1)from by have h1:=J2.1;have h2:=J1.1;have h3:=Nm.rl_mul (((Ik px (Di a.1 a.2 b.1 b.2 xe.q))+(Ik px (Di a.1 a.2 b.1 b.2 ye.q)))/2) (ye.q-xe.q);omega);have C2:=hx;clear hx;refine⟨_,rfl,C2,?_⟩;try simp only[ζ]
  clear C2;refine On rR kR rR rR G3.1 (Kb _ _ rR A5 (0) (rc A0) rR (Bp (show World.rangeAt A2 A5 (0) (rc A0)from A7.1.range (i:=4) rR 0 4) L5.1) underlying58 rR kR) (show _=(bs 15 8191)by kernel_rfl) ?_;try simp only[ζ]
  have I0:=tD (tD (tD (tD (tD (tD (tD (tD (tD (tD (tD (tD (tD (tD (tD (tD J0 I9) F6) F5) F4) F3) C7) C6) C5) F2) F1) I8) F0) E9) E8) E7) I7;refine mC 13 (bs 15 16383) (oX (L:=60000) (RV.Is.nin (RZ.1.dig I0.1) (Av BZ.1 ω)) (RV.Is.nin M7.1 (Av Q2.1 ω)) ω) ?_;rintro e S5 ⟨c_,rfl,A6,hx⟩;have N8:=zH (N9.1.step hx);have P7:=zH (Ah.of_ext hx);have G2:=zH (G3.1.trans (Fr.of_ext hx));obtain⟨A8,rfl,A1⟩:=A6;have M6:=zH A1;clear A1 hx;apply zm G2.1;refine Ef (i:=14) (listed':=(bs 15 32767)) rR kR rR kR _ _ _ rR N8.1 (ix:=4) rR 0 (rc A8) rR rR (by simp) kR (by simp[Value.oneCell']) (by simp[Ar]) ?_;intro S4 hh hd ho;have N7:=hN hh;have I6:=zH (hd);have L9:=zH (Fr.trans_new G2.1 ho (fun j hj=> .inl (by simpa using hj.symm)));clear hh hd ho;refine⟨L9.1,?_⟩
  (try simp only[Act.put])
  refine wpAnyH_done kR ?_ _;go_upto_region 10 with fail;apply wl;apply zq (iV (i:Int));apply zp (iV ((i+1:Nat):Int)) (by exact Ht ω);apply zq (iV ((i+1:Nat):Int));have H9:=tD (tD (tD (tD B8 E7) I7) P7) I6;go_wp2_with fail
  go_roundg (nn-(i+1))
  case measure=>exact(ω)
  case rel=>exact⟨i+1,A8,rfl,(by go_num),J7,(by rw[U2.1];exact(M6.1.dig I6.1)),N7.1.take 6,H9.1⟩
 have J7:=HLT.1;have W5:=U3.1;go_upto_region 9 with fail
 apply wl;apply zq (iV (i:Int));apply zp (iV ((i+1:Nat):Int)) (by exact Ht ω);refine Cc Af _ (iV (nn:Int)) ?_;apply zp φ (by exact Eg (e:=(Al ω)));go_upto_region 15 with fail;apply wl;refine zd A5 (0) (rc A0) (B2.1.range (i:=4) rR 0 4) underlying58 ?_;apply Da 3 (rc A0) B2.1;intro S3 G8 P6;have N6:=zH (show(Gb px a b lo hi).take (i+1)=(Gb px a b lo hi)from cXX (by rw[<-E2.1,fXX,<-J9.1.1];omega));go_wp2_with fail
 refine bodyPost_ret (v:= (rg A0)) ?_ rfl ⟨A0,rfl,(show Ey (px,py) a b=Ex (Ma px a b) ((Gb px a b lo hi).take (i+1))from by rw[N6.1];unfold Ey;rw[K0.1,K1.1];exact(if_neg (fun h_=>by have D8:=H1.1;have D1:=H2.1;omega)).trans (if_neg (fun h_=>by have D0:=H3.1;omega)))▸(RZ.1.dig P6.1),G8.1.ext⟩;exact Ak rfl rfl ((G8.1.blk (i:=3) rR).loadVar rfl rfl rR)
end
section
open Go.RowKit Go.Shelf
attribute [local go_sem] Oper.semAt_some
attribute [local go_sem ↓] Go.wp_at_zero Go.wp_at_succ Ae Ad
def aGP (px py:Int)(Xp Xr Bs:Nat)(w W1:World)(pre:List Wr)(W:World):Prop:=
  ∃r:RV,Hp w W [.blk Xp 79 [iV px,iV py],.blk Xr 58 [.bool false,.slice none 0 0,.bool false,.slice none 0 0],.blk Bs 58 (rc r)]/\Ah W1 W/\r.Is W (Hl (px,py) (pre.map Subtype.val))/\W1.heap.size<=W.heap.size
theorem xQ (px py:Int)(Xp Xr Bs:Nat)(w W1:World)(hw:w.heap.size<=W1.heap.size):OwnFrom W1.heap.size (aGP px py Xp Xr Bs w W1):=by
  rintro s W W' row ⟨r,h1,h2,h3,h4⟩ hg hr;have d:Ah W W':=Ah.kept hg (fun k hk=>(hr k hk).2);exact⟨r,h1.kept hg (fun k hk=>⟨Av hw (hr k hk).1,(hr k hk).2⟩),h2.trans d,h3.dig d,Av h4 hg.size⟩
def aGE (Xp Xr Bs:Nat)(W1:World)(x:Wr)(a':Act)(W:World):Prop:=
  ∃(J:Nat->Value) (Xa Xb:Nat),Ac W Xa 44 ([iV x.1.1.1,iV x.1.1.2]:List Value).toArray/\Ac W Xb 44 ([iV x.1.2.1,iV x.1.2.2]:List Value).toArray/\Xa≠Xb/\W1.heap.size<=Xa/\W1.heap.size<=Xb/\a'={tmps:=#[J 0,J 1,.pointer (π Xp),J 3,.pointer (π Xr),.pointer (π Bs),.pointer (π Xa),.pointer (π Xb),J 8,J 9,J 10,J 11,J 12,J 13,J 14,J 15,J 16,J 17,J 18,J 19,J 20,J 21,J 22,J 23,J 24,J 25,J 26,J 27,J 28,J 29,J 30,J 31,J 32,J 33,J 34,J 35,J 36,J 37,J 38,J 39,J 40,J 41,J 42,J 43,J 44,J 45],defers:=[]}
theorem xR (Xp Xr Bs:Nat)(W1:World)(x:Wr)(a':Act):OwnFrom W1.heap.size (fun(_:Unit) W=>aGE Xp Xr Bs W1 x a' W):=by
  rintro _ W W' row ⟨J,Xa,Xb,h1,h2,h3⟩ hg hr;exact⟨J,Xa,Xb,h1.kept hg (fun k hk=>(hr k hk).2),h2.kept hg (fun k hk=>(hr k hk).2),h3⟩
theorem aBV {Xp Xr Bs Xa Xb:Nat}{W1 W:World}{x:Wr}{a':Act}(h1:Ac W Xa 44 ([iV x.1.1.1,iV x.1.1.2]:List Value).toArray)(h2:Ac W Xb 44 ([iV x.1.2.1,iV x.1.2.2]:List Value).toArray)(h3:Xa≠Xb)(h4:W1.heap.size<=Xa)(h5:W1.heap.size<=Xb)
    (h6:a'={tmps:=#[γ a' 0,γ a' 1,.pointer (π Xp),γ a' 3,.pointer (π Xr),.pointer (π Bs),.pointer (π Xa),.pointer (π Xb),γ a' 8,γ a' 9,γ a' 10,γ a' 11,γ a' 12,γ a' 13,γ a' 14,γ a' 15,γ a' 16,γ a' 17,γ a' 18,γ a' 19,γ a' 20,γ a' 21,γ a' 22,γ a' 23,γ a' 24,γ a' 25,γ a' 26,γ a' 27,γ a' 28,γ a' 29,γ a' 30,γ a' 31,γ a' 32,γ a' 33,γ a' 34,γ a' 35,γ a' 36,γ a' 37,γ a' 38,γ a' 39,γ a' 40,γ a' 41,γ a' 42,γ a' 43,γ a' 44,γ a' 45],defers:=[]}):aGE Xp Xr Bs W1 x a' W:=⟨fun q=>a'.tmps.getD q undef,Xa,Xb,h1,h2,h3,h4,h5,h6⟩
theorem Qv (p:Int×Int)(l:List Cg)(e:Cg):Hl p (l++[e])=Pd p (Hl p l) e:=by unfold Hl;rw[List.foldl_append];rfl
theorem sM {p:Int×Int}(hp:(-1048576<=p.1/\p.1<=1048320)/\ -1048576<=p.2/\p.2<=1048320){l:List Wr}(h:l.length<=16):Nm.rl (Hl p (l.map Subtype.val))<=8018:=by
  have h1:=rY hp (l:=l.map Subtype.val) (s:=((0:Int):Rat)) (fun e he=>by obtain⟨x,_,rfl⟩:=List.mem_map.1 he;exact x.2);have h2:=Bu 0 ω ω;rw[fXX]at h1;have h3:=hXX 501 h;unfold Hl;omega
theorem dL (px py:Int)(u:Value)(rs:List Ai)(w:World)(hu:Cv w u rs)(hn:rs.length<=1048576)(hr:∀r,r∈rs->r.length<=1048576)(hok:Fm rs=true)(htot:Gx rs<=16)(hp:(-1048576<=px/\px<=1048320)/\ -1048576<=py/\py<=1048320):
  Calls prog 43 #[.agg #[iV px,iV py],u] w fun e w'=>∃r:RV,e= .returned (rg r)/\r.Is w' (Hq rs (px,py))/\Nm.rl (Hq rs (px,py))<=8030/\Aa w w':=by
 have HU:=zH hu;have HN:=zH hn;have HR:=zH hr;have HV:=zH hok;have N1:=zH htot;clear hu hr hok;refine(callsIn_wide (n:=4)).1 ?_;refine callsIn_of_wp_marks func43 rfl trivial ?_ rfl;simp only[ntmps43,List.size_toArray,hQQ,List.length_nil,Nat.reduceAdd,Nat.reduceSub,Array.replicate_succ,Array.replicate_zero,List.push_toArray,List.append_toArray,fQQ,iZZ];refine wpIn_wide.2 ?_;refine Go.Code.wp_mono Kx.m ?_;have H0:=zH (Hp.start w);go_upto_region 0 with fail
 apply wl;apply Cm 79 [iV px,iV py] H0.1;intro X1 w2 H3 _;refine Cm 58 rz H3.1 ?_;intro X6 w7 H8 _;go_upto_region 1 with fail;apply wl;refine zc (Cz 0 _ ω ω) ?_;rintro e Q3 ⟨c_,rfl,A3,hx⟩;have O8:=zH (H8.1.step hx);obtain⟨H9,rfl,A2⟩:=A3;have M3:=zH A2;clear A2 hx;refine zn ?_;refine Cm 58 rz O8.1 ?_;intro A0 Q2 O7 P2;apply Da 2 (rc H9) O7.1;intro Q1 F8 P1;go_upto_region 2 with fail
 apply wl;refine qV (u) ?_;refine zc (Ru u rs _ (HU.1.ext F8.1.ext) HN.1 HR.1) ?_;rintro e A5 ⟨Bx,ve,rfl,I6,L5,B2,hR,hx⟩;have N7:=zH I6;have N6:=zH L5;have N5:=zH B2;rw[if_pos HV.1]at hR;have N2:=zH hR;clear I6 B2 hR;have J5:=zH (F8.1.step hx);have P0:=zH (Ah.of_ext hx);clear hx;refine zn ?_;have Q6:=F8.1.lt (i:=2) (k:=A0) (by rfl) rfl;have N3:=zH (show Ge (fun k=>¬(fun k=>k=A0\/A5.heap.size<=k) k) A5 ve rs from N2.1.imp (fun k h hk=>by rcases hk with rfl|hk;omega;omega));have D4:=zH (show w.heap.size<=A5.heap.size from J5.1.ext.size);have L2:¬(fun k=>k=A0\/A5.heap.size<=k) Bx:=fun hk=>by have h1:=N7.1;have h9:=N6.1;rcases hk with hk|hk;omega;omega
 have J4:=zH (show(Bk rs).length<=16 from Av (Fh rs) N1.1);go_wp2_with fail;have G6:=tD (tD P2 P1) P0;refine wpIn_wide.1 (Oo (n:=4) ω (fun k=>k=A0\/A5.heap.size<=k) Bx ve rs rR N5.1 L2 N3.1 HN.1 HV.1 J4.1 (fun k h=> .inr h) (aGP px py X1 X6 A0 w A5) (xQ px py X1 X6 A0 w A5 D4.1) ⟨H9,J5.1,Ah.refl _,(M3.1.dig G6.1),Cl _⟩ (aGE X1 X6 A0 A5) (xR X1 X6 A0 A5) ?assign ?body ?done);case assign=>
  intro l pre x W K hi hK;obtain⟨r,hh,hd,B0,B5⟩:=hi;have B8:=zH B5;have H0:=zH hh;have HK:=zH hK;have B9:=zH B0;have HD:=zH hd;clear B5 hh hK B0 hd;unfold Iq;simp only[zA,zB,zC];refine wpIn_seq ?_;refine Ab kR (fun⟨_,_,h⟩=>h) ?_;apply aA 44 [iV 0,iV 0] H0.1;intro I7 K6 O6 hx B1;have J2:=zH (show W.heap.size<=I7 from Av (Fr.of_ext (G:=fun kz=>False) (Aa.refl W)).size B1);have K4:=zH (Ah.of_ext hx);have N0:=zH (show Fr (fun kz=>False) W K6 from(Fr.of_ext (G:=fun kz=>False) (Aa.refl W)).trans (Fr.of_ext hx));clear hx B1;apply aS 3 [iV x.1.1.1,iV x.1.1.2] O6.1;intro Q0 O5 hd ho;have K3:=zH (hd);have J3:=zH (N0.1.trans_new ho (fun j hj=> .inr (by injection hj with hj;rw[<-hj];exact J2.1)));clear hd ho;refine Ab kR (fun⟨_,_,h⟩=>h) ?_;apply aA 44 [iV 0,iV 0] O5.1;intro Q8 P9 O4 hx B1;have J1:=zH (Av J3.1.size B1);have K2:=zH (Ah.of_ext hx);have M9:=zH (J3.1.trans (Fr.of_ext hx));clear hx B1;apply aS 4 [iV x.1.2.1,iV x.1.2.2] O4.1;intro P8 D5 hd ho;have K1:=zH (hd);have E8:=zH (M9.1.trans_new ho (fun j hj=> .inr (by injection hj with hj;rw[<-hj];exact J1.1)));clear hd ho;refine HK.1 _ _ (KeepsFrom.of_fr E8.1 (fun _ h=>h.elim)) (E8.1.imp (fun _ h=>h.elim)) ⟨r,D5.1.take 3,HD.1.trans (((K4.1.trans K3.1).trans K2.1).trans K1.1),B9.1.dig (((K4.1.trans K3.1).trans K2.1).trans K1.1),Av B8.1 E8.1.size⟩ (aBV (D5.1.blk (i:=3) rR) (D5.1.blk (i:=4) rR) ?_ (Av B8.1 J2.1) (Av B8.1 J1.1) rR);exact fun e=>D5.1.apart 3 4 _ _ (by rfl) (by rfl) (by decide) I7 (by rfl) (by rw[e];rfl)
 case body=>
  intro l pre ed a' W hi L4 L1;obtain⟨r,hh,hd,B0,B5⟩:=hi;obtain⟨J,Xa,Xb,I5,I4,I1,I3,C2,rfl⟩:=L4;have B8:=zH B5;have HD:=zH hd;have B9:=zH B0;have B3:=zH ed.2;have C7:=zH (sM (p:=(px,py)) hp (l:=pre) ω);have H0:=zH (show Hp w W [.blk X1 79 [iV px,iV py],.blk X6 58 rz,.blk A0 58 (rc r),.blk Xa 44 [iV ed.1.1.1,iV ed.1.1.2],.blk Xb 44 [iV ed.1.2.1,iV ed.1.2.2]]from hh.addTyp2 I5 I4 I1 (Av D4.1 I3) (Av D4.1 C2) (by simp[Ar]) (by simp[Ar]) (by simp[Df.typ]));have B4:=zH (show Fr (fun kz=>kz=A0) W W from Fr.of_ext (Aa.refl W));clear hh hd B0 B5 I5 I4 I1 I3 C2;rcases Cx (ed.1.1.2<ed.1.2.2)with H1|H1
  ·gi_upto_region 5 with fail
   refine Ab kR (fun⟨_,_,h⟩=>h) ?_;refine Fk H0.1 _ _ _ _ ?_;apply zp τ (by exact Eg (e:=(An H1.1)));apply zq τ;refine wpList_nil ?_;gi_upto_region 6 with fail
   refine Eh (S:=fun x=>Fr (fun kz=>kz=A0) W x) kR kR (fun⟨_,_,h⟩=>h) (Fr.of_ext zb) (fun _=> ?_);have O3:=zH (H0.1.step (Aa.refl W).drew);have K0:=zH (Ah.of_ext (w:=W) zb);have M8:=zH (B4.1.trans (Fr.of_ext (Aa.refl W).drew));refine mR 1 (bs 7 2) X1 (0) [iV px,iV py] (fun x hx=>Fr.range hx (show World.rangeAt W X1 (0) [iV px,iV py]from(H0.1.range (i:=0) rR 0 2)) (H0.1.offBlk (i:=0) (j:=2) rR rR dC rR)) underlying79 (Fr.of_ext zb) ?_;refine mR 2 (bs 7 6) Xa (0) [iV ed.1.1.1,iV ed.1.1.2] (fun x hx=>Fr.range hx (show World.rangeAt W Xa (0) [iV ed.1.1.1,iV ed.1.1.2]from(H0.1.range (i:=3) rR 0 2)) (H0.1.offBlk (i:=3) (j:=2) rR rR dC rR)) underlying44 (Fr.of_ext zb) ?_;refine zr 3 (bs 7 14) Xb (0) [iV ed.1.2.1,iV ed.1.2.2] (fun x hx=>Fr.range hx (show World.rangeAt W Xb (0) [iV ed.1.2.1,iV ed.1.2.2]from(H0.1.range (i:=4) rR 0 2)) (H0.1.offBlk (i:=4) (j:=2) rR rR dC rR)) underlying44 (Fr.of_ext zb) ?_;refine Fd.go (j:=0) (dj:=some 21) (u:= (rg r)) ?_;refine Ie (b:=W) (i:=4) (lj:=(bs 7 15)) (li:=(bs 7 30)) rR rR kR kR kR kR kR dC kR rR rR (fun x_ h_=>Fr.of_ext h_) (Aa.refl W).drew (fun x_ h_=>Kb _ _ rR A0 (0) (rc r) rR (Bp (show World.rangeAt W A0 (0) (rc r)from H0.1.range (i:=2) rR 0 4) h_) underlying58 rR kR) rR (by go_simp) kR (fC px py ed.1.1 ed.1.2 _ hp B3.1.1 B3.1.2) ?_;rintro e D7 ⟨Q5,rfl,A2,hx⟩;have O2:=zH (O3.1.step hx);have J9:=zH (show Ah W.drew D7 from Ah.of_ext hx);have M7:=zH (M8.1.trans (Fr.of_ext hx));have L7:=zH (show Aa W D7 from(Aa.refl W).drew.trans hx);have J0:=zH (show Fr (fun kz=>kz=A0) W D7 from(Fr.of_ext zb).trans (Fr.of_ext hx));have M2:=zH A2;have P4:=zH (bK (p:=(px,py)) B3.1.1 B3.1.2 hp);clear A2;have C1:=hx;clear hx;refine⟨_,rfl,C1,?_⟩;try simp only[ζ]
   clear C1;refine On rR kR rR rR J0.1 (Kb _ _ rR A0 (0) (rc r) rR (Bp (show World.rangeAt W A0 (0) (rc r)from H0.1.range (i:=2) rR 0 4) L7.1) underlying58 rR kR) (show _=(bs 7 31)by kernel_rfl) ?_;try simp only[ζ]
   have G5:=tD K0 J9;refine mC 5 (bs 7 63) (oX (L:=60000) (RV.Is.nin (B9.1.dig G5.1) (Av C7.1 ω)) (RV.Is.nin M2.1 (Av P4.1 ω)) ω) ?_;rintro e P7 ⟨c_,rfl,A3,hx⟩;have O1:=zH (O2.1.step hx);have O9:=zH (Ah.of_ext hx);have M6:=zH (M7.1.trans (Fr.of_ext hx));have I9:=zH (J0.1.trans (Fr.of_ext hx));obtain⟨A8,rfl,A2⟩:=A3;have M1:=zH A2;clear A2 hx;apply zm I9.1;refine Ef (i:=6) (listed':=(bs 7 127)) rR kR rR kR _ _ _ rR O1.1 (ix:=2) rR 0 (rc A8) rR rR (by simp) kR (by simp[Value.oneCell']) (by simp[Ar]) ?_;intro P6 hh hd ho;have O0:=hN hh;have J8:=zH (hd);have E7:=zH (M6.1.trans_new ho (fun j hj=> .inl (by injection hj with hj;exact hj.symm)));have L8:=zH (Fr.trans_new I9.1 ho (fun j hj=> .inl (by simpa using hj.symm)));clear hh hd ho;refine⟨L8.1,?_⟩
   (try simp only[Act.put])
   refine wpAnyH_done kR ?_ _;gi_wp2
   exact⟨(KeepsFrom.of_fr E7.1 (fun k hk o ho=>H0.1.cells (i:=2) (by rfl) (by rw[hk];rfl) o ho)),(E7.1.imp (fun k hk=> .inl hk)),A8,O0.1.take 3,HD.1.trans (((K0.1.trans J9.1).trans O9.1).trans J8.1),(by rw[jXX,show[ed].map Subtype.val=[ed.1]from rfl,Qv,show Pd (px,py) (Hl (px,py) (pre.map Subtype.val)) ed.1=(Hl (px,py) (pre.map Subtype.val))+Ey (px,py) ed.1.1 ed.1.2 from if_pos H1.1];exact(M1.1.dig J8.1)),Av B8.1 E7.1.size⟩
  gi_upto_region 5 with fail
  refine Ab kR (fun⟨_,_,h⟩=>h) ?_;refine Fk H0.1 _ _ _ _ ?_;apply zp φ (by exact Eg (e:=(Al H1.1)));apply zq φ;refine wpList_nil ?_;rcases Cx (ed.1.2.2<ed.1.1.2)with H2|H2
  ·gi_upto_region 7 with fail
   refine Ab kR (fun⟨_,_,h⟩=>h) ?_;refine Fk H0.1 _ _ _ _ ?_;apply zp τ (by exact Sn (e:=(An H2.1)));apply zq τ;refine wpList_nil ?_;gi_upto_region 8 with fail
   refine Eh (S:=fun x=>Fr (fun kz=>kz=A0) W x) kR kR (fun⟨_,_,h⟩=>h) (Fr.of_ext zb) (fun _=> ?_);have N9:=zH (H0.1.step (Aa.refl W).drew);have J7:=zH (Ah.of_ext (w:=W) zb);have M5:=zH (B4.1.trans (Fr.of_ext (Aa.refl W).drew));refine mR 1 (bs 7 2) X1 (0) [iV px,iV py] (fun x hx=>Fr.range hx (show World.rangeAt W X1 (0) [iV px,iV py]from(H0.1.range (i:=0) rR 0 2)) (H0.1.offBlk (i:=0) (j:=2) rR rR dC rR)) underlying79 (Fr.of_ext zb) ?_;refine mR 2 (bs 7 6) Xa (0) [iV ed.1.1.1,iV ed.1.1.2] (fun x hx=>Fr.range hx (show World.rangeAt W Xa (0) [iV ed.1.1.1,iV ed.1.1.2]from(H0.1.range (i:=3) rR 0 2)) (H0.1.offBlk (i:=3) (j:=2) rR rR dC rR)) underlying44 (Fr.of_ext zb) ?_;refine zr 3 (bs 7 14) Xb (0) [iV ed.1.2.1,iV ed.1.2.2] (fun x hx=>Fr.range hx (show World.rangeAt W Xb (0) [iV ed.1.2.1,iV ed.1.2.2]from(H0.1.range (i:=4) rR 0 2)) (H0.1.offBlk (i:=4) (j:=2) rR rR dC rR)) underlying44 (Fr.of_ext zb) ?_;refine Fd.go (j:=0) (dj:=some 33) (u:= (rg r)) ?_;refine Ie (b:=W) (i:=4) (lj:=(bs 7 15)) (li:=(bs 7 30)) rR rR kR kR kR kR kR dC kR rR rR (fun x_ h_=>Fr.of_ext h_) (Aa.refl W).drew (fun x_ h_=>Kb _ _ rR A0 (0) (rc r) rR (Bp (show World.rangeAt W A0 (0) (rc r)from H0.1.range (i:=2) rR 0 4) h_) underlying58 rR kR) rR (by go_simp) kR (fC px py ed.1.1 ed.1.2 _ hp B3.1.1 B3.1.2) ?_;rintro e D6 ⟨Q4,rfl,A2,hx⟩;have N8:=zH (N9.1.step hx);have J6:=zH (show Ah W.drew D6 from Ah.of_ext hx);have M4:=zH (M5.1.trans (Fr.of_ext hx));have L6:=zH (show Aa W D6 from(Aa.refl W).drew.trans hx);have I8:=zH (show Fr (fun kz=>kz=A0) W D6 from(Fr.of_ext zb).trans (Fr.of_ext hx));have M0:=zH A2;have P3:=zH (bK (p:=(px,py)) B3.1.1 B3.1.2 hp);clear A2;have C1:=hx;clear hx;refine⟨_,rfl,C1,?_⟩;try simp only[ζ]
   clear C1;refine On rR kR rR rR I8.1 (Kb _ _ rR A0 (0) (rc r) rR (Bp (show World.rangeAt W A0 (0) (rc r)from H0.1.range (i:=2) rR 0 4) L6.1) underlying58 rR kR) (show _=(bs 7 31)by kernel_rfl) ?_;try simp only[ζ]
   have G4:=tD J7 J6;refine mC 5 (bs 7 63) (eN (L:=60000) (RV.Is.nin (B9.1.dig G4.1) (Av C7.1 ω)) (RV.Is.nin M0.1 (Av P3.1 ω)) ω) ?_;rintro e P5 ⟨c_,rfl,A3,hx⟩;have G3:=zH (N8.1.step hx);have H6:=zH (Ah.of_ext hx);have F5:=zH (M4.1.trans (Fr.of_ext hx));have C6:=zH (I8.1.trans (Fr.of_ext hx));obtain⟨A7,rfl,A2⟩:=A3;have L9:=zH A2;clear A2 hx;apply zm C6.1;refine Ef (i:=6) (listed':=(bs 7 127)) rR kR rR kR _ _ _ rR G3.1 (ix:=2) rR 0 (rc A7) rR rR (by simp) kR (by simp[Value.oneCell']) (by simp[Ar]) ?_;intro K9 hh hd ho;have G2:=hN hh;have D3:=zH (hd);have B7:=zH (F5.1.trans_new ho (fun j hj=> .inl (by injection hj with hj;exact hj.symm)));have E3:=zH (Fr.trans_new C6.1 ho (fun j hj=> .inl (by simpa using hj.symm)));clear hh hd ho;refine⟨E3.1,?_⟩
   (try simp only[Act.put])
   refine wpAnyH_done kR ?_ _;gi_wp2
   exact⟨(KeepsFrom.of_fr B7.1 (fun k hk o ho=>H0.1.cells (i:=2) (by rfl) (by rw[hk];rfl) o ho)),(B7.1.imp (fun k hk=> .inl hk)),A7,G2.1.take 3,HD.1.trans (((J7.1.trans J6.1).trans H6.1).trans D3.1),(by rw[jXX,show[ed].map Subtype.val=[ed.1]from rfl,Qv,show Pd (px,py) (Hl (px,py) (pre.map Subtype.val)) ed.1=(Hl (px,py) (pre.map Subtype.val))-Ey (px,py) ed.1.1 ed.1.2 from(if_neg (fun h_=>by have E1:=H1.1;omega)).trans (if_pos H2.1)];exact(L9.1.dig D3.1)),Av B8.1 B7.1.size⟩
  gi_upto_region 7 with fail
  refine Ab kR (fun⟨_,_,h⟩=>h) ?_;refine Fk H0.1 _ _ _ _ ?_;apply zp φ (by exact Sn (e:=(Al H2.1)));apply zq φ;refine wpList_nil ?_;gi_wp2
  exact⟨(KeepsFrom.of_fr B4.1 (fun k hk o ho=>H0.1.cells (i:=2) (by rfl) (by rw[hk];rfl) o ho)),(B4.1.imp (fun k hk=> .inl hk)),r,H0.1.take 3,HD.1.trans (Ah.refl _),(by rw[jXX,show[ed].map Subtype.val=[ed.1]from rfl,Qv,show Pd (px,py) (Hl (px,py) (pre.map Subtype.val)) ed.1=(Hl (px,py) (pre.map Subtype.val))from(if_neg (fun h_=>by have E1:=H1.1;omega)).trans (if_neg (fun h_=>by have E1:=H2.1;omega))];exact B9.1),Av B8.1 B4.1.size⟩
 rintro D xs W hD I0 ⟨r,hh,hd,B0,B5⟩ hK;have H0:=zH hh;have F7:=zH B0;have F6:=zH I0;have HD:=zH hK;have N4:=zH hD;have B9:=zH (show r.Is W (Hl (px,py) (Bk rs))from by rw[<-F6.1];exact F7.1);have C7:=zH (show Nm.rl (Hl (px,py) (Bk rs))<=8018 from by rw[<-F6.1];exact sM (p:=(px,py)) hp (by rw[<-fXX (f:=Subtype.val),F6.1];exact J4.1));clear hh hd B0 B5 I0 hK hD;have B4:=zH (show Fr (fun kz=>kz=X6) W W from Fr.of_ext (Aa.refl W));go_upto_region 9 with fail
 refine zy ?_;have C0:=zH (H0.1.step (Aa.refl W).drew);have H5:=zH (Ah.of_ext (w:=W) zb);have F4:=zH (B4.1.trans (Fr.of_ext (Aa.refl W).drew));refine Mz H0.1 zb (bs 9 1) 0 _ ?_;refine gG 6 (some 8) 58 rz W C0.1 ?_;refine gL 1 (bs 9 65) (bs 9 3) zb.size C0.1 zb (fun xq A9=>Cz 65536 _ ω ω) (by rintro x_ e K5 ⟨c_,rfl,A3,hx⟩;exact hx) ?_;rintro xq e D9 A9 ⟨c_,rfl,A3,hx⟩;replace hx:=A9.trans hx;clear A9;have C9:=zH (C0.1.step hx);have H4:=zH (show Ah W.drew D9 from Ah.of_ext hx);have F3:=zH (F4.1.trans (Fr.of_ext hx));have B6:=zH (zb.trans hx);obtain⟨L0,rfl,A2⟩:=A3;have E5:=zH A2;have H7:=zH (Bu 65536 ω ω);clear A2 hx;refine⟨_,rfl,?_⟩;try simp only[ζ]
 have D2:=tD H5 H4;refine gL 2 (bs 9 67) (bs 9 7) B6.1.size C9.1 B6.1 (fun xq A9=>aEF (L:=60000) (RV.Is.nin (B9.1.dig (D2.1.trans (Ah.of_ext A9))) (Av C7.1 ω)) (RV.Is.nin (E5.1.dig (Ah.of_ext A9)) (Av H7.1 ω)) dC dC) (by rintro x_ e K5 ⟨c_,rfl,A3,hx⟩;exact hx) ?_;rintro xq e K8 A9 ⟨c_,rfl,A3,hx⟩;replace hx:=A9.trans hx;clear A9;have G1:=zH (C9.1.step hx);have F2:=zH (F3.1.trans (Fr.of_ext hx));have A4:=zH (B6.1.trans hx);obtain⟨A1,rfl,A2⟩:=A3;have E4:=zH A2;clear A2 hx;refine⟨_,rfl,?_⟩;try simp only[ζ]
 refine gK 3 (bs 9 71) (bs 9 15) _ A4.1 ?_;refine gK 4 (bs 9 79) (bs 9 31) _ A4.1 ?_;refine gK 5 (bs 9 95) (bs 9 63) (iV 0) A4.1 ?_;refine gE (bs 9 127) A4.1.size G1.1 A4.1 ?_;intro C4 D8 hx hh hs B1;have G0:=hN hh;have G9:=zH (Ah.of_ext hx);have F1:=zH (F2.1.trans (Fr.of_ext hx));have E2:=zH (show Aa W D8 from hs);have D0:=zH (show W.heap.size<=C4 from B1);have E6:=zH (show W.heap.size<=C4 from Av B4.1.size D0.1);clear hh hx B1 hs;try simp only[ζ]
 refine Ef (i:=7) (listed':=(bs 9 255)) rR kR rR kR _ _ _ rR G0.1 (ix:=3) rR 0 (rc A1) rR rR (by simp) kR (by simp[Value.oneCell']) (by simp[Ar]) ?_;intro K7 hh hd ho;have C8:=hN hh;have G8:=zH (hd);have F0:=zH (F1.1.trans_new ho (fun j hj=> .inr (by injection hj with hj;rw[<-hj];exact E6.1)));have C5:=zH (Bi.ext ho E2.1 D0.1);clear hh hd ho;refine⟨C5.1,?_⟩
 (try simp only[Act.put])
 refine zx 8 (bs 9 511) (iV 0) C5.1 ?_;refine wpAnyH_done kR ?_ _;go_upto_region 10 with fail;apply wl;refine Cn C8.1 _ ?_;apply aS 1 (rc A1) C8.1;intro A6 F9 hd ho;have G7:=zH (hd);have E9:=zH (F0.1.trans_new ho (fun j hj=> .inl (by injection hj with hj;exact hj.symm)));clear hd ho;have D1:=tD (tD G9 G8) G7;go_wp2_with fail
 have E0:A6.heap[D]?=some (.deferred (some [])):=(E9.1.block D (Array.getElem?_eq_some_iff.1 HD.1).1 (fun e=>by have h1:=H0.1.cells (i:=1) (k:=D) (by rfl) (by rw[e];rfl) _ HD.1;cases h1)).trans HD.1;refine⟨by simp,.inl ⟨_,_,rfl,run_takeDeferred E0,?_⟩⟩;have C3:=F9.1.kept (grownBy_putObj' A6 D (.deferred none)) (fun k hk=>by injection hk with hk;subst hk;exact⟨Av D4.1 N4.1,_,E0,rfl⟩);have L3:Ah A6 _:=Ah.kept (grownBy_putObj' A6 D (.deferred none)) (fun k hk=>by injection hk with hk;subst hk;exact⟨_,E0,rfl⟩);refine⟨_,Ak rfl rfl ((C3.blk (i:=1) rR).loadVar rfl rfl rR),A1,rfl,(E4.1.dig D1.1).dig L3,?_,C3.ext⟩;exact Av (Nm.rl_div _ _) (by have E1:=C7.1;have Q7:=Bu 65536 ω ω;omega)
end
section
attribute [local go_sem ↓] Go.wp_at_zero Go.wp_at_succ Ae Ad
def eQ (n:Int):Bool:=decide (n< -4096)||decide (4096<=n)
theorem Mj {n:Int}:eQ n=true↔n< -4096\/4096<=n:=by unfold eQ;simp
def sN (rs:List Ai)(x y:Int):Int:=if Fm rs=true then(if eQ x=true\/eQ y=true then 6 else 0)else 12
theorem Mi (n:Int)(w:World):Calls prog 48 #[iV n] w fun e w'=>e= .returned (.bool (eQ n))/\Aa w w':=by
 go_enter func48,ntmps48;have H0:=zH (Hp.start w);go_upto_region 0 with fail;apply wl;apply zq φ;rcases Cx (n< -4096)with H1|H1
 ·go_upto_region 1 with fail
  apply wl;apply zq (iV n);apply zp τ (by exact Eg (e:=(An H1.1)));refine Na Af τ _ _ τ τ ?_;have HB:=zH (Mj.2 (.inl H1.1));go_wp2_with fail
  go_ret;exact⟨by rw[HB.1]<;>rfl,H0.1.ext⟩
 rcases Cx (4096<=n)with H2|H2
 ·go_upto_region 1 with fail
  apply wl;apply zq (iV n);apply zp φ (by exact Eg (e:=(Al H1.1)));refine Cc Af φ (iV n) ?_;apply zp τ (by exact Od (e:=(An H2.1)));refine Cc Af τ τ ?_;have HB:=zH (Mj.2 (.inr H2.1));go_wp2_with fail
  go_ret;exact⟨by rw[HB.1]<;>rfl,H0.1.ext⟩
 go_upto_region 1 with fail;apply wl;apply zq (iV n);apply zp φ (by exact Eg (e:=(Al H1.1)));apply qV φ;apply zq (iV n);apply zp φ (by exact Od (e:=(Al H2.1)));apply qV φ;apply zq φ;have HB:=zH (show eQ n=false from Bool.eq_false_iff.2 (fun h_=>by have A2:=Mj.1 h_;have A1:=H1.1;have A0:=H2.1;omega));go_wp2_with fail
 go_ret;exact⟨by rw[HB.1]<;>rfl,H0.1.ext⟩
theorem iL (A:Option Addr)(cap:Nat)(rs:List Ai)(x y:Int)(w:World)(hu:Cv w (.slice A rs.length cap) rs)(hn:rs.length<=1048576)(hr:∀r,r∈rs->r.length<=1048576)(hs:Fm rs=true->Gx rs<=16)(hx: -9223372036854775808<=x/\x<=9223372036854775807)(hy: -9223372036854775808<=y/\y<=9223372036854775807):
  Calls prog 24 #[.slice A rs.length cap,iV x,iV y] w (Wo 8030 (sN rs x y) (Hq rs (x*256,y*256)) w):=by
 have HU:=zH hu;have HN:=zH hn;have A4:=zH hr;clear hu hr;have A3:=zH hs;clear hs;go_enter func24,ntmps24
 have H0:=zH (Hp.start w);go_upto_region 0 with fail;apply wl;refine Cm 58 rz H0.1 ?_;intro D8 D4 A2 _;apply zq (iV 0);rcases Cx (Fm rs=true)with HV|HV
 ·go_upto_region 1 with fail
  apply wl;refine Cn Af _ ?_;refine zc (Ci _ rs _ (HU.1.ext A2.1.ext) HN.1 A4.1) ?_;rintro e D3 ⟨rfl,hx⟩;have A5:=zH (A2.1.step hx);clear hx;refine⟨.bool true,by rw[HV.1],?_⟩;try simp only[ζ]
  apply zq φ;go_upto_region 3 with fail;apply wl;refine Cn Af _ ?_;rcases Cx (eQ x=true)with HX|HX
  ·go_upto_region 4 with fail
   apply wl;refine Cc Af _ (iV x) ?_;refine aC A5.1 ((Mi x _).mono fun _ _ h_=>(⟨h_.1.trans (by rw[HX.1]),h_.2⟩:_=Ending.returned τ/\Aa _ _)) ?_;intro D2 B9 _;refine Na Af τ _ _ _ τ ?_;go_upto_region 5 with fail;apply wl;apply zq (.agg z4);refine Da 0 rz B9.1 ?_;intro D1 B1 _;apply zq (iV 6);have HE:=zH (show sN rs x y=6 from(if_pos HV.1).trans (if_pos (.inl HX.1)));go_wp2_with fail
   refine bodyPost_ret (v:= .tuple #[.agg z4,iV 6]) ?_ rfl ⟨RV.zero,by rw[HE.1]<;>rfl,fun h_=>absurd h_ (by rw[HE.1];decide),fun _=>rfl,B1.1.ext⟩;exact At rfl rfl ((B1.1.blk (i:=0) rR).loadVar rfl rfl rR) rfl
  have FX:=zH (Bool.eq_false_iff.2 HX.1);rcases Cx (eQ y=true)with HY|HY
  ·go_upto_region 4 with fail
   apply wl;refine Cc Af _ (iV x) ?_;refine aC A5.1 ((Mi x _).mono fun _ _ h_=>(⟨h_.1.trans (by rw[FX.1]),h_.2⟩:_=Ending.returned φ/\Aa _ _)) ?_;intro D0 B8 _;refine Dt Af φ _ (iV y) ?_;refine aC B8.1 ((Mi y _).mono fun _ _ h_=>(⟨h_.1.trans (by rw[HY.1]),h_.2⟩:_=Ending.returned τ/\Aa _ _)) ?_;intro C9 B7 _;apply zq τ;go_upto_region 5 with fail;apply wl;apply zq (.agg z4);refine Da 0 rz B7.1 ?_;intro C8 B0 _;apply zq (iV 6);have HE:=zH (show sN rs x y=6 from(if_pos HV.1).trans (if_pos (.inr HY.1)));go_wp2_with fail
   refine bodyPost_ret (v:= .tuple #[.agg z4,iV 6]) ?_ rfl ⟨RV.zero,by rw[HE.1]<;>rfl,fun h_=>absurd h_ (by rw[HE.1];decide),fun _=>rfl,B0.1.ext⟩;exact At rfl rfl ((B0.1.blk (i:=0) rR).loadVar rfl rfl rR) rfl
  have FY:=zH (Bool.eq_false_iff.2 HY.1);have HP:=zH (show(-1048576<=x*256/\x*256<=1048320)/\ -1048576<=y*256/\y*256<=1048320 from by have D7:=mt Mj.2 HX.1;have D6:=mt Mj.2 HY.1;omega);have D5:=HP.1;go_upto_region 4 with fail
  apply wl;refine Cc Af _ (iV x) ?_;refine aC A5.1 ((Mi x _).mono fun _ _ h_=>(⟨h_.1.trans (by rw[FX.1]),h_.2⟩:_=Ending.returned φ/\Aa _ _)) ?_;intro C7 B6 _;refine Dt Af φ _ (iV y) ?_;refine aC B6.1 ((Mi y _).mono fun _ _ h_=>(⟨h_.1.trans (by rw[FY.1]),h_.2⟩:_=Ending.returned φ/\Aa _ _)) ?_;intro C6 A9 _;apply zq φ;go_upto_region 6 with fail;apply wl;apply zq (iV x);apply zp (iV (x*256)) (by exact gZ ω);apply zq (iV y);apply zp (iV (y*256)) (by exact gZ ω);refine Cc Af _ _ ?_;refine zc (dL (x*256) (y*256) _ rs _ (HU.1.ext A9.1.ext) HN.1 A4.1 HV.1 (A3.1 HV.1) HP.1) ?_;rintro e C5 ⟨A0,rfl,A6,A7,hx⟩;have B5:=zH (A9.1.step hx);have B2:=zH A6;have C1:=zH A7;clear A6 A7 hx;refine zn ?_;apply Da 0 (rc A0) B5.1;intro C4 A8 C0;apply zq (iV 0);have HE:=zH (show sN rs x y=0 from(if_pos HV.1).trans (if_neg (fun h_=>h_.elim HX.1 HY.1)));go_wp2_with fail
  refine bodyPost_ret (v:= .tuple #[(rg A0),iV 0]) ?_ rfl ⟨A0,by rw[HE.1]<;>rfl,fun _=>⟨(B2.1.dig C0.1),C1.1⟩,fun h_=>absurd HE.1 h_,A8.1.ext⟩;exact At rfl rfl ((A8.1.blk (i:=0) rR).loadVar rfl rfl rR) rfl
 have B3:=zH (Bool.eq_false_iff.2 HV.1);go_upto_region 1 with fail;apply wl;refine Cn Af _ ?_;refine zc (Ci _ rs _ (HU.1.ext A2.1.ext) HN.1 A4.1) ?_;rintro e C3 ⟨rfl,hx⟩;have B4:=zH (A2.1.step hx);clear hx;refine⟨.bool false,by rw[B3.1],?_⟩;try simp only[ζ]
 apply zq τ;go_upto_region 2 with fail;apply wl;apply zq (.agg z4);refine Da 0 rz B4.1 ?_;intro C2 A1 _;apply zq (iV 12);have HE:=zH (show sN rs x y=12 from if_neg HV.1);go_wp2_with fail
 refine bodyPost_ret (v:= .tuple #[.agg z4,iV 12]) ?_ rfl ⟨RV.zero,by rw[HE.1]<;>rfl,fun h_=>absurd h_ (by rw[HE.1];decide),fun _=>rfl,A1.1.ext⟩;exact At rfl rfl ((A1.1.blk (i:=0) rR).loadVar rfl rfl rR) rfl
end
section
open Go.RowKit Go.Shelf
attribute [local go_sem] Oper.semAt_some
attribute [local go_sem ↓] Go.wp_at_zero Go.wp_at_succ Ae Ad
def Hw (rs:List Ai)(r:R4):Int:=if Fm rs=true then(if r.ok=true then(if r.area<=65536 then 0 else 5)else 6)else 12
def gV (rs:List Ai)(x y:Int):Int:=Kw (Hq rs (x*256,y*256))
theorem Yz {α β:Type}{f:α->List β}{c:Nat}(h:∀x,(f x).length=c):∀{l:List α} {k j:Nat} {x:α} {y:β},l[k]?=some x->(f x)[j]?=some y->(l.flatMap f)[k*c+j]?=some y
  | [],k,j,x,y,h1,_=>by simp at h1
  | a::l,0,j,x,y,h1,h2=>by
    simp at h1;subst h1;rw[Nat.zero_mul,cZZ,List.flatMap_cons,dZZ (List.getElem?_eq_some_iff.1 h2).1];exact h2
  | a::l,k+1,j,x,y,h1,h2=>by
    have ih:=Yz h (l:=l) (k:=k) (by simpa using h1) h2;rw[List.flatMap_cons,dQQ (by rw[h,kQQ];omega),h,show(k+1)*c+j-c=k*c+j by rw[kQQ];omega];exact ih
theorem fF {p q n:Int}(h:p<=n)(k:n<q):(Hm p q)[(n-p).toNat]?=some n:=by
  unfold Hm;rw[lQQ,List.getElem?_range ω];show some (p+(((n-p).toNat:Nat):Int))=some n;congr 1;omega
theorem tS {q:R4}{x y:Int}(h:q.In x y):(Sv q)[q.at x y]?=some (x,y):=by
 have h1:=Yz (aF q) (l:=Hm q.y0 q.y1) (k:=(y-q.y0).toNat) (j:=(x-q.x0).toNat) (x:=y) (y:=(x,y)) (fF h.1.1 h.1.2) (by
  unfold iP;rw[lQQ,fF h.2.1 h.2.2];rfl)
 rw[Ii]at h1;have e:q.at x y=(y-q.y0).toNat*(q.x1-q.x0).toNat+(x-q.x0).toNat:=by
  have e1:=Jf h;obtain⟨⟨a,b⟩,c,d⟩:=h;have e2:(((y-q.y0).toNat:Nat):Int)=y-q.y0:=ω
  have e3:(((q.x1-q.x0).toNat:Nat):Int)=q.x1-q.x0:=ω;have e4:(((x-q.x0).toNat:Nat):Int)=x-q.x0:=ω;have e5:(((y-q.y0).toNat*(q.x1-q.x0).toNat+(x-q.x0).toNat:Nat):Int)=(y-q.y0)*(q.x1-q.x0)+(x-q.x0):=by
   rw[Int.natCast_add,fZZ,e2,e3,e4]
  omega
 rw[e];exact h1
theorem tR {q:R4}{v:Int->Int->Int}{es:List Int}(h:es=(Sv q).map fun p=>v p.1 p.2)(hx:q.x0<=q.x1)(hy:q.y0<=q.y1):Kg q v es:=by
  subst h;refine⟨?_,fun x y hi=>by rw[lQQ,tS hi];rfl⟩;rw[fXX,Vb,Ii,Ii,fZZ,Int.mul_comm];congr 1<;>omega
def aGU (Bl Br Bz Bm:Nat)(A0:Option Addr)(n0 c0:Nat)(q qr:R4)(rs:List Ai)(w W1:World)(pre:List kO)(W:World):Prop:=
  ∃(A:Option Addr) (n c:Nat) (es:List Int),Hp w W [.blk Bl 22 [.slice A0 n0 c0],.blk Br 24 [iV qr.x0,iV qr.y0,iV qr.x1,iV qr.y1],.blk Bz 30 [iV 0,iV 0,iV 0,iV 0,.slice none 0 0],.blk Bm 30 [iV q.x0,iV q.y0,iV q.x1,iV q.y1,.slice A n c],.row 5 1 (.slice A n c) (n) (List.flatMap Aw es)]/\es=(pre.map Subtype.val).map (fun p=>gV rs p.1 p.2)/\n=es.length/\W1.heap.size<=W.heap.size
theorem aAQ (Bl Br Bz Bm:Nat)(A0:Option Addr)(n0 c0:Nat)(q qr:R4)(rs:List Ai)(w W1:World)(hw:w.heap.size<=W1.heap.size):OwnFrom W1.heap.size (aGU Bl Br Bz Bm A0 n0 c0 q qr rs w W1):=by
  rintro s W W' row ⟨A,n,c,es,h1,h2,h3,h4⟩ hg hr;exact⟨A,n,c,es,h1.kept hg (fun k hk=>⟨Av hw (hr k hk).1,(hr k hk).2⟩),h2,h3,Av h4 hg.size⟩
def aGI (Bl Br Bz Bm:Nat)(W1:World)(x:kO)(a':Act)(W:World):Prop:=
  ∃(J:Nat->Value) (Xt:Nat),Ac W Xt 24 ([iV x.1.1,iV x.1.2,iV (x.1.1+1),iV (x.1.2+1)]:List Value).toArray/\W1.heap.size<=Xt/\a'={tmps:=#[J 0,J 1,.pointer (π Bl),.pointer (π Br),.pointer (π Bz),J 5,.pointer (π Bm),.pointer (π Xt),J 8,J 9,J 10,J 11,J 12,J 13,J 14,J 15,J 16,J 17,J 18,J 19,J 20,J 21,J 22,J 23,J 24,J 25,J 26,J 27,J 28,J 29,J 30,J 31,J 32,J 33,J 34,J 35,J 36,J 37,J 38,J 39,J 40,J 41,J 42,J 43,J 44,J 45,J 46,J 47],defers:=[]}
theorem aAR (Bl Br Bz Bm:Nat)(W1:World)(x:kO)(a':Act):OwnFrom W1.heap.size (fun(_:Unit) W=>aGI Bl Br Bz Bm W1 x a' W):=by
  rintro _ W W' row ⟨J,Xt,h1,h2⟩ hg hr;exact⟨J,Xt,h1.kept hg (fun k hk=>(hr k hk).2),h2⟩
theorem aDW {Bl Br Bz Bm Xt:Nat}{W1 W:World}{x:kO}{a':Act}(h1:Ac W Xt 24 ([iV x.1.1,iV x.1.2,iV (x.1.1+1),iV (x.1.2+1)]:List Value).toArray)(h2:W1.heap.size<=Xt)(h3:a'={tmps:=#[γ a' 0,γ a' 1,.pointer (π Bl),.pointer (π Br),.pointer (π Bz),γ a' 5,.pointer (π Bm),.pointer (π Xt),γ a' 8,γ a' 9,γ a' 10,γ a' 11,γ a' 12,γ a' 13,γ a' 14,γ a' 15,γ a' 16,γ a' 17,γ a' 18,γ a' 19,γ a' 20,γ a' 21,γ a' 22,γ a' 23,γ a' 24,γ a' 25,γ a' 26,γ a' 27,γ a' 28,γ a' 29,γ a' 30,γ a' 31,γ a' 32,γ a' 33,γ a' 34,γ a' 35,γ a' 36,γ a' 37,γ a' 38,γ a' 39,γ a' 40,γ a' 41,γ a' 42,γ a' 43,γ a' 44,γ a' 45,γ a' 46,γ a' 47],defers:=[]}):aGI Bl Br Bz Bm W1 x a' W:=⟨fun q=>a'.tmps.getD q undef,Xt,h1,h2,h3⟩
theorem Hp.addNew {w0 w:World}{m:List Df}{X:Nat}{T:TypeId}{zs:List Value}(h:Hp w0 w m)(B:Ac w X T zs.toArray)(hz:w0.heap.size<=X)(hn:Ar zs)(ht:∀e,e∈m->e.typ≠T\/∀k,e.own=some k->k<X):Hp w0 w (m++[.blk X T zs]):=
  h.add ⟨hz,B,hn⟩ (fun i f hf k hk e=>by
    injection e with e
    subst e;rcases ht f (bZZ hf)with h1|h1
    · exact h1 (h.typ hf B hk)
    have:=h1 _ hk;omega)
theorem uO {Bm l:Nat}{T:TypeId}{A:Option Addr}{n c m:Nat}{xs:List Value}{b:Nat}{W W':World}(h:Fr (fun k=>k=Bm\/Value.ownBlock (.slice A n c)=some k) W W')(hr:Ba W b T 1 (.slice A n c) m xs):Kq Bm T l W W':=⟨h.size,fun k o ho h1 _ h3=>by
 have A0:=(Array.getElem?_eq_some_iff.1 ho).1;refine(h.block k A0 (fun g=> ?_)).trans ho;rcases g with g|g
 ·exact h1 g
 obtain⟨_,⟨e,_⟩|⟨g2,c2,rest,e,_,hb,_⟩⟩:=hr
 ·injection e with e1;subst e1;simp[Value.ownBlock]at g
 injection e with e1 e2 e3
 subst e1;have hk:g2=k:=by simpa[Value.ownBlock]using g
 subst hk;unfold Ac at hb;rw[hb]at ho;injection ho with ho
 exact h3 _ ho.symm⟩
set_option maxRecDepth 200000 in
theorem nF (A:Option Addr)(cap:Nat)(rs:List Ai)(r:R4)(w:World)(hu:Cv w (.slice A rs.length cap) rs)(hn:rs.length<=1048576)(hr:∀r,r∈rs->r.length<=1048576)(hs:Fm rs=true->r.ok=true->Gx rs<=16):
  Calls prog 18 #[.slice A rs.length cap,.agg #[iV r.x0,iV r.y0,iV r.x1,iV r.y1]] w (Em (Hw rs r) r (gV rs) w):=by
 have HU:=zH hu;have HN:=zH hn;have D9:=zH hr;clear hu hr;have D7:=zH hs;clear hs;refine(callsIn_wide (n:=13)).1 ?_;refine callsIn_of_wp_marks func18 rfl trivial ?_ rfl;simp only[ntmps18,List.size_toArray,hQQ,List.length_nil,Nat.reduceAdd,Nat.reduceSub,Array.replicate_succ,Array.replicate_zero,List.push_toArray,List.append_toArray,fQQ,iZZ];refine wpIn_wide.2 ?_;refine Go.Code.wp_mono Kx.m ?_;have H0:=zH (Hp.start w);go_upto_region 0 with fail
 apply wl;apply Cm 22 [.slice A rs.length cap] H0.1;intro X1 w2 H3 _;apply Cm 24 [iV r.x0,iV r.y0,iV r.x1,iV r.y1] H3.1;intro X6 w7 H8 _;apply Cm 30 [iV 0,iV 0,iV 0,iV 0,.slice none 0 0] H8.1;intro A7 M5 B3 _;apply zq (iV 0);rcases Cx (Fm rs=true)with HV|HV
 ·go_upto_region 1 with fail
  apply wl;refine Cn B3.1 _ ?_;refine zc (Ci _ rs _ (HU.1.ext B3.1.ext) HN.1 D9.1) ?_;rintro e M4 ⟨rfl,hx⟩;have C8:=zH (B3.1.step hx);clear hx;refine⟨.bool true,by rw[HV.1],?_⟩;try simp only[ζ]
  refine Cc Af φ φ ?_;rcases Cx (r.ok=true)with HRO|HRO
  ·go_upto_region 3 with fail
   apply wl;refine Cn C8.1 _ ?_;refine aC C8.1 ((Sg r _).mono fun _ _ h_=>(⟨h_.1.trans (by rw[HRO.1]),h_.2⟩:_=Ending.returned τ/\Aa _ _)) ?_;intro M3 C7 _;refine Cc Af φ φ ?_;rcases Cx (r.area<=65536)with HA|HA
   ·go_upto_region 5 with fail
    apply wl;refine Cn C7.1 _ ?_;refine aC C7.1 (Pp r _) ?_;intro M2 G7 _;apply zp φ (by exact Sn (e:=(Al (by have h_:=HA.1;omega))));apply zq φ;go_upto_region 7 with fail;apply wl;refine Cn G7.1 _ ?_;refine aC G7.1 (Uw r _) ?_;intro M1 L5 _;refine Cn Af _ ?_;apply Cm 30 [iV 0,iV 0,iV 0,iV 0,.slice none 0 0] L5.1;intro A0 M0 L4 _;apply Da 3 [iV r.can.x0,iV r.can.y0,iV r.can.x1,iV r.can.y1,.slice none 0 0] L4.1;intro G9 L3 _;generalize B2:r.can=q at*;have HQ:=zH B2;have hb:=r.can_bd;rw[B2]at hb;have HB:=zH hb;clear B2 hb;have E1:=zH (show Hp w G9 [.blk X1 22 [.slice A rs.length cap],.blk X6 24 [iV r.x0,iV r.y0,iV r.x1,iV r.y1],.blk A7 30 [iV 0,iV 0,iV 0,iV 0,.slice none 0 0],.blk A0 30 [iV q.x0,iV q.y0,iV q.x1,iV q.y1,.slice none 0 0],ro 5 1 none 0 0 Aw ([])]from L3.1.addNil 5 1);go_upto_region 8 with fail
    apply wl;refine Cn Af _ ?_;refine zd A0 (0) [iV q.x0,iV q.y0,iV q.x1,iV q.y1] (E1.1.range (i:=3) rR 0 4) underlying24 ?_;refine zc (nN q _) ?_;rintro e B1 ⟨Cr,Cw,Ch,rfl,D1,D0,F9,F8,F7,F6,I9,I8,I7,hx⟩;rw[show q.can=q from by rw[<-HQ.1];exact Wp r]at D1;have K3:=zH D1;have K2:=zH D0;have K1:=zH F9;have D8:=zH (And.intro F8 (And.intro F7 F6));clear D1 D0 F9 F8 F7 F6 I9 I8 I7;have C6:=zH (E1.1.step hx);clear hx;refine zn ?_;have I5:=C6.1.lt (i:=3) (k:=A0) (by rfl) rfl;have D6:=zH (show w.heap.size<=B1.heap.size from C6.1.ext.size);have I4:=E1.1.lt (i:=3) (k:=A0) (by rfl) rfl;have K5:=zH (show((Sv q).length:Int)<=65536 from by rw[Vb,Ii,Ii,fZZ];have h_:=HA.1;unfold R4.area at h_;rw[HQ.1]at h_;have D0:=HB.1.2;rw[Int.mul_comm,Int.toNat_of_nonneg ω,Int.toNat_of_nonneg ω];exact h_);go_wp2_with fail
    refine wpIn_wide.1 (Xd (n:=13) ω rR (enters_of func74 kR rfl) (nM 12 dC Cr Cw Ch A0 5 q B1 K3.1 K2.1 K1.1 (by have h_:=D8.1;omega) (by have h_:=D8.1;omega) (by have h_:=D8.1;omega) dC dC dC HB.1.1 I5) (aGU X1 X6 A7 A0 A rs.length cap q r rs w B1) (aAQ X1 X6 A7 A0 A rs.length cap q r rs w B1 D6.1) ⟨none,0,0,[],C6.1,rfl,rfl,Cl _⟩ (aGI X1 X6 A7 A0 B1) (aAR X1 X6 A7 A0 B1) ?assign ?body ?done);case assign=>
     intro l pre x W K hi hK;obtain⟨Az,n,c,es,hh,A4,A3,A5⟩:=hi;have C3:=zH A5;have H0:=zH hh;have HK:=zH hK;have E0:=zH A4;have B8:=zH A3;clear A5 hh hK A4 A3;unfold xI;simp only[zA,zB,zC];refine Ab kR (fun⟨_,_,h⟩=>h) ?_;apply aA 24 [iV 0,iV 0,iV 0,iV 0] H0.1;intro J0 G8 L2 hx B6;have G4:=zH (show W.heap.size<=J0 from Av (Fr.of_ext (G:=fun kz=>False) (Aa.refl W)).size B6);have J9:=zH (show Fr (fun kz=>False) W G8 from(Fr.of_ext (G:=fun kz=>False) (Aa.refl W)).trans (Fr.of_ext hx));clear hx B6;apply aS 5 [iV x.1.1,iV x.1.2,iV (x.1.1+1),iV (x.1.2+1)] L2.1;intro L9 G6 hd ho;have C2:=zH (J9.1.trans_new ho (fun j hj=> .inr (by injection hj with hj;rw[<-hj];exact G4.1)));clear hd ho;exact HK.1 _ _ (KeepsFrom.of_fr C2.1 (fun _ h=>h.elim)) ⟨C2.1.size,fun k o ho _ _ _=>(C2.1.block k (Array.getElem?_eq_some_iff.1 ho).1 (fun h=>h)).trans ho⟩ ⟨Az,n,c,es,G6.1.take 5,E0.1,B8.1,Av C3.1 C2.1.size⟩ (aDW (G6.1.blk (i:=5) (by rfl)) (Av C3.1 G4.1) (by rfl))
    case body=>
     intro l pre ed a' W hi I6 I1;obtain⟨Az,n,c,es,hh,A4,A3,A5⟩:=hi;obtain⟨J,Xt,F3,F2,rfl⟩:=I6;have C3:=zH A5;have E0:=zH A4;have B8:=zH A3;have I3:=ed.2;unfold aFP at I3;have C4:=zH (show n<=65536 from by rw[A3,A4,fXX,fXX];have h_:=K5.1;omega);have H0:=zH (show Hp w W [.blk X1 22 [.slice A rs.length cap],.blk X6 24 [iV r.x0,iV r.y0,iV r.x1,iV r.y1],.blk A7 30 [iV 0,iV 0,iV 0,iV 0,.slice none 0 0],.blk A0 30 [iV q.x0,iV q.y0,iV q.x1,iV q.y1,.slice Az n c],ro 5 1 Az n c Aw es,.blk Xt 24 [iV ed.1.1,iV ed.1.2,iV (ed.1.1+1),iV (ed.1.2+1)]]from hh.addNew F3 (Av D6.1 F2) (by simp[Ar]) (by simp only[List.forall_mem_cons,List.not_mem_nil,false_imp_iff,implies_true,and_true];exact⟨.inl (by simp[Df.typ]),.inr (fun k hk=>by injection hk with hk;have h_:=C6.1.lt (i:=1) (k:=X6) (by rfl) rfl;omega),.inl (by simp[Df.typ]),.inl (by simp[Df.typ]),.inl (by simp[Df.typ])⟩));clear hh A4 A3 A5 F3 F2;have C5:=zH (show Fr (fun kz=>kz=A0\/Value.ownBlock (.slice Az n c)=some kz) W W from Fr.of_ext (Aa.refl W));have K4:=zH (show(-1048576<=ed.1.1*256/\ed.1.1*256<=1048320)/\ -1048576<=ed.1.2*256/\ed.1.2*256<=1048320 from ω);gi_upto_region 10 with fail
     refine Ab kR (fun⟨_,_,h⟩=>h) ?_;refine Cc H0.1 _ _ ?_;apply zp (iV (ed.1.1*256)) (by exact gZ (by have C9:=C4.1;omega));refine Cc H0.1 _ _ ?_;apply zp (iV (ed.1.2*256)) (by exact gZ (by have C9:=C4.1;omega));refine Cn Af _ ?_;apply aA 79 [iV 0,iV 0] H0.1;intro D2 L8 L1 hx B6;have J3:=zH (show W.heap.size<=D2 from Av C5.1.size B6);have J8:=zH (C5.1.trans (Fr.of_ext hx));clear hx B6;apply aS 6 [iV (ed.1.1*256),iV (ed.1.2*256)] L1.1;intro A1 A2 hd ho;have J7:=zH (J8.1.trans_new ho (fun j hj=> .inr (by injection hj with hj;rw[<-hj];exact J3.1)));clear hd ho;refine wpList_nil ?_;gi_upto_region 11 with fail
     refine Eh (S:=fun x=>Fr (fun kz=>kz=A0\/Value.ownBlock (.slice Az n c)=some kz) A1 x) kR kR (fun⟨_,_,h⟩=>h) (Fr.of_ext zb) (fun _=> ?_);have G5:=zH (A2.1.step (Aa.refl A1).drew);have J6:=zH (J7.1.trans (Fr.of_ext (Aa.refl A1).drew));refine mX 0 (bs 10 1) (.pointer (some ⟨A0,4,none⟩)) (Fr.of_ext zb) ?_;refine zr 2 (bs 10 5) D2 (0) [iV (ed.1.1*256),iV (ed.1.2*256)] (fun x hx=>Fr.range hx (show World.rangeAt A1 D2 (0) [iV (ed.1.1*256),iV (ed.1.2*256)]from(A2.1.range (i:=6) rR 0 2)) (fun hk=>hk.elim (A2.1.offBlk (i:=6) (j:=3) rR rR dC rR) (A2.1.offRow (i:=6) (j:=4) rR rR dC rR))) underlying79 (Fr.of_ext zb) ?_;refine Ec (g:=X1) (o:=0) (v:= .slice A rs.length cap) (i:=3) (listed':=(bs 10 13)) rR kR kR kR (by intro _ _ _ h;exact h) rR (fun x hx=>Fr.cell hx (show World.cell? A1 ⟨X1,0,none⟩=some (.slice A rs.length cap)from Aj (A2.1.range (i:=0) rR 0 1)) (fun hk=>hk.elim (A2.1.offBlk (i:=0) (j:=3) rR rR dC rR) (A2.1.offRow (i:=0) (j:=4) rR rR dC rR))) (by intro x hq;go_simp<;>with_reducible rfl) (Fr.of_ext zb) kR ?_;try simp only[ζ]
     refine Fd.go (j:=1) (dj:=some 39) (u:= .slice Az n c) ?_;refine Ie (b:=A1) (i:=4) (lj:=(bs 10 15)) (li:=(bs 10 29)) rR rR kR kR kR kR kR dC kR rR rR (fun x_ h_=>Fr.of_ext h_) (Aa.refl A1).drew (fun x_ h_=>(by have B2:=Aj (Bp (show World.rangeAt A1 A0 (4) [.slice Az n c]from A2.1.range (i:=3) rR 4 1) h_);go_simp<;>with_reducible rfl)) rR (by go_simp) kR (dL (ed.1.1*256) (ed.1.2*256) _ rs _ (HU.1.ext G5.1.ext) HN.1 D9.1 HV.1 (D7.1 HV.1 HRO.1) K4.1) ?_;rintro e E9 ⟨I0,rfl,F1,F4,hx⟩;have L0:=zH (G5.1.step hx);have J5:=zH (J6.1.trans (Fr.of_ext hx));have G2:=zH (show Aa A1 E9 from(Aa.refl A1).drew.trans hx);have J1:=zH (show Fr (fun kz=>kz=A0\/Value.ownBlock (.slice Az n c)=some kz) A1 E9 from(Fr.of_ext zb).trans (Fr.of_ext hx));have J2:=zH F1;have L7:=zH F4;clear F1 F4;have B5:=hx;clear hx;refine⟨_,rfl,B5,?_⟩;try simp only[ζ]
     clear B5;refine Ie (b:=A1) (i:=5) (lj:=(bs 10 31)) (li:=(bs 10 61)) rR rR kR kR kR kR kR dC kR rR rR (fun x_ h_=>Fr.of_ext h_) G2.1 (fun x_ h_=>(by have B2:=Aj (Bp (show World.rangeAt A1 A0 (4) [.slice Az n c]from A2.1.range (i:=3) rR 4 1) h_);go_simp<;>with_reducible rfl)) rR (by go_simp) kR (Lj I0 (Hq rs (ed.1.1*256,ed.1.2*256)) _ (J2.1.isIn (Av L7.1 dC))) ?_;rintro e B0 ⟨rfl,hx⟩;have K9:=zH (L0.1.step hx);have J4:=zH (J5.1.trans (Fr.of_ext hx));have G1:=zH (show Aa A1 B0 from G2.1.trans hx);have G3:=zH (J1.1.trans (Fr.of_ext hx));have B5:=hx;clear hx;refine⟨_,rfl,B5,?_⟩;try simp only[ζ]
     clear B5;refine aEN (v:= .slice (π B0.heap.size) 1 1) (w':=(B0.alloc (.cells ([.int .u8 (Kw (Hq rs (ed.1.1*256,ed.1.2*256)))]:List Value).toArray 5))) (b:=A1) (i:=6) (lj:=(bs 10 63)) (li:=(bs 10 125)) rR rR kR kR kR kR kR dC kR rR rR (fun x_ h_=>Fr.of_ext h_) G1.1 (fun x_ h_=>(by have B2:=Aj (Bp (show World.rangeAt A1 A0 (4) [.slice Az n c]from A2.1.range (i:=3) rR 4 1) h_);go_simp<;>with_reducible rfl)) rR (by go_simp) ((Aa.refl B0).alloc _) kR ?_;try simp only[ζ]
     refine On rR kR rR rR (G3.1.trans (Fr.of_ext ((Aa.refl B0).alloc _))) (aGX (p:=⟨A0,4,none⟩) (by intro x hq;go_simp<;>with_reducible rfl) _ (Aj (Bp (show World.rangeAt A1 A0 (4) [.slice Az n c]from A2.1.range (i:=3) rR 4 1) (G1.1.trans ((Aa.refl B0).alloc _))))) (show _=(bs 10 127)by kernel_rfl) ?_;try simp only[ζ]
     refine uL (j:=7) (listed':=(bs 10 255)) rR kR rR _ _ _ rR aFY rR K9.1 (ix:=4) rR 1 1 [.int .u8 (Kw (Hq rs (ed.1.1*256,ed.1.2*256)))] rR rfl (by simp[Value.oneCell']) (by simp[Ar]) dC (by unfold maxLen;exact(by have C9:=C4.1;omega)) (by have C9:=C4.1;omega) kR ?_;intro G0 B7 E8 hf hh hd hg;have L6:=zH hf;clear hf;rw[show List.flatMap Aw es++[.int .u8 (Kw (Hq rs (ed.1.1*256,ed.1.2*256)))]=_ from Fs Aw _ (Kw (Hq rs (ed.1.1*256,ed.1.2*256)))]at hh;have E7:=hN hh;have D5:=zH (show Fr (fun kz=>kz=A0\/Value.ownBlock (.slice Az n c)=some kz) W E8 from(J4.1.trans (Fr.of_ext (Aq.alloc _))).trans_new hg (fun j hj=> .inl (.inr hj)));have A8:=zH (show Fr (fun kz=>kz=A0\/Value.ownBlock (.slice Az n c)=some kz) A1 E8 from Fr.trans_new (G3.1.trans (Fr.of_ext (Aq.alloc _))) hg (fun j hj=> .inl (.inr hj)));clear hh hd hg;refine⟨A8.1,?_⟩;try simp only[ζ]
     refine zx 8 (bs 10 511) (.pointer (some ⟨A0,4,none⟩)) A8.1 ?_;refine aCR (i:=9) (listed':=(bs 10 1023)) rR kR rR kR _ _ _ rR E7.1 (ix:=3) rR 4 (.slice (π G0) (n+1) B7) rR rR (by simp) kR (by simp[Value.cells]) (by simp[Value.oneCell']) (by simp[Ar]) ?_;intro H9 hh hd ho;have E6:=hN hh;have A9:=zH (D5.1.trans_new ho (fun j hj=> .inl (.inl (by injection hj with hj;exact hj.symm))));have D3:=zH (Fr.trans_new A8.1 ho (fun j hj=> .inl (.inl (by injection hj with hj;exact hj.symm))));clear hh hd ho;refine⟨D3.1,?_⟩
     (try simp only[Act.put])
     refine wpAnyH_done kR ?_ _;gi_wp2
     exact⟨(KeepsFrom.of_fr A9.1 (fun k hk o ho=>hk.elim (fun e=>H0.1.cells (i:=3) (by rfl) (by rw[e];rfl) o ho) (fun e=>H0.1.cells (i:=4) (by rfl) (by exact e) o ho))),uO A9.1 (H0.1.row (i:=4) (by rfl)),some ⟨G0,0,none⟩,n+1,B7,es++[(Kw (Hq rs (ed.1.1*256,ed.1.2*256)))],E6.1.take 5,(by rw[E0.1,jXX,jXX];rfl),(by rw[bQQ,<-B8.1];rfl),Av C3.1 A9.1.size⟩
    rintro Dz xs W hD F0 ⟨Az,n,c,es,hh,A4,A3,A5⟩ hK;have H0:=zH hh;have B8:=zH A3;have HD:=zH hK;have K8:=zH hD;have K7:=zH (show Kg q (gV rs) es from tR (by rw[A4,F0]) HB.1.2.1 HB.1.2.2);clear hh A4 A3 A5 F0 hK hD;have C5:=zH (show Fr (fun kz=>kz=A7) W W from Fr.of_ext (Aa.refl W));go_upto_region 12 with fail
    apply wl;refine Cn H0.1 _ ?_;apply aS 2 [iV q.x0,iV q.y0,iV q.x1,iV q.y1,.slice Az n c] H0.1;intro B4 E5 hd ho;have D4:=zH (C5.1.trans_new ho (fun j hj=> .inl (by injection hj with hj;exact hj.symm)));clear hd ho;apply zq (iV 0);go_wp2_with fail
    have F5:B4.heap[Dz]?=some (.deferred (some [])):=(D4.1.block Dz (Array.getElem?_eq_some_iff.1 HD.1).1 (fun e=>by have h1:=H0.1.cells (i:=2) (k:=Dz) (by rfl) (by rw[e];rfl) _ HD.1;cases h1)).trans HD.1;refine⟨by simp,.inl ⟨_,_,rfl,run_takeDeferred F5,?_⟩⟩;have A6:=E5.1.kept (grownBy_putObj' B4 Dz (.deferred none)) (fun k hk=>by injection hk with hk;subst hk;exact⟨Av D6.1 K8.1,_,F5,rfl⟩);have HE:=zH (show Hw rs r=0 from(if_pos HV.1).trans ((if_pos HRO.1).trans (if_pos HA.1)));exact⟨_,At rfl rfl ((A6.blk (i:=2) (by rfl)).loadVar rfl rfl (by rfl)) rfl,q,Az,n,c,es,by rw[HE.1]<;>rfl,B8.1,A6.row (i:=4) (by rfl),fun _=>⟨HQ.1.symm,by rw[HQ.1];exact K7.1,HA.1⟩,fun h_=>absurd HE.1 h_,A6.ext⟩
   go_upto_region 5 with fail;apply wl;refine Cn C7.1 _ ?_;refine aC C7.1 (Pp r _) ?_;intro H7 E4 _;apply zp τ (by exact Sn (e:=(An (by have h_:=HA.1;omega))));apply zq τ;go_upto_region 6 with fail;apply wl;refine Cn Af _ ?_;apply Da 2 [iV 0,iV 0,iV 0,iV 0,.slice none 0 0] E4.1;intro H6 C1 _;apply zq (iV 5);have HE:=zH (show Hw rs r=5 from(if_pos HV.1).trans ((if_pos HRO.1).trans (if_neg HA.1)));go_wp2_with fail
   exact⟨_,At rfl rfl ((C1.1.blk (i:=2) (by rfl)).loadVar rfl rfl (by rfl)) rfl,R4.zero,none,0,0,[],by rw[HE.1]<;>rfl,rfl,Ba.nil _ _ _ _,fun h_=>absurd h_ (by rw[HE.1];decide),fun _=>⟨rfl,rfl⟩,C1.1.ext⟩
  have K6:=zH (Bool.eq_false_iff.2 HRO.1);go_upto_region 3 with fail;apply wl;refine Cn C8.1 _ ?_;refine aC C8.1 ((Sg r _).mono fun _ _ h_=>(⟨h_.1.trans (by rw[K6.1]),h_.2⟩:_=Ending.returned φ/\Aa _ _)) ?_;intro H5 E3 _;refine Cc Af τ τ ?_;go_upto_region 4 with fail;apply wl;refine Cn Af _ ?_;apply Da 2 [iV 0,iV 0,iV 0,iV 0,.slice none 0 0] E3.1;intro H4 C0 _;apply zq (iV 6);have HE:=zH (show Hw rs r=6 from(if_pos HV.1).trans (if_neg HRO.1));go_wp2_with fail
  exact⟨_,At rfl rfl ((C0.1.blk (i:=2) (by rfl)).loadVar rfl rfl (by rfl)) rfl,R4.zero,none,0,0,[],by rw[HE.1]<;>rfl,rfl,Ba.nil _ _ _ _,fun h_=>absurd h_ (by rw[HE.1];decide),fun _=>⟨rfl,rfl⟩,C0.1.ext⟩
 have K0:=zH (Bool.eq_false_iff.2 HV.1);go_upto_region 1 with fail;apply wl;refine Cn B3.1 _ ?_;refine zc (Ci _ rs _ (HU.1.ext B3.1.ext) HN.1 D9.1) ?_;rintro e H2 ⟨rfl,hx⟩;have E2:=zH (B3.1.step hx);clear hx;refine⟨.bool false,by rw[K0.1],?_⟩;try simp only[ζ]
 apply qV τ;apply zq τ;go_upto_region 2 with fail;apply wl;refine Cn Af _ ?_;apply Da 2 [iV 0,iV 0,iV 0,iV 0,.slice none 0 0] E2.1;intro H1 B9 _;apply zq (iV 12);have HE:=zH (show Hw rs r=12 from if_neg HV.1);go_wp2_with fail
 exact⟨_,At rfl rfl ((B9.1.blk (i:=2) (by rfl)).loadVar rfl rfl (by rfl)) rfl,R4.zero,none,0,0,[],by rw[HE.1]<;>rfl,rfl,Ba.nil _ _ _ _,fun h_=>absurd h_ (by rw[HE.1];decide),fun _=>⟨rfl,rfl⟩,B9.1.ext⟩
end
section
theorem xW {w:World}{b n c:Nat}{A:Option Addr}{es:List Int}(hr:Ba w b 5 1 (.slice A n c) n (List.flatMap Aw es)):(convert 28 9 (.slice A n c)).run prog w= .ok (.string (strOfNums es)) w:=by
 obtain⟨h1,⟨e,h0⟩|⟨g,A0,rest,e,_,hb,_⟩⟩:=id hr
 ·injection e with e1 e2 e3
  subst e1;have hz:es=[]:=by
   cases es with
   |nil=>rfl
   |cons x l=>simp[Aw]at h1;omega
  subst hz;exact run_convert_bytes_nil w 28 5 underlying28 underlying5 n c 9 underlying9
 injection e with e1 e2 e3
 subst e1;have hl:es.length=n:=by rw[Dm Hv]at h1;omega
 refine run_convert_bytes_arg w 28 5 underlying28 underlying5 g 0 n c es hl (fun i hi=> ?_) 9 underlying9;have hg:es[i]?=some (es.getD i 0):=by simp[List.getD,aQQ (show i<es.length by omega)]
 have h2:=Hh Hv es i _ hg 0 (.int .u8 (es.getD i 0)) rfl;rw[nXX,mXX]at h2;rw[cZZ,hb.cell,aZZ,dZZ (List.getElem?_eq_some_iff.1 h2).1];exact h2
theorem bX {o:Oper}{ρ:Operand->Value}{w:World}{b n c:Nat}{A:Option Addr}{es:List Int}{s:ByteArray}{x:Operand}(ho:o.op= .convert 28 9 x)(hx:ρ x= .slice A n c)(hr:Ba w b 5 1 (.slice A n c) n (List.flatMap Aw es))(hs:strOfNums es=s):(execOp ρ o).run prog w= .ok (.value (.string s)) w:=by
  subst hs;have h:=xW hr;unfold execOp;simp only[ho,hx];simp[go_sem,h]
theorem zU {P:Program}{o:Oper}{ρ:Operand->Value}{w:World}{s s':ByteArray}{b:Bool}{t t':TypeId}{x y:Operand}(ho:o.op= .binOp .neq t x y t')(hx:ρ x= .string s)(hy:ρ y= .string s')(hE:(!(s.toList==s'.toList))=b):(execOp ρ o).run P w= .ok (.value (.bool b)) w:=by
  subst hE;unfold execOp;simp only[ho,hx,hy];simp[go_sem]
theorem mG {P:Program}{o:Oper}{ρ:Operand->Value}{w:World}{s s':ByteArray}{b:Bool}{t t':TypeId}{x y:Operand}(ho:o.op= .binOp .eql t x y t')(hx:ρ x= .string s)(hy:ρ y= .string s')(hE:(s.toList==s'.toList)=b):(execOp ρ o).run P w= .ok (.value (.bool b)) w:=by
  subst hE;unfold execOp;simp only[ho,hx,hy];simp[go_sem]
end
section
open Go.ChangeShapes Go.WideShapes Go.ChangeAt Go.RowKit
theorem own:ownKnob prog.godebug=none:=by kernel_rfl
theorem lW:laidOutB prog=true:=by kernel_rfl
theorem Zl:prog.cellsOf 3=1:=by kernel_rfl
theorem gH:prog.cellsOf 44=2:=by kernel_rfl
theorem aW {P:Program}{w:World}{r:Reach}{base:Nat}{t e:TypeId}{n:Nat}{v:Value}(ht:P.underlying t=some (.array n e))(h:Value.okWide P w r base t v):∃cs,v= .agg cs/\cs.size=P.cellsOf t:=by
  simp only[Value.okWide,ht]at h;obtain⟨cs,h1,h2,_⟩:=h;exact⟨cs,h1,h2⟩
section
variable {H:Type} {enc:TypeId×Value->H} {w:World} {base:Nat} {spare:Nat->Bool} {held:Bool}
theorem aK {fuel:Nat}{cs:List Value}{x:DataW H×List MemPlace}(h:DataW.trod enc prog w base spare held fuel 44 cs=some x):∃a:Int×Int,cs=[.int .i64 a.1,.int .i64 a.2]:=by
  obtain⟨y0,y1,n,_,hl,h0,h1⟩:=trod_struct2 underlying44 h;rw[gH]at hl;rw[Zl]at h0 h1;obtain⟨a,e0,_,_⟩:=DataW.trod_int underlying3 h0;obtain⟨b,e1,_,_⟩:=DataW.trod_int underlying3 h1;match cs,hl with
  | [u,v],_=>
    simp at e0 e1;exact⟨(a,b),by rw[e0,e1]⟩
end
section
variable {H:Type} {enc:TypeId×Value->H} {P:Program} {w:World} {base:Nat} {spare:Nat->Bool} {held:Bool}
end
section
variable {H:Type} {enc:TypeId×Value->H} {w:World} {base:Nat} {held:Bool}
end
theorem Ve {P:Program}{w:World}{r:Reach}{base:Nat}{t:TypeId}{fs:Array Field}{v:Value}(ht:P.underlying t=some (.struct fs))(h:Value.okWide P w r base t v):∃cs,v= .agg cs/\cs.size=P.cellsOf t:=by
  simp only[Value.okWide,ht]at h;obtain⟨cs,h1,h2,_⟩:=h;exact⟨cs,h1,h2⟩
instance:Inhabited RV:=⟨⟨false,none,0,0,false,none,0,0⟩⟩
section
variable {H:Type} {enc:TypeId×Value->H} {w:World} {base:Nat} {held:Bool}
end
end
section
attribute [local go_sem ↓] Go.wp_at_zero Go.wp_at_succ Ae Ad
theorem Ye {w0 w:World}{m:List Df}{i j X1 X2:Nat}(h:Hp w0 w m)(ps:List (Int×Int))(h1:m[i]?=some (.blk X1 44 (ps.flatMap fun p=>[iV p.1,iV p.2])))
  (h2:m[j]?=some (.blk X2 46 [.slice (π X1) ps.length ps.length])):Cv w (.slice (π X2) 1 1) [ps]:=by
 refine⟨_,1,rfl,fun _=>⟨X2,0,rfl,fun i r hr=> ?_⟩⟩;have hi:i=0:=by have:=(List.getElem?_eq_some_iff.1 hr).1;simp at this;omega
 subst hi;have A0:r=ps:=by simpa using hr.symm
 subst A0;refine⟨_,r.length,h.cell h2 0 rfl,⟨_,r.length,rfl,fun _=>⟨X1,0,rfl,fun i hi=> ?_⟩⟩⟩;have hp:r[i]?=some r[i]:=aQQ hi;have hg:r.getD i (0,0)=r[i]:=by simp[hi]
 rw[hg];have h3:=h.cell h1 (i*2+0) (Hh (f:=fun p:Int×Int=>([iV p.1,iV p.2]:List Value)) (fun _=>rfl) r i r[i] hp 0 _ rfl);have h4:=h.cell h1 (i*2+1) (Hh (f:=fun p:Int×Int=>([iV p.1,iV p.2]:List Value)) (fun _=>rfl) r i r[i] hp 1 _ rfl);rw[mXX]at h3;rw[cZZ];exact⟨h3,h4⟩
theorem eD (a b:Int)(w:World)(h1: -9223372036854775808<=a)(h2:a<=9223372036854775807)(h3: -9223372036854775808<=b)(h4:b<=9223372036854775807)(hb:b≠0):
    Calls prog 21 #[iV a,iV b] w fun e w'=>∃c,e= .returned (.tuple #[.agg c,iV 0])/\Oe w' c ((a:Rat)/(b:Rat))/\Aa w w':=by
  refine(Ux a b w h1 h2 h3 h4 hb).mono fun e w' h=> ?_
  obtain⟨c,rfl,h3,h4⟩:=Mx.v h;exact⟨_,rfl,⟨c,rfl,by rw[<-Rat.divInt_eq_div];exact h3⟩,h4⟩
def Gl:List Ai:=[[(0,0),(256,0),(0,256)]]
def xF:List Ai:=[[(0,256),(256,0),(0,0)]]
theorem aCD {L:Nat}{w:World}{cs:Array Value}{q:Rat}(hp:Hk L w cs q)(hL:L<=60000):
    Calls prog 26 #[.agg cs] w fun e w'=>∃c,e= .returned (.agg c)/\Oe w' c (-q)/\Aa w w':=by
  obtain⟨a,rfl,h1⟩:=hp;refine(oN _ _ _ _ L q w h1 ω).mono fun e w' h=> ?_
  obtain⟨c,rfl,h3,h4⟩:=Ja.v h;exact⟨_,rfl,⟨c,rfl,h3⟩,h4⟩
theorem wB {r:R4}(h:r.emp=false):r.can=r:=if_neg (by rw[h];decide)
theorem qN {es:List Int}(h:Kg (⟨-1,0,2,1⟩:R4).can (Gq 1 Gl) es):es=[0,128,0]:=by
  rw[wB (by decide)]at h;refine h.ext ⟨by decide,fun x y hi=> ?_⟩ dC dC;obtain⟨⟨a,b⟩,c,d⟩:=hi;simp only at a b c d;obtain rfl:y=0:=ω;rcases(by omega:x= -1\/x=0\/x=1)with rfl|rfl|rfl<;>decide+kernel
theorem qO {es:List Int}(h:Kg (⟨0,0,1,1⟩:R4).can (gV Gl) es):es=[128]:=by
  rw[wB (by decide)]at h;refine h.ext ⟨by decide,fun x y hi=> ?_⟩ dC dC;obtain⟨⟨a,b⟩,c,d⟩:=hi;simp only at a b c d;obtain rfl:y=0:=ω;obtain rfl:x=0:=ω;decide+kernel
theorem Ts:(gO (Gq 2 Gl) (⟨-3,-3,4,4⟩:R4).can).x0=0/\(gO (Gq 2 Gl) (⟨-3,-3,4,4⟩:R4).can).y0=0/\(gO (Gq 2 Gl) (⟨-3,-3,4,4⟩:R4).can).x1=1/\(gO (Gq 2 Gl) (⟨-3,-3,4,4⟩:R4).can).y1=1:=by decide+kernel
section
variable (A:Option Addr) (w:World) (hu:Cv w (.slice A Gl.length 1) Gl)
include hu
theorem aFU:Calls prog 8 #[.slice A Gl.length 1,iV 1,.agg #[iV (-1),iV 0,iV 2,iV 1]] w fun e w'=>∃(A:Option Addr) (c:Nat),e= .returned (.tuple #[.agg #[iV (-1),iV 0,iV 2,iV 1,.slice A 3 c],iV 0])/\Ba w' w.heap.size 5 1 (.slice A 3 c) 3 (List.flatMap Aw [0,128,0])/\Aa w w':=by
 refine(Kr A 1 Gl 1 ⟨-1,0,2,1⟩ w hu dC (by intro r_ A0;simp[Gl]at A0;subst A0;decide) (fun _ _=>by decide) dC).mono fun e w' h=> ?_
 obtain⟨A,n,c,es,rfl,h1,h2,h3,_,hx⟩:=Em.ok h (by decide);obtain rfl:=qN h3;have h1:n=3:=h1;subst h1;exact⟨A,c,rfl,h2,hx⟩
theorem aFT:Calls prog 8 #[.slice A Gl.length 1,iV 3,.agg #[iV 0,iV 0,iV 1,iV 1]] w fun e w'=>∃(A:Option Addr) (c:Nat),e= .returned (.tuple #[.agg #[iV 0,iV 0,iV 0,iV 0,.slice A 0 c],iV 2])/\Ba w' w.heap.size 5 1 (.slice A 0 c) 0 (List.flatMap Aw [])/\Aa w w':=by
 refine(Kr A 1 Gl 3 ⟨0,0,1,1⟩ w hu dC (by intro r_ A0;simp[Gl]at A0;subst A0;decide) (fun _ _=>by decide) dC).mono fun e w' h=> ?_
 obtain⟨A,c,rfl,h2,hx⟩:=Em.bad h (by decide);exact⟨A,c,rfl,h2,hx⟩
theorem aFS:Calls prog 8 #[.slice A Gl.length 1,iV 1,.agg #[iV (-200),iV (-200),iV 200,iV 200]] w fun e w'=>∃(A:Option Addr) (c:Nat),e= .returned (.tuple #[.agg #[iV 0,iV 0,iV 0,iV 0,.slice A 0 c],iV 5])/\Ba w' w.heap.size 5 1 (.slice A 0 c) 0 (List.flatMap Aw [])/\Aa w w':=by
 refine(Kr A 1 Gl 1 ⟨-200,-200,200,200⟩ w hu dC (by intro r_ A0;simp[Gl]at A0;subst A0;decide) (fun _ _=>by decide) dC).mono fun e w' h=> ?_
 obtain⟨A,c,rfl,h2,hx⟩:=Em.bad h (by decide);exact⟨A,c,rfl,h2,hx⟩
theorem aFW:Calls prog 23 #[.slice A Gl.length 1,iV 2,.agg #[iV (-3),iV (-3),iV 4,iV 4]] w fun e w'=>e= .returned (.tuple #[.agg #[iV 0,iV 0,iV 1,iV 1],iV 0])/\Aa w w':=by
 refine(aAL A 1 Gl 2 ⟨-3,-3,4,4⟩ w hu dC (by intro r_ A0;simp[Gl]at A0;subst A0;decide) (fun _ _=>by decide) dC).mono fun e w' h=> ?_
 obtain⟨rfl,hx⟩:=h;rw[show aAM 2 Gl ⟨-3,-3,4,4⟩=gO (Gq 2 Gl) (⟨-3,-3,4,4⟩:R4).can from if_pos (by decide),Ts.1,Ts.2.1,Ts.2.2.1,Ts.2.2.2];exact⟨rfl,hx⟩
theorem aFX:Calls prog 18 #[.slice A Gl.length 1,.agg #[iV 0,iV 0,iV 1,iV 1]] w fun e w'=>∃(A:Option Addr) (c:Nat),e= .returned (.tuple #[.agg #[iV 0,iV 0,iV 1,iV 1,.slice A 1 c],iV 0])/\Ba w' w.heap.size 5 1 (.slice A 1 c) 1 (List.flatMap Aw [128])/\Aa w w':=by
 refine(nF A 1 Gl ⟨0,0,1,1⟩ w hu dC (by intro r_ A0;simp[Gl]at A0;subst A0;decide) (fun _ _=>by decide)).mono fun e w' h=> ?_
 obtain⟨A,n,c,es,rfl,h1,h2,h3,_,hx⟩:=Em.ok h (by decide);obtain rfl:=qO h3;have h1:n=1:=h1;subst h1;exact⟨A,c,rfl,h2,hx⟩
theorem aFR:Calls prog 12 #[.slice A Gl.length 1,iV 1,iV 0,iV 0] w fun e w'=>e= .returned (.int .u8 128)/\Aa w w':=by
  refine(Wf A 1 Gl 1 0 0 w hu dC (by intro r_ A0;simp[Gl]at A0;subst A0;decide) (fun _=>by decide) dC).mono fun e w' h=> ?_
  rw[show Gq 1 Gl 0 0=128 by decide+kernel]at h;exact h
end
theorem aFQ (A:Option Addr)(w:World)(hu:Cv w (.slice A 1 1) xF):Calls prog 24 #[.slice A 1 1,iV 0,iV 0] w fun e w'=>∃r:RV,e= .returned (.tuple #[(rg r),iV 0])/\r.Is w' (-(((1:Int):Rat)/((2:Int):Rat)))/\Aa w w':=by
 refine(iL A 1 xF 0 0 w hu dC (by intro r_ A0;simp[xF]at A0;subst A0;decide) (fun _=>by decide) dC dC).mono fun e w' h=> ?_
 obtain⟨r,rfl,h1,_,hx⟩:=Wo.ok h (by decide);exact⟨r,rfl,(show Hq xF (0*256,0*256)= -(((1:Int):Rat)/((2:Int):Rat))by decide+kernel)▸h1,hx⟩
theorem aFV (r:RV)(w:World)(h:r.Is w (((1:Int):Rat)/((2:Int):Rat)))(hl:Nm.rl (((1:Int):Rat)/((2:Int):Rat))<=8):Calls prog 27 #[(rg r)] w fun e w'=>e= .returned (.int .u8 128)/\Aa w w':=by
  refine(Lj r (((1:Int):Rat)/((2:Int):Rat)) w (h.isIn (Av hl dC))).mono fun e w' h=> ?_
  rw[show Kw (((1:Int):Rat)/((2:Int):Rat))=128 by decide+kernel]at h;exact h
theorem Jc (w:World):Calls prog 22 #[] w fun e w'=>∃g,e= .returned (.slice (π g) Gl.length 1)/\Cv w' (.slice (π g) Gl.length 1) Gl/\Aa w w':=by
 go_enter func22,ntmps22;have H0:=zH (Hp.start w);go_upto_region 0 with fail;apply wl;refine Cn Af _ ?_;go_upto_region 1 with fail;apply wl;refine Dt Af _ _ _ ?_;apply Zp 3 44 [iV 0,iV 0,iV 256,iV 0,iV 0,iV 256] H0.1;intro X5 w6 H7 _;apply Zp 1 46 [.slice (π X5) 3 3] H7.1;intro X9 A1 A0 _;refine Cn Af _ ?_;go_wp2_with fail;go_ret;exact⟨_,rfl,Ye A0.1 [(0,0),(256,0),(0,256)] (i:=0) (j:=1) (by rfl) (by rfl),A0.1.ext⟩
set_option maxRecDepth 200000 in
theorem Gp (w:World):Calls prog 7 #[] w fun e w'=>e= .returned τ/\Aa w w':=by
 go_enter func7,ntmps7;have H0:=zH (Hp.start w);go_upto_region 0 with fail;apply wl;apply zq φ;go_upto_region 1 with fail;apply wl;refine zc (eD 1 2 _ dC dC dC dC dC) ?_;rintro e O1 ⟨c_,rfl,D1,hx⟩;have L2:=zH (H0.1.step hx);obtain⟨B0,rfl,A1⟩:=D1;have H3:=zH A1;have H4:=zH (show Nm.rl (((1:Int):Rat)/((2:Int):Rat))<=8 from by decide+kernel);clear A1 hx;refine zn ?_;refine Dt Af _ _ _ ?_;refine Cm 58 rz L2.1 ?_;intro C7 O0 L1 M7;apply Da 0 (rc B0) L1.1;intro N9 L0 M6;apply zq (iV 0);go_upto_region 2 with fail
 apply wl;refine zc (Jc _) ?_;rintro e N8 ⟨O5,rfl,A1,hx⟩;have K9:=zH (L0.1.step hx);have M5:=zH (Ah.of_ext hx);have E2:=zH A1;clear A1 hx;refine zn ?_;refine Cn Af _ ?_;refine zc (aFU _ _ (E2.1)) ?_;rintro e H7 ⟨A6,A4,rfl,A0,hx⟩;have K8:=zH (show Hp w H7 [.blk C7 58 (rc B0),ro 5 1 A6 3 A4 Aw ([0,128,0])]from K9.1.addRow hx A0);have M4:=zH (Ah.of_ext hx);clear A0 hx;refine zn ?_;refine Dt Af _ _ _ ?_;apply Cm 30 [iV 0,iV 0,iV 0,iV 0,.slice none 0 0] K8.1;intro D3 N7 K7 M3;apply Da 2 [iV (-1),iV 0,iV 2,iV 1,.slice A6 3 A4] K7.1;intro N6 K6 M2;apply zq (iV 0);go_upto_region 3 with fail
 apply wl;refine zc (Jc _) ?_;rintro e N5 ⟨O4,rfl,A1,hx⟩;have K5:=zH (K6.1.step hx);have M1:=zH (Ah.of_ext hx);have E1:=zH A1;clear A1 hx;refine zn ?_;refine Cn Af _ ?_;refine aC K5.1 (aFW _ _ (E1.1)) ?_;intro N4 K4 M0;refine Dt Af _ _ _ ?_;apply Cm 24 [iV 0,iV 0,iV 0,iV 0] K4.1;intro D2 N3 K3 L9;apply Da 3 [iV 0,iV 0,iV 1,iV 1] K3.1;intro N2 K2 L8;apply zq (iV 0);go_upto_region 4 with fail
 apply wl;refine zc (Jc _) ?_;rintro e N1 ⟨O3,rfl,A1,hx⟩;have K1:=zH (K2.1.step hx);have L7:=zH (Ah.of_ext hx);have E0:=zH A1;clear A1 hx;refine zn ?_;refine Cn Af _ ?_;refine zc (aFT _ _ (E0.1)) ?_;rintro e H6 ⟨B2,B1,rfl,A0,hx⟩;have K0:=zH (show Hp w H6 [.blk C7 58 (rc B0),ro 5 1 A6 3 A4 Aw ([0,128,0]),.blk D3 30 [iV (-1),iV 0,iV 2,iV 1,.slice A6 3 A4],.blk D2 24 [iV 0,iV 0,iV 1,iV 1],ro 5 1 B2 0 B1 Aw ([])]from K1.1.addRow hx A0);have L6:=zH (Ah.of_ext hx);clear A0 hx;refine zn ?_;refine Dt Af _ _ _ ?_;apply Cm 30 [iV 0,iV 0,iV 0,iV 0,.slice none 0 0] K0.1;intro H2 N0 J9 L5;apply Da 5 [iV 0,iV 0,iV 0,iV 0,.slice B2 0 B1] J9.1;intro M9 J8 L4;apply zq (iV 2);go_upto_region 5 with fail
 apply wl;refine zc (Jc _) ?_;rintro e M8 ⟨O2,rfl,A1,hx⟩;have J7:=zH (J8.1.step hx);have L3:=zH (Ah.of_ext hx);have D9:=zH A1;clear A1 hx;refine zn ?_;refine Cn Af _ ?_;refine zc (aFS _ _ (D9.1)) ?_;rintro e H5 ⟨C8,C6,rfl,A0,hx⟩;have F6:=zH (show Hp w H5 [.blk C7 58 (rc B0),ro 5 1 A6 3 A4 Aw ([0,128,0]),.blk D3 30 [iV (-1),iV 0,iV 2,iV 1,.slice A6 3 A4],.blk D2 24 [iV 0,iV 0,iV 1,iV 1],ro 5 1 B2 0 B1 Aw ([]),.blk H2 30 [iV 0,iV 0,iV 0,iV 0,.slice B2 0 B1],ro 5 1 C8 0 C6 Aw ([])]from J7.1.addRow hx A0);have G8:=zH (Ah.of_ext hx);clear A0 hx;refine zn ?_;refine Dt Af _ _ _ ?_;apply Cm 30 [iV 0,iV 0,iV 0,iV 0,.slice none 0 0] F6.1;intro D6 J1 F5 G7;apply Da 7 [iV 0,iV 0,iV 0,iV 0,.slice C8 0 C6] F5.1;intro J0 F4 G6;apply zq (iV 5);go_upto_region 6 with fail
 apply wl;refine Dt Af _ _ _ ?_;apply Zp 3 44 [iV 0,iV 256,iV 256,iV 0,iV 0,iV 0] F4.1;intro A8 I9 F3 G5;apply Zp 1 46 [.slice (π A8) 3 3] F3.1;intro D5 I8 B9 G4;refine zc (aFQ _ _ (Ye B9.1 [(0,256),(256,0),(0,0)] (i:=8) (j:=9) rR rR)) ?_;rintro e I7 ⟨B3,rfl,A1,hx⟩;have F2:=zH (B9.1.step hx);have G3:=zH (Ah.of_ext hx);have D8:=zH A1;have H1:=zH (show Nm.rl (-(((1:Int):Rat)/((2:Int):Rat)))<=8 from by decide+kernel);clear A1 hx;refine zn ?_;refine Dt Af _ _ _ ?_;refine Cm 58 rz F2.1 ?_;intro D4 I6 F1 C4;apply Da 10 (rc B3) F1.1;intro A7 B8 C3;apply zq (iV 0);go_upto_region 7 with fail
 refine zy ?_;have F0:=zH (B8.1.step (Aa.refl A7).drew);have C2:=zH (Ah.of_ext (w:=A7) zb);refine zx 0 (bs 9 1) (iV 0) zb ?_;refine zu 1 (bs 9 3) (v:= .bool false) zb ?_ (hv:=by intro w J3;exact Nw (e:=(Al (fun h_=>h_ rfl))));refine rN B8.1 zb (bs 9 47) 2 3 5 φ _ _ ?_;have C1:=tD (tD C4 C3) C2;refine mC 4 (bs 9 63) (aCD (L:=60000) (RV.Is.nin (D8.1.dig C1.1) (Av H1.1 ω)) ω) ?_;rintro e D0 ⟨c_,rfl,D1,hx⟩;have E9:=zH (F0.1.step hx);have G2:=zH (show Ah A7.drew D0 from Ah.of_ext hx);have B5:=zH (zb.trans hx);obtain⟨J2,rfl,A1⟩:=D1;have D7:=zH A1;have G9:=zH (show Nm.rl (-(-(((1:Int):Rat)/((2:Int):Rat))))<=8 from by decide+kernel);clear A1 hx;apply zm B5.1;have A5:=tD (tD (tD (tD (tD (tD (tD (tD (tD (tD (tD (tD (tD (tD (tD (tD (tD (tD (tD (tD (tD (tD (tD (tD M7 M6) M5) M4) M3) M2) M1) M0) L9) L8) L7) L6) L5) L4) L3) G8) G7) G6) G5) G4) G3) C4) C3) C2) G2;refine mC 6 (bs 9 127) (aCE (L:=60000) (RV.Is.nin D7.1 (Av G9.1 ω)) (RV.Is.nin (H3.1.dig A5.1) (Av H4.1 ω)) ω) ?_;rintro e I5 ⟨rfl,hx⟩;have E8:=zH (E9.1.step hx);have G1:=zH (Ah.of_ext hx);have A9:=zH (B5.1.trans hx);clear hx;apply zm A9.1;refine zu 7 (bs 9 255) (v:= .bool false) A9.1 ?_ (hv:=by intro w J3;exact Nw (e:=(Al (fun hh=>hh (Rb.2 (by decide+kernel))))));refine zx 8 (bs 9 511) φ A9.1 ?_;refine wpAnyH_done kR ?_ _;go_upto_region 9 with fail
 apply wl;refine zc (Jc _) ?_;rintro e I4 ⟨J5,rfl,A1,hx⟩;have E7:=zH (E8.1.step hx);have G0:=zH (Ah.of_ext hx);have B7:=zH A1;clear A1 hx;refine zn ?_;refine Cn Af _ ?_;refine zc (aFX _ _ (B7.1)) ?_;rintro e C9 ⟨C5,B4,rfl,A0,hx⟩;have E6:=zH (show Hp w C9 [.blk C7 58 (rc B0),ro 5 1 A6 3 A4 Aw ([0,128,0]),.blk D3 30 [iV (-1),iV 0,iV 2,iV 1,.slice A6 3 A4],.blk D2 24 [iV 0,iV 0,iV 1,iV 1],ro 5 1 B2 0 B1 Aw ([]),.blk H2 30 [iV 0,iV 0,iV 0,iV 0,.slice B2 0 B1],ro 5 1 C8 0 C6 Aw ([]),.blk D6 30 [iV 0,iV 0,iV 0,iV 0,.slice C8 0 C6],.blk A8 44 [iV 0,iV 256,iV 256,iV 0,iV 0,iV 0],.blk D5 46 [.slice (π A8) 3 3],.blk D4 58 (rc B3),ro 5 1 C5 1 B4 Aw ([128])]from E7.1.addRow hx A0);have F9:=zH (Ah.of_ext hx);clear A0 hx;refine zn ?_;refine Dt Af _ _ _ ?_;apply Cm 30 [iV 0,iV 0,iV 0,iV 0,.slice none 0 0] E6.1;intro J6 I3 E5 F8;apply Da 12 [iV 0,iV 0,iV 1,iV 1,.slice C5 1 B4] E5.1;intro I1 A3 F7;apply zq (iV 0);go_upto_region 10 with fail
 apply wl;apply zq (iV 0);apply zp φ (by exact Nw (e:=(Al (fun h_=>h_ rfl))));refine Dt A3.1 φ _ _ ?_;apply zp (.string {data:=#[128]}) (by exact bX rR rR (A3.1.row (i:=11) rR) rR);apply zp φ (by exact zU rR rR rR (by simp));apply zq φ;go_upto_region 12 with fail;apply wl;refine Cn A3.1 _ ?_;have C0:=tD (tD (tD (tD (tD A5 G1) G0) F9) F8) F7;refine aC A3.1 (aFV B0 _ (H3.1.dig C0.1) H4.1) ?_;intro I0 E4 _;apply zp τ (by exact mH rR rR rR dC);apply qV τ;refine zc (Jc _) ?_;rintro e H9 ⟨J4,rfl,A1,hx⟩;have E3:=zH (E4.1.step hx);have B6:=zH A1;clear A1 hx;refine zn ?_;refine aC E3.1 (aFR _ _ (B6.1)) ?_;intro H8 A2 _;apply zp τ (by exact mH rR rR rR dC);refine Fk A2.1 τ τ _ _ ?_;apply zp (.string {data:=#[0,128,0]}) (by exact bX rR rR (A2.1.row (i:=1) rR) rR);apply zp τ (by exact mG rR rR rR (by simp));refine Dt Af τ τ _ ?_;apply zp τ (by exact Rr (e:=dC));refine Iu A2.1 τ τ _ _ τ τ τ _ ?_;apply zp τ (by exact Rr (e:=dC));refine Dt Af τ τ _ ?_;apply zp τ (by exact Rr (e:=dC));refine Dt Af τ τ _ ?_;apply zp τ (by exact Rr (e:=dC));apply qV τ;apply zq τ;go_wp2_with fail
 go_ret;exact⟨rfl,A2.1.ext⟩
theorem zX {ρ:Operand->Value}{o:Oper}{w:World}{a b c d:Int}{t':TypeId}{x y:Operand}(ho:o.op= .binOp .eql 24 x y t')(hx:ρ x= .agg #[iV a,iV b,iV c,iV d])(hy:ρ y= .agg #[iV a,iV b,iV c,iV d]):
    (execOp ρ o).run prog w= .ok (.value τ) w:=by
  unfold execOp;simp only[ho,hx,hy];go_simp
theorem Of (q:R4)(A1 A2:Option Addr)(n1 c1 n2 c2 b1 b2:Nat)(es:List Int)(w:World)(h1:Ba w b1 5 1 (.slice A1 n1 c1) n1 (List.flatMap Aw es))(h2:Ba w b2 5 1 (.slice A2 n2 c2) n2 (List.flatMap Aw es)):
  Calls prog 19 #[.agg #[iV q.x0,iV q.y0,iV q.x1,iV q.y1,.slice A1 n1 c1],.agg #[iV q.x0,iV q.y0,iV q.x1,iV q.y1,.slice A2 n2 c2]] w fun e w'=>e= .returned τ/\Aa w w':=by
 have A3:=zH h1;have A0:=zH h2;clear h1 h2;go_enter func19,ntmps19
 have H0:=zH (Hp.start w);go_upto_region 0 with fail;apply wl;apply Cm 30 [iV q.x0,iV q.y0,iV q.x1,iV q.y1,.slice A1 n1 c1] H0.1;intro X1 w2 H3 _;apply Cm 30 [iV q.x0,iV q.y0,iV q.x1,iV q.y1,.slice A2 n2 c2] H3.1;intro X6 w7 H8 _;apply zq φ;go_upto_region 1 with fail;apply wl;refine Cn Af _ ?_;refine zd X1 (0) [iV q.x0,iV q.y0,iV q.x1,iV q.y1] (H8.1.range (i:=0) rR 0 4) underlying24 ?_;refine Cn Af _ ?_;refine zd X6 (0) [iV q.x0,iV q.y0,iV q.x1,iV q.y1] (H8.1.range (i:=1) rR 0 4) underlying24 ?_;apply zp τ (by exact zX rR rR rR);refine Dt H8.1 τ _ _ ?_;apply zp (.string (strOfNums es)) (by exact bX rR rR (Ba.ext A3.1 H8.1.ext) rfl);refine Cc H8.1 _ _ ?_;apply zp (.string (strOfNums es)) (by exact bX rR rR (Ba.ext A0.1 H8.1.ext) rfl);apply zp τ (by exact mG rR rR rR (by simp));apply qV τ;apply zq τ;go_wp2_with fail;go_ret;exact⟨rfl,H8.1.ext⟩
theorem dP (A1 A2:Option Addr)(c1 c2 b1 b2:Nat)(w:World)(h1:Ba w b1 5 1 (.slice A1 0 c1) 0 (List.flatMap Aw []))(h2:Ba w b2 5 1 (.slice A2 0 c2) 0 (List.flatMap Aw [])):
    Calls prog 19 #[.agg #[iV 0,iV 0,iV 0,iV 0,.slice A1 0 c1],.agg #[iV 0,iV 0,iV 0,iV 0,.slice A2 0 c2]] w fun e w'=>e= .returned τ/\Aa w w':=Of R4.zero A1 A2 0 c1 0 c2 b1 b2 [] w h1 h2
theorem Wh (n lo hi:Int)(w:World)(h1:lo<=n)(h2:n<=hi):Calls prog 106 #[iV n,iV lo,iV hi] w fun e w'=>e= .returned (iV n)/\Aa w w':=by
 go_enter func106,ntmps106;have H0:=zH (Hp.start w);go_upto_region 0 with fail;apply wl;apply zq (iV 0);go_upto_region 1 with fail;apply wl;apply qV (iV n);apply zq (iV lo);apply zp φ (by exact Eg (e:=(Al ω)));go_upto_region 3 with fail;apply wl;apply qV (iV n);apply zq (iV hi);apply zp φ (by exact Sn (e:=(Al ω)));go_upto_region 5 with fail;apply wl;apply qV (iV n);apply zq (iV n);go_wp2_with fail;go_ret;exact⟨rfl,H0.1.ext⟩
theorem Vw (p:Int×Int)(w:World)(h:Du p):Calls prog 71 #[.agg #[iV p.1,iV p.2]] w fun e w'=>e= .returned (.agg #[iV p.1,iV p.2])/\Aa w w':=by
 have op:=Bd h;go_enter func71,ntmps71;have H0:=zH (Hp.start w);go_upto_region 0 with fail;apply wl;apply Cm 44 [iV p.1,iV p.2] H0.1;intro A0 B5 B2 _;apply Cm 44 [iV 0,iV 0] B2.1;intro A4 A1 A2 _;go_upto_region 1 with fail;refine wp_region_held_drew (S:=fun x=>Fr (fun kz=>kz=A4) A1 x) kR (Fr.of_ext zb) (fun _=> ?_);have B1:=zH (A2.1.step (Aa.refl A1).drew);refine zx 0 (bs 8 1) (.pointer (π A0)) (Fr.of_ext zb) ?_;refine Ec (g:=A0) (o:=0) (v:= iV p.1) (i:=1) (listed':=(bs 8 3)) rR kR kR kR (by intro _ _ _ h;exact h) rR (fun x hx=>Fr.cell hx (show World.cell? A1 ⟨A0,0,none⟩=some (iV p.1)from Aj (A2.1.range (i:=0) rR 0 1)) (A2.1.offBlk (i:=0) (j:=1) rR rR dC rR)) (by intro x hq;go_simp<;>with_reducible rfl) (Fr.of_ext zb) kR ?_;try simp only[ζ]
 refine zx 3 (bs 8 11) (.pointer (some ⟨A0,1,none⟩)) (Fr.of_ext zb) ?_;refine Ec (g:=A0) (o:=1) (v:= iV p.2) (i:=4) (listed':=(bs 8 27)) rR kR kR kR (by intro _ _ _ h;exact h) rR (fun x hx=>Fr.cell hx (show World.cell? A1 ⟨A0,1,none⟩=some (iV p.2)from Aj (A2.1.range (i:=0) rR 1 1)) (A2.1.offBlk (i:=0) (j:=1) rR rR dC rR)) (by intro x hq;go_simp<;>with_reducible rfl) (Fr.of_ext zb) kR ?_;try simp only[ζ]
 refine mC 2 (bs 8 31) (Wh p.1 (-1048576) 1048576 _ ω ω) ?_;rintro e A7 ⟨rfl,hx⟩;have B0:=zH (B1.1.step hx);have A5:=zH (show Fr (fun kz=>kz=A4) A1 A7 from(Fr.of_ext zb).trans (Fr.of_ext hx));clear hx;apply zm A5.1;refine mC 5 (bs 8 63) (Wh p.2 (-1048576) 1048576 _ ω ω) ?_;rintro e B4 ⟨rfl,hx⟩;have A9:=zH (B0.1.step hx);have A3:=zH (A5.1.trans (Fr.of_ext hx));clear hx;apply zm A3.1;refine zx 6 (bs 8 127) (.agg #[iV p.1,iV p.2]) A3.1 ?_;refine Ef (i:=7) (listed':=(bs 8 255)) rR kR rR kR _ _ _ rR A9.1 (ix:=1) rR 0 [iV p.1,iV p.2] rR rR (by simp) kR (by simp[Value.oneCell']) (by simp[Ar]) ?_;intro B3 hh hd ho;have A6:=hN hh;have A8:=zH (Fr.trans_new A3.1 ho (fun j hj=> .inl (by simpa using hj.symm)));clear hh hd ho;refine⟨A8.1,?_⟩
 (try simp only[Act.put])
 refine wpAnyH_done kR ?_ _;go_wp2_with fail;refine bodyPost_ret (v:= .agg #[iV p.1,iV p.2]) ?_ rfl ⟨rfl,A6.1.ext⟩;exact Ak rfl rfl ((A6.1.blk (i:=1) rR).loadVar rfl rfl rR)
theorem dD (u v:Int×Int)(w:World)(hu:(-2097152<=u.1/\u.1<=2097152)/\(-2097152<=u.2/\u.2<=2097152))(hv:(-2097152<=v.1/\v.1<=2097152)/\(-2097152<=v.2/\v.2<=2097152)):
  Calls prog 107 #[.agg #[iV u.1,iV u.2],.agg #[iV v.1,iV v.2]] w fun e w'=>e= .returned (iV (cr u v))/\Aa w w':=by
 have m1:=Rh hu.1 hv.2;have m2:=Rh hu.2 hv.1;go_enter func107,ntmps107
 have H0:=zH (Hp.start w);go_upto_region 0 with fail;apply wl;apply Cm 44 [iV u.1,iV u.2] H0.1;intro A5 A3 A1 _;apply Cm 44 [iV v.1,iV v.2] A1.1;intro A4 A2 A0 _;apply zq (iV 0);go_upto_region 1 with fail;apply wl;refine Fk A0.1 _ _ _ _ ?_;apply zp (iV (u.1*v.2)) (by exact gZ ω);refine Fk A0.1 _ _ _ _ ?_;apply zp (iV (u.2*v.1)) (by exact gZ ω);apply zp (iV ((u.1*v.2)-(u.2*v.1))) (by exact Xg ω);apply zq (iV ((u.1*v.2)-(u.2*v.1)));go_wp2_with fail;go_ret;exact⟨rfl,A0.1.ext⟩
theorem fZ (p q:Int×Int)(w:World)(hp:Du p)(hq:Du q):
  Calls prog 72 #[.agg #[iV p.1,iV p.2],.agg #[iV q.1,iV q.2]] w fun e w'=>e= .returned (iV (cr p q))/\Aa w w':=by
 have op:=Bd hp;have oq:=Bd hq;go_enter func72,ntmps72
 have H0:=zH (Hp.start w);go_upto_region 0 with fail;apply wl;apply Cm 44 [iV p.1,iV p.2] H0.1;intro B5 B3 A9 _;apply Cm 44 [iV q.1,iV q.2] A9.1;intro B4 A4 A3 _;apply zq (iV 0);go_upto_region 1 with fail;refine zy ?_;have A8:=zH (A3.1.step (Aa.refl A4).drew);refine cR A3.1 zb (bs 6 5) 0 2 _ _ ?_;refine mC 1 (bs 6 7) (Vw p _ hp) ?_;rintro e B2 ⟨rfl,hx⟩;have A7:=zH (A8.1.step hx);have A2:=zH (zb.trans hx);clear hx;apply zm A2.1;refine mC 3 (bs 6 15) (Vw q _ hq) ?_;rintro e B1 ⟨rfl,hx⟩;have A6:=zH (A7.1.step hx);have A1:=zH (A2.1.trans hx);clear hx;apply zm A1.1;refine mC 4 (bs 6 31) (dD p q _ ⟨⟨ω,ω⟩,⟨ω,ω⟩⟩ ⟨⟨ω,ω⟩,⟨ω,ω⟩⟩) ?_;rintro e B0 ⟨rfl,hx⟩;have A5:=zH (A6.1.step hx);have A0:=zH (A1.1.trans hx);clear hx;apply zm A0.1;refine zx 5 (bs 6 63) (iV (cr p q)) A0.1 ?_;refine wpAnyH_done kR ?_ _;go_wp2_with fail
 go_ret;exact⟨rfl,A5.1.ext⟩
def Pw (r:Ai)(k:Nat):Int×Int:=r.getD ((k+1)%r.length) (0,0)
def Lv (r:Ai)(k:Nat):Int:=((List.range k).map fun i=>cr (r.getD i (0,0)) (Pw r i)).sum
theorem Zg (r:Ai)(k:Nat):Lv r (k+1)=Lv r k+cr (r.getD k (0,0)) (Pw r k):=by
  unfold Lv;rw[List.range_succ,jXX,List.sum_append];simp
theorem vX {p q:Int×Int}(hp:Du p)(hq:Du q): -2199023255552<=cr p q/\cr p q<=2199023255552:=by
  have op:=Bd hp;have oq:=Bd hq;have m:∀a b:Int,-1048576<=a/\a<=1048576-> -1048576<=b/\b<=1048576-> -1099511627776<=a*b/\a*b<=1099511627776:=fun a b h1 h2=>by
    have h:(a*b).natAbs<=1048576*1048576:=by rw[Int.natAbs_mul];exact Nat.mul_le_mul ω (ω)
    omega
  have m1:=m _ _ op.1 oq.2;have m2:=m _ _ op.2 oq.1;unfold cr;omega
theorem mN {r:Ai}(h:∀p,p∈r->Du p)(hr:0<r.length):∀k,k<=r.length-> -(2199023255552*(k:Int))<=Lv r k/\Lv r k<=2199023255552*(k:Int)
  |0,_=>by unfold Lv;simp
  | k+1,hk=>by
    have ih:=mN h hr k ω;have g:∀i,i<r.length->Du (r.getD i (0,0)):=fun i hi=>by
      rw[aXX,aQQ hi];exact h _ (List.getElem_mem hi)
    have c:=vX (g k ω) (g ((k+1)%r.length) (Nat.mod_lt _ hr));rw[Zg];unfold Pw;omega
theorem jC (A:Option Addr)(c:Nat)(r:Ai)(k:Nat)(w:World)(hp:Fj w (.slice A r.length c) r)(hk:k<r.length)(hl:r.length<=1048576):
  Calls prog 73 #[.slice A r.length c,iV k] w fun e w'=>e= .returned (.agg #[iV (Pw r k).1,iV (Pw r k).2])/\Aa w w':=by
 obtain⟨A',c',e,hA⟩:=hp;injection e with e1_ _ e3_
 subst e1_ e3_;obtain⟨g,A6,rfl,A0⟩:=hA (by intro h_;rw[h_]at hk;simp at hk);have A1:(k+1)%r.length<r.length:=Nat.mod_lt _ ω;obtain⟨p,A4⟩:∃p,r[(k+1)%r.length]?=some p:=⟨_,aQQ A1⟩;have A9:=zH (Mg A0 A4);have B0:=zH (show Pw r k=p from by unfold Pw;rw[aXX,A4];rfl);have A5:=zH (show(((k+1:Nat):Int)).tmod (r.length:Int)=(((k+1)%r.length:Nat):Int)by rw[Int.tmod_eq_emod_of_nonneg ω];simp);clear hA A0 A4;generalize hj_:(k+1)%r.length=j at*
 clear hj_;rw[B0.1];go_enter func73,ntmps73;have H0:=zH (Hp.start w);go_upto_region 0 with fail;apply wl;apply Cm 44 [iV 0,iV 0] H0.1;intro B1 A8 A3 _;go_upto_region 1 with fail;apply wl;refine Cc Af _ (iV (k:Int)) ?_;apply zp (iV ((k+1:Nat):Int)) (by exact Ht ω);refine Cc Af _ (iV ((r.length:Nat):Int)) ?_;apply zp (iV (j:Int)) (by exact aDC rR rR rR ω A5.1 ω ω);apply zp (.pointer (some ⟨g,A6+j*2,none⟩)) (by exact Ha (k:=j) underlying46 (l:=A1) (f:=rfl));refine zd g (A6+j*2) [iV p.1,iV p.2] (Bp A9.1 A3.1.ext) underlying44 ?_;apply Da 0 [iV p.1,iV p.2] A3.1;intro A7 A2 _;go_wp2_with fail;refine bodyPost_ret (v:= .agg #[iV p.1,iV p.2]) ?_ rfl ⟨rfl,A2.1.ext⟩;exact Ak rfl rfl ((A2.1.blk (i:=0) rR).loadVar rfl rfl rR)
theorem eR {w0 w:World}{m:List Df}{A:Option Addr}{c i X:Nat}{r:Ai}(hp:Fj w0 (.slice A r.length c) r)(h:Hp w0 w m)(hi:m[i]?=some (.blk X 46 [.slice A r.length c])):Cv w (.slice (π X) 1 1) [r]:=by
  refine⟨_,1,rfl,fun _=>⟨X,0,rfl,fun j q hq=> ?_⟩⟩;have hj:j=0:=by have:=(List.getElem?_eq_some_iff.1 hq).1;simp at this;omega
  subst hj;obtain rfl:r=q:=by simpa using hq
  exact⟨A,c,by have h3:=h.cell hi 0 rfl;rw[cZZ];exact h3,hp.ext h.ext⟩
theorem qU (A:Option Addr)(c:Nat)(r:Ai)(w:World)(hp:Fj w (.slice A r.length c) r)(ho:Fm [r]=true):
  Calls prog 40 #[.slice A r.length c] w fun e w'=>e= .returned (iV (Lv r r.length))/\Aa w w':=by
 have B9:=zH hp;have D8:=zH ho;have C6:r.length<=4096:=by have h_:=Hf ho;rw[<-Qe]at h_;simpa using h_
 have A4:=zH (show∀p,p∈r->Du p from fun p_ A6=>Nh ho (List.mem_singleton.2 rfl) A6);clear hp ho;go_enter func40,ntmps40;have H0:=zH (Hp.start w);go_upto_region 0 with fail;apply wl;apply zq (iV 0);go_upto_region 1 with fail;apply wl;refine Cn Af _ ?_;apply Zp 1 46 [.slice A r.length c] H0.1;intro A8 D4 B2 _;refine zc (Hc (.slice (π A8) 1 1) [r] _ (eR B9.1 B2.1 (i:=0) rR) (show 1<=1048576 by decide) (fun r_ h_=>by rw[List.mem_singleton.1 h_];exact Av C6 dC)) ?_;rintro e B5 ⟨rfl,hx⟩;have B1:=zH (B2.1.step hx);clear hx;refine⟨.bool true,by rw[D8.1],?_⟩;try simp only[ζ]
 apply zq φ;go_upto_region 3 with fail;apply wl;apply zq (iV 0);go_upto_region 4 with fail;apply wl;apply zq (iV 0);go_wp2_with fail;go_loopg [3,4] (r.length) (fun cq B7 B6 wr=>∃(k:Nat),cq=r.length-k/\B7= iV (Lv r k)/\B6= iV (k:Int)/\(k<=r.length)/\Hp w wr [.blk A8 46 [.slice A r.length c]]/\Ah B5 wr)
 case atStart=>exact⟨0,rfl,rfl,rfl,eXX _,B1.1,Ah.refl _⟩
 obtain⟨k,rfl,rfl,rfl,A0,C8,C9⟩:=hrel;generalize wr=A1 at*;have D9:=zH A0;clear A0;have A5:=zH C8;have C5:=zH C9;clear C8 C9 B1;rcases Cx (k<r.length)with HLT|HLT
 ·have A2:=HLT.1
  obtain⟨A',c',e_,D0⟩:=B9.1;injection e_ with e1_ _ e3_
  subst e1_ e3_;obtain⟨g,B8,rfl,A7⟩:=D0 (by intro h_;rw[h_]at A2;simp at A2);obtain⟨p,A6⟩:∃p,r[k]?=some p:=⟨_,aQQ A2⟩;have D7:=zH (Mg A7 A6);have E0:=zH (show r.getD k (0,0)=p from by rw[aXX,A6];rfl);have D2:=zH (A4.1 p (bZZ A6));have D1:=zH (show Du (Pw r k)from by have C7:(k+1)%r.length<r.length:=Nat.mod_lt _ ω;unfold Pw;rw[aXX,aQQ C7];exact A4.1 _ (List.getElem_mem C7));have E3:=vX D2.1 D1.1;have E2:=mN A4.1 ω k ω;have D6:=zH (show Lv r (k+1)=Lv r k+cr p (Pw r k)from by rw[Zg,E0.1]);clear D0 A7 A6;go_upto_region 5 with fail
  apply wl;refine Dt Af (iV (k:Int)) _ (iV ((r.length:Nat):Int)) ?_;apply zp τ (by exact Eg (e:=(An ω)));go_upto_region 7 with fail;refine zy ?_;have B0:=zH (A5.1.step (Aa.refl A1).drew);have C4:=zH (Ah.of_ext (w:=A1) zb);refine rN Af zb (bs 11 7) 0 1 2 (iV (Lv r k)) _ (iV (k:Int)) ?_;refine zo 3 (bs 11 15) (v:= .pointer (some ⟨g,B8+k*2,none⟩)) zb ?_ (hv:=by intro w D5;exact Ha (k:=k) underlying46 (l:=A2) (f:=rfl));refine zg 4 (bs 11 31) g (B8+k*2) [iV p.1,iV p.2] (Bp D7.1 A5.1.ext) underlying44 zb ?_;refine cR Af zb (bs 11 127) 5 6 _ (iV (k:Int)) ?_;refine mC 7 (bs 11 255) (jC (some ⟨g,B8,none⟩) c r k _ (B9.1.ext B0.1.ext) A2 (Av C6 dC)) ?_;rintro e B4 ⟨rfl,hx⟩;have C1:=zH (B0.1.step hx);have C3:=zH (show Ah A1.drew B4 from Ah.of_ext hx);have A9:=zH (zb.trans hx);clear hx;apply zm A9.1;refine mC 8 (bs 11 511) (fZ p (Pw r k) _ D2.1 D1.1) ?_;rintro e D3 ⟨rfl,hx⟩;have C0:=zH (C1.1.step hx);have C2:=zH (Ah.of_ext hx);have A3:=zH (A9.1.trans hx);clear hx;apply zm A3.1;refine zu 9 (bs 11 1023) (v:= iV ((Lv r k)+(cr p (Pw r k)))) A3.1 ?_ (hv:=by intro w D5;exact Ht ω);refine zx 10 (bs 11 2047) (iV ((Lv r k)+(cr p (Pw r k)))) A3.1 ?_;refine wpAnyH_done kR ?_ _;go_upto_region 6 with fail
  apply wl;apply zq (iV (k:Int));apply zp (iV ((k+1:Nat):Int)) (by exact Ht ω);apply zq (iV ((k+1:Nat):Int));have B3:=tD (tD (tD C5 C4) C3) C2;go_wp2_with fail
  go_roundg (r.length-(k+1))
  case measure=>exact(ω)
  case rel=>exact⟨k+1,rfl,(by rw[D6.1]),(by go_num),A2,C0.1,B3.1⟩
 have A2:=HLT.1;have E1:=D9.1;obtain rfl:k=r.length:=ω
 go_upto_region 5 with fail;apply wl;refine Dt Af (iV ((r.length:Nat):Int)) _ (iV ((r.length:Nat):Int)) ?_;apply zp φ (by exact Eg (e:=(Al (Int.lt_irrefl _))));go_upto_region 8 with fail;apply wl;refine Cc Af (iV (Lv r r.length)) (iV (Lv r r.length)) ?_;go_wp2_with fail;go_ret;exact⟨rfl,A5.1.ext⟩
theorem Ba.lowT {w:World}{b b':Nat}{t:TypeId}{size:Nat}{v:Value}{n:Nat}{xs:List Value}(h:Ba w b t size v n xs)(hb:b'<=b):Ba w b' t size v n xs:=by
  obtain⟨h1,h2|⟨g,A0,rest,h3,h4,h5⟩⟩:=h
  · exact⟨h1,.inl h2⟩
  exact⟨h1,.inr ⟨g,A0,rest,h3,Av hb h4,h5⟩⟩
theorem iC {l:List (Int×Int)}{k:Nat}{x:Int×Int}(h:l[k]?=some x):l.take (k+1)=l.take k++[x]:=by
  rw[List.take_add_one,h];rfl
theorem cG (A:Option Addr)(cap:Nat)(r:Ai)(w:World)(hp:Fj w (.slice A r.length cap) r)(hn:r.length<=1048576):
  Calls prog 41 #[.slice A r.length cap] w fun e w'=>∃(B:Option Addr) (c:Nat),e= .returned (.slice B r.length c)/\(⟨B,c,r⟩:aFF).Ok w.heap.size w'/\Aa w w':=by
 have B8:=zH hp;clear hp;go_enter func41,ntmps41;have H0:=zH (Hp.start w);go_upto_region 0 with fail;apply wl;refine Cn Af _ ?_;go_upto_region 1 with fail;apply wl;refine zp (w':=w.alloc (.cells #[] 44)) (.slice (π w.heap.size) 0 0) (by go_simp) ?_;have hh:=H0.1.addEmpty 44 2;have hd:=Ah.of_ext ((Aa.refl w).alloc (.cells #[] 44));generalize w.alloc (.cells #[] 44)=w2 at hh hd⊢
 generalize w.heap.size=X3 at hh⊢;have H4:=hN hh;clear hh hd;refine Cn Af _ ?_;go_upto_region 2 with fail;apply wl;apply zq (iV 0);go_wp2_with fail;go_loopg [3,4] (r.length) (fun cq v8 v9 wr=>∃(k:Nat) (A5:Option Addr) (c5:Nat) (qs:List (Int×Int)),cq=r.length-k/\v8= .slice A5 k c5/\v9= iV (k:Int)/\(k<=r.length)/\(qs=r.take k)/\Hp w wr [.row 44 2 (.slice A5 k c5) (k) (List.flatMap Ji qs)]/\Ah w2 wr)
 case atStart=>exact⟨0,some ⟨X3,0,none⟩,0,[],rfl,rfl,rfl,eXX _,rfl,H4.1,Ah.refl _⟩
 obtain⟨k,A5,c5,qs,rfl,rfl,rfl,A1,A0,B1,B2⟩:=hrel;generalize wr=A9 at*;have C0:=zH A1;clear A1;have B5:=zH A0;clear A0;have A6:=zH B1;have C4:=zH B2;clear B1 B2 H4;rcases Cx (k<r.length)with HLU|HLU
 ·have A2:=HLU.1
  have B6:r≠ []:=by intro h_;rw[h_]at A2;simp at A2
  obtain⟨A',c',e_,B3⟩:=B8.1;injection e_ with e1_ _ e3_
  subst e1_ e3_;obtain⟨gr,B0,rfl,A3⟩:=B3 B6;obtain⟨p,A7⟩:∃p,r[k]?=some p:=⟨_,aQQ A2⟩;have HP:=zH A7;have B9:=zH (Mg A3 A7);clear B3 A3 A7;go_upto_region 3 with fail
  apply wl;refine Dt Af (iV (k:Int)) _ (iV ((r.length:Nat):Int)) ?_;apply zp τ (by exact Eg (e:=(An ω)));go_upto_region 5 with fail;apply wl;refine Dt Af _ _ (iV (k:Int)) ?_;apply zp (.pointer (some ⟨gr,B0+k*2,none⟩)) (by exact Ha (k:=k) underlying46 (l:=A2) (f:=rfl));refine zd gr (B0+k*2) [iV p.1,iV p.2] (Bp B9.1 A6.1.ext) underlying44 ?_;refine zp (w':=(A9.alloc (.cells ([iV p.1,iV p.2]:List Value).toArray 44))) (.slice (π A9.heap.size) 1 1) (by go_simp) ?_;refine Mm rR _ _ _ rR Qh rR A6.1 (ix:=0) rR 1 1 [iV p.1,iV p.2] rR rfl (by simp[Value.oneCell']) (by simp[Ar]) dC (by unfold maxLen;exact ω) ω ?_;intro B4 A4 C5 hf hh hd hg;have C2:=zH hf;clear hf;rw[show List.flatMap Ji qs++[iV p.1,iV p.2]=_ from Fs Ji _ (p.1,p.2)]at hh;have C1:=hN hh;have C3:=zH (hd);clear hh hd hg;try simp only[ζ]
  apply zq (.slice (π B4) (k+1) A4);go_upto_region 4 with fail;apply wl;apply zq (iV (k:Int));apply zp (iV ((k+1:Nat):Int)) (by exact Ht ω);apply zq (iV ((k+1:Nat):Int));have A8:=tD C4 C3;go_wp2_with fail
  go_roundg (r.length-(k+1))
  case measure=>exact(ω)
  case rel=>exact⟨k+1,some ⟨B4,0,none⟩,A4,qs++[(p.1,p.2)],rfl,rfl,(by go_num),A2,(by rw[B5.1,iC HP.1]),C1.1,A8.1⟩
 have A2:=HLU.1;have C6:=C0.1;obtain rfl:k=r.length:=ω
 go_upto_region 3 with fail;apply wl;refine Dt Af (iV ((r.length:Nat):Int)) _ (iV ((r.length:Nat):Int)) ?_;apply zp φ (by exact Eg (e:=(Al (Int.lt_irrefl _))));go_upto_region 6 with fail;apply wl;refine Cc Af _ _ ?_;have B7:qs=r:=by rw[B5.1,mZZ]
 subst B7;go_wp2_with fail;go_ret;exact⟨A5,c5,rfl,A6.1.row (i:=0) (by rfl),A6.1.ext⟩
def Nx (r:Ai):Int:=if Fm [r]=true then Lv r r.length else 0
def Pu (r:Ai):Ai:=if 0<Nx r then r else if Nx r<0 then r.getD 0 (0,0)::r.reverse.take (r.length-1)else[]
theorem vP (A:Option Addr)(c:Nat)(r:Ai)(w:World)(hp:Fj w (.slice A r.length c) r)(hn:r.length<=1048576)(ho:Fm [r]=false):
  Calls prog 40 #[.slice A r.length c] w fun e w'=>e= .returned (iV 0)/\Aa w w':=by
 have A2:=zH hp;have A3:=zH ho;clear hp ho;go_enter func40,ntmps40
 have H0:=zH (Hp.start w);go_upto_region 0 with fail;apply wl;apply zq (iV 0);go_upto_region 1 with fail;apply wl;refine Cn Af _ ?_;apply Zp 1 46 [.slice A r.length c] H0.1;intro A1 A6 A0 _;refine zc (Hc (.slice (π A1) 1 1) [r] _ (eR A2.1 A0.1 (i:=0) rR) (show 1<=1048576 by decide) (fun r_ h_=>by rw[List.mem_singleton.1 h_];exact hn)) ?_;rintro e A5 ⟨rfl,hx⟩;have A4:=zH (A0.1.step hx);clear hx;refine⟨.bool false,by rw[A3.1],?_⟩;try simp only[ζ]
 apply zq τ;go_upto_region 2 with fail;apply wl;apply zq (iV 0);go_wp2_with fail;go_ret;exact⟨rfl,A4.1.ext⟩
theorem vR (A:Option Addr)(c:Nat)(r:Ai)(w:World)(hp:Fj w (.slice A r.length c) r)(hn:r.length<=1048576):
    Calls prog 40 #[.slice A r.length c] w fun e w'=>e= .returned (iV (Nx r))/\Aa w w':=by
  unfold Nx;by_cases h:Fm [r]=true
  · rw[if_pos h];exact qU A c r w hp h
  rw[if_neg h];exact vP A c r w hp hn (Bool.eq_false_iff.2 h)
theorem vQ:Nx []=0:=by
  unfold Nx;split<;>rfl
theorem tJ {r:List (Int×Int)}{k:Nat}{q:Int×Int}(h:r[r.length-1-k]?=some q)(hk:k<r.length-1):r.reverse.take (k+1)=r.reverse.take k++[q]:=by
  rw[List.take_add_one,List.getElem?_reverse ω,h];rfl
theorem aV (A:Option Addr)(cap:Nat)(r:Ai)(w:World)(hp:Fj w (.slice A r.length cap) r)(hn:r.length<=1048576):
  Calls prog 17 #[.slice A r.length cap] w fun e w'=>∃(B:Option Addr) (c:Nat),e= .returned (.slice B (Pu r).length c)/\(⟨B,c,Pu r⟩:aFF).Ok w.heap.size w'/\Aa w w':=by
 have B5:=zH hp;clear hp;go_enter func17,ntmps17;have H0:=zH (Hp.start w);go_upto_region 0 with fail;apply wl;refine Cn Af _ ?_;go_upto_region 1 with fail;apply wl;refine Cn Af _ ?_;refine aC H0.1 (vR A cap r _ (B5.1.ext H0.1.ext) hn) ?_;intro A4 B1 _;apply zq (iV (Nx r));rcases Cx (0<Nx r)with HC1|HC1
 ·go_upto_region 2 with fail
  apply wl;apply zq (iV (Nx r));apply zp τ (by exact Sn (e:=(An HC1.1)));go_upto_region 3 with fail;apply wl;refine Cn Af _ ?_;refine zc (cG A cap r _ (B5.1.ext B1.1.ext) hn) ?_;rintro e E8 ⟨B,cB,rfl,C3,hx⟩;have E3:=zH (B1.1.step hx);have E2:=zH (C3.lowT B1.1.ext.size);clear C3 hx;refine zn ?_;refine Cn Af _ ?_;go_wp2_with fail
  go_ret;exact⟨B,cB,by rw[show Pu r=r from if_pos HC1.1];rfl,by rw[show Pu r=r from if_pos HC1.1];exact E2.1,E3.1.ext⟩
 go_upto_region 2 with fail;apply wl;apply zq (iV (Nx r));apply zp φ (by exact Sn (e:=(Al HC1.1)));go_upto_region 4 with fail;apply wl;refine zp (w':=A4.alloc (.cells #[] 44)) (.slice (π A4.heap.size) 0 0) (by go_simp) ?_;have hh:=B1.1.addEmpty 44 2;have hd:=Ah.of_ext ((Aa.refl A4).alloc (.cells #[] 44));generalize A4.alloc (.cells #[] 44)=B9 at hh hd⊢
 generalize A4.heap.size=F0 at hh⊢;have B0:=hN hh;clear hh hd;refine Cn Af _ ?_;rcases Cx (Nx r<0)with HC2|HC2
 ·have HO:=zH (show Pu r=r.getD 0 (0,0)::r.reverse.take (r.length-1)from(if_neg HC1.1).trans (if_pos HC2.1))
  have B2:r≠ []:=by intro h_;have C7:=HC2.1;rw[h_,vQ]at C7;exact absurd C7 (by decide)
  have C1:0<r.length:=List.length_pos_iff.2 B2;obtain⟨A',c',e_,C6⟩:=B5.1;injection e_ with e1_ _ e3_
  subst e1_ e3_;obtain⟨gr,A7,rfl,A3⟩:=C6 B2;have D9:=zH A3;obtain⟨p,A8⟩:∃p,r[0]?=some p:=⟨_,aQQ C1⟩;have HP:=zH A8;have E0:=zH (show r.getD 0 (0,0)=p from by rw[aXX,A8];rfl);have D8:=zH (Mg A3 A8);clear C6 A3 A8 B2;go_upto_region 5 with fail
  apply wl;apply zq (iV (Nx r));apply zp τ (by exact Eg (e:=(An HC2.1)));go_upto_region 6 with fail;apply wl;refine Cc Af _ _ ?_;apply zp (.pointer (some ⟨gr,A7+0*2,none⟩)) (by exact Ha (k:=0) underlying46 (l:=C1) (f:=rfl));refine zd gr (A7+0*2) [iV p.1,iV p.2] (Bp D8.1 B0.1.ext) underlying44 ?_;refine zp (w':=(B9.alloc (.cells ([iV p.1,iV p.2]:List Value).toArray 44))) (.slice (π B9.heap.size) 1 1) (by go_simp) ?_;refine Mm rR _ _ _ rR Qh rR B0.1 (ix:=0) rR 1 1 [iV p.1,iV p.2] rR rfl (by simp[Value.oneCell']) (by simp[Ar]) dC (by unfold maxLen;exact ω) ω ?_;intro D6 B4 D2 hf hh hd hg;have E5:=zH hf;clear hf;have D1:=hN hh;rw[show[iV p.1,iV p.2]=List.flatMap Ji ([]++[(p.1,p.2)])from rfl]at D1;clear hh hd hg;try simp only[ζ]
  refine Cn Af _ ?_;go_upto_region 7 with fail;apply wl;refine Cc Af _ (iV ((r.length:Nat):Int)) ?_;apply zp (iV (((r.length-1):Nat):Int)) (by exact bU rR rR rR ω ω ω);apply zq (iV (((r.length-1):Nat):Int));go_wp2_with fail;go_loopg [4,5] (r.length-1) (fun cq D4 D3 wr=>∃(k:Nat) (A5:Option Addr) (c5:Nat) (qs:List (Int×Int)),cq=(r.length-1)-k/\D4= .slice A5 (k+1) c5/\D3= iV (((r.length-1-k):Nat):Int)/\(k<=r.length-1)/\(qs=p::r.reverse.take k)/\Hp w wr [.row 44 2 (.slice A5 (k+1) c5) ((k+1)) (List.flatMap Ji qs)]/\Ah D2 wr)
  case atStart=>exact⟨0,some ⟨D6,0,none⟩,B4,([])++[(p.1,p.2)],rfl,rfl,rfl,eXX _,rfl,D1.1,Ah.refl _⟩
  obtain⟨k,A5,c5,qs,rfl,rfl,rfl,A1,A0,C4,C5⟩:=hrel;generalize wr=B8 at*;have E1:=zH A1;clear A1;have C9:=zH A0;clear A0;have A9:=zH C4;have E6:=zH C5;clear C4 C5 D1;rcases Cx (k<r.length-1)with HLU|HLU
  ·have C0:=HLU.1
   have C2:(r.length-1-k)<r.length:=ω;obtain⟨q,B3⟩:∃q,r[(r.length-1-k)]?=some q:=⟨_,aQQ C2⟩;have HQ:=zH B3;have D7:=zH (Mg D9.1 B3);clear B3;go_upto_region 8 with fail
   apply wl;apply zq (iV (((r.length-1-k):Nat):Int));apply zp τ (by exact Sn (e:=(An ω)));go_upto_region 10 with fail;apply wl;refine Dt Af (.slice A5 (k+1) c5) _ (iV (((r.length-1-k):Nat):Int)) ?_;apply zp (.pointer (some ⟨gr,A7+(r.length-1-k)*2,none⟩)) (by exact Ha (k:=(r.length-1-k)) underlying46 (l:=C2) (f:=rfl));refine zd gr (A7+(r.length-1-k)*2) [iV q.1,iV q.2] (Bp D7.1 A9.1.ext) underlying44 ?_;refine zp (w':=(B8.alloc (.cells ([iV q.1,iV q.2]:List Value).toArray 44))) (.slice (π B8.heap.size) 1 1) (by go_simp) ?_;refine Mm rR _ _ _ rR Qh rR A9.1 (ix:=0) rR 1 1 [iV q.1,iV q.2] rR rfl (by simp[Value.oneCell']) (by simp[Ar]) dC (by unfold maxLen;exact ω) ω ?_;intro C8 A2 E7 hf hh hd hg;have E4:=zH hf;clear hf;rw[show List.flatMap Ji qs++[iV q.1,iV q.2]=_ from Fs Ji _ (q.1,q.2)]at hh;have B6:=hN hh;have B7:=zH (hd);clear hh hd hg;try simp only[ζ]
   apply zq (.slice (π C8) ((k+1)+1) A2);go_upto_region 9 with fail;apply wl;apply zq (iV (((r.length-1-k):Nat):Int));apply zp (iV (((r.length-1-(k+1)):Nat):Int)) (by exact bU rR rR rR ω ω ω);apply zq (iV (((r.length-1-(k+1)):Nat):Int));have A6:=tD E6 B7;go_wp2_with fail
   go_roundg (r.length-1-(k+1))
   case measure=>exact(ω)
   case rel=>exact⟨k+1,some ⟨C8,0,none⟩,A2,qs++[(q.1,q.2)],rfl,rfl,rfl,ω,(by rw[C9.1,tJ HQ.1 C0];rfl),B6.1,A6.1⟩
  have C0:=HLU.1;have E9:=E1.1;obtain rfl:k=r.length-1:=ω
  have D0:=zH (show(Pu r).length=r.length-1+1 from by rw[HO.1,hQQ,dXX,List.length_reverse];omega);go_upto_region 8 with fail;apply wl;apply zq (iV (((r.length-1-(r.length-1)):Nat):Int));apply zp φ (by exact Sn (e:=(Al ω)));go_upto_region 11 with fail;apply wl;refine Cc Af (.slice A5 (r.length-1+1) c5) (.slice A5 (r.length-1+1) c5) ?_;have D5:qs=Pu r:=by rw[C9.1,HO.1,E0.1]
  subst D5;go_wp2_with fail;go_ret;exact⟨A5,c5,by rw[D0.1];rfl,by have h_:=A9.1.row (i:=0) (by rfl);rw[<-D0.1]at h_;exact h_,A9.1.ext⟩
 go_upto_region 5 with fail;apply wl;apply zq (iV (Nx r));apply zp φ (by exact Eg (e:=(Al HC2.1)));go_upto_region 11 with fail;apply wl;refine Cc Af _ _ ?_;have HO:=zH (show Pu r=[]from(if_neg HC1.1).trans (if_neg HC2.1));go_wp2_with fail
 go_ret;exact⟨_,_,by rw[HO.1];rfl,by rw[HO.1];exact B0.1.row (i:=0) (by rfl),B0.1.ext⟩
end
section
open Go.RowKit Go.Shelf
end
section
attribute [local go_sem ↓] Go.wp_at_zero Go.wp_at_succ Ae Ad
end
section
def xJ (t:Int×Int)(e:Cg):Cg:=(wV t e.2,wV t e.1)
def Lr (r:Ai):List Cg:=(List.range r.length).map fun i=>(r.getD i (0,0),r.getD ((i+1)%r.length) (0,0))
def Mv (t:Int×Int)(r:Ai):Ai:=r.reverse.map (wV t)
theorem Je (r:Ai):(Lr r).length=r.length:=by unfold Lr;simp
theorem Rv {r:Ai}{i:Nat}(h:i<r.length):(Lr r)[i]?=some (r[i],r[(i+1)%r.length]'(Nat.mod_lt _ ω)):=by
  unfold Lr;rw[lQQ,List.getElem?_range h];simp only[Option.map_some,Option.some.injEq,Prod.mk.injEq];have h2:(i+1)%r.length<r.length:=Nat.mod_lt _ ω;exact⟨by simp[List.getD,h],by simp[List.getD,h2]⟩
theorem aBF {α β:Type}(f:α->Option β)(g:α->β)(p:β->Bool):∀l:List α,(∀x,x∈l->f x=if p (g x)=true then some (g x)else none)->l.filterMap f=(l.map g).filter p
  | [],_=>rfl
  | x::l,h=>by
    have ih:=aBF f g p l (fun y hy=>h y (cQQ _ hy));rw[List.filterMap_cons,h x (by simp),List.map_cons,List.filter_cons,ih];by_cases k:p (g x)=true
    · rw[if_pos k,if_pos k]
    rw[if_neg k,if_neg k]
theorem Zd (r:Ai):Bk [r]=(Lr r).filter (fun e=>decide (e.1≠e.2)):=by
  unfold Bk Eb Lr;rw[List.flatMap_cons,List.flatMap_nil,gXX];refine aBF _ _ _ _ (fun i hi=> ?_);have hl:=List.mem_range.1 hi;have h2:(i+1)%r.length<r.length:=Nat.mod_lt _ ω;rw[Sr (aQQ hl) (aQQ h2)];by_cases h:r[i]=r[(i+1)%r.length]
  · rw[if_pos h];simp[List.getD,hl,h2,h]
  rw[if_neg h];simp[List.getD,hl,h2,h]
theorem Mu (t:Int×Int)(r:Ai):(Mv t r).length=r.length:=by unfold Mv;simp
theorem Qr {t:Int×Int}{r:Ai}{i:Nat}(h:i<r.length):(Mv t r)[i]'(by rw[Mu];exact h)=wV t (r[r.length-1-i]):=by
  unfold Mv;simp
theorem kN (t:Int×Int)(r:Ai):Lr (Mv t r)=(((Lr r).take (r.length-1)).reverse++(Lr r).drop (r.length-1)).map (xJ t):=by
 apply List.ext_getElem?;intro i;by_cases hi:i<r.length
 ·rw[Rv (by rw[Mu];exact hi),lQQ]
  have A0:((Lr r).take (r.length-1)).reverse.length=r.length-1:=by rw[List.length_reverse,dXX,Je];omega
  by_cases h1:i<r.length-1
  ·rw[dZZ ω,List.getElem?_reverse (by rw[dXX,Je];omega),dXX,Je,Nat.min_eq_left ω,List.getElem?_take_of_lt ω,Rv ω]
   simp only[Option.map_some,Option.some.injEq];unfold xJ;have e1:(i+1)%(Mv t r).length=i+1:=by rw[Mu];exact Nat.mod_eq_of_lt (ω)
   have e2:(r.length-1-1-i+1)%r.length=r.length-1-i:=by rw[Nat.mod_eq_of_lt ω];omega
   refine Prod.ext ?_ ?_
   ·rw[Qr hi];simp only[e2]
   simp only[e1];rw[Qr ω];congr 2;omega
  have A1:i=r.length-1:=ω;rw[dQQ ω,A0,List.getElem?_drop,show r.length-1+(i-(r.length-1))=r.length-1 by omega,Rv ω];simp only[Option.map_some,Option.some.injEq];unfold xJ;have e1:(i+1)%(Mv t r).length=0:=by rw[Mu,show i+1=r.length by omega,Nat.mod_self]
  have e2:(r.length-1+1)%r.length=0:=by rw[show r.length-1+1=r.length by omega,Nat.mod_self]
  refine Prod.ext ?_ ?_
  ·rw[Qr hi];simp only[e2];congr 2;omega
  simp only[e1];rw[Qr ω];congr 2
 rw[kZZ (by rw[Je,Mu];omega),kZZ (by rw[fXX,bQQ,List.length_reverse,dXX,List.length_drop,Je];omega)]
theorem jY (t:Int×Int)(r:Ai):∃D L:List Cg,Bk [r]=D++L/\Bk [Mv t r]=(D.reverse++L).map (xJ t)/\L.length<=1:=by
 refine⟨((Lr r).take (r.length-1)).filter (fun e=>decide (e.1≠e.2)),((Lr r).drop (r.length-1)).filter (fun e=>decide (e.1≠e.2)),?_,?_,?_⟩
 ·rw[Zd,<-List.filter_append,List.take_append_drop]
 ·rw[Zd,kN,List.filter_map]
  have e:((fun e:Cg=>decide (e.1≠e.2)) ∘ xJ t)=(fun e:Cg=>decide (e.1≠e.2)):=by
   funext e;unfold xJ;simp only[Function.comp];rw[decide_eq_decide];constructor
   ·intro h k;exact h (by rw[k])
   intro h k;exact h ((aBR.1 k).symm)
  rw[e,List.filter_append,List.filter_reverse]
 refine Av (List.length_filter_le _ _) ?_;rw[List.length_drop,Je];omega
end
section
theorem cV {a b:Int×Int}(h:a.1≠b.1)(x:Int):Im b a x=Im a b x:=by
  unfold Im;have h1:((b.1:Int):Rat)-((a.1:Int):Rat)≠0:=fun c=>by
    have e:((a.1:Int):Rat)=((b.1:Int):Rat):=by grind
    exact h (by exact_mod_cast e)
  rw[Rat.intCast_sub,Rat.intCast_sub,Rat.intCast_sub,Rat.intCast_sub,Rat.intCast_sub,Rat.intCast_sub];have h2:((a.1:Int):Rat)-((b.1:Int):Rat)≠0:=by grind
  have k1:=Rat.mul_inv_cancel _ h1;have k2:=Rat.mul_inv_cancel _ h2;rw[Rat.div_def,Rat.div_def];grind
theorem hF {a b:Int×Int}(h:a.2≠b.2)(y:Rat):Di b.1 b.2 a.1 a.2 y=Di a.1 a.2 b.1 b.2 y:=by rw[nH h,Kl h]
theorem Zh {a b:Int×Int}{lo hi x:Int}(h:a.1≠b.1):Ll b a lo hi x↔Ll a b lo hi x:=by
  unfold Ll;rw[cV h,Int.min_comm b.1,Int.max_comm b.1];exact⟨fun k=>⟨⟨k.1.1.symm,k.1.2⟩,k.2⟩,fun k=>⟨⟨k.1.1.symm,k.1.2⟩,k.2⟩⟩
theorem fY (a b:Int×Int)(lo hi x:Int):Iz b a lo hi x=Iz a b lo hi x:=by
  unfold Iz;by_cases h:a.1=b.1
  · rw[if_neg (fun c:Ll b a lo hi x=>c.1.1 h.symm),if_neg (fun c:Ll a b lo hi x=>c.1.1 h)]
  by_cases c:Ll a b lo hi x
  · rw[if_pos c,if_pos ((Zh h).2 c),cV h]
  rw[if_neg c,if_neg (fun k=>c ((Zh h).1 k))]
theorem Yv (p a b:Int×Int):Ey p b a=Ey p a b:=by
 unfold Ey;have e1:Lt p.2 b a=Lt p.2 a b:=by unfold Lt;rw[Int.min_comm]
 have e2:Lu p.2 b a=Lu p.2 a b:=by unfold Lu;rw[Int.max_comm]
 rw[e1,e2,Int.max_comm b.1,Int.min_comm b.1];by_cases h:a.2=b.2
 ·have c:Lu p.2 a b<=Lt p.2 a b:=by unfold Lu Lt;rw[h];omega
  rw[if_pos (.inl c),if_pos (.inl c)]
 have e3:Ma p.1 b a=Ma p.1 a b:=by funext x y;unfold Ma;rw[hF h,hF h]
 have e4:Gb p.1 b a (Lt p.2 a b) (Lu p.2 a b)=Gb p.1 a b (Lt p.2 a b) (Lu p.2 a b):=by unfold Gb Sy;rw[fY a b _ _ p.1,fY a b _ _ (p.1+256)]
 rw[e3,e4]
def Wy (p:Int×Int)(e:Cg):Rat:=if e.1.2<e.2.2 then Ey p e.1 e.2 else if e.2.2<e.1.2 then-Ey p e.1 e.2 else 0
theorem aBU (p:Int×Int)(s:Rat)(e:Cg):Pd p s e=s+Wy p e:=by
  unfold Pd Wy;split
  · rfl
  split<;>grind
theorem aAX (p:Int×Int):∀(l:List Cg) (s:Rat),l.foldl (Pd p) s=s+(l.map (Wy p)).sum
  | [],s=>by simp;grind
  |e::l,s=>by rw[List.foldl_cons,aAX p l,aBU,List.map_cons,List.sum_cons];grind
theorem Jg (p:Int×Int)(l:List Cg):Hl p l=(l.map (Wy p)).sum:=by unfold Hl;rw[aAX];grind
theorem Pb (p:Int×Int)(l m:List Cg):Hl p (l++m)=Hl p l+Hl p m:=by rw[Jg,Jg,Jg,jXX,List.sum_append]
theorem Uc (a:Int×Int):wV (0,0) a=a:=by unfold wV;simp
theorem xP (p:Int×Int)(e:Cg):Wy p (xJ (0,0) e)= -Wy p e:=by
  unfold xJ Wy;rw[Uc,Uc];simp only;rw[Yv p e.1 e.2];rcases Int.lt_trichotomy e.1.2 e.2.2 with h|h|h
  · rw[if_neg ω,if_pos h,if_pos h]
  · rw[if_neg ω,if_neg ω,if_neg ω,if_neg ω]<;>grind
  rw[if_pos h,if_neg ω,if_pos h];grind
theorem rX (p:Int×Int):∀l:List Cg,Hl p (l.map (xJ (0,0)))= -Hl p l
  | []=>by show((0:Int):Rat)= -((0:Int):Rat);grind
  | e::l=>by
    have ih:=rX p l;rw[Jg,Jg]at ih;rw[Jg,Jg,List.map_cons,List.map_cons,List.map_cons,List.sum_cons,List.sum_cons,xP,ih];grind
theorem kY (p:Int×Int):∀l:List Cg,Hl p l.reverse=Hl p l
  | []=>rfl
  | e::l=>by
    rw[List.reverse_cons,Pb,kY p l,Jg,Jg,Jg,List.map_cons,List.map_cons,List.sum_cons,List.sum_cons];simp;grind
theorem rZ (p:Int×Int)(r:Ai):Hl p (Bk [Mv (0,0) r])= -Hl p (Bk [r]):=by
  obtain⟨D,L,h1,h2,_⟩:=jY (0,0) r;rw[h1,h2,rX,Pb,Pb,kY]
theorem wK (r:Ai):Mv (0,0) r=r.reverse:=by
  unfold Mv;rw[show wV (0,0)=id from funext Uc,List.map_id]
theorem cA (r:Ai)(rs:List Ai):Bk (r::rs)=Bk [r]++Bk rs:=by unfold Bk;simp
theorem dM (p:Int×Int)(r:Ai)(rs:List Ai):Hq (r::rs) p=Hq [r] p+Hq rs p:=by
  unfold Hq;rw[cA,Pb];rw[Rat.div_def,Rat.div_def,Rat.div_def];grind
theorem dN (p:Int×Int):∀rs:List Ai,Hq (rs.map List.reverse) p= -Hq rs p
  | []=>by simp[Hq,Hl,Bk];grind
  | r::rs=>by
    rw[List.map_cons,dM p r.reverse,dM p r rs,dN p rs];have e:Hq [r.reverse] p= -Hq [r] p:=by
      unfold Hq;rw[<-wK,rZ,Rat.div_def,Rat.div_def];grind
    rw[e];grind
def qA (x:Rat)(o:List Rat×Bool)(e:Rat):List Rat×Bool:=if o.2=false/\x<e then(o.1++[x,e],true)else(o.1++[e],o.2)
def aCU (x:Rat)(l:List Rat):List Rat×Bool:=l.foldl (qA x) ([],false)
def Nu (x:Rat):List Rat->List Rat
  | []=>[]
  |e::l=>if x<e then x::e::l else e::Nu x l
theorem uR (x:Rat):∀(l o:List Rat),l.foldl (qA x) (o,true)=(o++l,true)
  | [],o=>by simp
  |e::l,o=>by rw[List.foldl_cons,show qA x (o,true) e=(o++[e],true)from if_neg (by simp),uR x l];simp
theorem uS (x:Rat):∀(l o:List Rat),(l.foldl (qA x) (o,false)).1=o++Nu x l
  | [],o=>by simp[Nu]
  | e::l,o=>by
    rw[List.foldl_cons];by_cases c:x<e
    · rw[show qA x (o,false) e=(o++[x,e],true)from if_pos ⟨rfl,c⟩,uR]
      simp[Nu,c]
    rw[show qA x (o,false) e=(o++[e],false)from if_neg (fun h=>c h.2),uS x l];simp[Nu,c]
theorem lX (x:Rat)(l:List Rat):(aCU x l).1=Nu x l:=by unfold aCU;rw[uS,fQQ]
theorem fI {x z:Rat}:∀{l:List Rat},z∈Nu x l->z=x\/z∈l
  | [],h=>by cases h
  | e::l,h=>by
    unfold Nu at h;split at h
    · rcases List.mem_cons.1 h with h|h
      · exact .inl h
      exact .inr h
    rcases List.mem_cons.1 h with h|h
    · exact .inr (by rw[h];exact eQQ)
    rcases fI h with h|h
    · exact .inl h
    exact .inr (cQQ _ h)
theorem fH {x:Rat}:∀{l:List Rat},l.Pairwise (· <= ·)->(Nu x l).Pairwise (· <= ·)
  | [],_=>List.Pairwise.nil
  | e::l,h=>by
    have h1:=List.pairwise_cons.1 h;unfold Nu;split
    · rename_i c
      refine List.pairwise_cons.2 ⟨fun z hz=> ?_,h⟩;rcases List.mem_cons.1 hz with k|k
      · rw[k];exact Rat.le_of_lt c
      exact Rat.le_trans (Rat.le_of_lt c) (h1.1 z k)
    rename_i c;refine List.pairwise_cons.2 ⟨fun z hz=> ?_,fH h1.2⟩;rcases fI hz with k|k
    · rw[k];exact Rat.not_lt.1 c
    exact h1.1 z k
theorem fJ {x h:Rat}(hx:x<h):∀m:List Rat,∃m',Nu x (m++[h])=m'++[h]/\m'.Perm (x::m)
  | []=>⟨[x],by simp[Nu,hx],List.Perm.refl _⟩
  | e::m=>by
    obtain⟨m',h1,h2⟩:=fJ hx m;by_cases c:x<e
    · exact⟨x::e::m,by simp[Nu,c],List.Perm.refl _⟩
    exact⟨e::m',by simp[Nu,c,h1],(h2.cons e).trans (List.Perm.swap x e m)⟩
def iT (px:Int)(a b:Int×Int)(lo hi:Int):Nat->List Rat
  |0=>[((lo:Int):Rat),((hi:Int):Rat)]
  |k+1=>if Ll a b lo hi (px+(k:Int)*256)then(aCU (Im a b (px+(k:Int)*256)) (iT px a b lo hi k)).1 else iT px a b lo hi k
def vT (px:Int)(a b:Int×Int)(lo hi:Int):Nat->List Rat
  |0=>[]
  |k+1=>vT px a b lo hi k++Iz a b lo hi (px+(k:Int)*256)
theorem Nd (px:Int)(a b:Int×Int)(lo hi:Int):∀k,∃m,iT px a b lo hi k=((lo:Int):Rat)::(m++[((hi:Int):Rat)])/\m.Perm (vT px a b lo hi k)
  |0=>⟨[],rfl,List.Perm.refl _⟩
  | k+1=>by
    obtain⟨m,h1,h2⟩:=Nd px a b lo hi k;by_cases c:Ll a b lo hi (px+(k:Int)*256)
    · obtain⟨m',h3,h4⟩:=fJ c.2.2 m
      refine⟨m',?_,?_⟩
      · rw[show iT px a b lo hi (k+1)=_ from if_pos c,lX,h1]
        show Nu _ (((lo:Int):Rat)::(m++[((hi:Int):Rat)]))=_;unfold Nu;rw[if_neg (fun k=>absurd c.2.1 (Rat.not_lt.2 (Rat.le_of_lt k))),h3]
      show m'.Perm (vT px a b lo hi k++Iz a b lo hi (px+(k:Int)*256));rw[show Iz a b lo hi (px+(k:Int)*256)=[Im a b (px+(k:Int)*256)]from if_pos c];exact h4.trans ((h2.cons _).trans (List.perm_append_singleton _ _).symm)
    refine⟨m,(show iT px a b lo hi (k+1)=_ from if_neg c).trans h1,?_⟩;show m.Perm (vT px a b lo hi k++Iz a b lo hi (px+(k:Int)*256));rw[show Iz a b lo hi (px+(k:Int)*256)=[]from if_neg c,gXX];exact h2
theorem Po {px:Int}{a b:Int×Int}{lo hi:Int}(h:lo<=hi):∀k,(iT px a b lo hi k).Pairwise (· <= ·)
  | 0=>by
    have e:((lo:Int):Rat)<=((hi:Int):Rat):=by exact_mod_cast h
    show List.Pairwise _ [((lo:Int):Rat),((hi:Int):Rat)];simp[e]
  | k+1=>by
    show List.Pairwise _ (if _ then _ else _);split
    · rw[lX];exact fH (Po h k)
    exact Po h k
theorem dY {px:Int}{a b:Int×Int}{lo hi:Int}(h:lo<=hi):iT px a b lo hi 2=Gb px a b lo hi:=by
 refine lA (Po h 2) ?_;obtain⟨m,h1,h2⟩:=Nd px a b lo hi 2;rw[h1];have e:vT px a b lo hi 2=Iz a b lo hi px++Iz a b lo hi (px+256):=by
  show([]++Iz a b lo hi (px+((0:Nat):Int)*256))++Iz a b lo hi (px+((1:Nat):Int)*256)=_;rw[fQQ,show px+((0:Nat):Int)*256=px by omega,show px+((1:Nat):Int)*256=px+256 by omega]
 rw[e]at h2;unfold Sy;rw[jQQ];refine List.Perm.cons _ ?_;refine List.perm_append_comm.trans ?_;exact h2.cons _
theorem Dx {a b:Int}(h:a<=b):(a:Rat)<=(b:Rat):=by exact_mod_cast h
theorem Ml {F G:Rat->Rat->Rat}:∀{l:List Rat},(∀x,x∈l->∀y,y∈l->F x y=G x y)->Ex F l=Ex G l
  | [],_=>rfl
  | [_],_=>rfl
  | x::y::l,h=>by
    show F x y+Ex F (y::l)=G x y+Ex G (y::l);rw[h x eQQ y (cQQ _ eQQ),Ml fun a ha b hb=>h a (cQQ _ ha) b (cQQ _ hb)]
theorem Vo:∀l:List Rat,Ex (fun _ _=>0) l=0
  | []=>rfl
  | [_]=>rfl
  |x::y::l=>by show(0:Rat)+Ex _ (y::l)=0;rw[Vo (y::l)];grind
theorem Yn (c h:Rat):∀(m:List Rat) (x:Rat),Ex (fun x y=>c*(y-x)) (x::(m++[h]))=c*(h-x)
  | [],x=>by show c*(h-x)+0=_;grind
  | y::m,x=>by
    show c*(y-x)+Ex (fun x y=>c*(y-x)) (y::(m++[h]))=_;rw[Yn c h m y];grind
theorem rP {p q:Int×Int}{f t y:Rat}(hn:p.2≠q.2)(h:((min p.2 q.2:Int):Rat)<=y/\y<=((max p.2 q.2:Int):Rat))(hp:f<=(p.1:Rat)/\(p.1:Rat)<=t)(hq:f<=(q.1:Rat)/\(q.1:Rat)<=t):f<=Di p.1 p.2 q.1 q.2 y/\Di p.1 p.2 q.1 q.2 y<=t:=by
 have key:∀{p q:Int×Int} {f t y:Rat},p.2<q.2->(p.2:Rat)<=y->y<=(q.2:Rat)->f<=(p.1:Rat)/\(p.1:Rat)<=t->f<=(q.1:Rat)/\(q.1:Rat)<=t->f<=Di p.1 p.2 q.1 q.2 y/\Di p.1 p.2 q.1 q.2 y<=t:=by
  intro p q f t y A0 h1 h2 hp hq;have c:(p.2:Rat)<(q.2:Rat):=by exact_mod_cast A0
  by_cases e1:(p.2:Rat)<y
  ·by_cases e2:y<(q.2:Rat)
   ·exact Zs (.inl ⟨e1,e2⟩) hp hq
   have e3:y=(q.2:Rat):=by grind
   rw[e3,Kl ω];have k:(q.2:Rat)-p.2≠0:=by grind
   have k2:=Rat.mul_inv_cancel _ k;rw[Rat.div_def];generalize ((q.2:Rat)-p.2)⁻¹=i at*;have e5:(p.1:Rat)+((q.2:Rat)-p.2)*(((q.1:Rat)-p.1)*i)=(q.1:Rat):=by grind
   rw[e5];exact hq
  have e3:y=(p.2:Rat):=by grind
  rw[e3];have e4:Di p.1 p.2 q.1 q.2 (p.2:Rat)=(p.1:Rat):=by unfold Di;grind
  rw[e4];exact hp
 rcases Int.lt_or_gt_of_ne hn with c|c
 ·rw[Int.min_eq_left ω,Int.max_eq_right ω]at h
  exact key c h.1 h.2 hp hq
 rw[Int.min_eq_right ω,Int.max_eq_left ω]at h;rw[<-hF (a:=p) (b:=q) hn];exact key c h.1 h.2 hq hp
def aCB (p a b:Int×Int):Rat:=if min b.2 (p.2+256)<=max a.2 p.2 then((0:Int):Rat)else Ex (Ma p.1 a b) (Gb p.1 a b (max a.2 p.2) (min b.2 (p.2+256)))
theorem oL {p a b:Int×Int}(h:a.2<b.2):aCB p a b=Ey p a b:=by
 have e1:Lt p.2 a b=max a.2 p.2:=by unfold Lt;omega
 have e2:Lu p.2 a b=min b.2 (p.2+256):=by unfold Lu;omega
 have A2:min a.2 b.2<=max a.2 p.2:=ω;have A1:min b.2 (p.2+256)<=max a.2 b.2:=ω;unfold aCB Ey;rw[e1,e2];generalize max a.2 p.2=lo at*;generalize min b.2 (p.2+256)=hi at*;by_cases c1:hi<=lo
 ·rw[if_pos c1,if_pos (.inl c1)]
 rw[if_neg c1];have hm:∀z,z∈Gb p.1 a b lo hi->((min a.2 b.2:Int):Rat)<=z/\z<=((max a.2 b.2:Int):Rat):=fun z hz=>by
  have h1:=To hz ω;have h2:((min a.2 b.2:Int):Rat)<=((lo:Int):Rat):=by exact_mod_cast A2
  have h3:((hi:Int):Rat)<=((max a.2 b.2:Int):Rat):=by exact_mod_cast A1
  exact⟨Rat.le_trans h2 h1.1,Rat.le_trans h1.2 h3⟩
 have hx:∀{f t:Rat},f<=(a.1:Rat)/\(a.1:Rat)<=t->f<=(b.1:Rat)/\(b.1:Rat)<=t->∀z,z∈Gb p.1 a b lo hi->f<=Di a.1 a.2 b.1 b.2 z/\Di a.1 a.2 b.1 b.2 z<=t:=fun ha hb z hz=>rP ω (hm z hz) ha hb
 have bx:((min a.1 b.1:Int):Rat)<=(a.1:Rat)/\(a.1:Rat)<=((max a.1 b.1:Int):Rat)/\((min a.1 b.1:Int):Rat)<=(b.1:Rat)/\(b.1:Rat)<=((max a.1 b.1:Int):Rat):=⟨by exact_mod_cast Int.min_le_left _ _,by exact_mod_cast Int.le_max_left _ _,by exact_mod_cast Int.min_le_right _ _,by exact_mod_cast Int.le_max_right _ _⟩;have hx:=hx ⟨bx.1,bx.2.1⟩ ⟨bx.2.2.1,bx.2.2.2⟩;have e0:((0:Int):Rat)=0:=rfl;have A0:((256:Int):Rat)=256:=rfl;by_cases c2:max a.1 b.1<=p.1
 ·rw[if_pos (.inr c2)]
  have k:((max a.1 b.1:Int):Rat)<=((p.1:Int):Rat):=by exact_mod_cast c2
  have hz:∀z,z∈Gb p.1 a b lo hi->Ik p.1 (Di a.1 a.2 b.1 b.2 z)=0:=fun z hz=>by
   have h1:=(hx z hz).2;unfold Ik;rw[e0,A0];split
   ·rfl
   split<;>grind
  rw[Ml (G:=fun _ _=>0) fun x hx y hy=>by unfold Ma;rw[hz x hx,hz y hy];grind,Vo];rfl
 rw[if_neg (fun k=>k.elim c1 c2)];by_cases c3:p.1+256<=min a.1 b.1
 ·rw[if_pos c3]
  have k:((p.1:Int):Rat)+256<=((min a.1 b.1:Int):Rat):=by
   have:(((p.1+256:Int)):Rat)<=((min a.1 b.1:Int):Rat):=Dx c3;rw[Rat.intCast_add]at this;exact this
  have hz:∀z,z∈Gb p.1 a b lo hi->Ik p.1 (Di a.1 a.2 b.1 b.2 z)=256:=fun z hz=>by
   have h1:=(hx z hz).1;unfold Ik;rw[e0,A0];rw[if_neg (by grind)];split<;>grind
  obtain⟨m,h1,_⟩:=Nd p.1 a b lo hi 2;rw[Ml (G:=fun x y=>256*(y-x)) fun x hx y hy=>by unfold Ma;rw[hz x hx,hz y hy];grind,<-dY ω,h1,Yn,Rat.intCast_mul,Rat.intCast_sub];rfl
 rw[if_neg c3]
end
section
def Jr (u:Rat):Rat:=if u<0 then 0 else if 256<u then 256 else u
def Va (u:Rat):Rat:=if u<0 then 0 else if 256<u then 256*u-32768 else u*u/2
def aEB (u v:Rat):Prop:=(u<=0/\v<=0)\/((0<=u/\u<=256)/\0<=v/\v<=256)\/(256<=u/\256<=v)
theorem kI {u:Rat}(h:u<=0):Jr u=0:=by
  unfold Jr;split
  · rfl
  split<;>grind
theorem cK {u:Rat}(h:0<=u/\u<=256):Jr u=u:=by
  unfold Jr;rw[if_neg (Rat.not_lt.2 h.1),if_neg (Rat.not_lt.2 h.2)]
theorem kJ {u:Rat}(h:256<=u):Jr u=256:=by
  unfold Jr;rw[if_neg (by grind)];split<;>grind
theorem aO {u:Rat}(h:u<=0):Va u=0:=by
  unfold Va;by_cases c:u<0
  · rw[if_pos c]
  have e:u=0:=by grind
  subst e;rw[if_neg (by decide),if_neg (by decide)];decide+kernel
theorem aN {u:Rat}(h:0<=u/\u<=256):Va u=u*u/2:=by
  unfold Va;rw[if_neg (Rat.not_lt.2 h.1),if_neg (Rat.not_lt.2 h.2)]
theorem aP {u:Rat}(h:256<=u):Va u=256*u-32768:=by
  unfold Va;rw[if_neg (by grind)];by_cases c:256<u
  · rw[if_pos c]
  have e:u=256:=by grind
  subst e;rw[if_neg c];decide+kernel
theorem yD {u v:Rat}(h:aEB u v):(Jr u+Jr v)/2*(v-u)=Va v-Va u:=by
  rcases h with⟨h1,h2⟩|⟨h1,h2⟩|⟨h1,h2⟩
  · rw[kI h1,kI h2,aO h1,aO h2];grind
  · rw[cK h1,cK h2,aN h1,aN h2];grind
  rw[kJ h1,kJ h2,aP h1,aP h2];grind
theorem yE {u v:Rat}(h:aEB u v):Jr ((u+v)/2)*(v-u)=Va v-Va u:=by
  rcases h with⟨h1,h2⟩|⟨h1,h2⟩|⟨h1,h2⟩
  · rw[kI (show(u+v)/2<=0 by grind),aO h1,aO h2];grind
  · rw[cK (show 0<=(u+v)/2/\(u+v)/2<=256 by grind),aN h1,aN h2];grind
  rw[kJ (show 256<=(u+v)/2 by grind),aP h1,aP h2];grind
def Fx (px:Int)(e:Cg)(y:Rat):Rat:=cC e y-((px:Int):Rat)
def Lw (px:Int)(e:Cg)(y:Rat):Rat:=if Tg e.1 e.2=0 then Jr (Fx px e 0)*y else Va (Fx px e y)/Tg e.1 e.2
theorem aZ (px:Int)(e:Cg)(x y:Rat):Fx px e y-Fx px e x=Tg e.1 e.2*(y-x):=by
  unfold Fx;rw[Iy,Iy];grind
theorem tX (px:Int)(e:Cg)(x y:Rat):Fx px e ((x+y)/2)=(Fx px e x+Fx px e y)/2:=by
  unfold Fx;rw[Iy,Iy,Iy];grind
theorem Mk {px:Int}{e:Cg}(h:Tg e.1 e.2=0)(y:Rat):Fx px e y=Fx px e 0:=by
  have:=aZ px e 0 y;rw[h]at this;grind
theorem fX {m d s t:Rat}(hm:m≠0)(h:s*(m*d)=t):s*d=t/m:=by
  have e:=Rat.mul_inv_cancel _ hm;rw[Rat.div_def,<-h];generalize m⁻¹=i at*;grind
theorem aAN {px:Int}{e:Cg}{x y:Rat}(h:aEB (Fx px e x) (Fx px e y)):(Jr (Fx px e x)+Jr (Fx px e y))/2*(y-x)=Lw px e y-Lw px e x:=by
  unfold Lw;by_cases c:Tg e.1 e.2=0
  · rw[if_pos c,if_pos c,Mk c x,Mk c y];grind
  rw[if_neg c,if_neg c];have k:=yD h;rw[aZ]at k;rw[fX c k,Rat.div_def,Rat.div_def,Rat.div_def];grind
theorem aAO {px:Int}{e:Cg}{x y:Rat}(h:aEB (Fx px e x) (Fx px e y)):Jr (Fx px e ((x+y)/2))*(y-x)=Lw px e y-Lw px e x:=by
  unfold Lw;by_cases c:Tg e.1 e.2=0
  · rw[if_pos c,if_pos c,Mk c];grind
  rw[if_neg c,if_neg c];have k:=yE h;rw[aZ,<-tX]at k;rw[fX c k,Rat.div_def,Rat.div_def,Rat.div_def];grind
theorem eX (a b:Rat):a<b\/b<=a:=by
  by_cases h:a<b
  · exact .inl h
  exact .inr (Rat.not_lt.1 h)
theorem kP {m k p q c:Rat}(h:p<q)(h1:m*p+k<c)(h2:c<m*q+k):∃r,p<r/\r<q/\m*r+k=c:=by
 have hm:0<m:=by
  rcases eX 0 m with g|g
  ·exact g
  have:=Rat.mul_le_mul_of_nonneg_left (c:=q-p) g (by grind);grind
 have e:=Rat.mul_inv_cancel m (by grind);have e2:m*((c-k)*m⁻¹)=c-k:=by generalize m⁻¹=i at*;grind
 refine⟨(c-k)*m⁻¹,?_,?_,by generalize m⁻¹=i at*;grind⟩
 ·rcases eX p ((c-k)*m⁻¹)with g|g
  ·exact g
  have:=Rat.mul_le_mul_of_nonneg_left g (Rat.le_of_lt hm);rw[e2]at this;grind
 rcases eX ((c-k)*m⁻¹) q with g|g
 ·exact g
 have:=Rat.mul_le_mul_of_nonneg_left g (Rat.le_of_lt hm);rw[e2]at this;grind
theorem wX {m k p q c:Rat}(h:p<q)(h1:(m*p+k<c/\c<m*q+k)\/(m*q+k<c/\c<m*p+k)):∃r,p<r/\r<q/\m*r+k=c:=by
  rcases h1 with⟨g1,g2⟩|⟨g1,g2⟩
  · exact kP h g1 g2
  obtain⟨r,k1,k2,k3⟩:=kP (m:= -m) (k:= -k) (c:= -c) h (by grind) (by grind);exact⟨r,k1,k2,by grind⟩
theorem Vg (px:Int)(e:Cg)(y:Rat):Fx px e y=Tg e.1 e.2*y+(((e.1.1:Rat)-(e.1.2:Rat)*Tg e.1 e.2)-((px:Int):Rat)):=by
  unfold Fx;rw[Iy];grind
theorem tY {px:Int}{e:Cg}{x y:Rat}(h:x<=y)(h1:Tg e.1 e.2≠0->∀r,x<r->r<y->Fx px e r≠0/\Fx px e r≠256):aEB (Fx px e x) (Fx px e y):=by
 have key:∀c:Rat,(c=0\/c=256)->¬((Fx px e x<c/\c<Fx px e y)\/(Fx px e y<c/\c<Fx px e x)):=by
  intro c hc g;have hs:Tg e.1 e.2≠0:=fun s=>by
   have a1:=Mk (px:=px) s x;have a2:=Mk (px:=px) s y;rw[a1,a2]at g;grind
  have A0:x<y:=by
   rcases eX x y with k|k
   ·exact k
   have:x=y:=Rat.le_antisymm h k;subst this;grind
  rw[Vg px e x,Vg px e y]at g;obtain⟨r,k1,k2,k3⟩:=wX A0 g;rw[<-Vg]at k3;have k4:=h1 hs r k1 k2;rcases hc with rfl|rfl
  ·exact k4.1 k3
  exact k4.2 k3
 have k0:=key 0 (.inl rfl);have k1:=key 256 (.inr rfl);unfold aEB;generalize Fx px e x=u at*
 generalize Fx px e y=v at*;grind
theorem jD {F:Rat->Rat->Rat}{J:Rat->Rat}:∀{l:List Rat} {x z:Rat},(∀(i:Nat) (p q:Rat),(x::l)[i]?=some p->(x::l)[i+1]?=some q->F p q=J q-J p)->(x::l).getLast?=some z->Ex F (x::l)=J z-J x
  | [],x,z,_,h=>by
    have e:x=z:=by simpa using h
    subst e;show(0:Rat)=_;grind
  | y::l,x,z,h,hz=>by
    show F x y+Ex F (y::l)=_;rw[h 0 x y rfl rfl,jD (l:=l) (x:=y) (z:=z) (fun i p q h1 h2=>h (i+1) p q (by simpa using h1) (by simpa using h2)) (by simpa using hz)];grind
theorem mY (W:Rat->Rat):∀l:List Rat,Be W l=Ex (fun x y=>W ((x+y)/2)*(y-x)) l
  | []=>rfl
  | [_]=>rfl
  | x::y::l=>by
    show W ((x+y)/2)*(y-x)+Be W (y::l)=W ((x+y)/2)*(y-x)+Ex _ (y::l);rw[mY W (y::l)]
theorem wN {l:List Rat}(h:l.Pairwise (· <= ·)){i:Nat}{x y r:Rat}(hx:l[i]?=some x)(hy:l[i+1]?=some y)(hr:r∈l):¬(x<r/\r<y):=by
 intro g;obtain⟨j,hj,rfl⟩:=List.mem_iff_getElem.1 hr;obtain⟨hi,rfl⟩:=List.getElem?_eq_some_iff.1 hx;obtain⟨A0,rfl⟩:=List.getElem?_eq_some_iff.1 hy;have hp:=List.pairwise_iff_getElem.1 h;rcases Nat.lt_or_ge i j with c|c
 ·rcases Nat.lt_or_ge (i+1) j with c2|c2
  ·exact absurd (hp _ _ A0 hj c2) (Rat.not_le.2 g.2)
  have:j=i+1:=ω;subst this;exact absurd g.2 (Rat.lt_irrefl)
 rcases Nat.lt_or_ge j i with c2|c2
 ·exact absurd (hp _ _ hj hi c2) (Rat.not_le.2 g.1)
 have:j=i:=ω;subst this;exact absurd g.1 (Rat.lt_irrefl)
theorem aBO {e:Cg}{r:Rat}(hr:e.1.2≠e.2.2/\((min e.1.2 e.2.2:Int):Rat)<r/\r<((max e.1.2 e.2.2:Int):Rat))(hs:Tg e.1 e.2≠0){x:Int}(h:cC e r=(x:Rat)):(e.1.1≠e.2.1/\min e.1.1 e.2.1<=x/\x<=max e.1.1 e.2.1)/\Im e.1 e.2 x=r:=by
 have f:=mE hr.1 hr.2.1 hr.2.2;have hv:=Qo hr.1;have ev:=Rat.mul_inv_cancel _ hv;have A1:e.1.1≠e.2.1:=by
  intro c;apply hs;unfold Tg;rw[c,show e.2.1-e.2.1=0 by omega];show _*(0:Rat)=0;grind
 have hu:=Qo A1;have eu:=Rat.mul_inv_cancel _ hu;have A0:(x:Rat)=(e.1.1:Rat)+(r-(e.1.2:Rat))*((e.2.2:Rat)-(e.1.2:Rat))⁻¹*((e.2.1-e.1.1:Int):Rat):=by
  rw[<-h];unfold cC Di;rw[Rat.div_def,Rat.intCast_sub e.2.2,show((1:Int):Rat)=1 from rfl,Rat.one_mul]
 have hU:qD ((r-(e.1.2:Rat))*((e.2.2:Rat)-(e.1.2:Rat))⁻¹):=by
  refine⟨fun c=> ?_,fun c=> ?_⟩
  ·rw[show(((0):Int):Rat)=0 from rfl]at c;exact absurd f.1 (Rat.not_le.2 c)
  rw[show(((1):Int):Rat)=1 from rfl]at c;exact absurd f.2 (Rat.not_le.2 c)
 have hb:=lR (p:=e.1.1) (q:=e.2.1) hU;rw[<-A0]at hb;refine⟨⟨A1,by exact_mod_cast hb.1,by exact_mod_cast hb.2⟩,?_⟩;unfold Im;rw[Rat.div_def,Rat.intCast_sub,Rat.intCast_sub,Rat.intCast_sub,A0,Rat.intCast_sub];generalize ((e.2.2:Rat)-(e.1.2:Rat))⁻¹=i at*;generalize ((e.2.1:Rat)-(e.1.1:Rat))⁻¹=j at*;grind
def rL (px:Int)(e:Cg)(y:Rat):Rat:=if e.1.2≠e.2.2/\((min e.1.2 e.2.2:Int):Rat)<y/\y<((max e.1.2 e.2.2:Int):Rat)then Jr (Fx px e y)else 0
def Ow (lo hi y:Rat):Rat:=if y<lo then lo else if hi<y then hi else y
theorem Ql {lo hi y:Rat}(h:lo<=hi)(k:y<=lo):Ow lo hi y=lo:=by unfold Ow;grind
theorem Qm {lo hi y:Rat}(h:lo<=hi)(k:hi<=y):Ow lo hi y=hi:=by unfold Ow;grind
theorem Tv {lo hi y:Rat}(k:lo<=y/\y<=hi):Ow lo hi y=y:=by unfold Ow;grind
theorem aY {px:Int}{e:Cg}{r:Rat}{k:Int}{c:Rat}(hc:c=((k:Int):Rat))(h:Fx px e r=c):cC e r=((px+k:Int):Rat):=by
  unfold Fx at h;rw[Rat.intCast_add];grind
theorem rD {px py:Int}{rs:List Ai}{e:Cg}(k:Lk (px,py) (px+256,py+256) rs)(he:e∈Dc rs)(hn:e.1.2≠e.2.2):
  Be (rL px e) (Dn (px,py) (px+256,py+256) rs)=Lw px e (Ow ((min e.1.2 e.2.2:Int):Rat) ((max e.1.2 e.2.2:Int):Rat) ((py+256:Int):Rat))-Lw px e (Ow ((min e.1.2 e.2.2:Int):Rat) ((max e.1.2 e.2.2:Int):Rat) ((py:Int):Rat)):=by
 have A0:=Me k;have A1:((min e.1.2 e.2.2:Int):Rat)<=((max e.1.2 e.2.2:Int):Rat):=Dx ω;obtain⟨m,hm⟩:=Sa A0.srt (fun z hz=>(A0.bd z hz).1) A0.lo;obtain⟨m2,A3⟩:=Ui A0.srt (fun z hz=>(A0.bd z hz).2) A0.hi;have hl:(Dn (px,py) (px+256,py+256) rs).getLast?=some ((py+256:Int):Rat):=by rw[A3];simp
 rw[mY];have key:∀(i:Nat) (p q:Rat),(Dn (px,py) (px+256,py+256) rs)[i]?=some p->(Dn (px,py) (px+256,py+256) rs)[i+1]?=some q->rL px e ((p+q)/2)*(q-p)=Lw px e (Ow ((min e.1.2 e.2.2:Int):Rat) ((max e.1.2 e.2.2:Int):Rat) q)-Lw px e (Ow ((min e.1.2 e.2.2:Int):Rat) ((max e.1.2 e.2.2:Int):Rat) p):=by
  intro i p q hp hq;have A2:p<q:=by
   obtain⟨g1,rfl⟩:=List.getElem?_eq_some_iff.1 hp;obtain⟨g2,rfl⟩:=List.getElem?_eq_some_iff.1 hq;exact List.pairwise_iff_getElem.1 A0.srt _ _ g1 g2 (ω)
  have g:=aAB k hp hq he;have g1:¬(p<((min e.1.2 e.2.2:Int):Rat)/\((min e.1.2 e.2.2:Int):Rat)<q):=fun h=>by
   rcases(show min e.1.2 e.2.2=e.1.2\/min e.1.2 e.2.2=e.2.2 by omega)with c|c
   ·rw[c]at h;exact g.1 _ h.1 h.2 rfl
   rw[c]at h;exact g.2 _ h.1 h.2 rfl
  have g2:¬(p<((max e.1.2 e.2.2:Int):Rat)/\((max e.1.2 e.2.2:Int):Rat)<q):=fun h=>by
   rcases(show max e.1.2 e.2.2=e.1.2\/max e.1.2 e.2.2=e.2.2 by omega)with c|c
   ·rw[c]at h;exact g.1 _ h.1 h.2 rfl
   rw[c]at h;exact g.2 _ h.1 h.2 rfl
  have hy:∀r:Rat,p<r->r<q->(e.1.2≠e.2.2/\((min e.1.2 e.2.2:Int):Rat)<r/\r<((max e.1.2 e.2.2:Int):Rat))->Tg e.1 e.2≠0->∀x:Int,(x=px\/x=px+256)->cC e r≠(x:Rat):=fun r h1 h2 h3 h4 x hx=>wY k hp hq he h1 h2 h3 h4 hx
  generalize hA:((min e.1.2 e.2.2:Int):Rat)=A at*;generalize hB:((max e.1.2 e.2.2:Int):Rat)=B at*;have md:=jG A2;rcases(show q<=A\/B<=p\/(A<=p/\q<=B)by grind)with c|c|c
  ·rw[Ql A1 c,Ql A1 (by grind)]
   unfold rL;rw[hA,hB,if_neg (fun h=>by grind)];grind
  ·rw[Qm A1 c,Qm A1 (by grind)]
   unfold rL;rw[hA,hB,if_neg (fun h=>by grind)];grind
  rw[Tv ⟨c.1,by grind⟩,Tv ⟨by grind,c.2⟩];unfold rL;rw[hA,hB,if_pos ⟨hn,by grind,by grind⟩];refine aAO (tY (Rat.le_of_lt A2) fun hs r h1 h2=>⟨fun h0=> ?_,fun h0=> ?_⟩)
  ·exact hy r h1 h2 ⟨hn,by grind,by grind⟩ hs px (.inl rfl) (by have:=aY (k:=0) rfl h0;rwa[Int.add_zero]at this)
  exact hy r h1 h2 ⟨hn,by grind,by grind⟩ hs (px+256) (.inr rfl) (aY (k:=256) rfl h0)
 rw[hm]at key hl⊢;exact jD (J:=fun z=>Lw px e (Ow ((min e.1.2 e.2.2:Int):Rat) ((max e.1.2 e.2.2:Int):Rat) z)) key hl
theorem zK {px lo hi:Int}{a b:Int×Int}{x:Int}(hx:x=px\/x=px+256)(h:Ll a b lo hi x):Im a b x∈Gb px a b lo hi:=by
  have h1:Im a b x∈Sy px a b lo hi:=by
    unfold Sy;rcases hx with rfl|rfl
    · refine List.mem_append_left _ (List.mem_append_right _ ?_)
      unfold Iz;rw[if_pos h];simp
    refine List.mem_append_right _ ?_;unfold Iz;rw[if_pos h];simp
  exact(Ho _).mem_iff.2 h1
theorem lU {px py:Int}{e:Cg}(hn:e.1.2<e.2.2):
  Ey (px,py) e.1 e.2=Lw px e (Ow ((min e.1.2 e.2.2:Int):Rat) ((max e.1.2 e.2.2:Int):Rat) ((py+256:Int):Rat))-Lw px e (Ow ((min e.1.2 e.2.2:Int):Rat) ((max e.1.2 e.2.2:Int):Rat) ((py:Int):Rat)):=by
 rw[<-oL hn];unfold aCB;dsimp only
 have A0:((min e.1.2 e.2.2:Int):Rat)<=((max e.1.2 e.2.2:Int):Rat):=Dx ω;by_cases c:min e.2.2 (py+256)<=max e.1.2 py
 ·rw[if_pos c]
  rcases(show max e.1.2 e.2.2<=py\/py+256<=min e.1.2 e.2.2 by omega)with d|d
  ·rw[Qm A0 (Dx d),Qm A0 (Dx (show max e.1.2 e.2.2<=py+256 by omega))];show(0:Rat)=_;grind
  rw[Ql A0 (Dx d),Ql A0 (Dx (show py<=min e.1.2 e.2.2 by omega))];show(0:Rat)=_;grind
 rw[if_neg c];have e1:Ow ((min e.1.2 e.2.2:Int):Rat) ((max e.1.2 e.2.2:Int):Rat) ((py+256:Int):Rat)=((min e.2.2 (py+256):Int):Rat):=by
  rcases(show e.2.2<=py+256\/py+256<=e.2.2 by omega)with d|d
  ·rw[Qm A0 (Dx ω),show max e.1.2 e.2.2=min e.2.2 (py+256)by omega]
  rw[Tv ⟨Dx ω,Dx ω⟩,show py+256=min e.2.2 (py+256)by omega];rw[show min e.2.2 (min e.2.2 (py+256))=min e.2.2 (py+256)by omega]
 have e2:Ow ((min e.1.2 e.2.2:Int):Rat) ((max e.1.2 e.2.2:Int):Rat) ((py:Int):Rat)=((max e.1.2 py:Int):Rat):=by
  rcases(show py<=e.1.2\/e.1.2<=py by omega)with d|d
  ·rw[Ql A0 (Dx ω),show min e.1.2 e.2.2=max e.1.2 py by omega]
  rw[Tv ⟨Dx ω,Dx ω⟩,show max e.1.2 py=py by omega]
 rw[e1,e2];have A4:((min e.1.2 e.2.2:Int):Rat)<=((max e.1.2 py:Int):Rat):=Dx ω;have A5:((min e.2.2 (py+256):Int):Rat)<=((max e.1.2 e.2.2:Int):Rat):=Dx ω;have A2:max e.1.2 py<=min e.2.2 (py+256):=ω
 generalize max e.1.2 py=lo at*;generalize min e.2.2 (py+256)=hi at*;obtain⟨m,hm,_⟩:=Nd px e.1 e.2 lo hi 2;have hs:=Po (px:=px) (a:=e.1) (b:=e.2) A2 2;rw[dY A2]at hm hs;have key:∀(i:Nat) (p q:Rat),(Gb px e.1 e.2 lo hi)[i]?=some p->(Gb px e.1 e.2 lo hi)[i+1]?=some q->Ma px e.1 e.2 p q=Lw px e q-Lw px e p:=by
  intro i p q hp hq;have bp:=To (bZZ hp) A2;have bq:=To (bZZ hq) A2;have A3:p<=q:=by
   obtain⟨g1,rfl⟩:=List.getElem?_eq_some_iff.1 hp;obtain⟨g2,rfl⟩:=List.getElem?_eq_some_iff.1 hq;exact List.pairwise_iff_getElem.1 hs _ _ g1 g2 (ω)
  refine aAN (tY A3 fun hsl r h1 h2=> ?_);have hr:e.1.2≠e.2.2/\((min e.1.2 e.2.2:Int):Rat)<r/\r<((max e.1.2 e.2.2:Int):Rat):=⟨ω,by grind,by grind⟩;have no:∀x:Int,(x=px\/x=px+256)->cC e r≠(x:Rat):=fun x hx h0=>by
   have g:=aBO hr hsl h0;have hc:Ll e.1 e.2 lo hi x:=⟨g.1,by rw[g.2];grind,by rw[g.2];grind⟩;have A1:=zK hx hc;rw[g.2]at A1;exact wN hs hp hq A1 ⟨h1,h2⟩
  exact⟨fun h0=>no px (.inl rfl) (by have:=aY (k:=0) rfl h0;rwa[Int.add_zero]at this),fun h0=>no (px+256) (.inr rfl) (aY (k:=256) rfl h0)⟩
 have hl:(Gb px e.1 e.2 lo hi).getLast?=some ((hi:Int):Rat):=by rw[hm,<-iZZ,List.getLast?_concat]
 rw[hm]at key hl⊢;exact jD key hl
theorem sG {e:Cg}(hn:e.1.2≠e.2.2):Tg e.2 e.1=Tg e.1 e.2:=by
  have h:=Iy e;have h2:=Iy (e.2,e.1);have h3:∀y,cC (e.2,e.1) y=cC e y:=fun y=>hF hn y
  have a0:=h 0;have a1:=h 1;have b0:=h2 0;have b1:=h2 1;rw[h3]at b0 b1;dsimp only at b0 b1
  grind
theorem gU {px:Int}{e:Cg}(hn:e.1.2≠e.2.2)(y:Rat):Lw px (e.2,e.1) y=Lw px e y:=by
  unfold Lw Fx;rw[show cC (e.2,e.1) y=cC e y from hF hn y,show cC (e.2,e.1) 0=cC e 0 from hF hn 0];dsimp only
  rw[sG hn]
theorem Zo {px py:Int}{rs:List Ai}{e:Cg}(k:Lk (px,py) (px+256,py+256) rs)(he:e∈Dc rs)(hn:e.1.2≠e.2.2):
    Be (rL px e) (Dn (px,py) (px+256,py+256) rs)=Ey (px,py) e.1 e.2:=by
  rw[rD k he hn];rcases Int.lt_or_gt_of_ne hn with c|c
  · exact(lU c).symm
  rw[<-Yv,show Ey (px,py) e.2 e.1=_ from lU (e:=(e.2,e.1)) c];dsimp only
  rw[gU hn,gU hn,Int.min_comm e.2.2,Int.max_comm e.2.2]
theorem aCT {u k:Rat}(h:0<u)(e:u*k=1):0<=k:=by
  rcases eX k 0 with g|g
  · have:=Rat.mul_nonneg (Rat.le_of_lt h) (show(0:Rat)<= -k by grind)
    grind
  exact g
theorem Ks {v u w:Int×Int}{y:Rat}(hD:0<=Jp v u w)(h:aGG v u w y):
  ((v.2:Rat)<y->Di v.1 v.2 w.1 w.2 y<=Di v.1 v.2 u.1 u.2 y)/\(y<(v.2:Rat)->Di v.1 v.2 u.1 u.2 y<=Di v.1 v.2 w.1 w.2 y):=by
 have hu:(u.2:Rat)-v.2≠0:=by rcases h with h|h<;>grind
 have hw:(w.2:Rat)-v.2≠0:=by rcases h with h|h<;>grind
 have nu:v.2≠u.2:=fun e=>by rw[e]at hu;grind
 have nw:v.2≠w.2:=fun e=>by rw[e]at hw;grind
 have A0:0<((u.2:Rat)-v.2)*((w.2:Rat)-v.2):=by
  rcases h with h|h
  ·exact Rat.mul_pos (by grind) (by grind)
  have:=Rat.mul_pos (show(0:Rat)<(v.2:Rat)-u.2 by grind) (show(0:Rat)<(v.2:Rat)-w.2 by grind);grind
 have A1:(0:Rat)<=((u.1:Rat)-v.1)*((w.2:Rat)-v.2)-((w.1:Rat)-v.1)*((u.2:Rat)-v.2):=by
  have k:((0:Int):Rat)<=((Jp v u w:Int):Rat):=Dx hD;unfold Jp at k;rw[Rat.intCast_sub,Rat.intCast_mul,Rat.intCast_mul,Rat.intCast_sub,Rat.intCast_sub,Rat.intCast_sub,Rat.intCast_sub]at k;exact k
 rw[Kl nu,Kl nw,Rat.div_def,Rat.div_def];have eu:=Rat.mul_inv_cancel _ hu;have ew:=Rat.mul_inv_cancel _ hw;generalize ((u.2:Rat)-v.2)⁻¹=i at*
 generalize ((w.2:Rat)-v.2)⁻¹=j at*;have hk:0<=i*j:=aCT A0 (by grind);have hm:=Rat.mul_nonneg A1 hk;have e1:((u.1:Rat)-v.1)*i-((w.1:Rat)-v.1)*j=(((u.1:Rat)-v.1)*((w.2:Rat)-v.2)-((w.1:Rat)-v.1)*((u.2:Rat)-v.2))*(i*j):=by grind
 generalize (((u.1:Rat)-v.1)*((w.2:Rat)-v.2)-((w.1:Rat)-v.1)*((u.2:Rat)-v.2))*(i*j)=E at*;constructor
 ·intro hy
  have:=Rat.mul_nonneg (show(0:Rat)<=y-(v.2:Rat)by grind) hm;rw[<-e1]at this;grind
 intro hy;have:=Rat.mul_nonneg (show(0:Rat)<=(v.2:Rat)-y by grind) hm;rw[<-e1]at this;grind
def aBL (l:List QI):Prop:=l=[]\/∃(x z:Rat) (d:Int),l=[(x,d),(z,-d)]/\(d=1/\z<=x\/d= -1/\x<=z)
theorem xE {a b c:Int×Int}{y:Rat}(hD:0<=Jp a b c)(h1:y≠(a.2:Rat))(h2:y≠(b.2:Rat))(h3:y≠(c.2:Rat)):aBL ([(a,b),(b,c),(c,a)].filterMap (Do y)):=by
 have A1:0<=Jp b c a:=by rw[Ub a b c];exact hD
 have A0:0<=Jp c a b:=by rw[Ub b c a,Ub a b c];exact hD
 have sw:∀{p q:Int×Int},((p.2:Rat)<y/\y<(q.2:Rat))\/((q.2:Rat)<y/\y<(p.2:Rat))->Di q.1 q.2 p.1 p.2 y=Di p.1 p.2 q.1 q.2 y:=fun h=>hF (fun e=>by rw[e]at h;grind) y
 rcases(show((a.2:Rat)<y\/y<(a.2:Rat))/\((b.2:Rat)<y\/y<(b.2:Rat))/\((c.2:Rat)<y\/y<(c.2:Rat))by grind)with⟨ga|ga,gb|gb,gc|gc⟩
 ·exact .inl (by rw[List.filterMap_cons,Gt (.inl ⟨ga,gb⟩),List.filterMap_cons,Gt (.inl ⟨gb,gc⟩),List.filterMap_cons,Gt (.inl ⟨gc,ga⟩)];rfl)
 ·exact .inr ⟨_,_,1,by rw[List.filterMap_cons,Gt (.inl ⟨ga,gb⟩),List.filterMap_cons,Zi ⟨gb,gc⟩,List.filterMap_cons,Np ⟨ga,gc⟩];rfl,.inl ⟨rfl,by
   have:=(Ks A0 (.inr ⟨gc,ga,gb⟩)).2 gc;rw[sw (p:=c) (q:=b) (.inr ⟨gb,gc⟩)];exact this⟩⟩
 ·exact .inr ⟨_,_,1,by rw[List.filterMap_cons,Zi ⟨ga,gb⟩,List.filterMap_cons,Np ⟨gc,gb⟩,List.filterMap_cons,Gt (.inl ⟨gc,ga⟩)];rfl,.inl ⟨rfl,by
   have:=(Ks A1 (.inr ⟨gb,gc,ga⟩)).2 gb;rw[sw (p:=b) (q:=a) (.inr ⟨ga,gb⟩)];exact this⟩⟩
 ·exact .inr ⟨_,_,1,by rw[List.filterMap_cons,Zi ⟨ga,gb⟩,List.filterMap_cons,Gt (.inr ⟨gb,gc⟩),List.filterMap_cons,Np ⟨ga,gc⟩];rfl,.inl ⟨rfl,by
   have:=(Ks hD (.inl ⟨ga,gb,gc⟩)).1 ga;rw[sw (p:=a) (q:=c) (.inl ⟨ga,gc⟩)];exact this⟩⟩
 ·exact .inr ⟨_,_,-1,by rw[List.filterMap_cons,Np ⟨gb,ga⟩,List.filterMap_cons,Gt (.inl ⟨gb,gc⟩),List.filterMap_cons,Zi ⟨gc,ga⟩];rfl,.inr ⟨rfl,by
   have:=(Ks hD (.inr ⟨ga,gb,gc⟩)).2 ga;rw[sw (p:=a) (q:=c) (.inr ⟨gc,ga⟩)];exact this⟩⟩
 ·exact .inr ⟨_,_,-1,by rw[List.filterMap_cons,Np ⟨gb,ga⟩,List.filterMap_cons,Zi ⟨gb,gc⟩,List.filterMap_cons,Gt (.inr ⟨gc,ga⟩)];rfl,.inr ⟨rfl,by
   have:=(Ks A1 (.inl ⟨gb,gc,ga⟩)).1 gb;rw[sw (p:=b) (q:=a) (.inl ⟨gb,ga⟩)];exact this⟩⟩
 ·exact .inr ⟨_,_,-1,by rw[List.filterMap_cons,Gt (.inr ⟨ga,gb⟩),List.filterMap_cons,Np ⟨gc,gb⟩,List.filterMap_cons,Zi ⟨gc,ga⟩];rfl,.inr ⟨rfl,by
   have:=(Ks A0 (.inl ⟨gc,ga,gb⟩)).1 gc;rw[sw (p:=c) (q:=b) (.inl ⟨gc,gb⟩)];exact this⟩⟩
 exact .inl (by rw[List.filterMap_cons,Gt (.inr ⟨ga,gb⟩),List.filterMap_cons,Gt (.inr ⟨gb,gc⟩),List.filterMap_cons,Gt (.inr ⟨gc,ga⟩)];rfl)
theorem lS {px:Int}{x z:Rat}(h:x<=z):Fg ((px:Int):Rat) ((px+256:Int):Rat) (x,z)=Jr (z-((px:Int):Rat))-Jr (x-((px:Int):Rat)):=by
  unfold Fg Jr;rw[Rat.intCast_add,show((256:Int):Rat)=256 from rfl];dsimp only
  generalize ((px:Int):Rat)=p at*;grind
theorem xB {rule px:Int}{l:List QI}(hr:rule=1\/rule=2)(h:aBL l):Dw ((px:Int):Rat) ((px+256:Int):Rat) (Xx rule (Gy 0 (Stb.stab pS l)))=(l.map fun m=>(m.2:Rat)*Jr (m.1-((px:Int):Rat))).sum:=by
 rcases h with rfl|⟨x,z,d,rfl,h⟩
 ·rfl
 have hd:d=1\/d= -1:=ω;have h1:Jm (0+d) rule=true:=by rw[Int.zero_add];exact vC hr hd
 have h2:Jm (0+ -d) rule=true:=by rw[Int.zero_add];exact vC hr (ω)
 have es:([(x,d),(z,-d)].map fun m:QI=>(m.2:Rat)*Jr (m.1-((px:Int):Rat))).sum=(d:Rat)*(Jr (x-((px:Int):Rat))-Jr (z-((px:Int):Rat))):=by
  rw[List.map_cons,List.map_cons,List.map_nil,List.sum_cons,List.sum_cons,List.sum_nil];dsimp only
  rw[Rat.intCast_neg];grind
 rw[es];show Dw _ _ (Xx rule (Gy 0 (Stb.ins pS [(x,d)] (z,-d))))=_;unfold Stb.ins;by_cases c:pS (z,-d) (x,d)=true
 ·rw[if_pos c]
  have c1:z<=x:=by rcases Jz.1 c with g|g;exact Rat.le_of_lt g;rw[show z=x from g.1];exact Rat.le_refl
  unfold Xx Gy Gy;rw[List.filter_cons,if_pos h2];show Dw _ _ [(z,x)]=_;rw[Ce,Eo,lS c1];rcases h with⟨rfl,_⟩|⟨rfl,k⟩
  ·show _=(1:Rat)*_;grind
  have:x=z:=Rat.le_antisymm k c1;subst this;grind
 rw[if_neg c];have c1:x<=z:=Rat.not_lt.1 (fun h=>c (Jz.2 (.inl h)));unfold Stb.ins Xx Gy Gy;rw[List.filter_cons,if_pos h1];show Dw _ _ [(x,z)]=_;rw[Ce,Eo,lS c1];rcases h with⟨rfl,k⟩|⟨rfl,_⟩
 ·have:x=z:=Rat.le_antisymm c1 k
  subst this;grind
 show _=((-1:Int):Rat)*_;rw[show((-1:Int):Rat)= -1 from rfl];grind
def sW (px:Int)(y:Rat)(e:Cg):Rat:=match Do y e with|some m=>(m.2:Rat)*Jr (m.1-((px:Int):Rat))|none=>0
theorem aBW {px:Int}{e:Cg}(h:e.1.2<e.2.2)(y:Rat):sW px y e=rL px e y:=by
  have k:((e.1.2:Int):Rat)<((e.2.2:Int):Rat):=by exact_mod_cast h
  unfold sW rL Do;rw[show min e.1.2 e.2.2=e.1.2 by omega,show max e.1.2 e.2.2=e.2.2 by omega];by_cases c:((e.1.2:Int):Rat)<y/\y<((e.2.2:Int):Rat)
  · rw[if_pos c,if_pos ⟨ω,c⟩]
    show((1:Int):Rat)*_=_;unfold Fx cC;rw[show((1:Int):Rat)=1 from rfl];grind
  rw[if_neg c,if_neg (fun g=>by grind),if_neg (fun g=>c g.2)]
theorem aBY {px:Int}{e:Cg}(h:e.2.2<e.1.2)(y:Rat):sW px y e= -rL px e y:=by
 have k:((e.2.2:Int):Rat)<((e.1.2:Int):Rat):=by exact_mod_cast h
 unfold sW rL Do;rw[show min e.1.2 e.2.2=e.2.2 by omega,show max e.1.2 e.2.2=e.1.2 by omega];by_cases c:((e.2.2:Int):Rat)<y/\y<((e.1.2:Int):Rat)
 ·rw[if_neg (fun g=>by grind),if_pos c,if_pos ⟨ω,c⟩]
  show((-1:Int):Rat)*_=_;unfold Fx cC;rw[show((-1:Int):Rat)= -1 from rfl];grind
 rw[if_neg (fun g=>by grind),if_neg c,if_neg (fun g=>c g.2)];grind
theorem aBX {px:Int}{e:Cg}(h:e.1.2=e.2.2)(y:Rat):sW px y e=0:=by
  unfold sW Do;rw[h,if_neg (fun g=>by grind),if_neg (fun g=>by grind)]
theorem gR (W:Rat->Rat):∀l:List Rat,Be (fun y=> -W y) l= -Be W l
  | []=>by show(0:Rat)= -0;grind
  | [_]=>by show(0:Rat)= -0;grind
  | x::y::l=>by
    show-W ((x+y)/2)*(y-x)+Be _ (y::l)= -(W ((x+y)/2)*(y-x)+Be W (y::l));rw[gR W (y::l)];grind
theorem wI {px py:Int}{rs:List Ai}{e:Cg}(k:Lk (px,py) (px+256,py+256) rs)(he:e∈Dc rs):
  Be (fun y=>sW px y e) (Dn (px,py) (px+256,py+256) rs)=Wy (px,py) e:=by
 unfold Wy;rcases Int.lt_trichotomy e.1.2 e.2.2 with h|h|h
 ·rw[if_pos h,show(fun y=>sW px y e)=rL px e from funext fun y=>aBW h y]
  exact Zo k he (ω)
 ·rw[if_neg ω,if_neg ω]
  exact Ky (fun y=>aBX h y) _
 rw[if_neg ω,if_pos h,show(fun y=>sW px y e)=fun y=> -rL px e y from funext fun y=>aBY h y,gR,Zo k he ω]
theorem gQ {α:Type}{g:Rat->α->Rat}(L:List Rat):∀l:List α,(l.map fun e=>Be (fun y=>g y e) L).sum=Be (fun y=>(l.map (g y)).sum) L
  | []=>(Ky (fun _=>rfl) L).symm
  | e::l=>by
    rw[List.map_cons,List.sum_cons,gQ L l];exact(gS (fun y=>by rw[List.map_cons,List.sum_cons]) L).symm
theorem uZ {α β:Type}(f:α->Option β)(g:β->Rat):∀l:List α,((l.filterMap f).map g).sum=(l.map fun e=>match f e with|some m=>g m|none=>0).sum
  | []=>rfl
  | e::l=>by
    rw[List.filterMap_cons,List.map_cons,List.sum_cons,<-uZ f g l];cases f e with
    |none=>show _=(0:Rat)+_;grind
    |some m=>rw[List.map_cons,List.sum_cons]
theorem Wl {W U:Rat->Rat}:∀{l:List Rat},(∀(i:Nat) (p q:Rat),l[i]?=some p->l[i+1]?=some q->W ((p+q)/2)=U ((p+q)/2))->Be W l=Be U l
  | [],_=>rfl
  | [_],_=>rfl
  | x::y::l,h=>by
    show W ((x+y)/2)*(y-x)+Be W (y::l)=U ((x+y)/2)*(y-x)+Be U (y::l);rw[h 0 x y rfl rfl,Wl (l:=y::l) fun i p q h1 h2=>h (i+1) p q (by simpa using h1) (by simpa using h2)]
theorem xD {rule px py:Int}{a b c:Int×Int}(hr:rule=1\/rule=2)(k:Lk (px,py) (px+256,py+256) [[a,b,c]])(hD:0<=Jp a b c):
  Hl (px,py) (Bk [[a,b,c]])=Il rule (px,py) (px+256,py+256) [[a,b,c]]:=by
 have A1:=Me k;rw[Wn (show py<py+256 by omega) (show px<=px+256 by omega),Jg];have hm:(Bk [[a,b,c]]).map (Wy (px,py))=(Bk [[a,b,c]]).map fun e=>Be (fun y=>sW px y e) (Dn (px,py) (px+256,py+256) [[a,b,c]]):=
  List.map_congr_left fun e he=>(wI k (by rw[Hu k.1];exact he)).symm
 rw[hm,gQ];refine Wl fun i p q hp hq=> ?_
 have A2:p<q:=by
  obtain⟨g1,rfl⟩:=List.getElem?_eq_some_iff.1 hp;obtain⟨g2,rfl⟩:=List.getElem?_eq_some_iff.1 hq;exact List.pairwise_iff_getElem.1 A1.srt _ _ g1 g2 (ω)
 have md:=jG A2;have ne:∀v:Int×Int,v∈[a,b,c]->(p+q)/2≠(v.2:Rat):=fun v hv e=>gap k hp hq md.1 md.2 (by rw[e];exact Uu eQQ hv _ _)
 have A0:=xE hD (ne a (by simp)) (ne b (by simp)) (ne c (by simp));generalize (p+q)/2=y at*;rw[rS,Jk,Hu k.1,jX,Xm];have h1:=xB (px:=px) hr A0;rw[h1,<-Xm,uZ];exact congrArg List.sum (List.map_congr_left fun e _=>by unfold sW;cases Do y e<;>rfl)
theorem vZ {x y:Int}(hx: -4096<=x/\x<=4096)(hy: -4096<=y/\y<=4096):Bg x y=(x*256,y*256):=by
  unfold Bg Nv;rw[if_neg (by simp;omega)]
theorem aEP {x y:Int}(hx: -4096<=x/\x<4096)(hy: -4096<=y/\y<4096):Bg x y=(x*256,y*256)/\Ix x y=(x*256+256,y*256+256):=by
  have h1:Bg x y=(x*256,y*256):=vZ ⟨ω,ω⟩ ⟨ω,ω⟩;refine⟨h1,?_⟩;unfold Ix;rw[h1,if_pos (by show Dd (x*256) (y*256)=true;rw[Vf];omega),vZ ⟨ω,ω⟩ ⟨ω,ω⟩];rw[show(x+1)*256=x*256+256 by omega,show(y+1)*256=y*256+256 by omega]
theorem mT {rule x y:Int}{a b c:Int×Int}(hr:rule=1\/rule=2)(hok:Fm [[a,b,c]]=true)(hD:0<=Jp a b c)(hx: -4096<=x/\x<4096)(hy: -4096<=y/\y<4096):
  Kw (Hq [[a,b,c]] (x*256,y*256))=Gq rule [[a,b,c]] x y/\0<=Hq [[a,b,c]] (x*256,y*256):=by
 have k:=aEP hx hy;have p1:Du (x*256,y*256):=by show Dd _ _=true;rw[Vf];dsimp only;omega
 have p2:Du (x*256+256,y*256+256):=by show Dd _ _=true;rw[Vf];dsimp only;omega
 have ev:Lk (x*256,y*256) (x*256+256,y*256+256) [[a,b,c]]:=⟨hok,p1,p2,by show y*256<y*256+256;omega⟩;have hs:=xD hr ev hD;have h0:Gv rule (Bg x y) (Ix x y) [[a,b,c]]=0:=by rw[k.1,k.2];exact Ro.2 ⟨hok,hr,p1,p2⟩
 constructor
 ·unfold Gq Hq
  rw[if_pos h0,hs,k.1,k.2]
 unfold Hq;rw[hs,Wn (show y*256<y*256+256 by omega) (show x*256<=x*256+256 by omega)];have h1:=mW (W:=Iv rule (x*256,y*256) (x*256+256,y*256+256) [[a,b,c]]) (fun y=>Zv y) (Me ev).srt;rw[Rat.div_def];exact Rat.mul_nonneg h1 (by decide+kernel)
theorem wA {x y:Int}{a b c:Int×Int}(h:0<=Hq [[a,b,c]] (x*256,y*256)):Kw (Hq [[c,b,a]] (x*256,y*256))=0:=by
  have h1:=dN (x*256,y*256) [[a,b,c]];rw[show[[a,b,c]].map List.reverse=[[c,b,a]]from rfl]at h1;unfold Kw;rw[h1,if_pos (by grind)]
theorem aAF (a b c:Int×Int):Lv [a,b,c] 3=Jp a b c:=by
  have e:Lv [a,b,c] 3=cr a b+cr b c+cr c a:=by
    show(List.map _ [0,1,2]).sum=_;simp[Pw];omega
  rw[e];unfold cr Jp;grind
theorem yG (a b c:Int×Int):Pu [a,b,c]=[]\/∃p q r,Pu [a,b,c]=[p,q,r]/\0<=Jp p q r/\Fm [[p,q,r]]=true:=by
 by_cases h:Fm [[a,b,c]]=true
 ·have hd:Nx [a,b,c]=Jp a b c:=by
   unfold Nx;rw[if_pos h];exact aAF a b c
  unfold Pu;rw[hd];by_cases h1:0<Jp a b c
  ·rw[if_pos h1];exact .inr ⟨a,b,c,rfl,ω,h⟩
  rw[if_neg h1];by_cases h2:Jp a b c<0
  ·rw[if_pos h2]
   refine .inr ⟨a,c,b,rfl,by rw[nJ];omega,?_⟩;unfold Fm at h⊢;rw[hZZ]at h⊢;refine⟨h.1,?_⟩;have h3:=h.2;simp[De]at h3⊢;exact⟨h3.1,h3.2.2,h3.2.1⟩
  rw[if_neg h2];exact .inl rfl
 have hd:Nx [a,b,c]=0:=if_neg h;unfold Pu;rw[hd,if_neg (by decide),if_neg (by decide)];exact .inl rfl
end
end Go.Proofs.YtlipfipniibpoabGreat
