import Derived.Test.YtlipfipniibpoaaGreatRows
import Derived.Test.YtlipfipniibpoaaGreatM8
import Derived.Laws.BytesArg
import Derived.ProofKit
import Derived.OpenShut
import Derived.Below
import Derived.Deep.Slices
import Derived.Lib.SmallJoins
import Derived.ChangeSlices
import Derived.Deep.LoopGhost
import Derived.Deep.DeepCutAuto
set_option maxRecDepth 100000
set_option maxHeartbeats 4000000
namespace Go.Proofs.YtlipfipniibpoaaGreat
open Go.RowKit
open Go.Proofs.Tryz
section
attribute [local go_sem ↓] Go.wp_at_zero Go.wp_at_succ Aq An
theorem dW(px py a b w)(hp:(-1048576<=px/\px<=1048320)/\ -1048576<=py/\py<=1048320)(oa:Dy a)(ob:Dy b):
  Calls prog 83 #[.agg #[iV px,iV py],.agg #[iV a.1,iV a.2],.agg #[iV b.1,iV b.2]] w fun e w'=>∃r:RV,e= .returned (rg r)/\r.Is w' (Fi (px,py) a b)/\Aa w w':=by
 have C4:=zH oa;have C3:=zH ob;have ka:=Bi oa;have kb:=Bi ob;clear oa ob;go_enter func83,ntmps83
 have H0:=zH (Hp.start w);go_upto_region 0 with fail;apply wl;apply Ca 68 [iV px,iV py] H0.1;intro X1 w2 H3 _;apply Ca 52 [iV a.1,iV a.2] H3.1;intro X6 w7 H8 _;apply Ca 52 [iV b.1,iV b.2] H8.1;intro L8 W2 V1 _;refine Ca 26 rz V1.1 ?_;intro Q8 S8 O5 _;go_upto_region 1 with fail;refine zy ?_;have V0:=zH (O5.1.step (Aa.refl S8).drew);refine xY O5.1 zb (bs 18 255) 0 1 2 3 4 5 6 7 _ _ _ _ _ _ (iV (min a.2 b.2)) (iV (max py (min a.2 b.2))) ?_;refine tX O5.1 zb (bs 18 32255) 8 10 11 12 13 14 _ _ _ _ _ (iV (max a.2 b.2)) ?_;refine mC 9 (bs 18 32767) (iR px py _ ⟨⟨ω,ω⟩,ω,ω⟩) ?_;rintro e Q5 ⟨rfl,hx⟩;have D2:=zH (V0.1.step hx);have R0:=zH (zb.trans hx);clear hx;apply zm R0.1;refine iT Ah R0.1 (bs 18 262143) 15 16 17 (iV (min (py+256) (max a.2 b.2))) (iV (max py (min a.2 b.2))) (iV (min (py+256) (max a.2 b.2))) ?_;refine wpAnyH_done kR ?_ _;obtain⟨lo,L3⟩:∃lo,max py (min a.2 b.2)=lo:=⟨_,rfl⟩;obtain⟨hi,L4⟩:∃hi,min (py+256) (max a.2 b.2)=hi:=⟨_,rfl⟩;rw[L3,L4];have K0:=zH (show Lu (px,py).2 a b=lo from L3);have K1:=zH (show Lv (px,py).2 a b=hi from L4);have W4: -1048576<=lo/\lo<=1048576/\ -1048576<=hi/\hi<=1048576:=ω
 have N5:=zH (show min a.2 b.2<=lo/\hi<=max a.2 b.2 by omega);clear L3 L4;rcases Cl (hi<=lo)with H1|H1
 ·go_upto_region 2 with fail
  apply wl;refine Cc Ah (iV lo) (iV hi) ?_;apply zp τ (by exact Lj (e:=(Ar H1.1)));refine Hz Ah τ _ _ _ _ _ _ _ ?_;refine zk ?_;apply zq τ;go_upto_region 3 with fail;apply wl;refine zc (Cy 0 _ ω ω) ?_;rintro e W1 ⟨c_,rfl,A6,hx⟩;have U9:=zH (D2.1.step hx);obtain⟨C1,rfl,A1⟩:=A6;have T9:=zH A1;clear A1 hx;refine zn ?_;apply Cm 3 (rc C1) U9.1;intro W0 S2 V4;go_wp2_with fail
  refine bodyPost_ret (v:= (rg C1)) ?_ rfl ⟨C1,rfl,(show Fi (px,py) a b=(((0):Int):Rat)from(by unfold Fi;rw[K0.1,K1.1];exact if_pos (.inl H1.1)))▸(T9.1.dig V4.1),S2.1.ext⟩;exact Ak rfl rfl ((S2.1.blk (i:=3) rR).loadVar rfl rfl rR)
 rcases Cl (max a.1 b.1<=px)with H2|H2
 ·go_upto_region 2 with fail
  apply wl;refine Cc Ah (iV lo) (iV hi) ?_;apply zp φ (by exact Lj (e:=(Af H1.1)));refine Hz D2.1 φ _ _ _ _ (iV (max a.1 b.1)) _ _ ?_;apply zp τ (by exact Og (e:=(Ar H2.1)));apply zq τ;go_upto_region 3 with fail;apply wl;refine zc (Cy 0 _ ω ω) ?_;rintro e V9 ⟨c_,rfl,A6,hx⟩;have U8:=zH (D2.1.step hx);obtain⟨C0,rfl,A1⟩:=A6;have T8:=zH A1;clear A1 hx;refine zn ?_;apply Cm 3 (rc C0) U8.1;intro V8 S1 V3;go_wp2_with fail
  refine bodyPost_ret (v:= (rg C0)) ?_ rfl ⟨C0,rfl,(show Fi (px,py) a b=(((0):Int):Rat)from(by unfold Fi;rw[K0.1,K1.1];exact if_pos (.inr H2.1)))▸(T8.1.dig V3.1),S1.1.ext⟩;exact Ak rfl rfl ((S1.1.blk (i:=3) rR).loadVar rfl rfl rR)
 go_upto_region 2 with fail;apply wl;apply qV (iV lo);apply zq (iV hi);apply zp φ (by exact Lj (e:=(Af H1.1)));refine Hz D2.1 φ _ _ _ _ (iV (max a.1 b.1)) _ _ ?_;apply zp φ (by exact Og (e:=(Af H2.1)));apply zq φ;rcases Cl (px+256<=min a.1 b.1)with H3|H3
 ·go_upto_region 4 with fail
  refine zy ?_;have U7:=zH (D2.1.step (Aa.refl Q5).drew);refine tX D2.1 zb (bs 8 63) 0 1 2 3 4 5 _ _ _ _ (iV (min a.1 b.1)) _ ?_;refine mC 6 (bs 8 127) (Qq px py _ ⟨⟨ω,ω⟩,ω,ω⟩) ?_;rintro e V7 ⟨rfl,hx⟩;have U6:=zH (U7.1.step hx);have Q9:=zH (zb.trans hx);clear hx;apply zm Q9.1;refine zu 7 (bs 8 255) (v:= .bool true) Q9.1 ?_ (hv:=by intro w D7;exact Lj (e:=(Ar H3.1)));refine wpAnyH_done kR ?_ _;go_upto_region 5 with fail
  apply wl;refine Cc Ah (iV hi) (iV lo) ?_;apply zp (iV (hi-lo)) (by exact Rh (by have L2:=(show lo<hi from Int.not_le.1 H1.1);omega));apply zp (iV (256*(hi-lo))) (by exact aG (by have L2:=(show lo<hi from Int.not_le.1 H1.1);omega));refine zc (Cy (256*(hi-lo)) _ (by have L2:=(show lo<hi from Int.not_le.1 H1.1);omega) (by have L2:=(show lo<hi from Int.not_le.1 H1.1);omega)) ?_;rintro e V6 ⟨c_,rfl,A6,hx⟩;have U5:=zH (U6.1.step hx);obtain⟨B9,rfl,A1⟩:=A6;have T7:=zH A1;clear A1 hx;refine zn ?_;apply Cm 3 (rc B9) U5.1;intro V5 S0 V2;go_wp2_with fail
  refine bodyPost_ret (v:= (rg B9)) ?_ rfl ⟨B9,rfl,(show Fi (px,py) a b=((256*(hi-lo):Int):Rat)from(by unfold Fi;rw[K0.1,K1.1];exact(if_neg (fun h_=>by have D8:=H1.1;have D1:=H2.1;omega)).trans (if_pos H3.1)))▸(T7.1.dig V2.1),S0.1.ext⟩;exact Ak rfl rfl ((S0.1.blk (i:=3) rR).loadVar rfl rfl rR)
 go_upto_region 4 with fail;refine zy ?_;have P2:=zH (D2.1.step (Aa.refl Q5).drew);refine tX D2.1 zb (bs 8 63) 0 1 2 3 4 5 _ _ _ _ (iV (min a.1 b.1)) _ ?_;refine mC 6 (bs 8 127) (Qq px py _ ⟨⟨ω,ω⟩,ω,ω⟩) ?_;rintro e T2 ⟨rfl,hx⟩;have P1:=zH (P2.1.step hx);have G5:=zH (zb.trans hx);clear hx;apply zm G5.1;refine zu 7 (bs 8 255) (v:= .bool false) G5.1 ?_ (hv:=by intro w D7;exact Lj (e:=(Af H3.1)));refine wpAnyH_done kR ?_ _;go_upto_region 6 with fail
 apply wl;refine zc (Cy 0 _ ω ω) ?_;rintro e T1 ⟨c_,rfl,A6,hx⟩;have P0:=zH (P1.1.step hx);obtain⟨D6,rfl,A1⟩:=A6;have N4:=zH A1;clear A1 hx;refine zn ?_;refine Ca 26 rz P0.1 ?_;intro A5 T0 O9 Q1;apply Cm 4 (rc D6) O9.1;intro S9 H7 Q0;go_upto_region 7 with fail
 apply wl;refine Lt H7.1 _ _ _ (iV lo) (iV hi) ?_;refine zc (wD px py a b lo hi _ hp C4.1 C3.1 ⟨ω,ω⟩ ⟨ω,ω⟩) ?_;rintro e F7 ⟨Ap,nn,cp,ep,rfl,D8,B3,D1,D0,hx⟩;have R9:=zH D8;have E2:=zH D1;have R8:=zH D0;have HA:=zH (show 0<nn->∃g,Ap=some ⟨g,0,none⟩from by obtain⟨A_,c_,e_,k_⟩:=Bg.form B3;injection e_ with e1_ e2_ e3_;subst e1_;exact k_);have H6:=zH (show Hp w F7 [.blk X1 68 [iV px,iV py],.blk X6 52 [iV a.1,iV a.2],.blk L8 52 [iV b.1,iV b.2],.blk Q8 26 rz,.blk A5 26 (rc D6),ro 26 4 Ap nn cp Ba.cells ep]from H7.1.addRow hx B3);have P9:=zH (Ac.of_ext hx);clear B3 D8 D1 D0 hx;refine zn ?_;refine Cg Ah _ ?_;go_upto_region 8 with fail
 apply wl;apply zq (iV 0);have J9:=zH (show nn=ep.length/\nn<=4 from⟨R9.1,by rw[R9.1,<-fXX (f:=Ba.q),E2.1];exact Tc _ _ _ _ _⟩);have W3:=J9.1.2;have J8:=zH (show∀z,z∈(Em px a b lo hi)->Nm.rl z<=20 from fun z hz=>iB hz C4.1 C3.1 ⟨ω,ω⟩ ⟨ω,ω⟩ hp.1);have R7:=zH (show∀z,z∈(Em px a b lo hi)->((min a.2 b.2:Int):Rat)<=z/\z<=((max a.2 b.2:Int):Rat)from fun z hz=>by have D8:=aB hz (by have:=H1.1;omega);have D1:((min a.2 b.2:Int):Rat)<=((lo:Int):Rat):=(by exact_mod_cast N5.1.1);have D0:((hi:Int):Rat)<=((max a.2 b.2:Int):Rat):=(by exact_mod_cast N5.1.2);exact⟨Rat.le_trans D1 D8.1,Rat.le_trans D8.2 D0⟩);have R6:=zH (show a.2≠b.2 from fun h_=>by have D1:=N5.1;have D0:=H1.1;omega);have U4:=zH (show∀k,Nm.rl (Ey (Jk px a b) ((Em px a b lo hi).take k))<=486 from fun k=>by have h_:=Pr (F:=(Jk px a b)) (C:=120) (l:=(Em px a b lo hi).take k) (fun x hx y hy=>fI C4.1 C3.1 (J8.1 x (List.mem_of_mem_take hx)) (J8.1 y (List.mem_of_mem_take hy)) ⟨ω,ω⟩);have D1:=Tc px a b lo hi;have D0:((Em px a b lo hi).take k).length<=4:=(by rw[eQQ];omega);have W6:=gQQ (120+1) D0;omega);have I5:=tD (tD Q1 Q0) P9;go_wp2_with fail
 go_loopg [11] (nn) (fun cq K9 wr=>∃(i:Nat) (A0:RV),cq=nn-i/\K9= iV (i:Int)/\(i<nn)/\(A0.Is wr (Ey (Jk px a b) ((Em px a b lo hi).take (i+1))))/\Hp w wr [.blk X1 68 [iV px,iV py],.blk X6 52 [iV a.1,iV a.2],.blk L8 52 [iV b.1,iV b.2],.blk Q8 26 [.bool false,.slice none 0 0,.bool false,.slice none 0 0],.blk A5 26 (rc A0),.row 26 4 (.slice Ap nn cp) (nn) (List.flatMap Ba.cells ep)]/\Ac F7 wr)
 case atStart=>exact⟨0,D6,rfl,rfl,(by rw[J9.1.1,<-fXX (f:=Ba.q),E2.1];exact wC _ _ _ _ _),(by have h_:Ey (Jk px a b) ((Em px a b lo hi).take 1)=(((0):Int):Rat):=Xs _ _;rw[h_];exact(N4.1.dig I5.1)),H6.1,Ac.refl _⟩
 obtain⟨i,A0,rfl,rfl,C8,G0,Q6,Q7⟩:=hrel;generalize wr=B1 at*;have U3:=zH C8;clear C8;have RZ:=zH G0;clear G0;have B2:=zH Q6;have P8:=zH Q7;clear Q6 Q7 H6;have BZ:=zH (U4.1 (i+1));rcases Cl (i+1<nn)with HLT|HLT
 ·have J7:=HLT.1
  have hj:i<nn:=ω;obtain⟨gp,rfl⟩:=HA.1 ω;have T5:=J9.1.1;obtain⟨xe,C2⟩:∃e,ep[i]?=some e:=⟨_,aQQ ω⟩;obtain⟨ye,J6⟩:∃e,ep[i+1]?=some e:=⟨_,aQQ ω⟩;have HX:=zH C2;have HY:=zH J6;have G7:=zH (R8.1 xe (bZZ C2)).1;have R5:=zH (show xe.q∈(Em px a b lo hi)from by rw[<-E2.1];exact List.mem_map_of_mem (bZZ C2));have B7:=zH (J8.1 _ R5.1);have R3:=zH (R7.1 _ R5.1);have U1:=zH (Rl (px:=px) (Jb C4.1 C3.1 B7.1) ⟨ω,ω⟩);have G6:=zH (R8.1 ye (bZZ J6)).1;have R2:=zH (show ye.q∈(Em px a b lo hi)from by rw[<-E2.1];exact List.mem_map_of_mem (bZZ J6));have B6:=zH (J8.1 _ R2.1);have R1:=zH (R7.1 _ R2.1);have U0:=zH (Rl (px:=px) (Jb C4.1 C3.1 B6.1) ⟨ω,ω⟩);have U2:=zH (Oa (Jk px a b) (Em px a b lo hi) i xe.q ye.q (by rw[<-E2.1,kXX,HX.1];rfl) (by rw[<-E2.1,kXX,HY.1];rfl));clear C2 J6 T5;go_upto_region 9 with fail
  apply wl;apply zq (iV (i:Int));apply zp (iV ((i+1:Nat):Int)) (by exact Gm ω);refine Cc Ah _ (iV (nn:Int)) ?_;apply zp τ (by exact Df (e:=(Ar ω)));go_upto_region 11 with fail;refine zy ?_;have E6:=zH (B2.1.step (Aa.refl B1).drew);have J0:=zH (Ac.of_ext (w:=B1) zb);refine zg 0 (bs 13 1) X6 (0) [iV a.1,iV a.2] (B2.1.range (i:=1) rR 0 2) underlying52 zb ?_;refine zg 1 (bs 13 3) L8 (0) [iV b.1,iV b.2] (B2.1.range (i:=2) rR 0 2) underlying52 zb ?_;refine Sh Ah zb (bs 13 15) 2 3 _ (iV (i:Int)) ?_;refine zo 4 (bs 13 31) (v:= .pointer (some ⟨gp,i*4,none⟩)) zb ?_ (hv:=by intro w D7;exact Gw (k:=i) underlying105 (l:=hj) (f:=(cXX _).symm));refine zg 5 (bs 13 63) gp (i*4) (rc xe.a) (B2.1.elem (f:=Ba.cells) (i:=5) rR Ba.len HX.1) underlying26 zb ?_;refine gG 10 (some 12) 26 rz B1 E6.1 ?_;have D4:=tD P8 J0;refine gL 6 (bs 13 1087) (bs 13 127) zb.size E6.1 zb (fun xq A4=>St 20 a.1 a.2 b.1 b.2 _ xe.q _ (RV.Is.nin (G7.1.dig (D4.1.trans (Ac.of_ext A4))) B7.1) dC dC C4.1 C3.1 R6.1 R3.1.1 R3.1.2) (by rintro x_ e J5 ⟨c_,rfl,A6,hx⟩;exact hx) ?_;rintro xq e K8 A4 ⟨c_,rfl,A6,hx⟩;replace hx:=A4.trans hx;clear A4;have O8:=zH (E6.1.step hx);have I9:=zH (show Ac B1.drew K8 from Ac.of_ext hx);have B5:=zH (zb.trans hx);obtain⟨F9,rfl,A1⟩:=A6;have N3:=zH A1;have Q4:=zH (Jb (L:=20) C4.1 C3.1 B7.1);clear A1 hx;refine⟨_,rfl,?_⟩;try simp only[ζ]
  refine gK 7 (bs 13 1151) (bs 13 255) _ B5.1 ?_;refine gK 8 (bs 13 1279) (bs 13 511) _ B5.1 ?_;refine gK 9 (bs 13 1535) (bs 13 1023) τ B5.1 ?_;refine gE (bs 13 2047) B5.1.size O8.1 B5.1 ?_;intro L7 K7 hx hh hs C9;have O7:=hN hh;have F6:=zH (Ac.of_ext hx);have M5:=zH (show Aa B1 K7 from hs);have P5:=zH (show B1.heap.size<=L7 from C9);clear hh hx C9 hs;try simp only[ζ]
  refine bS 6 11 (bs 13 4095) (rc F9) O7.1 M5.1 P5.1 ?_;intro B0 E5 F5 M4;refine zx 12 (bs 13 8191) τ M4.1 ?_;refine wpAnyH_done kR ?_ _;go_upto_region 12 with fail;refine zy ?_;have E4:=zH (E5.1.step (Aa.refl B0).drew);have F4:=zH (Ac.of_ext (w:=B0) zb);refine oV E5.1 zb (bs 14 15) 0 1 2 3 _ _ _ (iV (i:Int)) ?_;refine zu 4 (bs 14 31) (v:= iV ((i+1:Nat):Int)) zb ?_ (hv:=by intro w D7;exact Gm ω);refine zo 5 (bs 14 63) (v:= .pointer (some ⟨gp,(i+1)*4,none⟩)) zb ?_ (hv:=by intro w D7;exact Gw (k:=i+1) underlying105 (l:=J7) (f:=(cXX _).symm));refine zg 6 (bs 14 127) gp ((i+1)*4) (rc ye.a) (E5.1.elem (f:=Ba.cells) (i:=5) rR Ba.len HY.1) underlying26 zb ?_;refine gG 11 (some 14) 26 rz B0 E4.1 ?_;have D3:=tD (tD (tD (tD D4 I9) F6) F5) F4;refine gL 7 (bs 14 2175) (bs 14 255) zb.size E4.1 zb (fun xq A4=>St 20 a.1 a.2 b.1 b.2 _ ye.q _ (RV.Is.nin (G6.1.dig (D3.1.trans (Ac.of_ext A4))) B6.1) dC dC C4.1 C3.1 R6.1 R1.1.1 R1.1.2) (by rintro x_ e J5 ⟨c_,rfl,A6,hx⟩;exact hx) ?_;rintro xq e K6 A4 ⟨c_,rfl,A6,hx⟩;replace hx:=A4.trans hx;clear A4;have O6:=zH (E4.1.step hx);have F3:=zH (show Ac B0.drew K6 from Ac.of_ext hx);have B4:=zH (zb.trans hx);obtain⟨F8,rfl,A1⟩:=A6;have N2:=zH A1;have Q3:=zH (Jb (L:=20) C4.1 C3.1 B6.1);clear A1 hx;refine⟨_,rfl,?_⟩;try simp only[ζ]
  refine gK 8 (bs 14 2303) (bs 14 511) _ B4.1 ?_;refine gK 9 (bs 14 2559) (bs 14 1023) _ B4.1 ?_;refine gK 10 (bs 14 3071) (bs 14 2047) τ B4.1 ?_;refine gE (bs 14 4095) B4.1.size O6.1 B4.1 ?_;intro L6 K5 hx hh hs C9;have O4:=hN hh;have C7:=zH (Ac.of_ext hx);have M3:=zH (show Aa B0 K5 from hs);have P4:=zH (show B0.heap.size<=L6 from C9);clear hh hx C9 hs;try simp only[ζ]
  refine bS 7 12 (bs 14 8191) (rc F8) O4.1 M3.1 P4.1 ?_;intro A9 H5 C6 M2;refine zx 13 (bs 14 16383) τ M2.1 ?_;refine wpAnyH_done kR ?_ _;go_upto_region 13 with fail;refine zy ?_;have E3:=zH (H5.1.step (Aa.refl A9).drew);have C5:=zH (Ac.of_ext (w:=A9) zb);refine oV H5.1 zb (bs 9 27) 0 1 3 4 _ _ _ _ ?_;refine gG 7 (some 16) 26 rz A9 E3.1 ?_;have I4:=tD (tD (tD (tD (tD (tD F6 F5) F4) F3) C7) C6) C5;refine gL 2 (bs 9 155) (bs 9 31) zb.size E3.1 zb (fun xq A4=>iW px py F9 (Cz a.1 a.2 b.1 b.2 xe.q) _ ⟨ω,ω⟩ (N3.1.dig (I4.1.trans (Ac.of_ext A4))) (Al Q4.1 dC)) (by rintro x_ e J5 ⟨L1,rfl,A1,hx⟩;exact hx) ?_;rintro xq e K4 A4 ⟨L1,rfl,A1,hx⟩;replace hx:=A4.trans hx;clear A4;have H4:=zH (E3.1.step hx);have F2:=zH (show Ac A9.drew K4 from Ac.of_ext hx);have E1:=zH (zb.trans hx);have N1:=zH A1;have J4:=zH (show Nm.rl (Fk px (Cz a.1 a.2 b.1 b.2 xe.q))<=31 from U1.1);clear A1 hx;refine⟨_,rfl,?_⟩;try simp only[ζ]
  have I3:=tD (tD (tD C7 C6) C5) F2;refine gL 5 (bs 9 159) (bs 9 63) E1.1.size H4.1 E1.1 (fun xq A4=>iW px py F8 (Cz a.1 a.2 b.1 b.2 ye.q) _ ⟨ω,ω⟩ (N2.1.dig (I3.1.trans (Ac.of_ext A4))) (Al Q3.1 dC)) (by rintro x_ e J5 ⟨L0,rfl,A1,hx⟩;exact hx) ?_;rintro xq e S7 A4 ⟨L0,rfl,A1,hx⟩;replace hx:=A4.trans hx;clear A4;have G9:=zH (H4.1.step hx);have F1:=zH (Ac.of_ext hx);have E0:=zH (E1.1.trans hx);have N0:=zH A1;have J3:=zH (show Nm.rl (Fk px (Cz a.1 a.2 b.1 b.2 ye.q))<=31 from U0.1);clear A1 hx;refine⟨_,rfl,?_⟩;try simp only[ζ]
  refine gL 6 (bs 9 191) (bs 9 127) E0.1.size G9.1 E0.1 (fun xq A4=>aAN (L:=60000) (RV.Is.nin (N1.1.dig (F1.1.trans (Ac.of_ext A4))) (Al J4.1 ω)) (RV.Is.nin (N0.1.dig (Ac.of_ext A4)) (Al J3.1 ω)) ω) (by rintro x_ e J5 ⟨c_,rfl,A6,hx⟩;exact hx) ?_;rintro xq e S6 A4 ⟨c_,rfl,A6,hx⟩;replace hx:=A4.trans hx;clear A4;have O3:=zH (G9.1.step hx);have I8:=zH (Ac.of_ext hx);have G4:=zH (E0.1.trans hx);obtain⟨A3,rfl,A1⟩:=A6;have M9:=zH A1;clear A1;have J2:=zH (show Nm.rl (((Fk px (Cz a.1 a.2 b.1 b.2 xe.q))+(Fk px (Cz a.1 a.2 b.1 b.2 ye.q)))/2)<=2*60+3 from gC (Al J4.1 (by decide)) (Al J3.1 (by decide)));clear hx;refine⟨_,rfl,?_⟩;try simp only[ζ]
  refine gE (bs 9 255) G4.1.size O3.1 G4.1 ?_;intro D9 K3 hx hh hs C9;have O2:=hN hh;have F0:=zH (Ac.of_ext hx);have M1:=zH (show Aa A9 K3 from hs);have P3:=zH (show A9.heap.size<=D9 from C9);clear hh hx C9 hs;try simp only[ζ]
  refine bS 8 8 (bs 9 511) (rc A3) O2.1 M1.1 P3.1 ?_;intro A2 A7 E9 T6;refine wpAnyH_done kR ?_ _;go_upto_region 14 with fail;refine wp_region_held_drew (S:=fun x=>Fr (fun kz=>kz=A5) A2 x) kR (Fr.of_ext zb) (fun _=> ?_);have O1:=zH (A7.1.step (Aa.refl A2).drew);have E8:=zH (Ac.of_ext (w:=A2) zb);refine zr 1 (bs 15 2) D9 (0) (rc A3) (fun x hx=>Fr.range hx (show World.rangeAt A2 D9 (0) (rc A3)from(A7.1.range (i:=8) rR 0 4)) (A7.1.offBlk (i:=8) (j:=4) rR rR dC rR)) underlying26 (Fr.of_ext zb) ?_;refine zx 2 (bs 15 6) (.slice (π gp) nn cp) (Fr.of_ext zb) ?_;refine zx 3 (bs 15 14) (iV (i:Int)) (Fr.of_ext zb) ?_;refine zu 4 (bs 15 30) (v:= iV ((i+1:Nat):Int)) (Fr.of_ext zb) ?_ (hv:=by intro w D7;exact Gm ω);refine zo 5 (bs 15 62) (v:= .pointer (some ⟨gp,(i+1)*4,none⟩)) (Fr.of_ext zb) ?_ (hv:=by intro w D7;exact Gw (k:=i+1) underlying105 (l:=J7) (f:=(cXX _).symm));refine zr 6 (bs 15 126) gp ((i+1)*4) (rc ye.a) (fun x hx=>Fr.range hx (show World.rangeAt A2 gp ((i+1)*4) (rc ye.a)from(A7.1.elem (f:=Ba.cells) (i:=5) rR Ba.len HY.1)) (A7.1.offBlk (i:=5) (j:=4) rR rR dC rR)) underlying26 (Fr.of_ext zb) ?_;refine zx 7 (bs 15 254) (.slice (π gp) nn cp) (Fr.of_ext zb) ?_;refine zx 8 (bs 15 510) (iV (i:Int)) (Fr.of_ext zb) ?_;refine zo 9 (bs 15 1022) (v:= .pointer (some ⟨gp,i*4,none⟩)) (Fr.of_ext zb) ?_ (hv:=by intro w D7;exact Gw (k:=i) underlying105 (l:=hj) (f:=(cXX _).symm));refine zr 10 (bs 15 2046) gp (i*4) (rc xe.a) (fun x hx=>Fr.range hx (show World.rangeAt A2 gp (i*4) (rc xe.a)from(A7.1.elem (f:=Ba.cells) (i:=5) rR Ba.len HX.1)) (A7.1.offBlk (i:=5) (j:=4) rR rR dC rR)) underlying26 (Fr.of_ext zb) ?_;refine Fd.go (j:=0) (dj:=some 102) (u:= (rg A0)) ?_;have B8:=tD (tD (tD (tD (tD (tD (tD (tD (tD (tD D3 F3) C7) C6) C5) F2) F1) I8) F0) E9) E8;refine Fg (b:=A2) (i:=11) (lj:=(bs 15 2047)) (li:=(bs 15 4094)) rR rR kR kR kR kR kR dC kR rR rR (fun x_ h_=>Fr.of_ext h_) (Aa.refl A2).drew (fun x_ h_=>Gs _ _ rR A5 (0) (rc A0) rR (Be (show World.rangeAt A2 A5 (0) (rc A0)from A7.1.range (i:=4) rR 0 4) h_) underlying26 rR kR) rR (by go_simp) kR (dJ (L:=60000) (RV.Is.nin (G6.1.dig B8.1) (Al B6.1 ω)) (RV.Is.nin (G7.1.dig B8.1) (Al B7.1 ω)) ω) ?_;rintro e D5 ⟨c_,rfl,A6,hx⟩;have O0:=zH (O1.1.step hx);have E7:=zH (show Ac A2.drew D5 from Ac.of_ext hx);have G1:=zH (show Aa A2 D5 from(Aa.refl A2).drew.trans hx);have M0:=zH (show Fr (fun kz=>kz=A5) A2 D5 from(Fr.of_ext zb).trans (Fr.of_ext hx));obtain⟨T4,rfl,A1⟩:=A6;have M8:=zH A1;clear A1;have J1:=zH (show Nm.rl (ye.q-xe.q)<=20+20+1 from by have h1:=B6.1;have h2:=B7.1;have h3:=Nm.rl_sub ye.q xe.q;omega);have C2:=hx;clear hx;refine⟨_,rfl,C2,?_⟩;try simp only[ζ]
  clear C2;have I1:=tD (tD (tD F0 E9) E8) E7;refine Fg (b:=A2) (i:=12) (lj:=(bs 15 4095)) (li:=(bs 15 8190)) rR rR kR kR kR kR kR dC kR rR rR (fun x_ h_=>Fr.of_ext h_) G1.1 (fun x_ h_=>Gs _ _ rR A5 (0) (rc A0) rR (Be (show World.rangeAt A2 A5 (0) (rc A0)from A7.1.range (i:=4) rR 0 4) h_) underlying26 rR kR) rR (by go_simp) kR (Zo (L:=60000) (RV.Is.nin (M9.1.dig I1.1) (Al J2.1 ω)) (RV.Is.nin M8.1 (Al J1.1 ω)) ω) ?_;rintro e K2 ⟨c_,rfl,A6,hx⟩;have N9:=zH (O0.1.step hx);have I7:=zH (Ac.of_ext hx);have L5:=zH (show Aa A2 K2 from G1.1.trans hx);have G3:=zH (M0.1.trans (Fr.of_ext hx));obtain⟨T3,rfl,A1⟩:=A6;have M7:=zH A1;clear A1;have Q2:=zH (show Nm.rl ((((Fk px (Cz a.1 a.2 b.1 b.2 xe.q))+(Fk px (Cz a.1 a.2 b.1 b.2 ye.q)))/2)*(ye.q-xe.q))<=123+(20+20+1)from by have h1:=J2.1;have h2:=J1.1;have h3:=Nm.rl_mul (((Fk px (Cz a.1 a.2 b.1 b.2 xe.q))+(Fk px (Cz a.1 a.2 b.1 b.2 ye.q)))/2) (ye.q-xe.q);omega);have C2:=hx;clear hx;refine⟨_,rfl,C2,?_⟩;try simp only[ζ]
  clear C2;refine Jg rR kR rR rR G3.1 (Gs _ _ rR A5 (0) (rc A0) rR (Be (show World.rangeAt A2 A5 (0) (rc A0)from A7.1.range (i:=4) rR 0 4) L5.1) underlying26 rR kR) (show _=(bs 15 8191)by kernel_rfl) ?_;try simp only[ζ]
  have I0:=tD (tD (tD (tD (tD (tD (tD (tD (tD (tD (tD (tD (tD (tD (tD (tD J0 I9) F6) F5) F4) F3) C7) C6) C5) F2) F1) I8) F0) E9) E8) E7) I7;refine mC 13 (bs 15 16383) (mQ (L:=60000) (RV.Is.nin (RZ.1.dig I0.1) (Al BZ.1 ω)) (RV.Is.nin M7.1 (Al Q2.1 ω)) ω) ?_;rintro e S5 ⟨c_,rfl,A6,hx⟩;have N8:=zH (N9.1.step hx);have P7:=zH (Ac.of_ext hx);have G2:=zH (G3.1.trans (Fr.of_ext hx));obtain⟨A8,rfl,A1⟩:=A6;have M6:=zH A1;clear A1 hx;apply zm G2.1;refine Dm (i:=14) (listed':=(bs 15 32767)) rR kR rR kR _ _ _ rR N8.1 (ix:=4) rR 0 (rc A8) rR rR (by simp) kR (by simp[Value.oneCell']) (by simp[Av]) ?_;intro S4 hh hd ho;have N7:=hN hh;have I6:=zH (hd);have L9:=zH (Fr.trans_new G2.1 ho (fun j hj=> .inl (by simpa using hj.symm)));clear hh hd ho;refine⟨L9.1,?_⟩
  (try simp only[Act.put])
  refine wpAnyH_done kR ?_ _;go_upto_region 10 with fail;apply wl;apply zq (iV (i:Int));apply zp (iV ((i+1:Nat):Int)) (by exact Gm ω);apply zq (iV ((i+1:Nat):Int));have H9:=tD (tD (tD (tD B8 E7) I7) P7) I6;go_wp2_with fail
  go_roundg (nn-(i+1))
  case measure=>exact(ω)
  case rel=>exact⟨i+1,A8,rfl,(by go_num),J7,(by rw[U2.1];exact(M6.1.dig I6.1)),N7.1.take 6,H9.1⟩
 have J7:=HLT.1;have W5:=U3.1;go_upto_region 9 with fail
 apply wl;apply zq (iV (i:Int));apply zp (iV ((i+1:Nat):Int)) (by exact Gm ω);refine Cc Ah _ (iV (nn:Int)) ?_;apply zp φ (by exact Df (e:=(Af ω)));go_upto_region 15 with fail;apply wl;refine zd A5 (0) (rc A0) (B2.1.range (i:=4) rR 0 4) underlying26 ?_;apply Cm 3 (rc A0) B2.1;intro S3 G8 P6;have N6:=zH (show(Em px a b lo hi).take (i+1)=(Em px a b lo hi)from cQQ (by rw[<-E2.1,fXX,<-J9.1.1];omega));go_wp2_with fail
 refine bodyPost_ret (v:= (rg A0)) ?_ rfl ⟨A0,rfl,(show Fi (px,py) a b=Ey (Jk px a b) ((Em px a b lo hi).take (i+1))from by rw[N6.1];unfold Fi;rw[K0.1,K1.1];exact(if_neg (fun h_=>by have D8:=H1.1;have D1:=H2.1;omega)).trans (if_neg (fun h_=>by have D0:=H3.1;omega)))▸(RZ.1.dig P6.1),G8.1.ext⟩;exact Ak rfl rfl ((G8.1.blk (i:=3) rR).loadVar rfl rfl rR)
end
section
open Go.RowKit Go.Shelf
attribute [local go_sem] Oper.semAt_some
attribute [local go_sem ↓] Go.wp_at_zero Go.wp_at_succ Aq An
def aCY (px py:Int)(Xp Xr Bs:Nat)(w W1:World)(pre:List fD)(W:World):Prop:=
  ∃r:RV,Hp w W [.blk Xp 68 [iV px,iV py],.blk Xr 26 [.bool false,.slice none 0 0,.bool false,.slice none 0 0],.blk Bs 26 (rc r)]/\Ac W1 W/\r.Is W (Jl (px,py) (pre.map Subtype.val))/\W1.heap.size<=W.heap.size
theorem uM(px py Xp Xr Bs w W1)(hw:w.heap.size<=W1.heap.size):OwnFrom W1.heap.size (aCY px py Xp Xr Bs w W1):=by
  rintro s W W' row ⟨r,h1,h2,h3,h4⟩ hg hr;have d:Ac W W':=Ac.kept hg (fun k hk=>(hr k hk).2);exact⟨r,h1.kept hg (fun k hk=>⟨Al hw (hr k hk).1,(hr k hk).2⟩),h2.trans d,h3.dig d,Al h4 hg.size⟩
def aCK (Xp Xr Bs:Nat)(W1:World)(x:fD)(a':Act)(W:World):Prop:=
  ∃(J:Nat->Value) (Xa Xb:Nat),Aj W Xa 52 ([iV x.1.1.1,iV x.1.1.2]:List Value).toArray/\Aj W Xb 52 ([iV x.1.2.1,iV x.1.2.2]:List Value).toArray/\Xa≠Xb/\W1.heap.size<=Xa/\W1.heap.size<=Xb/\a'={tmps:=#[J 0,J 1,.pointer (π Xp),J 3,.pointer (π Xr),.pointer (π Bs),.pointer (π Xa),.pointer (π Xb),J 8,J 9,J 10,J 11,J 12,J 13,J 14,J 15,J 16,J 17,J 18,J 19,J 20,J 21,J 22,J 23,J 24,J 25,J 26,J 27,J 28,J 29,J 30,J 31,J 32,J 33,J 34,J 35,J 36,J 37,J 38,J 39,J 40,J 41,J 42,J 43,J 44,J 45],defers:=[]}
theorem uN(Xp Xr Bs W1 x a'):OwnFrom W1.heap.size (fun(_:Unit) W=>aCK Xp Xr Bs W1 x a' W):=by
  rintro _ W W' row ⟨J,Xa,Xb,h1,h2,h3⟩ hg hr;exact⟨J,Xa,Xb,h1.kept hg (fun k hk=>(hr k hk).2),h2.kept hg (fun k hk=>(hr k hk).2),h3⟩
theorem yG{Xp Xr Bs Xa Xb W1 W x a'}(h1:Aj W Xa 52 ([iV x.1.1.1,iV x.1.1.2]:List Value).toArray)(h2:Aj W Xb 52 ([iV x.1.2.1,iV x.1.2.2]:List Value).toArray)(h3:Xa≠Xb)(h4:W1.heap.size<=Xa)(h5:W1.heap.size<=Xb)
(h6:a'={tmps:=#[γ a' 0,γ a' 1,.pointer (π Xp),γ a' 3,.pointer (π Xr),.pointer (π Bs),.pointer (π Xa),.pointer (π Xb),γ a' 8,γ a' 9,γ a' 10,γ a' 11,γ a' 12,γ a' 13,γ a' 14,γ a' 15,γ a' 16,γ a' 17,γ a' 18,γ a' 19,γ a' 20,γ a' 21,γ a' 22,γ a' 23,γ a' 24,γ a' 25,γ a' 26,γ a' 27,γ a' 28,γ a' 29,γ a' 30,γ a' 31,γ a' 32,γ a' 33,γ a' 34,γ a' 35,γ a' 36,γ a' 37,γ a' 38,γ a' 39,γ a' 40,γ a' 41,γ a' 42,γ a' 43,γ a' 44,γ a' 45],defers:=[]}):aCK Xp Xr Bs W1 x a' W:=⟨fun q=>a'.tmps.getD q undef,Xa,Xb,h1,h2,h3,h4,h5,h6⟩
theorem Qj(p l e):Jl p (l++[e])=Nu p (Jl p l) e:=by unfold Jl;rw[List.foldl_append];rfl
theorem pM{p}(hp:(-1048576<=p.1/\p.1<=1048320)/\ -1048576<=p.2/\p.2<=1048320){l:List fD}(h:l.length<=16):Nm.rl (Jl p (l.map Subtype.val))<=8018:=by
  have h1:=fL hp (l:=l.map Subtype.val) (s:=((0:Int):Rat)) (fun e he=>by obtain⟨x,_,rfl⟩:=List.mem_map.1 he;exact x.2);have h2:=Ay 0 ω ω;rw[fXX]at h1;have h3:=gQQ 501 h;unfold Jl;omega
theorem bX(px py u rs w)(hu:Cs w u rs)(hn:rs.length<=1048576)(hr:∀r,r∈rs->r.length<=1048576)(hok:Gf rs=true)(htot:Gy rs<=16)(hp:(-1048576<=px/\px<=1048320)/\ -1048576<=py/\py<=1048320):
  Calls prog 43 #[.agg #[iV px,iV py],u] w fun e w'=>∃r:RV,e= .returned (rg r)/\r.Is w' (Kf rs (px,py))/\Nm.rl (Kf rs (px,py))<=8030/\Aa w w':=by
 have HU:=zH hu;have HN:=zH hn;have HR:=zH hr;have HV:=zH hok;have N1:=zH htot;clear hu hr hok;refine(callsIn_wide (n:=4)).1 ?_;refine callsIn_of_wp_marks func43 rfl trivial ?_ rfl;simp only[ntmps43,List.size_toArray,hQQ,List.length_nil,Nat.reduceAdd,Nat.reduceSub,Array.replicate_succ,Array.replicate_zero,List.push_toArray,List.append_toArray,fQQ,jXX];refine wpIn_wide.2 ?_;refine Go.Code.wp_mono Kv.m ?_;have H0:=zH (Hp.start w);go_upto_region 0 with fail
 apply wl;apply Ca 68 [iV px,iV py] H0.1;intro X1 w2 H3 _;refine Ca 26 rz H3.1 ?_;intro X6 w7 H8 _;go_upto_region 1 with fail;apply wl;refine zc (Cy 0 _ ω ω) ?_;rintro e Q3 ⟨c_,rfl,A3,hx⟩;have O8:=zH (H8.1.step hx);obtain⟨H9,rfl,A2⟩:=A3;have M3:=zH A2;clear A2 hx;refine zn ?_;refine Ca 26 rz O8.1 ?_;intro A0 Q2 O7 P2;apply Cm 2 (rc H9) O7.1;intro Q1 F8 P1;go_upto_region 2 with fail
 apply wl;refine qV (u) ?_;refine zc (Rj u rs _ (HU.1.ext F8.1.ext) HN.1 HR.1) ?_;rintro e A5 ⟨Bx,ve,rfl,I6,L5,B2,hR,hx⟩;have N7:=zH I6;have N6:=zH L5;have N5:=zH B2;rw[if_pos HV.1]at hR;have N2:=zH hR;clear I6 B2 hR;have J5:=zH (F8.1.step hx);have P0:=zH (Ac.of_ext hx);clear hx;refine zn ?_;have Q6:=F8.1.lt (i:=2) (k:=A0) (by rfl) rfl;have N3:=zH (show Gd (fun k=>¬(fun k=>k=A0\/A5.heap.size<=k) k) A5 ve rs from N2.1.imp (fun k h hk=>by rcases hk with rfl|hk;omega;omega));have D4:=zH (show w.heap.size<=A5.heap.size from J5.1.ext.size);have L2:¬(fun k=>k=A0\/A5.heap.size<=k) Bx:=fun hk=>by have h1:=N7.1;have h9:=N6.1;rcases hk with hk|hk;omega;omega
 have J4:=zH (show(Cd rs).length<=16 from Al (Eg rs) N1.1);go_wp2_with fail;have G6:=tD (tD P2 P1) P0;refine wpIn_wide.1 (Oh (n:=4) ω (fun k=>k=A0\/A5.heap.size<=k) Bx ve rs rR N5.1 L2 N3.1 HN.1 HV.1 J4.1 (fun k h=> .inr h) (aCY px py X1 X6 A0 w A5) (uM px py X1 X6 A0 w A5 D4.1) ⟨H9,J5.1,Ac.refl _,(M3.1.dig G6.1),Cp _⟩ (aCK X1 X6 A0 A5) (uN X1 X6 A0 A5) ?assign ?body ?done);case assign=>
  intro l pre x W K hi hK;obtain⟨r,hh,hd,B0,B5⟩:=hi;have B8:=zH B5;have H0:=zH hh;have HK:=zH hK;have B9:=zH B0;have HD:=zH hd;clear B5 hh hK B0 hd;unfold Ip;simp only[zA,zB,zC];refine wpIn_seq ?_;refine Ab kR (fun⟨_,_,h⟩=>h) ?_;apply aA 52 [iV 0,iV 0] H0.1;intro I7 K6 O6 hx B1;have J2:=zH (show W.heap.size<=I7 from Al (Fr.of_ext (G:=fun kz=>False) (Aa.refl W)).size B1);have K4:=zH (Ac.of_ext hx);have N0:=zH (show Fr (fun kz=>False) W K6 from(Fr.of_ext (G:=fun kz=>False) (Aa.refl W)).trans (Fr.of_ext hx));clear hx B1;apply aS 3 [iV x.1.1.1,iV x.1.1.2] O6.1;intro Q0 O5 hd ho;have K3:=zH (hd);have J3:=zH (N0.1.trans_new ho (fun j hj=> .inr (by injection hj with hj;rw[<-hj];exact J2.1)));clear hd ho;refine Ab kR (fun⟨_,_,h⟩=>h) ?_;apply aA 52 [iV 0,iV 0] O5.1;intro Q8 P9 O4 hx B1;have J1:=zH (Al J3.1.size B1);have K2:=zH (Ac.of_ext hx);have M9:=zH (J3.1.trans (Fr.of_ext hx));clear hx B1;apply aS 4 [iV x.1.2.1,iV x.1.2.2] O4.1;intro P8 D5 hd ho;have K1:=zH (hd);have E8:=zH (M9.1.trans_new ho (fun j hj=> .inr (by injection hj with hj;rw[<-hj];exact J1.1)));clear hd ho;refine HK.1 _ _ (KeepsFrom.of_fr E8.1 (fun _ h=>h.elim)) (E8.1.imp (fun _ h=>h.elim)) ⟨r,D5.1.take 3,HD.1.trans (((K4.1.trans K3.1).trans K2.1).trans K1.1),B9.1.dig (((K4.1.trans K3.1).trans K2.1).trans K1.1),Al B8.1 E8.1.size⟩ (yG (D5.1.blk (i:=3) rR) (D5.1.blk (i:=4) rR) ?_ (Al B8.1 J2.1) (Al B8.1 J1.1) rR);exact fun e=>D5.1.apart 3 4 _ _ (by rfl) (by rfl) (by decide) I7 (by rfl) (by rw[e];rfl)
 case body=>
  intro l pre ed a' W hi L4 L1;obtain⟨r,hh,hd,B0,B5⟩:=hi;obtain⟨J,Xa,Xb,I5,I4,I1,I3,C2,rfl⟩:=L4;have B8:=zH B5;have HD:=zH hd;have B9:=zH B0;have B3:=zH ed.2;have C7:=zH (pM (p:=(px,py)) hp (l:=pre) ω);have H0:=zH (show Hp w W [.blk X1 68 [iV px,iV py],.blk X6 26 rz,.blk A0 26 (rc r),.blk Xa 52 [iV ed.1.1.1,iV ed.1.1.2],.blk Xb 52 [iV ed.1.2.1,iV ed.1.2.2]]from hh.addTyp2 I5 I4 I1 (Al D4.1 I3) (Al D4.1 C2) (by simp[Av]) (by simp[Av]) (by simp[Et.typ]));have B4:=zH (show Fr (fun kz=>kz=A0) W W from Fr.of_ext (Aa.refl W));clear hh hd B0 B5 I5 I4 I1 I3 C2;rcases Cl (ed.1.1.2<ed.1.2.2)with H1|H1
  ·gi_upto_region 5 with fail
   refine Ab kR (fun⟨_,_,h⟩=>h) ?_;refine Ef H0.1 _ _ _ _ ?_;apply zp τ (by exact Df (e:=(Ar H1.1)));apply zq τ;refine wpList_nil ?_;gi_upto_region 6 with fail
   refine Eh (S:=fun x=>Fr (fun kz=>kz=A0) W x) kR kR (fun⟨_,_,h⟩=>h) (Fr.of_ext zb) (fun _=> ?_);have O3:=zH (H0.1.step (Aa.refl W).drew);have K0:=zH (Ac.of_ext (w:=W) zb);have M8:=zH (B4.1.trans (Fr.of_ext (Aa.refl W).drew));refine mR 1 (bs 7 2) X1 (0) [iV px,iV py] (fun x hx=>Fr.range hx (show World.rangeAt W X1 (0) [iV px,iV py]from(H0.1.range (i:=0) rR 0 2)) (H0.1.offBlk (i:=0) (j:=2) rR rR dC rR)) underlying68 (Fr.of_ext zb) ?_;refine mR 2 (bs 7 6) Xa (0) [iV ed.1.1.1,iV ed.1.1.2] (fun x hx=>Fr.range hx (show World.rangeAt W Xa (0) [iV ed.1.1.1,iV ed.1.1.2]from(H0.1.range (i:=3) rR 0 2)) (H0.1.offBlk (i:=3) (j:=2) rR rR dC rR)) underlying52 (Fr.of_ext zb) ?_;refine zr 3 (bs 7 14) Xb (0) [iV ed.1.2.1,iV ed.1.2.2] (fun x hx=>Fr.range hx (show World.rangeAt W Xb (0) [iV ed.1.2.1,iV ed.1.2.2]from(H0.1.range (i:=4) rR 0 2)) (H0.1.offBlk (i:=4) (j:=2) rR rR dC rR)) underlying52 (Fr.of_ext zb) ?_;refine Fd.go (j:=0) (dj:=some 21) (u:= (rg r)) ?_;refine Fg (b:=W) (i:=4) (lj:=(bs 7 15)) (li:=(bs 7 30)) rR rR kR kR kR kR kR dC kR rR rR (fun x_ h_=>Fr.of_ext h_) (Aa.refl W).drew (fun x_ h_=>Gs _ _ rR A0 (0) (rc r) rR (Be (show World.rangeAt W A0 (0) (rc r)from H0.1.range (i:=2) rR 0 4) h_) underlying26 rR kR) rR (by go_simp) kR (dW px py ed.1.1 ed.1.2 _ hp B3.1.1 B3.1.2) ?_;rintro e D7 ⟨Q5,rfl,A2,hx⟩;have O2:=zH (O3.1.step hx);have J9:=zH (show Ac W.drew D7 from Ac.of_ext hx);have M7:=zH (M8.1.trans (Fr.of_ext hx));have L7:=zH (show Aa W D7 from(Aa.refl W).drew.trans hx);have J0:=zH (show Fr (fun kz=>kz=A0) W D7 from(Fr.of_ext zb).trans (Fr.of_ext hx));have M2:=zH A2;have P4:=zH (Pv (p:=(px,py)) B3.1.1 B3.1.2 hp);clear A2;have C1:=hx;clear hx;refine⟨_,rfl,C1,?_⟩;try simp only[ζ]
   clear C1;refine Jg rR kR rR rR J0.1 (Gs _ _ rR A0 (0) (rc r) rR (Be (show World.rangeAt W A0 (0) (rc r)from H0.1.range (i:=2) rR 0 4) L7.1) underlying26 rR kR) (show _=(bs 7 31)by kernel_rfl) ?_;try simp only[ζ]
   have G5:=tD K0 J9;refine mC 5 (bs 7 63) (mQ (L:=60000) (RV.Is.nin (B9.1.dig G5.1) (Al C7.1 ω)) (RV.Is.nin M2.1 (Al P4.1 ω)) ω) ?_;rintro e P7 ⟨c_,rfl,A3,hx⟩;have O1:=zH (O2.1.step hx);have O9:=zH (Ac.of_ext hx);have M6:=zH (M7.1.trans (Fr.of_ext hx));have I9:=zH (J0.1.trans (Fr.of_ext hx));obtain⟨A8,rfl,A2⟩:=A3;have M1:=zH A2;clear A2 hx;apply zm I9.1;refine Dm (i:=6) (listed':=(bs 7 127)) rR kR rR kR _ _ _ rR O1.1 (ix:=2) rR 0 (rc A8) rR rR (by simp) kR (by simp[Value.oneCell']) (by simp[Av]) ?_;intro P6 hh hd ho;have O0:=hN hh;have J8:=zH (hd);have E7:=zH (M6.1.trans_new ho (fun j hj=> .inl (by injection hj with hj;exact hj.symm)));have L8:=zH (Fr.trans_new I9.1 ho (fun j hj=> .inl (by simpa using hj.symm)));clear hh hd ho;refine⟨L8.1,?_⟩
   (try simp only[Act.put])
   refine wpAnyH_done kR ?_ _;gi_wp2
   exact⟨(KeepsFrom.of_fr E7.1 (fun k hk o ho=>H0.1.cells (i:=2) (by rfl) (by rw[hk];rfl) o ho)),(E7.1.imp (fun k hk=> .inl hk)),A8,O0.1.take 3,HD.1.trans (((K0.1.trans J9.1).trans O9.1).trans J8.1),(by rw[hXX,show[ed].map Subtype.val=[ed.1]from rfl,Qj,show Nu (px,py) (Jl (px,py) (pre.map Subtype.val)) ed.1=(Jl (px,py) (pre.map Subtype.val))+Fi (px,py) ed.1.1 ed.1.2 from if_pos H1.1];exact(M1.1.dig J8.1)),Al B8.1 E7.1.size⟩
  gi_upto_region 5 with fail
  refine Ab kR (fun⟨_,_,h⟩=>h) ?_;refine Ef H0.1 _ _ _ _ ?_;apply zp φ (by exact Df (e:=(Af H1.1)));apply zq φ;refine wpList_nil ?_;rcases Cl (ed.1.2.2<ed.1.1.2)with H2|H2
  ·gi_upto_region 7 with fail
   refine Ab kR (fun⟨_,_,h⟩=>h) ?_;refine Ef H0.1 _ _ _ _ ?_;apply zp τ (by exact Lw (e:=(Ar H2.1)));apply zq τ;refine wpList_nil ?_;gi_upto_region 8 with fail
   refine Eh (S:=fun x=>Fr (fun kz=>kz=A0) W x) kR kR (fun⟨_,_,h⟩=>h) (Fr.of_ext zb) (fun _=> ?_);have N9:=zH (H0.1.step (Aa.refl W).drew);have J7:=zH (Ac.of_ext (w:=W) zb);have M5:=zH (B4.1.trans (Fr.of_ext (Aa.refl W).drew));refine mR 1 (bs 7 2) X1 (0) [iV px,iV py] (fun x hx=>Fr.range hx (show World.rangeAt W X1 (0) [iV px,iV py]from(H0.1.range (i:=0) rR 0 2)) (H0.1.offBlk (i:=0) (j:=2) rR rR dC rR)) underlying68 (Fr.of_ext zb) ?_;refine mR 2 (bs 7 6) Xa (0) [iV ed.1.1.1,iV ed.1.1.2] (fun x hx=>Fr.range hx (show World.rangeAt W Xa (0) [iV ed.1.1.1,iV ed.1.1.2]from(H0.1.range (i:=3) rR 0 2)) (H0.1.offBlk (i:=3) (j:=2) rR rR dC rR)) underlying52 (Fr.of_ext zb) ?_;refine zr 3 (bs 7 14) Xb (0) [iV ed.1.2.1,iV ed.1.2.2] (fun x hx=>Fr.range hx (show World.rangeAt W Xb (0) [iV ed.1.2.1,iV ed.1.2.2]from(H0.1.range (i:=4) rR 0 2)) (H0.1.offBlk (i:=4) (j:=2) rR rR dC rR)) underlying52 (Fr.of_ext zb) ?_;refine Fd.go (j:=0) (dj:=some 33) (u:= (rg r)) ?_;refine Fg (b:=W) (i:=4) (lj:=(bs 7 15)) (li:=(bs 7 30)) rR rR kR kR kR kR kR dC kR rR rR (fun x_ h_=>Fr.of_ext h_) (Aa.refl W).drew (fun x_ h_=>Gs _ _ rR A0 (0) (rc r) rR (Be (show World.rangeAt W A0 (0) (rc r)from H0.1.range (i:=2) rR 0 4) h_) underlying26 rR kR) rR (by go_simp) kR (dW px py ed.1.1 ed.1.2 _ hp B3.1.1 B3.1.2) ?_;rintro e D6 ⟨Q4,rfl,A2,hx⟩;have N8:=zH (N9.1.step hx);have J6:=zH (show Ac W.drew D6 from Ac.of_ext hx);have M4:=zH (M5.1.trans (Fr.of_ext hx));have L6:=zH (show Aa W D6 from(Aa.refl W).drew.trans hx);have I8:=zH (show Fr (fun kz=>kz=A0) W D6 from(Fr.of_ext zb).trans (Fr.of_ext hx));have M0:=zH A2;have P3:=zH (Pv (p:=(px,py)) B3.1.1 B3.1.2 hp);clear A2;have C1:=hx;clear hx;refine⟨_,rfl,C1,?_⟩;try simp only[ζ]
   clear C1;refine Jg rR kR rR rR I8.1 (Gs _ _ rR A0 (0) (rc r) rR (Be (show World.rangeAt W A0 (0) (rc r)from H0.1.range (i:=2) rR 0 4) L6.1) underlying26 rR kR) (show _=(bs 7 31)by kernel_rfl) ?_;try simp only[ζ]
   have G4:=tD J7 J6;refine mC 5 (bs 7 63) (dJ (L:=60000) (RV.Is.nin (B9.1.dig G4.1) (Al C7.1 ω)) (RV.Is.nin M0.1 (Al P3.1 ω)) ω) ?_;rintro e P5 ⟨c_,rfl,A3,hx⟩;have G3:=zH (N8.1.step hx);have H6:=zH (Ac.of_ext hx);have F5:=zH (M4.1.trans (Fr.of_ext hx));have C6:=zH (I8.1.trans (Fr.of_ext hx));obtain⟨A7,rfl,A2⟩:=A3;have L9:=zH A2;clear A2 hx;apply zm C6.1;refine Dm (i:=6) (listed':=(bs 7 127)) rR kR rR kR _ _ _ rR G3.1 (ix:=2) rR 0 (rc A7) rR rR (by simp) kR (by simp[Value.oneCell']) (by simp[Av]) ?_;intro K9 hh hd ho;have G2:=hN hh;have D3:=zH (hd);have B7:=zH (F5.1.trans_new ho (fun j hj=> .inl (by injection hj with hj;exact hj.symm)));have E3:=zH (Fr.trans_new C6.1 ho (fun j hj=> .inl (by simpa using hj.symm)));clear hh hd ho;refine⟨E3.1,?_⟩
   (try simp only[Act.put])
   refine wpAnyH_done kR ?_ _;gi_wp2
   exact⟨(KeepsFrom.of_fr B7.1 (fun k hk o ho=>H0.1.cells (i:=2) (by rfl) (by rw[hk];rfl) o ho)),(B7.1.imp (fun k hk=> .inl hk)),A7,G2.1.take 3,HD.1.trans (((J7.1.trans J6.1).trans H6.1).trans D3.1),(by rw[hXX,show[ed].map Subtype.val=[ed.1]from rfl,Qj,show Nu (px,py) (Jl (px,py) (pre.map Subtype.val)) ed.1=(Jl (px,py) (pre.map Subtype.val))-Fi (px,py) ed.1.1 ed.1.2 from(if_neg (fun h_=>by have E1:=H1.1;omega)).trans (if_pos H2.1)];exact(L9.1.dig D3.1)),Al B8.1 B7.1.size⟩
  gi_upto_region 7 with fail
  refine Ab kR (fun⟨_,_,h⟩=>h) ?_;refine Ef H0.1 _ _ _ _ ?_;apply zp φ (by exact Lw (e:=(Af H2.1)));apply zq φ;refine wpList_nil ?_;gi_wp2
  exact⟨(KeepsFrom.of_fr B4.1 (fun k hk o ho=>H0.1.cells (i:=2) (by rfl) (by rw[hk];rfl) o ho)),(B4.1.imp (fun k hk=> .inl hk)),r,H0.1.take 3,HD.1.trans (Ac.refl _),(by rw[hXX,show[ed].map Subtype.val=[ed.1]from rfl,Qj,show Nu (px,py) (Jl (px,py) (pre.map Subtype.val)) ed.1=(Jl (px,py) (pre.map Subtype.val))from(if_neg (fun h_=>by have E1:=H1.1;omega)).trans (if_neg (fun h_=>by have E1:=H2.1;omega))];exact B9.1),Al B8.1 B4.1.size⟩
 rintro D xs W hD I0 ⟨r,hh,hd,B0,B5⟩ hK;have H0:=zH hh;have F7:=zH B0;have F6:=zH I0;have HD:=zH hK;have N4:=zH hD;have B9:=zH (show r.Is W (Jl (px,py) (Cd rs))from by rw[<-F6.1];exact F7.1);have C7:=zH (show Nm.rl (Jl (px,py) (Cd rs))<=8018 from by rw[<-F6.1];exact pM (p:=(px,py)) hp (by rw[<-fXX (f:=Subtype.val),F6.1];exact J4.1));clear hh hd B0 B5 I0 hK hD;have B4:=zH (show Fr (fun kz=>kz=X6) W W from Fr.of_ext (Aa.refl W));go_upto_region 9 with fail
 refine zy ?_;have C0:=zH (H0.1.step (Aa.refl W).drew);have H5:=zH (Ac.of_ext (w:=W) zb);have F4:=zH (B4.1.trans (Fr.of_ext (Aa.refl W).drew));refine Os H0.1 zb (bs 9 1) 0 _ ?_;refine gG 6 (some 8) 26 rz W C0.1 ?_;refine gL 1 (bs 9 65) (bs 9 3) zb.size C0.1 zb (fun xq A9=>Cy 65536 _ ω ω) (by rintro x_ e K5 ⟨c_,rfl,A3,hx⟩;exact hx) ?_;rintro xq e D9 A9 ⟨c_,rfl,A3,hx⟩;replace hx:=A9.trans hx;clear A9;have C9:=zH (C0.1.step hx);have H4:=zH (show Ac W.drew D9 from Ac.of_ext hx);have F3:=zH (F4.1.trans (Fr.of_ext hx));have B6:=zH (zb.trans hx);obtain⟨L0,rfl,A2⟩:=A3;have E5:=zH A2;have H7:=zH (Ay 65536 ω ω);clear A2 hx;refine⟨_,rfl,?_⟩;try simp only[ζ]
 have D2:=tD H5 H4;refine gL 2 (bs 9 67) (bs 9 7) B6.1.size C9.1 B6.1 (fun xq A9=>aAM (L:=60000) (RV.Is.nin (B9.1.dig (D2.1.trans (Ac.of_ext A9))) (Al C7.1 ω)) (RV.Is.nin (E5.1.dig (Ac.of_ext A9)) (Al H7.1 ω)) dC dC) (by rintro x_ e K5 ⟨c_,rfl,A3,hx⟩;exact hx) ?_;rintro xq e K8 A9 ⟨c_,rfl,A3,hx⟩;replace hx:=A9.trans hx;clear A9;have G1:=zH (C9.1.step hx);have F2:=zH (F3.1.trans (Fr.of_ext hx));have A4:=zH (B6.1.trans hx);obtain⟨A1,rfl,A2⟩:=A3;have E4:=zH A2;clear A2 hx;refine⟨_,rfl,?_⟩;try simp only[ζ]
 refine gK 3 (bs 9 71) (bs 9 15) _ A4.1 ?_;refine gK 4 (bs 9 79) (bs 9 31) _ A4.1 ?_;refine gK 5 (bs 9 95) (bs 9 63) (iV 0) A4.1 ?_;refine gE (bs 9 127) A4.1.size G1.1 A4.1 ?_;intro C4 D8 hx hh hs B1;have G0:=hN hh;have G9:=zH (Ac.of_ext hx);have F1:=zH (F2.1.trans (Fr.of_ext hx));have E2:=zH (show Aa W D8 from hs);have D0:=zH (show W.heap.size<=C4 from B1);have E6:=zH (show W.heap.size<=C4 from Al B4.1.size D0.1);clear hh hx B1 hs;try simp only[ζ]
 refine Dm (i:=7) (listed':=(bs 9 255)) rR kR rR kR _ _ _ rR G0.1 (ix:=3) rR 0 (rc A1) rR rR (by simp) kR (by simp[Value.oneCell']) (by simp[Av]) ?_;intro K7 hh hd ho;have C8:=hN hh;have G8:=zH (hd);have F0:=zH (F1.1.trans_new ho (fun j hj=> .inr (by injection hj with hj;rw[<-hj];exact E6.1)));have C5:=zH (Bd.ext ho E2.1 D0.1);clear hh hd ho;refine⟨C5.1,?_⟩
 (try simp only[Act.put])
 refine zx 8 (bs 9 511) (iV 0) C5.1 ?_;refine wpAnyH_done kR ?_ _;go_upto_region 10 with fail;apply wl;refine Cg C8.1 _ ?_;apply aS 1 (rc A1) C8.1;intro A6 F9 hd ho;have G7:=zH (hd);have E9:=zH (F0.1.trans_new ho (fun j hj=> .inl (by injection hj with hj;exact hj.symm)));clear hd ho;have D1:=tD (tD G9 G8) G7;go_wp2_with fail
 have E0:A6.heap[D]?=some (.deferred (some [])):=(E9.1.block D (Array.getElem?_eq_some_iff.1 HD.1).1 (fun e=>by have h1:=H0.1.cells (i:=1) (k:=D) (by rfl) (by rw[e];rfl) _ HD.1;cases h1)).trans HD.1;refine⟨by simp,.inl ⟨_,_,rfl,run_takeDeferred E0,?_⟩⟩;have C3:=F9.1.kept (grownBy_putObj' A6 D (.deferred none)) (fun k hk=>by injection hk with hk;subst hk;exact⟨Al D4.1 N4.1,_,E0,rfl⟩);have L3:Ac A6 _:=Ac.kept (grownBy_putObj' A6 D (.deferred none)) (fun k hk=>by injection hk with hk;subst hk;exact⟨_,E0,rfl⟩);refine⟨_,Ak rfl rfl ((C3.blk (i:=1) rR).loadVar rfl rfl rR),A1,rfl,(E4.1.dig D1.1).dig L3,?_,C3.ext⟩;exact Al (Nm.rl_div _ _) (by have E1:=C7.1;have Q7:=Ay 65536 ω ω;omega)
end
section
attribute [local go_sem ↓] Go.wp_at_zero Go.wp_at_succ Aq An
def dM (n:Int):Bool:=decide (n< -4096)||decide (4096<=n)
theorem Ex{n}:dM n=true↔n< -4096\/4096<=n:=by unfold dM;simp
def Ql (rs:List Dr)(x y:Int):Int:=if Gf rs=true then(if dM x=true\/dM y=true then 6 else 0)else 12
theorem Mg(n w):Calls prog 42 #[iV n] w fun e w'=>e= .returned (.bool (dM n))/\Aa w w':=by
 go_enter func42,ntmps42;have H0:=zH (Hp.start w);go_upto_region 0 with fail;apply wl;apply zq φ;rcases Cl (n< -4096)with H1|H1
 ·go_upto_region 1 with fail
  apply wl;apply zq (iV n);apply zp τ (by exact Df (e:=(Ar H1.1)));refine Lt Ah τ _ _ τ τ ?_;have HB:=zH (Ex.2 (.inl H1.1));go_wp2_with fail
  go_ret;exact⟨by rw[HB.1]<;>rfl,H0.1.ext⟩
 rcases Cl (4096<=n)with H2|H2
 ·go_upto_region 1 with fail
  apply wl;apply zq (iV n);apply zp φ (by exact Df (e:=(Af H1.1)));refine Cc Ah φ (iV n) ?_;apply zp τ (by exact Lj (e:=(Ar H2.1)));refine Cc Ah τ τ ?_;have HB:=zH (Ex.2 (.inr H2.1));go_wp2_with fail
  go_ret;exact⟨by rw[HB.1]<;>rfl,H0.1.ext⟩
 go_upto_region 1 with fail;apply wl;apply zq (iV n);apply zp φ (by exact Df (e:=(Af H1.1)));apply qV φ;apply zq (iV n);apply zp φ (by exact Lj (e:=(Af H2.1)));apply qV φ;apply zq φ;have HB:=zH (show dM n=false from Bool.eq_false_iff.2 (fun h_=>by have A2:=Ex.1 h_;have A1:=H1.1;have A0:=H2.1;omega));go_wp2_with fail
 go_ret;exact⟨by rw[HB.1]<;>rfl,H0.1.ext⟩
theorem fT(A cap rs x y w)(hu:Cs w (.slice A rs.length cap) rs)(hn:rs.length<=1048576)(hr:∀r,r∈rs->r.length<=1048576)(hs:Gf rs=true->Gy rs<=16)(hx: -9223372036854775808<=x/\x<=9223372036854775807)(hy: -9223372036854775808<=y/\y<=9223372036854775807):
  Calls prog 11 #[.slice A rs.length cap,iV x,iV y] w (Rn 8030 (Ql rs x y) (Kf rs (x*256,y*256)) w):=by
 have HU:=zH hu;have HN:=zH hn;have A4:=zH hr;clear hu hr;have A3:=zH hs;clear hs;go_enter func11,ntmps11
 have H0:=zH (Hp.start w);go_upto_region 0 with fail;apply wl;refine Ca 26 rz H0.1 ?_;intro D8 D4 A2 _;apply zq (iV 0);rcases Cl (Gf rs=true)with HV|HV
 ·go_upto_region 1 with fail
  apply wl;refine Cg Ah _ ?_;refine zc (Ck _ rs _ (HU.1.ext A2.1.ext) HN.1 A4.1) ?_;rintro e D3 ⟨rfl,hx⟩;have A5:=zH (A2.1.step hx);clear hx;refine⟨.bool true,by rw[HV.1],?_⟩;try simp only[ζ]
  apply zq φ;go_upto_region 3 with fail;apply wl;refine Cg Ah _ ?_;rcases Cl (dM x=true)with HX|HX
  ·go_upto_region 4 with fail
   apply wl;refine Cc Ah _ (iV x) ?_;refine aC A5.1 ((Mg x _).mono fun _ _ h_=>(⟨h_.1.trans (by rw[HX.1]),h_.2⟩:_=Ending.returned τ/\Aa _ _)) ?_;intro D2 B9 _;refine Lt Ah τ _ _ _ τ ?_;go_upto_region 5 with fail;apply wl;apply zq (.agg z4);refine Cm 0 rz B9.1 ?_;intro D1 B1 _;apply zq (iV 6);have HE:=zH (show Ql rs x y=6 from(if_pos HV.1).trans (if_pos (.inl HX.1)));go_wp2_with fail
   refine bodyPost_ret (v:= .tuple #[.agg z4,iV 6]) ?_ rfl ⟨RV.zero,by rw[HE.1]<;>rfl,fun h_=>absurd h_ (by rw[HE.1];decide),fun _=>rfl,B1.1.ext⟩;exact Ad rfl rfl ((B1.1.blk (i:=0) rR).loadVar rfl rfl rR) rfl
  have FX:=zH (Bool.eq_false_iff.2 HX.1);rcases Cl (dM y=true)with HY|HY
  ·go_upto_region 4 with fail
   apply wl;refine Cc Ah _ (iV x) ?_;refine aC A5.1 ((Mg x _).mono fun _ _ h_=>(⟨h_.1.trans (by rw[FX.1]),h_.2⟩:_=Ending.returned φ/\Aa _ _)) ?_;intro D0 B8 _;refine Da Ah φ _ (iV y) ?_;refine aC B8.1 ((Mg y _).mono fun _ _ h_=>(⟨h_.1.trans (by rw[HY.1]),h_.2⟩:_=Ending.returned τ/\Aa _ _)) ?_;intro C9 B7 _;apply zq τ;go_upto_region 5 with fail;apply wl;apply zq (.agg z4);refine Cm 0 rz B7.1 ?_;intro C8 B0 _;apply zq (iV 6);have HE:=zH (show Ql rs x y=6 from(if_pos HV.1).trans (if_pos (.inr HY.1)));go_wp2_with fail
   refine bodyPost_ret (v:= .tuple #[.agg z4,iV 6]) ?_ rfl ⟨RV.zero,by rw[HE.1]<;>rfl,fun h_=>absurd h_ (by rw[HE.1];decide),fun _=>rfl,B0.1.ext⟩;exact Ad rfl rfl ((B0.1.blk (i:=0) rR).loadVar rfl rfl rR) rfl
  have FY:=zH (Bool.eq_false_iff.2 HY.1);have HP:=zH (show(-1048576<=x*256/\x*256<=1048320)/\ -1048576<=y*256/\y*256<=1048320 from by have D7:=mt Ex.2 HX.1;have D6:=mt Ex.2 HY.1;omega);have D5:=HP.1;go_upto_region 4 with fail
  apply wl;refine Cc Ah _ (iV x) ?_;refine aC A5.1 ((Mg x _).mono fun _ _ h_=>(⟨h_.1.trans (by rw[FX.1]),h_.2⟩:_=Ending.returned φ/\Aa _ _)) ?_;intro C7 B6 _;refine Da Ah φ _ (iV y) ?_;refine aC B6.1 ((Mg y _).mono fun _ _ h_=>(⟨h_.1.trans (by rw[FY.1]),h_.2⟩:_=Ending.returned φ/\Aa _ _)) ?_;intro C6 A9 _;apply zq φ;go_upto_region 6 with fail;apply wl;apply zq (iV x);apply zp (iV (x*256)) (by exact aG ω);apply zq (iV y);apply zp (iV (y*256)) (by exact aG ω);refine Cc Ah _ _ ?_;refine zc (bX (x*256) (y*256) _ rs _ (HU.1.ext A9.1.ext) HN.1 A4.1 HV.1 (A3.1 HV.1) HP.1) ?_;rintro e C5 ⟨A0,rfl,A6,A7,hx⟩;have B5:=zH (A9.1.step hx);have B2:=zH A6;have C1:=zH A7;clear A6 A7 hx;refine zn ?_;apply Cm 0 (rc A0) B5.1;intro C4 A8 C0;apply zq (iV 0);have HE:=zH (show Ql rs x y=0 from(if_pos HV.1).trans (if_neg (fun h_=>h_.elim HX.1 HY.1)));go_wp2_with fail
  refine bodyPost_ret (v:= .tuple #[(rg A0),iV 0]) ?_ rfl ⟨A0,by rw[HE.1]<;>rfl,fun _=>⟨(B2.1.dig C0.1),C1.1⟩,fun h_=>absurd HE.1 h_,A8.1.ext⟩;exact Ad rfl rfl ((A8.1.blk (i:=0) rR).loadVar rfl rfl rR) rfl
 have B3:=zH (Bool.eq_false_iff.2 HV.1);go_upto_region 1 with fail;apply wl;refine Cg Ah _ ?_;refine zc (Ck _ rs _ (HU.1.ext A2.1.ext) HN.1 A4.1) ?_;rintro e C3 ⟨rfl,hx⟩;have B4:=zH (A2.1.step hx);clear hx;refine⟨.bool false,by rw[B3.1],?_⟩;try simp only[ζ]
 apply zq τ;go_upto_region 2 with fail;apply wl;apply zq (.agg z4);refine Cm 0 rz B4.1 ?_;intro C2 A1 _;apply zq (iV 12);have HE:=zH (show Ql rs x y=12 from if_neg HV.1);go_wp2_with fail
 refine bodyPost_ret (v:= .tuple #[.agg z4,iV 12]) ?_ rfl ⟨RV.zero,by rw[HE.1]<;>rfl,fun h_=>absurd h_ (by rw[HE.1];decide),fun _=>rfl,A1.1.ext⟩;exact Ad rfl rfl ((A1.1.blk (i:=0) rR).loadVar rfl rfl rR) rfl
end
section
open Go.RowKit Go.Shelf
attribute [local go_sem] Oper.semAt_some
attribute [local go_sem ↓] Go.wp_at_zero Go.wp_at_succ Aq An
def Mu (rs:List Dr)(r:R4):Int:=if Gf rs=true then(if r.ok=true then(if r.area<=65536 then 0 else 5)else 6)else 12
def aT (rs:List Dr)(x y:Int):Int:=Ib (Kf rs (x*256,y*256))
theorem Yg {α β:Type}{f:α->List β}{c:Nat}(h:∀x,(f x).length=c):∀{l:List α} {k j:Nat} {x:α} {y:β},l[k]?=some x->(f x)[j]?=some y->(l.flatMap f)[k*c+j]?=some y
  | [],k,j,x,y,h1,_=>by simp at h1
  | a::l,0,j,x,y,h1,h2=>by
    simp at h1;subst h1;rw[Nat.zero_mul,cXX,List.flatMap_cons,dZZ (List.getElem?_eq_some_iff.1 h2).1];exact h2
  | a::l,k+1,j,x,y,h1,h2=>by
    have ih:=Yg h (l:=l) (k:=k) (by simpa using h1) h2;rw[List.flatMap_cons,dQQ (by rw[h,kZZ];omega),h,show(k+1)*c+j-c=k*c+j by rw[kZZ];omega];exact ih
theorem dZ{p q n}(h:p<=n)(k:n<q):(Ht p q)[(n-p).toNat]?=some n:=by
  unfold Ht;rw[kXX,List.getElem?_range ω];show some (p+(((n-p).toNat:Nat):Int))=some n;congr 1;omega
theorem qW{q x y}(h:q.In x y):(Lb q)[q.at x y]?=some (x,y):=by
 have h1:=Yg (Zg q) (l:=Ht q.y0 q.y1) (k:=(y-q.y0).toNat) (j:=(x-q.x0).toNat) (x:=y) (y:=(x,y)) (dZ h.1.1 h.1.2) (by
  unfold cG;rw[kXX,dZ h.2.1 h.2.2];rfl)
 rw[Ga]at h1;have e:q.at x y=(y-q.y0).toNat*(q.x1-q.x0).toNat+(x-q.x0).toNat:=by
  have e1:=Ja h;obtain⟨⟨a,b⟩,c,d⟩:=h;have e2:(((y-q.y0).toNat:Nat):Int)=y-q.y0:=ω
  have e3:(((q.x1-q.x0).toNat:Nat):Int)=q.x1-q.x0:=ω;have e4:(((x-q.x0).toNat:Nat):Int)=x-q.x0:=ω;have e5:(((y-q.y0).toNat*(q.x1-q.x0).toNat+(x-q.x0).toNat:Nat):Int)=(y-q.y0)*(q.x1-q.x0)+(x-q.x0):=by
   rw[Int.natCast_add,fZZ,e2,e3,e4]
  omega
 rw[e];exact h1
theorem dE{q v es}(h:es=(Lb q).map fun p=>v p.1 p.2)(hx:q.x0<=q.x1)(hy:q.y0<=q.y1):Ln q v es:=by
  subst h;refine⟨?_,fun x y hi=>by rw[kXX,qW hi];rfl⟩;rw[fXX,Pk,Ga,Ga,fZZ,Int.mul_comm];congr 1<;>omega
def aDD (Bl Br Bz Bm:Nat)(A0:Option Addr)(n0 c0:Nat)(q qr:R4)(rs:List Dr)(w W1:World)(pre:List xJ)(W:World):Prop:=
  ∃(A:Option Addr) (n c:Nat) (es:List Int),Hp w W [.blk Bl 31 [.slice A0 n0 c0],.blk Br 35 [iV qr.x0,iV qr.y0,iV qr.x1,iV qr.y1],.blk Bz 42 [iV 0,iV 0,iV 0,iV 0,.slice none 0 0],.blk Bm 42 [iV q.x0,iV q.y0,iV q.x1,iV q.y1,.slice A n c],.row 5 1 (.slice A n c) (n) (List.flatMap Bq es)]/\es=(pre.map Subtype.val).map (fun p=>aT rs p.1 p.2)/\n=es.length/\W1.heap.size<=W.heap.size
theorem xF(Bl Br Bz Bm A0 n0 c0 q qr rs w W1)(hw:w.heap.size<=W1.heap.size):OwnFrom W1.heap.size (aDD Bl Br Bz Bm A0 n0 c0 q qr rs w W1):=by
  rintro s W W' row ⟨A,n,c,es,h1,h2,h3,h4⟩ hg hr;exact⟨A,n,c,es,h1.kept hg (fun k hk=>⟨Al hw (hr k hk).1,(hr k hk).2⟩),h2,h3,Al h4 hg.size⟩
def aCN (Bl Br Bz Bm:Nat)(W1:World)(x:xJ)(a':Act)(W:World):Prop:=
  ∃(J:Nat->Value) (Xt:Nat),Aj W Xt 35 ([iV x.1.1,iV x.1.2,iV (x.1.1+1),iV (x.1.2+1)]:List Value).toArray/\W1.heap.size<=Xt/\a'={tmps:=#[J 0,J 1,.pointer (π Bl),.pointer (π Br),.pointer (π Bz),J 5,.pointer (π Bm),.pointer (π Xt),J 8,J 9,J 10,J 11,J 12,J 13,J 14,J 15,J 16,J 17,J 18,J 19,J 20,J 21,J 22,J 23,J 24,J 25,J 26,J 27,J 28,J 29,J 30,J 31,J 32,J 33,J 34,J 35,J 36,J 37,J 38,J 39,J 40,J 41,J 42,J 43,J 44,J 45,J 46,J 47],defers:=[]}
theorem xG(Bl Br Bz Bm W1 x a'):OwnFrom W1.heap.size (fun(_:Unit) W=>aCN Bl Br Bz Bm W1 x a' W):=by
  rintro _ W W' row ⟨J,Xt,h1,h2⟩ hg hr;exact⟨J,Xt,h1.kept hg (fun k hk=>(hr k hk).2),h2⟩
theorem aAF{Bl Br Bz Bm Xt W1 W x a'}(h1:Aj W Xt 35 ([iV x.1.1,iV x.1.2,iV (x.1.1+1),iV (x.1.2+1)]:List Value).toArray)(h2:W1.heap.size<=Xt)(h3:a'={tmps:=#[γ a' 0,γ a' 1,.pointer (π Bl),.pointer (π Br),.pointer (π Bz),γ a' 5,.pointer (π Bm),.pointer (π Xt),γ a' 8,γ a' 9,γ a' 10,γ a' 11,γ a' 12,γ a' 13,γ a' 14,γ a' 15,γ a' 16,γ a' 17,γ a' 18,γ a' 19,γ a' 20,γ a' 21,γ a' 22,γ a' 23,γ a' 24,γ a' 25,γ a' 26,γ a' 27,γ a' 28,γ a' 29,γ a' 30,γ a' 31,γ a' 32,γ a' 33,γ a' 34,γ a' 35,γ a' 36,γ a' 37,γ a' 38,γ a' 39,γ a' 40,γ a' 41,γ a' 42,γ a' 43,γ a' 44,γ a' 45,γ a' 46,γ a' 47],defers:=[]}):aCN Bl Br Bz Bm W1 x a' W:=⟨fun q=>a'.tmps.getD q undef,Xt,h1,h2,h3⟩
theorem Hp.addNew{w0 w m X T zs}(h:Hp w0 w m)(B:Aj w X T zs.toArray)(hz:w0.heap.size<=X)(hn:Av zs)(ht:∀e,e∈m->e.typ≠T\/∀k,e.own=some k->k<X):Hp w0 w (m++[.blk X T zs]):=
  h.add ⟨hz,B,hn⟩ (fun i f hf k hk e=>by
    injection e with e
    subst e;rcases ht f (bZZ hf)with h1|h1
    · exact h1 (h.typ hf B hk)
    have:=h1 _ hk;omega)
theorem rX{Bm l T A n c m xs b W W'}(h:Fr (fun k=>k=Bm\/Value.ownBlock (.slice A n c)=some k) W W')(hr:Bg W b T 1 (.slice A n c) m xs):Kq Bm T l W W':=⟨h.size,fun k o ho h1 _ h3=>by
 have A0:=(Array.getElem?_eq_some_iff.1 ho).1;refine(h.block k A0 (fun g=> ?_)).trans ho;rcases g with g|g
 ·exact h1 g
 obtain⟨_,⟨e,_⟩|⟨g2,c2,rest,e,_,hb,_⟩⟩:=hr
 ·injection e with e1;subst e1;simp[Value.ownBlock]at g
 injection e with e1 e2 e3
 subst e1;have hk:g2=k:=by simpa[Value.ownBlock]using g
 subst hk;unfold Aj at hb;rw[hb]at ho;injection ho with ho
 exact h3 _ ho.symm⟩
set_option maxRecDepth 200000 in
theorem aR(A cap rs r w)(hu:Cs w (.slice A rs.length cap) rs)(hn:rs.length<=1048576)(hr:∀r,r∈rs->r.length<=1048576)(hs:Gf rs=true->r.ok=true->Gy rs<=16):
  Calls prog 14 #[.slice A rs.length cap,.agg #[iV r.x0,iV r.y0,iV r.x1,iV r.y1]] w (Ge (Mu rs r) r (aT rs) w):=by
 have HU:=zH hu;have HN:=zH hn;have D9:=zH hr;clear hu hr;have D7:=zH hs;clear hs;refine(callsIn_wide (n:=13)).1 ?_;refine callsIn_of_wp_marks func14 rfl trivial ?_ rfl;simp only[ntmps14,List.size_toArray,hQQ,List.length_nil,Nat.reduceAdd,Nat.reduceSub,Array.replicate_succ,Array.replicate_zero,List.push_toArray,List.append_toArray,fQQ,jXX];refine wpIn_wide.2 ?_;refine Go.Code.wp_mono Kv.m ?_;have H0:=zH (Hp.start w);go_upto_region 0 with fail
 apply wl;apply Ca 31 [.slice A rs.length cap] H0.1;intro X1 w2 H3 _;apply Ca 35 [iV r.x0,iV r.y0,iV r.x1,iV r.y1] H3.1;intro X6 w7 H8 _;apply Ca 42 [iV 0,iV 0,iV 0,iV 0,.slice none 0 0] H8.1;intro A7 M5 B3 _;apply zq (iV 0);rcases Cl (Gf rs=true)with HV|HV
 ·go_upto_region 1 with fail
  apply wl;refine Cg B3.1 _ ?_;refine zc (Ck _ rs _ (HU.1.ext B3.1.ext) HN.1 D9.1) ?_;rintro e M4 ⟨rfl,hx⟩;have C8:=zH (B3.1.step hx);clear hx;refine⟨.bool true,by rw[HV.1],?_⟩;try simp only[ζ]
  refine Cc Ah φ φ ?_;rcases Cl (r.ok=true)with HRO|HRO
  ·go_upto_region 3 with fail
   apply wl;refine Cg C8.1 _ ?_;refine aC C8.1 ((Rv r _).mono fun _ _ h_=>(⟨h_.1.trans (by rw[HRO.1]),h_.2⟩:_=Ending.returned τ/\Aa _ _)) ?_;intro M3 C7 _;refine Cc Ah φ φ ?_;rcases Cl (r.area<=65536)with HA|HA
   ·go_upto_region 5 with fail
    apply wl;refine Cg C7.1 _ ?_;refine aC C7.1 (Pi r _) ?_;intro M2 G7 _;apply zp φ (by exact Lw (e:=(Af (by have h_:=HA.1;omega))));apply zq φ;go_upto_region 7 with fail;apply wl;refine Cg G7.1 _ ?_;refine aC G7.1 (Uj r _) ?_;intro M1 L5 _;refine Cg Ah _ ?_;apply Ca 42 [iV 0,iV 0,iV 0,iV 0,.slice none 0 0] L5.1;intro A0 M0 L4 _;apply Cm 3 [iV r.can.x0,iV r.can.y0,iV r.can.x1,iV r.can.y1,.slice none 0 0] L4.1;intro G9 L3 _;generalize B2:r.can=q at*;have HQ:=zH B2;have hb:=r.can_bd;rw[B2]at hb;have HB:=zH hb;clear B2 hb;have E1:=zH (show Hp w G9 [.blk X1 31 [.slice A rs.length cap],.blk X6 35 [iV r.x0,iV r.y0,iV r.x1,iV r.y1],.blk A7 42 [iV 0,iV 0,iV 0,iV 0,.slice none 0 0],.blk A0 42 [iV q.x0,iV q.y0,iV q.x1,iV q.y1,.slice none 0 0],ro 5 1 none 0 0 Bq ([])]from L3.1.addNil 5 1);go_upto_region 8 with fail
    apply wl;refine Cg Ah _ ?_;refine zd A0 (0) [iV q.x0,iV q.y0,iV q.x1,iV q.y1] (E1.1.range (i:=3) rR 0 4) underlying35 ?_;refine zc (kZ q _) ?_;rintro e B1 ⟨Cr,Cw,Ch,rfl,D1,D0,F9,F8,F7,F6,I9,I8,I7,hx⟩;rw[show q.can=q from by rw[<-HQ.1];exact Vq r]at D1;have K3:=zH D1;have K2:=zH D0;have K1:=zH F9;have D8:=zH (And.intro F8 (And.intro F7 F6));clear D1 D0 F9 F8 F7 F6 I9 I8 I7;have C6:=zH (E1.1.step hx);clear hx;refine zn ?_;have I5:=C6.1.lt (i:=3) (k:=A0) (by rfl) rfl;have D6:=zH (show w.heap.size<=B1.heap.size from C6.1.ext.size);have I4:=E1.1.lt (i:=3) (k:=A0) (by rfl) rfl;have K5:=zH (show((Lb q).length:Int)<=65536 from by rw[Pk,Ga,Ga,fZZ];have h_:=HA.1;unfold R4.area at h_;rw[HQ.1]at h_;have D0:=HB.1.2;rw[Int.mul_comm,Int.toNat_of_nonneg ω,Int.toNat_of_nonneg ω];exact h_);go_wp2_with fail
    refine wpIn_wide.1 (Vz (n:=13) ω rR (enters_of func92 kR rfl) (kY 12 dC Cr Cw Ch A0 5 q B1 K3.1 K2.1 K1.1 (by have h_:=D8.1;omega) (by have h_:=D8.1;omega) (by have h_:=D8.1;omega) dC dC dC HB.1.1 I5) (aDD X1 X6 A7 A0 A rs.length cap q r rs w B1) (xF X1 X6 A7 A0 A rs.length cap q r rs w B1 D6.1) ⟨none,0,0,[],C6.1,rfl,rfl,Cp _⟩ (aCN X1 X6 A7 A0 B1) (xG X1 X6 A7 A0 B1) ?assign ?body ?done);case assign=>
     intro l pre x W K hi hK;obtain⟨Az,n,c,es,hh,A4,A3,A5⟩:=hi;have C3:=zH A5;have H0:=zH hh;have HK:=zH hK;have E0:=zH A4;have B8:=zH A3;clear A5 hh hK A4 A3;unfold uG;simp only[zA,zB,zC];refine Ab kR (fun⟨_,_,h⟩=>h) ?_;apply aA 35 [iV 0,iV 0,iV 0,iV 0] H0.1;intro J0 G8 L2 hx B6;have G4:=zH (show W.heap.size<=J0 from Al (Fr.of_ext (G:=fun kz=>False) (Aa.refl W)).size B6);have J9:=zH (show Fr (fun kz=>False) W G8 from(Fr.of_ext (G:=fun kz=>False) (Aa.refl W)).trans (Fr.of_ext hx));clear hx B6;apply aS 5 [iV x.1.1,iV x.1.2,iV (x.1.1+1),iV (x.1.2+1)] L2.1;intro L9 G6 hd ho;have C2:=zH (J9.1.trans_new ho (fun j hj=> .inr (by injection hj with hj;rw[<-hj];exact G4.1)));clear hd ho;exact HK.1 _ _ (KeepsFrom.of_fr C2.1 (fun _ h=>h.elim)) ⟨C2.1.size,fun k o ho _ _ _=>(C2.1.block k (Array.getElem?_eq_some_iff.1 ho).1 (fun h=>h)).trans ho⟩ ⟨Az,n,c,es,G6.1.take 5,E0.1,B8.1,Al C3.1 C2.1.size⟩ (aAF (G6.1.blk (i:=5) (by rfl)) (Al C3.1 G4.1) (by rfl))
    case body=>
     intro l pre ed a' W hi I6 I1;obtain⟨Az,n,c,es,hh,A4,A3,A5⟩:=hi;obtain⟨J,Xt,F3,F2,rfl⟩:=I6;have C3:=zH A5;have E0:=zH A4;have B8:=zH A3;have I3:=ed.2;unfold aBV at I3;have C4:=zH (show n<=65536 from by rw[A3,A4,fXX,fXX];have h_:=K5.1;omega);have H0:=zH (show Hp w W [.blk X1 31 [.slice A rs.length cap],.blk X6 35 [iV r.x0,iV r.y0,iV r.x1,iV r.y1],.blk A7 42 [iV 0,iV 0,iV 0,iV 0,.slice none 0 0],.blk A0 42 [iV q.x0,iV q.y0,iV q.x1,iV q.y1,.slice Az n c],ro 5 1 Az n c Bq es,.blk Xt 35 [iV ed.1.1,iV ed.1.2,iV (ed.1.1+1),iV (ed.1.2+1)]]from hh.addNew F3 (Al D6.1 F2) (by simp[Av]) (by simp only[List.forall_mem_cons,List.not_mem_nil,false_imp_iff,implies_true,and_true];exact⟨.inl (by simp[Et.typ]),.inr (fun k hk=>by injection hk with hk;have h_:=C6.1.lt (i:=1) (k:=X6) (by rfl) rfl;omega),.inl (by simp[Et.typ]),.inl (by simp[Et.typ]),.inl (by simp[Et.typ])⟩));clear hh A4 A3 A5 F3 F2;have C5:=zH (show Fr (fun kz=>kz=A0\/Value.ownBlock (.slice Az n c)=some kz) W W from Fr.of_ext (Aa.refl W));have K4:=zH (show(-1048576<=ed.1.1*256/\ed.1.1*256<=1048320)/\ -1048576<=ed.1.2*256/\ed.1.2*256<=1048320 from ω);gi_upto_region 10 with fail
     refine Ab kR (fun⟨_,_,h⟩=>h) ?_;refine Cc H0.1 _ _ ?_;apply zp (iV (ed.1.1*256)) (by exact aG (by have C9:=C4.1;omega));refine Cc H0.1 _ _ ?_;apply zp (iV (ed.1.2*256)) (by exact aG (by have C9:=C4.1;omega));refine Cg Ah _ ?_;apply aA 68 [iV 0,iV 0] H0.1;intro D2 L8 L1 hx B6;have J3:=zH (show W.heap.size<=D2 from Al C5.1.size B6);have J8:=zH (C5.1.trans (Fr.of_ext hx));clear hx B6;apply aS 6 [iV (ed.1.1*256),iV (ed.1.2*256)] L1.1;intro A1 A2 hd ho;have J7:=zH (J8.1.trans_new ho (fun j hj=> .inr (by injection hj with hj;rw[<-hj];exact J3.1)));clear hd ho;refine wpList_nil ?_;gi_upto_region 11 with fail
     refine Eh (S:=fun x=>Fr (fun kz=>kz=A0\/Value.ownBlock (.slice Az n c)=some kz) A1 x) kR kR (fun⟨_,_,h⟩=>h) (Fr.of_ext zb) (fun _=> ?_);have G5:=zH (A2.1.step (Aa.refl A1).drew);have J6:=zH (J7.1.trans (Fr.of_ext (Aa.refl A1).drew));refine mX 0 (bs 10 1) (.pointer (some ⟨A0,4,none⟩)) (Fr.of_ext zb) ?_;refine zr 2 (bs 10 5) D2 (0) [iV (ed.1.1*256),iV (ed.1.2*256)] (fun x hx=>Fr.range hx (show World.rangeAt A1 D2 (0) [iV (ed.1.1*256),iV (ed.1.2*256)]from(A2.1.range (i:=6) rR 0 2)) (fun hk=>hk.elim (A2.1.offBlk (i:=6) (j:=3) rR rR dC rR) (A2.1.offRow (i:=6) (j:=4) rR rR dC rR))) underlying68 (Fr.of_ext zb) ?_;refine Dv (g:=X1) (o:=0) (v:= .slice A rs.length cap) (i:=3) (listed':=(bs 10 13)) rR kR kR kR (by intro _ _ _ h;exact h) rR (fun x hx=>Fr.cell hx (show World.cell? A1 ⟨X1,0,none⟩=some (.slice A rs.length cap)from Ai (A2.1.range (i:=0) rR 0 1)) (fun hk=>hk.elim (A2.1.offBlk (i:=0) (j:=3) rR rR dC rR) (A2.1.offRow (i:=0) (j:=4) rR rR dC rR))) (by intro x hq;go_simp<;>with_reducible rfl) (Fr.of_ext zb) kR ?_;try simp only[ζ]
     refine Fd.go (j:=1) (dj:=some 39) (u:= .slice Az n c) ?_;refine Fg (b:=A1) (i:=4) (lj:=(bs 10 15)) (li:=(bs 10 29)) rR rR kR kR kR kR kR dC kR rR rR (fun x_ h_=>Fr.of_ext h_) (Aa.refl A1).drew (fun x_ h_=>(by have B2:=Ai (Be (show World.rangeAt A1 A0 (4) [.slice Az n c]from A2.1.range (i:=3) rR 4 1) h_);go_simp<;>with_reducible rfl)) rR (by go_simp) kR (bX (ed.1.1*256) (ed.1.2*256) _ rs _ (HU.1.ext G5.1.ext) HN.1 D9.1 HV.1 (D7.1 HV.1 HRO.1) K4.1) ?_;rintro e E9 ⟨I0,rfl,F1,F4,hx⟩;have L0:=zH (G5.1.step hx);have J5:=zH (J6.1.trans (Fr.of_ext hx));have G2:=zH (show Aa A1 E9 from(Aa.refl A1).drew.trans hx);have J1:=zH (show Fr (fun kz=>kz=A0\/Value.ownBlock (.slice Az n c)=some kz) A1 E9 from(Fr.of_ext zb).trans (Fr.of_ext hx));have J2:=zH F1;have L7:=zH F4;clear F1 F4;have B5:=hx;clear hx;refine⟨_,rfl,B5,?_⟩;try simp only[ζ]
     clear B5;refine Fg (b:=A1) (i:=5) (lj:=(bs 10 31)) (li:=(bs 10 61)) rR rR kR kR kR kR kR dC kR rR rR (fun x_ h_=>Fr.of_ext h_) G2.1 (fun x_ h_=>(by have B2:=Ai (Be (show World.rangeAt A1 A0 (4) [.slice Az n c]from A2.1.range (i:=3) rR 4 1) h_);go_simp<;>with_reducible rfl)) rR (by go_simp) kR (Li I0 (Kf rs (ed.1.1*256,ed.1.2*256)) _ (J2.1.isIn (Al L7.1 dC))) ?_;rintro e B0 ⟨rfl,hx⟩;have K9:=zH (L0.1.step hx);have J4:=zH (J5.1.trans (Fr.of_ext hx));have G1:=zH (show Aa A1 B0 from G2.1.trans hx);have G3:=zH (J1.1.trans (Fr.of_ext hx));have B5:=hx;clear hx;refine⟨_,rfl,B5,?_⟩;try simp only[ζ]
     clear B5;refine xT (v:= .slice (π B0.heap.size) 1 1) (w':=(B0.alloc (.cells ([.int .u8 (Ib (Kf rs (ed.1.1*256,ed.1.2*256)))]:List Value).toArray 5))) (b:=A1) (i:=6) (lj:=(bs 10 63)) (li:=(bs 10 125)) rR rR kR kR kR kR kR dC kR rR rR (fun x_ h_=>Fr.of_ext h_) G1.1 (fun x_ h_=>(by have B2:=Ai (Be (show World.rangeAt A1 A0 (4) [.slice Az n c]from A2.1.range (i:=3) rR 4 1) h_);go_simp<;>with_reducible rfl)) rR (by go_simp) ((Aa.refl B0).alloc _) kR ?_;try simp only[ζ]
     refine Jg rR kR rR rR (G3.1.trans (Fr.of_ext ((Aa.refl B0).alloc _))) (aCT (p:=⟨A0,4,none⟩) (by intro x hq;go_simp<;>with_reducible rfl) _ (Ai (Be (show World.rangeAt A1 A0 (4) [.slice Az n c]from A2.1.range (i:=3) rR 4 1) (G1.1.trans ((Aa.refl B0).alloc _))))) (show _=(bs 10 127)by kernel_rfl) ?_;try simp only[ζ]
     refine gZ (j:=7) (listed':=(bs 10 255)) rR kR rR _ _ _ rR aAW rR K9.1 (ix:=4) rR 1 1 [.int .u8 (Ib (Kf rs (ed.1.1*256,ed.1.2*256)))] rR rfl (by simp[Value.oneCell']) (by simp[Av]) dC (by unfold maxLen;exact(by have C9:=C4.1;omega)) (by have C9:=C4.1;omega) kR ?_;intro G0 B7 E8 hf hh hd hg;have L6:=zH hf;clear hf;rw[show List.flatMap Bq es++[.int .u8 (Ib (Kf rs (ed.1.1*256,ed.1.2*256)))]=_ from Ee Bq _ (Ib (Kf rs (ed.1.1*256,ed.1.2*256)))]at hh;have E7:=hN hh;have D5:=zH (show Fr (fun kz=>kz=A0\/Value.ownBlock (.slice Az n c)=some kz) W E8 from(J4.1.trans (Fr.of_ext (At.alloc _))).trans_new hg (fun j hj=> .inl (.inr hj)));have A8:=zH (show Fr (fun kz=>kz=A0\/Value.ownBlock (.slice Az n c)=some kz) A1 E8 from Fr.trans_new (G3.1.trans (Fr.of_ext (At.alloc _))) hg (fun j hj=> .inl (.inr hj)));clear hh hd hg;refine⟨A8.1,?_⟩;try simp only[ζ]
     refine zx 8 (bs 10 511) (.pointer (some ⟨A0,4,none⟩)) A8.1 ?_;refine rO (i:=9) (listed':=(bs 10 1023)) rR kR rR kR _ _ _ rR E7.1 (ix:=3) rR 4 (.slice (π G0) (n+1) B7) rR rR (by simp) kR (by simp[Value.cells]) (by simp[Value.oneCell']) (by simp[Av]) ?_;intro H9 hh hd ho;have E6:=hN hh;have A9:=zH (D5.1.trans_new ho (fun j hj=> .inl (.inl (by injection hj with hj;exact hj.symm))));have D3:=zH (Fr.trans_new A8.1 ho (fun j hj=> .inl (.inl (by injection hj with hj;exact hj.symm))));clear hh hd ho;refine⟨D3.1,?_⟩
     (try simp only[Act.put])
     refine wpAnyH_done kR ?_ _;gi_wp2
     exact⟨(KeepsFrom.of_fr A9.1 (fun k hk o ho=>hk.elim (fun e=>H0.1.cells (i:=3) (by rfl) (by rw[e];rfl) o ho) (fun e=>H0.1.cells (i:=4) (by rfl) (by exact e) o ho))),rX A9.1 (H0.1.row (i:=4) (by rfl)),some ⟨G0,0,none⟩,n+1,B7,es++[(Ib (Kf rs (ed.1.1*256,ed.1.2*256)))],E6.1.take 5,(by rw[E0.1,hXX,hXX];rfl),(by rw[aXX,<-B8.1];rfl),Al C3.1 A9.1.size⟩
    rintro Dz xs W hD F0 ⟨Az,n,c,es,hh,A4,A3,A5⟩ hK;have H0:=zH hh;have B8:=zH A3;have HD:=zH hK;have K8:=zH hD;have K7:=zH (show Ln q (aT rs) es from dE (by rw[A4,F0]) HB.1.2.1 HB.1.2.2);clear hh A4 A3 A5 F0 hK hD;have C5:=zH (show Fr (fun kz=>kz=A7) W W from Fr.of_ext (Aa.refl W));go_upto_region 12 with fail
    apply wl;refine Cg H0.1 _ ?_;apply aS 2 [iV q.x0,iV q.y0,iV q.x1,iV q.y1,.slice Az n c] H0.1;intro B4 E5 hd ho;have D4:=zH (C5.1.trans_new ho (fun j hj=> .inl (by injection hj with hj;exact hj.symm)));clear hd ho;apply zq (iV 0);go_wp2_with fail
    have F5:B4.heap[Dz]?=some (.deferred (some [])):=(D4.1.block Dz (Array.getElem?_eq_some_iff.1 HD.1).1 (fun e=>by have h1:=H0.1.cells (i:=2) (k:=Dz) (by rfl) (by rw[e];rfl) _ HD.1;cases h1)).trans HD.1;refine⟨by simp,.inl ⟨_,_,rfl,run_takeDeferred F5,?_⟩⟩;have A6:=E5.1.kept (grownBy_putObj' B4 Dz (.deferred none)) (fun k hk=>by injection hk with hk;subst hk;exact⟨Al D6.1 K8.1,_,F5,rfl⟩);have HE:=zH (show Mu rs r=0 from(if_pos HV.1).trans ((if_pos HRO.1).trans (if_pos HA.1)));exact⟨_,Ad rfl rfl ((A6.blk (i:=2) (by rfl)).loadVar rfl rfl (by rfl)) rfl,q,Az,n,c,es,by rw[HE.1]<;>rfl,B8.1,A6.row (i:=4) (by rfl),fun _=>⟨HQ.1.symm,by rw[HQ.1];exact K7.1,HA.1⟩,fun h_=>absurd HE.1 h_,A6.ext⟩
   go_upto_region 5 with fail;apply wl;refine Cg C7.1 _ ?_;refine aC C7.1 (Pi r _) ?_;intro H7 E4 _;apply zp τ (by exact Lw (e:=(Ar (by have h_:=HA.1;omega))));apply zq τ;go_upto_region 6 with fail;apply wl;refine Cg Ah _ ?_;apply Cm 2 [iV 0,iV 0,iV 0,iV 0,.slice none 0 0] E4.1;intro H6 C1 _;apply zq (iV 5);have HE:=zH (show Mu rs r=5 from(if_pos HV.1).trans ((if_pos HRO.1).trans (if_neg HA.1)));go_wp2_with fail
   exact⟨_,Ad rfl rfl ((C1.1.blk (i:=2) (by rfl)).loadVar rfl rfl (by rfl)) rfl,R4.zero,none,0,0,[],by rw[HE.1]<;>rfl,rfl,Bg.nil _ _ _ _,fun h_=>absurd h_ (by rw[HE.1];decide),fun _=>⟨rfl,rfl⟩,C1.1.ext⟩
  have K6:=zH (Bool.eq_false_iff.2 HRO.1);go_upto_region 3 with fail;apply wl;refine Cg C8.1 _ ?_;refine aC C8.1 ((Rv r _).mono fun _ _ h_=>(⟨h_.1.trans (by rw[K6.1]),h_.2⟩:_=Ending.returned φ/\Aa _ _)) ?_;intro H5 E3 _;refine Cc Ah τ τ ?_;go_upto_region 4 with fail;apply wl;refine Cg Ah _ ?_;apply Cm 2 [iV 0,iV 0,iV 0,iV 0,.slice none 0 0] E3.1;intro H4 C0 _;apply zq (iV 6);have HE:=zH (show Mu rs r=6 from(if_pos HV.1).trans (if_neg HRO.1));go_wp2_with fail
  exact⟨_,Ad rfl rfl ((C0.1.blk (i:=2) (by rfl)).loadVar rfl rfl (by rfl)) rfl,R4.zero,none,0,0,[],by rw[HE.1]<;>rfl,rfl,Bg.nil _ _ _ _,fun h_=>absurd h_ (by rw[HE.1];decide),fun _=>⟨rfl,rfl⟩,C0.1.ext⟩
 have K0:=zH (Bool.eq_false_iff.2 HV.1);go_upto_region 1 with fail;apply wl;refine Cg B3.1 _ ?_;refine zc (Ck _ rs _ (HU.1.ext B3.1.ext) HN.1 D9.1) ?_;rintro e H2 ⟨rfl,hx⟩;have E2:=zH (B3.1.step hx);clear hx;refine⟨.bool false,by rw[K0.1],?_⟩;try simp only[ζ]
 apply qV τ;apply zq τ;go_upto_region 2 with fail;apply wl;refine Cg Ah _ ?_;apply Cm 2 [iV 0,iV 0,iV 0,iV 0,.slice none 0 0] E2.1;intro H1 B9 _;apply zq (iV 12);have HE:=zH (show Mu rs r=12 from if_neg HV.1);go_wp2_with fail
 exact⟨_,Ad rfl rfl ((B9.1.blk (i:=2) (by rfl)).loadVar rfl rfl (by rfl)) rfl,R4.zero,none,0,0,[],by rw[HE.1]<;>rfl,rfl,Bg.nil _ _ _ _,fun h_=>absurd h_ (by rw[HE.1];decide),fun _=>⟨rfl,rfl⟩,B9.1.ext⟩
end
section
theorem uS{w b n c A es}(hr:Bg w b 5 1 (.slice A n c) n (List.flatMap Bq es)):(convert 40 9 (.slice A n c)).run prog w= .ok (.string (strOfNums es)) w:=by
 obtain⟨h1,⟨e,h0⟩|⟨g,A0,rest,e,_,hb,_⟩⟩:=id hr
 ·injection e with e1 e2 e3
  subst e1;have hz:es=[]:=by
   cases es with
   |nil=>rfl
   |cons x l=>simp[Bq]at h1;omega
  subst hz;exact run_convert_bytes_nil w 40 5 underlying40 underlying5 n c 9 underlying9
 injection e with e1 e2 e3
 subst e1;have hl:es.length=n:=by rw[Dn Ji]at h1;omega
 refine run_convert_bytes_arg w 40 5 underlying40 underlying5 g 0 n c es hl (fun i hi=> ?_) 9 underlying9;have hg:es[i]?=some (es.getD i 0):=by simp[List.getD,aQQ (show i<es.length by omega)]
 have h2:=Hu Ji es i _ hg 0 (.int .u8 (es.getD i 0)) rfl;rw[nQQ,mQQ]at h2;rw[cXX,hb.cell,aZZ,dZZ (List.getElem?_eq_some_iff.1 h2).1];exact h2
theorem aI{o}{ρ:Operand->Value}{w b n c A es s x}(ho:o.op= .convert 40 9 x)(hx:ρ x= .slice A n c)(hr:Bg w b 5 1 (.slice A n c) n (List.flatMap Bq es))(hs:strOfNums es=s):(execOp ρ o).run prog w= .ok (.value (.string s)) w:=by
  subst hs;have h:=uS hr;unfold execOp;simp only[ho,hx];simp[go_sem,h]
theorem wN{P o}{ρ:Operand->Value}{w s s' b t t' x y}(ho:o.op= .binOp .neq t x y t')(hx:ρ x= .string s)(hy:ρ y= .string s')(hE:(!(s.toList==s'.toList))=b):(execOp ρ o).run P w= .ok (.value (.bool b)) w:=by
  subst hE;unfold execOp;simp only[ho,hx,hy];simp[go_sem]
theorem kE{P o}{ρ:Operand->Value}{w s s' b t t' x y}(ho:o.op= .binOp .eql t x y t')(hx:ρ x= .string s)(hy:ρ y= .string s')(hE:(s.toList==s'.toList)=b):(execOp ρ o).run P w= .ok (.value (.bool b)) w:=by
  subst hE;unfold execOp;simp only[ho,hx,hy];simp[go_sem]
end
section
open Go.ChangeShapes Go.WideShapes Go.ChangeAt Go.RowKit
theorem own:ownKnob prog.godebug=none:=by kernel_rfl
theorem jW:laidOutB prog=true:=by kernel_rfl
theorem Yr:prog.cellsOf 3=1:=by kernel_rfl
theorem Vm:prog.cellsOf 52=2:=by kernel_rfl
section
variable {H:Type} {enc:TypeId×Value->H} {w:World} {base:Nat} {spare:Nat->Bool} {held:Bool}
theorem vA{fuel cs x}(h:DataW.trod enc prog w base spare held fuel 52 cs=some x):∃a:Int×Int,cs=[.int .i64 a.1,.int .i64 a.2]:=by
  obtain⟨y0,y1,n,_,hl,h0,h1⟩:=trod_struct2 underlying52 h;rw[Vm]at hl;rw[Yr]at h0 h1;obtain⟨a,e0,_,_⟩:=DataW.trod_int underlying3 h0;obtain⟨b,e1,_,_⟩:=DataW.trod_int underlying3 h1;match cs,hl with
  | [u,v],_=>
    simp at e0 e1;exact⟨(a,b),by rw[e0,e1]⟩
end
section
variable {H:Type} {enc:TypeId×Value->H} {P:Program} {w:World} {base:Nat} {spare:Nat->Bool} {held:Bool}
theorem Tw{t e fuel cs x}(ht:P.underlying t=some (.slice e))(hs:0<P.cellsOf e)(h:DataW.trod enc P w base spare held fuel t cs=some x):
    ∃ A len cap,cs=[.slice A len cap]/\len<=cap/\cap<=maxLen/\(0<len->∃g off,A=some ⟨g,off,none⟩/\∀i,i<len->∃(cs':List Value) (n:Nat) (y:DataW H×List MemPlace),cs'.length=P.cellsOf e/\
      (∀j u,cs'[j]?=some u->w.cell? ⟨g,off+i*P.cellsOf e+j,none⟩=some u)/\DataW.trod enc P w base spare held n e cs'=some y):=by
  rcases Deep.open_slice ht h with⟨rfl,_⟩|⟨a,len,cap,m,n,D,Pl,rfl,hb,hl,hm,hmm,_,hx⟩
  · exact⟨none,0,0,rfl,Cp _,dXX _,fun h0=>absurd h0 ω⟩
  refine⟨some a,len,cap,rfl,hl,hm,fun h0=> ?_⟩;have A5:len<=m:=by rw[hmm];split<;>omega
  have A2:a.spot=none:=by
    obtain⟨cs',h1,h2⟩:=hx 0 ω;obtain⟨_,A1,A0⟩:=World.cells?_some h1;have g0:=A0 0 hs;cases hq:a.spot with
    |none=>rfl
    | some s=>
      exfalso;obtain⟨c0,A4⟩:∃c0,cs'[0]?=some c0:=by
        cases cs' with
        |nil=>simp at A1;omega
        |cons c _=>exact⟨c,rfl⟩
      rw[A4]at g0;have e:((a.add (0*P.cellsOf e)).add 0).spot=some s:=by simp[Addr.add,hq]
      unfold World.cell? at g0;rw[e]at g0;revert g0
      split<;>simp
  obtain⟨g,off,sp⟩:=a;obtain rfl:sp=none:=A2;refine⟨g,off,rfl,fun i hi=> ?_⟩;obtain⟨cs',h1,h2⟩:=hx i ω;obtain⟨_,A1,A0⟩:=World.cells?_some h1;refine⟨cs',n,_,A1,fun j u hj=> ?_,h2⟩;have A3:j<P.cellsOf e:=by
    have:=(List.getElem?_eq_some_iff.1 hj).1;omega
  have g1:=A0 j A3;rw[hj]at g1;have e:((⟨g,off,none⟩:Addr).add (i*P.cellsOf e)).add j=⟨g,off+i*P.cellsOf e+j,none⟩:=by
    rw[Deep.add_add];unfold Addr.add;by_cases hz:i*P.cellsOf e+j=0
    · rw[if_pos hz]
      congr 1;omega
    rw[if_neg hz];congr 1;show off+(i*P.cellsOf e+j)=off+i*P.cellsOf e+j;omega
  rw[e]at g1;exact g1
end
theorem jR{α:Type}[Inhabited α](n)(p:Nat->α->Prop)(h:∀i,i<n->∃x,p i x):∃l:List α,l.length=n/\∀i (d:α),i<n->p i (l.getD i d):=by
  obtain⟨f,hf⟩:=Deep.choose_lt (p:=p) h;refine⟨(List.range n).map f,by simp,fun i d hi=> ?_⟩;have e:((List.range n).map f).getD i d=f i:=by simp[List.getD,hi]
  rw[e];exact hf i hi
section
variable {H:Type} {enc:TypeId×Value->H} {w:World} {base:Nat} {held:Bool}
end
theorem Up{P w r base t fs v}(ht:P.underlying t=some (.struct fs))(h:Value.okWide P w r base t v):∃cs,v= .agg cs/\cs.size=P.cellsOf t:=by
  simp only[Value.okWide,ht]at h;obtain⟨cs,h1,h2,_⟩:=h;exact⟨cs,h1,h2⟩
theorem Ik:prog.cellsOf 53=1:=by kernel_rfl
instance:Inhabited RV:=⟨⟨false,none,0,0,false,none,0,0⟩⟩
section
variable {H:Type} {enc:TypeId×Value->H} {w:World} {base:Nat} {held:Bool}
theorem gH{fuel cs x}(h:DataW.trod enc prog w base (fun _=>true) held fuel 53 cs=some x):
  ∃(A:Option Addr) (l:Dr) (cap:Nat),cs=[.slice A l.length cap]/\l.length<=maxLen/\Hj w (.slice A l.length cap) l:=by
 obtain⟨A,A0,cap,rfl,hl,hm,hx⟩:=Tw underlying53 (by rw[Vm];decide) h;by_cases h0:0<A0
 ·obtain⟨g,A1,rfl,A2⟩:=hx h0
  rw[Vm]at A2;obtain⟨l,rfl,A3⟩:=jR (α:=Int×Int) A0 (fun i s=>∀j u,[Value.int .i64 s.1,.int .i64 s.2][j]?=some u->w.cell? ⟨g,A1+i*2+j,none⟩=some u) (fun i hi=>by
   obtain⟨A4,n,y,_,h2,h3⟩:=A2 i hi;obtain⟨s,rfl⟩:=vA h3;exact⟨s,h2⟩)
  refine⟨_,l,cap,rfl,ω,_,cap,rfl,fun _=>⟨g,A1,rfl,fun i hi=> ?_⟩⟩;have h:=A3 i (0,0) hi;exact⟨h 0 _ rfl,h 1 _ rfl⟩
 obtain rfl:A0=0:=ω;exact⟨A,[],cap,rfl,dXX _,A,cap,rfl,fun hn=>absurd rfl hn⟩
theorem cH{fuel cs x}(h:DataW.trod enc prog w base (fun _=>true) held fuel 31 cs=some x):
  ∃(A:Option Addr) (l:List Dr) (cap:Nat),cs=[.slice A l.length cap]/\l.length<=maxLen/\Cs w (.slice A l.length cap) l/\∀r,r∈l->r.length<=maxLen:=by
 obtain⟨A,A0,cap,rfl,hl,hm,hx⟩:=Tw underlying31 (by rw[Ik];decide) h;by_cases h0:0<A0
 ·obtain⟨g,A1,rfl,A2⟩:=hx h0
  rw[Ik]at A2;obtain⟨l,rfl,A3⟩:=jR (α:=Dr) A0 (fun i r=>(∃B cb,w.cell? ⟨g,A1+i,none⟩=some (.slice B r.length cb)/\Hj w (.slice B r.length cb) r)/\r.length<=maxLen) (fun i hi=>by
   obtain⟨A4,n,y,_,h2,h3⟩:=A2 i hi;obtain⟨B,r,cb,rfl,hr,hp⟩:=gH h3;have:=h2 0 _ rfl;simp only[nQQ,mQQ]at this;exact⟨r,⟨B,cb,this,hp⟩,hr⟩)
  refine⟨_,l,cap,rfl,ω,⟨_,cap,rfl,fun _=>⟨g,A1,rfl,fun i x hx=> ?_⟩⟩,fun x hx=> ?_⟩
  ·have h:=(A3 i [] (List.getElem?_eq_some_iff.1 hx).1).1
   rw[bQQ,hx]at h;exact h
  obtain⟨i,hi⟩:=List.mem_iff_getElem?.1 hx;have h:=(A3 i [] (List.getElem?_eq_some_iff.1 hi).1).2;rw[bQQ,hi]at h;exact h
 obtain rfl:A0=0:=ω;exact⟨A,[],cap,rfl,dXX _,⟨A,cap,rfl,fun hn=>absurd hn (by simp)⟩,fun x hx=>by simp at hx⟩
end
end
section
attribute [local go_sem ↓] Go.wp_at_zero Go.wp_at_succ Aq An
theorem Wx{w0 w m}{i j X1 X2:Nat}(h:Hp w0 w m)(ps)(h1:m[i]?=some (.blk X1 52 (ps.flatMap fun p=>[iV p.1,iV p.2])))
(h2:m[j]?=some (.blk X2 53 [.slice (π X1) ps.length ps.length])):Cs w (.slice (π X2) 1 1) [ps]:=by
 refine⟨_,1,rfl,fun _=>⟨X2,0,rfl,fun i r hr=> ?_⟩⟩;have hi:i=0:=by have:=(List.getElem?_eq_some_iff.1 hr).1;simp at this;omega
 subst hi;have hr2:r=ps:=by simpa using hr.symm
 subst hr2;refine⟨_,r.length,h.cell h2 0 rfl,⟨_,r.length,rfl,fun _=>⟨X1,0,rfl,fun i hi=> ?_⟩⟩⟩;have hp:r[i]?=some r[i]:=aQQ hi;have hg:r.getD i (0,0)=r[i]:=by simp[hi]
 rw[hg];have h3:=h.cell h1 (i*2+0) (Hu (f:=fun p:Int×Int=>([iV p.1,iV p.2]:List Value)) (fun _=>rfl) r i r[i] hp 0 _ rfl);have h4:=h.cell h1 (i*2+1) (Hu (f:=fun p:Int×Int=>([iV p.1,iV p.2]:List Value)) (fun _=>rfl) r i r[i] hp 1 _ rfl);rw[mQQ]at h3;rw[cXX];exact⟨h3,h4⟩
theorem cU(a b w)(h1: -9223372036854775808<=a)(h2:a<=9223372036854775807)(h3: -9223372036854775808<=b)(h4:b<=9223372036854775807)(hb:b≠0):
    Calls prog 17 #[iV a,iV b] w fun e w'=>∃c,e= .returned (.tuple #[.agg c,iV 0])/\Ls w' c ((a:Rat)/(b:Rat))/\Aa w w':=by
  refine(Me a b w h1 h2 h3 h4 hb).mono fun e w' h=> ?_
  obtain⟨c,rfl,h3,h4⟩:=Lr.v h;exact⟨_,rfl,⟨c,rfl,by rw[<-Rat.divInt_eq_div];exact h3⟩,h4⟩
def Gn:List Dr:=[[(0,0),(256,0),(0,256)]]
def uD:List Dr:=[[(0,256),(256,0),(0,0)]]
theorem yK{L w cs q}(hp:Gu L w cs q)(hL:L<=60000):
    Calls prog 21 #[.agg cs] w fun e w'=>∃c,e= .returned (.agg c)/\Ls w' c (-q)/\Aa w w':=by
  obtain⟨a,rfl,h1⟩:=hp;refine(Xe _ _ _ _ L q w h1 ω).mono fun e w' h=> ?_
  obtain⟨c,rfl,h3,h4⟩:=Fu.v h;exact⟨_,rfl,⟨c,rfl,h3⟩,h4⟩
theorem tF {r:R4}(h:r.emp=false):r.can=r:=if_neg (by rw[h];decide)
theorem oC{es}(h:Ln (⟨-1,0,2,1⟩:R4).can (Ia 1 Gn) es):es=[0,128,0]:=by
  rw[tF (by decide)]at h;refine h.ext ⟨by decide,fun x y hi=> ?_⟩ dC dC;obtain⟨⟨a,b⟩,c,d⟩:=hi;simp only at a b c d;obtain rfl:y=0:=ω;rcases(by omega:x= -1\/x=0\/x=1)with rfl|rfl|rfl<;>decide+kernel
theorem oD{es}(h:Ln (⟨0,0,1,1⟩:R4).can (aT Gn) es):es=[128]:=by
  rw[tF (by decide)]at h;refine h.ext ⟨by decide,fun x y hi=> ?_⟩ dC dC;obtain⟨⟨a,b⟩,c,d⟩:=hi;simp only at a b c d;obtain rfl:y=0:=ω;obtain rfl:x=0:=ω;decide+kernel
theorem Tg:(eW (Ia 2 Gn) (⟨-3,-3,4,4⟩:R4).can).x0=0/\(eW (Ia 2 Gn) (⟨-3,-3,4,4⟩:R4).can).y0=0/\(eW (Ia 2 Gn) (⟨-3,-3,4,4⟩:R4).can).x1=1/\(eW (Ia 2 Gn) (⟨-3,-3,4,4⟩:R4).can).y1=1:=by decide+kernel
section
variable (A:Option Addr) (w:World) (hu:Cs w (.slice A Gn.length 1) Gn)
include hu
theorem aCA:Calls prog 18 #[.slice A Gn.length 1,iV 1,.agg #[iV (-1),iV 0,iV 2,iV 1]] w fun e w'=>∃(A:Option Addr) (c:Nat),e= .returned (.tuple #[.agg #[iV (-1),iV 0,iV 2,iV 1,.slice A 3 c],iV 0])/\Bg w' w.heap.size 5 1 (.slice A 3 c) 3 (List.flatMap Bq [0,128,0])/\Aa w w':=by
 refine(Mj A 1 Gn 1 ⟨-1,0,2,1⟩ w hu dC (by intro r_ A0;simp[Gn]at A0;subst A0;decide) (fun _ _=>by decide) dC).mono fun e w' h=> ?_
 obtain⟨A,n,c,es,rfl,h1,h2,h3,_,hx⟩:=Ge.ok h (by decide);obtain rfl:=oC h3;have h1:n=3:=h1;subst h1;exact⟨A,c,rfl,h2,hx⟩
theorem aBZ:Calls prog 18 #[.slice A Gn.length 1,iV 3,.agg #[iV 0,iV 0,iV 1,iV 1]] w fun e w'=>∃(A:Option Addr) (c:Nat),e= .returned (.tuple #[.agg #[iV 0,iV 0,iV 0,iV 0,.slice A 0 c],iV 2])/\Bg w' w.heap.size 5 1 (.slice A 0 c) 0 (List.flatMap Bq [])/\Aa w w':=by
 refine(Mj A 1 Gn 3 ⟨0,0,1,1⟩ w hu dC (by intro r_ A0;simp[Gn]at A0;subst A0;decide) (fun _ _=>by decide) dC).mono fun e w' h=> ?_
 obtain⟨A,c,rfl,h2,hx⟩:=Ge.bad h (by decide);exact⟨A,c,rfl,h2,hx⟩
theorem aBY:Calls prog 18 #[.slice A Gn.length 1,iV 1,.agg #[iV (-200),iV (-200),iV 200,iV 200]] w fun e w'=>∃(A:Option Addr) (c:Nat),e= .returned (.tuple #[.agg #[iV 0,iV 0,iV 0,iV 0,.slice A 0 c],iV 5])/\Bg w' w.heap.size 5 1 (.slice A 0 c) 0 (List.flatMap Bq [])/\Aa w w':=by
 refine(Mj A 1 Gn 1 ⟨-200,-200,200,200⟩ w hu dC (by intro r_ A0;simp[Gn]at A0;subst A0;decide) (fun _ _=>by decide) dC).mono fun e w' h=> ?_
 obtain⟨A,c,rfl,h2,hx⟩:=Ge.bad h (by decide);exact⟨A,c,rfl,h2,hx⟩
theorem aCC:Calls prog 20 #[.slice A Gn.length 1,iV 2,.agg #[iV (-3),iV (-3),iV 4,iV 4]] w fun e w'=>e= .returned (.tuple #[.agg #[iV 0,iV 0,iV 1,iV 1],iV 0])/\Aa w w':=by
 refine(xC A 1 Gn 2 ⟨-3,-3,4,4⟩ w hu dC (by intro r_ A0;simp[Gn]at A0;subst A0;decide) (fun _ _=>by decide) dC).mono fun e w' h=> ?_
 obtain⟨rfl,hx⟩:=h;rw[show xD 2 Gn ⟨-3,-3,4,4⟩=eW (Ia 2 Gn) (⟨-3,-3,4,4⟩:R4).can from if_pos (by decide),Tg.1,Tg.2.1,Tg.2.2.1,Tg.2.2.2];exact⟨rfl,hx⟩
theorem aCD:Calls prog 14 #[.slice A Gn.length 1,.agg #[iV 0,iV 0,iV 1,iV 1]] w fun e w'=>∃(A:Option Addr) (c:Nat),e= .returned (.tuple #[.agg #[iV 0,iV 0,iV 1,iV 1,.slice A 1 c],iV 0])/\Bg w' w.heap.size 5 1 (.slice A 1 c) 1 (List.flatMap Bq [128])/\Aa w w':=by
 refine(aR A 1 Gn ⟨0,0,1,1⟩ w hu dC (by intro r_ A0;simp[Gn]at A0;subst A0;decide) (fun _ _=>by decide)).mono fun e w' h=> ?_
 obtain⟨A,n,c,es,rfl,h1,h2,h3,_,hx⟩:=Ge.ok h (by decide);obtain rfl:=oD h3;have h1:n=1:=h1;subst h1;exact⟨A,c,rfl,h2,hx⟩
theorem aBX:Calls prog 22 #[.slice A Gn.length 1,iV 1,iV 0,iV 0] w fun e w'=>e= .returned (.int .u8 128)/\Aa w w':=by
  refine(Vk A 1 Gn 1 0 0 w hu dC (by intro r_ A0;simp[Gn]at A0;subst A0;decide) (fun _=>by decide) dC).mono fun e w' h=> ?_
  rw[show Ia 1 Gn 0 0=128 by decide+kernel]at h;exact h
end
theorem aBW(A w)(hu:Cs w (.slice A 1 1) uD):Calls prog 11 #[.slice A 1 1,iV 0,iV 0] w fun e w'=>∃r:RV,e= .returned (.tuple #[(rg r),iV 0])/\r.Is w' (-(((1:Int):Rat)/((2:Int):Rat)))/\Aa w w':=by
 refine(fT A 1 uD 0 0 w hu dC (by intro r_ A0;simp[uD]at A0;subst A0;decide) (fun _=>by decide) dC dC).mono fun e w' h=> ?_
 obtain⟨r,rfl,h1,_,hx⟩:=Rn.ok h (by decide);exact⟨r,rfl,(show Kf uD (0*256,0*256)= -(((1:Int):Rat)/((2:Int):Rat))by decide+kernel)▸h1,hx⟩
theorem aCB(r:RV)(w)(h:r.Is w (((1:Int):Rat)/((2:Int):Rat)))(hl:Nm.rl (((1:Int):Rat)/((2:Int):Rat))<=8):Calls prog 7 #[(rg r)] w fun e w'=>e= .returned (.int .u8 128)/\Aa w w':=by
  refine(Li r (((1:Int):Rat)/((2:Int):Rat)) w (h.isIn (Al hl dC))).mono fun e w' h=> ?_
  rw[show Ib (((1:Int):Rat)/((2:Int):Rat))=128 by decide+kernel]at h;exact h
theorem Ix(w):Calls prog 19 #[] w fun e w'=>∃g,e= .returned (.slice (π g) Gn.length 1)/\Cs w' (.slice (π g) Gn.length 1) Gn/\Aa w w':=by
 go_enter func19,ntmps19;have H0:=zH (Hp.start w);go_upto_region 0 with fail;apply wl;refine Cg Ah _ ?_;go_upto_region 1 with fail;apply wl;refine Da Ah _ _ _ ?_;apply eZ 3 52 [iV 0,iV 0,iV 256,iV 0,iV 0,iV 256] H0.1;intro X5 w6 H7 _;apply eZ 1 53 [.slice (π X5) 3 3] H7.1;intro X9 A1 A0 _;refine Cg Ah _ ?_;go_wp2_with fail;go_ret;exact⟨_,rfl,Wx A0.1 [(0,0),(256,0),(0,256)] (i:=0) (j:=1) (by rfl) (by rfl),A0.1.ext⟩
set_option maxRecDepth 200000 in
theorem Kk(w):Calls prog 6 #[] w fun e w'=>e= .returned τ/\Aa w w':=by
 go_enter func6,ntmps6;have H0:=zH (Hp.start w);go_upto_region 0 with fail;apply wl;apply zq φ;go_upto_region 1 with fail;apply wl;refine zc (cU 1 2 _ dC dC dC dC dC) ?_;rintro e O1 ⟨c_,rfl,D1,hx⟩;have L2:=zH (H0.1.step hx);obtain⟨B0,rfl,A1⟩:=D1;have H3:=zH A1;have H4:=zH (show Nm.rl (((1:Int):Rat)/((2:Int):Rat))<=8 from by decide+kernel);clear A1 hx;refine zn ?_;refine Da Ah _ _ _ ?_;refine Ca 26 rz L2.1 ?_;intro C7 O0 L1 M7;apply Cm 0 (rc B0) L1.1;intro N9 L0 M6;apply zq (iV 0);go_upto_region 2 with fail
 apply wl;refine zc (Ix _) ?_;rintro e N8 ⟨O5,rfl,A1,hx⟩;have K9:=zH (L0.1.step hx);have M5:=zH (Ac.of_ext hx);have E2:=zH A1;clear A1 hx;refine zn ?_;refine Cg Ah _ ?_;refine zc (aCA _ _ (E2.1)) ?_;rintro e H7 ⟨A6,A4,rfl,A0,hx⟩;have K8:=zH (show Hp w H7 [.blk C7 26 (rc B0),ro 5 1 A6 3 A4 Bq ([0,128,0])]from K9.1.addRow hx A0);have M4:=zH (Ac.of_ext hx);clear A0 hx;refine zn ?_;refine Da Ah _ _ _ ?_;apply Ca 42 [iV 0,iV 0,iV 0,iV 0,.slice none 0 0] K8.1;intro D3 N7 K7 M3;apply Cm 2 [iV (-1),iV 0,iV 2,iV 1,.slice A6 3 A4] K7.1;intro N6 K6 M2;apply zq (iV 0);go_upto_region 3 with fail
 apply wl;refine zc (Ix _) ?_;rintro e N5 ⟨O4,rfl,A1,hx⟩;have K5:=zH (K6.1.step hx);have M1:=zH (Ac.of_ext hx);have E1:=zH A1;clear A1 hx;refine zn ?_;refine Cg Ah _ ?_;refine aC K5.1 (aCC _ _ (E1.1)) ?_;intro N4 K4 M0;refine Da Ah _ _ _ ?_;apply Ca 35 [iV 0,iV 0,iV 0,iV 0] K4.1;intro D2 N3 K3 L9;apply Cm 3 [iV 0,iV 0,iV 1,iV 1] K3.1;intro N2 K2 L8;apply zq (iV 0);go_upto_region 4 with fail
 apply wl;refine zc (Ix _) ?_;rintro e N1 ⟨O3,rfl,A1,hx⟩;have K1:=zH (K2.1.step hx);have L7:=zH (Ac.of_ext hx);have E0:=zH A1;clear A1 hx;refine zn ?_;refine Cg Ah _ ?_;refine zc (aBZ _ _ (E0.1)) ?_;rintro e H6 ⟨B2,B1,rfl,A0,hx⟩;have K0:=zH (show Hp w H6 [.blk C7 26 (rc B0),ro 5 1 A6 3 A4 Bq ([0,128,0]),.blk D3 42 [iV (-1),iV 0,iV 2,iV 1,.slice A6 3 A4],.blk D2 35 [iV 0,iV 0,iV 1,iV 1],ro 5 1 B2 0 B1 Bq ([])]from K1.1.addRow hx A0);have L6:=zH (Ac.of_ext hx);clear A0 hx;refine zn ?_;refine Da Ah _ _ _ ?_;apply Ca 42 [iV 0,iV 0,iV 0,iV 0,.slice none 0 0] K0.1;intro H2 N0 J9 L5;apply Cm 5 [iV 0,iV 0,iV 0,iV 0,.slice B2 0 B1] J9.1;intro M9 J8 L4;apply zq (iV 2);go_upto_region 5 with fail
 apply wl;refine zc (Ix _) ?_;rintro e M8 ⟨O2,rfl,A1,hx⟩;have J7:=zH (J8.1.step hx);have L3:=zH (Ac.of_ext hx);have D9:=zH A1;clear A1 hx;refine zn ?_;refine Cg Ah _ ?_;refine zc (aBY _ _ (D9.1)) ?_;rintro e H5 ⟨C8,C6,rfl,A0,hx⟩;have F6:=zH (show Hp w H5 [.blk C7 26 (rc B0),ro 5 1 A6 3 A4 Bq ([0,128,0]),.blk D3 42 [iV (-1),iV 0,iV 2,iV 1,.slice A6 3 A4],.blk D2 35 [iV 0,iV 0,iV 1,iV 1],ro 5 1 B2 0 B1 Bq ([]),.blk H2 42 [iV 0,iV 0,iV 0,iV 0,.slice B2 0 B1],ro 5 1 C8 0 C6 Bq ([])]from J7.1.addRow hx A0);have G8:=zH (Ac.of_ext hx);clear A0 hx;refine zn ?_;refine Da Ah _ _ _ ?_;apply Ca 42 [iV 0,iV 0,iV 0,iV 0,.slice none 0 0] F6.1;intro D6 J1 F5 G7;apply Cm 7 [iV 0,iV 0,iV 0,iV 0,.slice C8 0 C6] F5.1;intro J0 F4 G6;apply zq (iV 5);go_upto_region 6 with fail
 apply wl;refine Da Ah _ _ _ ?_;apply eZ 3 52 [iV 0,iV 256,iV 256,iV 0,iV 0,iV 0] F4.1;intro A8 I9 F3 G5;apply eZ 1 53 [.slice (π A8) 3 3] F3.1;intro D5 I8 B9 G4;refine zc (aBW _ _ (Wx B9.1 [(0,256),(256,0),(0,0)] (i:=8) (j:=9) rR rR)) ?_;rintro e I7 ⟨B3,rfl,A1,hx⟩;have F2:=zH (B9.1.step hx);have G3:=zH (Ac.of_ext hx);have D8:=zH A1;have H1:=zH (show Nm.rl (-(((1:Int):Rat)/((2:Int):Rat)))<=8 from by decide+kernel);clear A1 hx;refine zn ?_;refine Da Ah _ _ _ ?_;refine Ca 26 rz F2.1 ?_;intro D4 I6 F1 C4;apply Cm 10 (rc B3) F1.1;intro A7 B8 C3;apply zq (iV 0);go_upto_region 7 with fail
 refine zy ?_;have F0:=zH (B8.1.step (Aa.refl A7).drew);have C2:=zH (Ac.of_ext (w:=A7) zb);refine zx 0 (bs 9 1) (iV 0) zb ?_;refine zu 1 (bs 9 3) (v:= .bool false) zb ?_ (hv:=by intro w J3;exact Nn (e:=(Af (fun h_=>h_ rfl))));refine iT B8.1 zb (bs 9 47) 2 3 5 φ _ _ ?_;have C1:=tD (tD C4 C3) C2;refine mC 4 (bs 9 63) (yK (L:=60000) (RV.Is.nin (D8.1.dig C1.1) (Al H1.1 ω)) ω) ?_;rintro e D0 ⟨c_,rfl,D1,hx⟩;have E9:=zH (F0.1.step hx);have G2:=zH (show Ac A7.drew D0 from Ac.of_ext hx);have B5:=zH (zb.trans hx);obtain⟨J2,rfl,A1⟩:=D1;have D7:=zH A1;have G9:=zH (show Nm.rl (-(-(((1:Int):Rat)/((2:Int):Rat))))<=8 from by decide+kernel);clear A1 hx;apply zm B5.1;have A5:=tD (tD (tD (tD (tD (tD (tD (tD (tD (tD (tD (tD (tD (tD (tD (tD (tD (tD (tD (tD (tD (tD (tD (tD M7 M6) M5) M4) M3) M2) M1) M0) L9) L8) L7) L6) L5) L4) L3) G8) G7) G6) G5) G4) G3) C4) C3) C2) G2;refine mC 6 (bs 9 127) (Fq (L:=60000) (RV.Is.nin D7.1 (Al G9.1 ω)) (RV.Is.nin (H3.1.dig A5.1) (Al H4.1 ω)) ω) ?_;rintro e I5 ⟨rfl,hx⟩;have E8:=zH (E9.1.step hx);have G1:=zH (Ac.of_ext hx);have A9:=zH (B5.1.trans hx);clear hx;apply zm A9.1;refine zu 7 (bs 9 255) (v:= .bool false) A9.1 ?_ (hv:=by intro w J3;exact Nn (e:=(Af (fun hh=>hh (Qs.2 (by decide+kernel))))));refine zx 8 (bs 9 511) φ A9.1 ?_;refine wpAnyH_done kR ?_ _;go_upto_region 9 with fail
 apply wl;refine zc (Ix _) ?_;rintro e I4 ⟨J5,rfl,A1,hx⟩;have E7:=zH (E8.1.step hx);have G0:=zH (Ac.of_ext hx);have B7:=zH A1;clear A1 hx;refine zn ?_;refine Cg Ah _ ?_;refine zc (aCD _ _ (B7.1)) ?_;rintro e C9 ⟨C5,B4,rfl,A0,hx⟩;have E6:=zH (show Hp w C9 [.blk C7 26 (rc B0),ro 5 1 A6 3 A4 Bq ([0,128,0]),.blk D3 42 [iV (-1),iV 0,iV 2,iV 1,.slice A6 3 A4],.blk D2 35 [iV 0,iV 0,iV 1,iV 1],ro 5 1 B2 0 B1 Bq ([]),.blk H2 42 [iV 0,iV 0,iV 0,iV 0,.slice B2 0 B1],ro 5 1 C8 0 C6 Bq ([]),.blk D6 42 [iV 0,iV 0,iV 0,iV 0,.slice C8 0 C6],.blk A8 52 [iV 0,iV 256,iV 256,iV 0,iV 0,iV 0],.blk D5 53 [.slice (π A8) 3 3],.blk D4 26 (rc B3),ro 5 1 C5 1 B4 Bq ([128])]from E7.1.addRow hx A0);have F9:=zH (Ac.of_ext hx);clear A0 hx;refine zn ?_;refine Da Ah _ _ _ ?_;apply Ca 42 [iV 0,iV 0,iV 0,iV 0,.slice none 0 0] E6.1;intro J6 I3 E5 F8;apply Cm 12 [iV 0,iV 0,iV 1,iV 1,.slice C5 1 B4] E5.1;intro I1 A3 F7;apply zq (iV 0);go_upto_region 10 with fail
 apply wl;apply zq (iV 0);apply zp φ (by exact Nn (e:=(Af (fun h_=>h_ rfl))));refine Da A3.1 φ _ _ ?_;apply zp (.string {data:=#[128]}) (by exact aI rR rR (A3.1.row (i:=11) rR) rR);apply zp φ (by exact wN rR rR rR (by simp));apply zq φ;go_upto_region 12 with fail;apply wl;refine Cg A3.1 _ ?_;have C0:=tD (tD (tD (tD (tD A5 G1) G0) F9) F8) F7;refine aC A3.1 (aCB B0 _ (H3.1.dig C0.1) H4.1) ?_;intro I0 E4 _;apply zp τ (by exact kF rR rR rR dC);apply qV τ;refine zc (Ix _) ?_;rintro e H9 ⟨J4,rfl,A1,hx⟩;have E3:=zH (E4.1.step hx);have B6:=zH A1;clear A1 hx;refine zn ?_;refine aC E3.1 (aBX _ _ (B6.1)) ?_;intro H8 A2 _;apply zp τ (by exact kF rR rR rR dC);refine Ef A2.1 τ τ _ _ ?_;apply zp (.string {data:=#[0,128,0]}) (by exact aI rR rR (A2.1.row (i:=1) rR) rR);apply zp τ (by exact kE rR rR rR (by simp));refine Da Ah τ τ _ ?_;apply zp τ (by exact Sn (e:=dC));refine Hz A2.1 τ τ _ _ τ τ τ _ ?_;apply zp τ (by exact Sn (e:=dC));refine Da Ah τ τ _ ?_;apply zp τ (by exact Sn (e:=dC));refine Da Ah τ τ _ ?_;apply zp τ (by exact Sn (e:=dC));apply qV τ;apply zq τ;go_wp2_with fail
 go_ret;exact⟨rfl,A2.1.ext⟩
end
section
open Go.RowKit Go.Shelf
end
section
attribute [local go_sem ↓] Go.wp_at_zero Go.wp_at_succ Aq An
end
section
theorem bD{a b}(h:a.1≠b.1)(x):Il b a x=Il a b x:=by
  unfold Il;have h1:((b.1:Int):Rat)-((a.1:Int):Rat)≠0:=fun c=>by
    have e:((a.1:Int):Rat)=((b.1:Int):Rat):=by grind
    exact h (by exact_mod_cast e)
  rw[Rat.intCast_sub,Rat.intCast_sub,Rat.intCast_sub,Rat.intCast_sub,Rat.intCast_sub,Rat.intCast_sub];have h2:((a.1:Int):Rat)-((b.1:Int):Rat)≠0:=by grind
  have k1:=Rat.mul_inv_cancel _ h1;have k2:=Rat.mul_inv_cancel _ h2;rw[Rat.div_def,Rat.div_def];grind
theorem xZ{a b:Int×Int}(h:a.2≠b.2)(y):Cz b.1 b.2 a.1 a.2 y=Cz a.1 a.2 b.1 b.2 y:=by rw[kU h,Ot h]
theorem Yo{a b lo hi x}(h:a.1≠b.1):Lx b a lo hi x↔Lx a b lo hi x:=by
  unfold Lx;rw[bD h,Int.min_comm b.1,Int.max_comm b.1];exact⟨fun k=>⟨⟨k.1.1.symm,k.1.2⟩,k.2⟩,fun k=>⟨⟨k.1.1.symm,k.1.2⟩,k.2⟩⟩
theorem eQ(a b lo hi x):Jn b a lo hi x=Jn a b lo hi x:=by
  unfold Jn;by_cases h:a.1=b.1
  · rw[if_neg (fun c:Lx b a lo hi x=>c.1.1 h.symm),if_neg (fun c:Lx a b lo hi x=>c.1.1 h)]
  by_cases c:Lx a b lo hi x
  · rw[if_pos c,if_pos ((Yo h).2 c),bD h]
  rw[if_neg c,if_neg (fun k=>c ((Yo h).1 k))]
theorem nQ(p a b):Fi p b a=Fi p a b:=by
 unfold Fi;have e1:Lu p.2 b a=Lu p.2 a b:=by unfold Lu;rw[Int.min_comm]
 have e2:Lv p.2 b a=Lv p.2 a b:=by unfold Lv;rw[Int.max_comm]
 rw[e1,e2,Int.max_comm b.1,Int.min_comm b.1];by_cases h:a.2=b.2
 ·have c:Lv p.2 a b<=Lu p.2 a b:=by unfold Lv Lu;rw[h];omega
  rw[if_pos (.inl c),if_pos (.inl c)]
 have e3:Jk p.1 b a=Jk p.1 a b:=by funext x y;unfold Jk;rw[xZ h,xZ h]
 have e4:Em p.1 b a (Lu p.2 a b) (Lv p.2 a b)=Em p.1 a b (Lu p.2 a b) (Lv p.2 a b):=by unfold Em Wd;rw[eQ a b _ _ p.1,eQ a b _ _ (p.1+256)]
 rw[e3,e4]
def Rc (x:Rat)(o:List Rat×Bool)(e:Rat):List Rat×Bool:=if o.2=false/\x<e then(o.1++[x,e],true)else(o.1++[e],o.2)
def Kr (x:Rat)(l:List Rat):List Rat×Bool:=l.foldl (Rc x) ([],false)
theorem nR(x e l):Kr x (l++[e])=Rc x (Kr x l) e:=by unfold Kr;rw[List.foldl_append];rfl
def Nl (x:Rat):List Rat->List Rat
  | []=>[]
  |e::l=>if x<e then x::e::l else e::Nl x l
theorem rZ (x:Rat):∀(l o:List Rat),l.foldl (Rc x) (o,true)=(o++l,true)
  | [],o=>by simp
  |e::l,o=>by rw[List.foldl_cons,show Rc x (o,true) e=(o++[e],true)from if_neg (by simp),rZ x l];simp
theorem sA (x:Rat):∀(l o:List Rat),(l.foldl (Rc x) (o,false)).1=o++Nl x l
  | [],o=>by simp[Nl]
  | e::l,o=>by
    rw[List.foldl_cons];by_cases c:x<e
    · rw[show Rc x (o,false) e=(o++[x,e],true)from if_pos ⟨rfl,c⟩,rZ]
      simp[Nl,c]
    rw[show Rc x (o,false) e=(o++[e],false)from if_neg (fun h=>c h.2),sA x l];simp[Nl,c]
theorem jX(x l):(Kr x l).1=Nl x l:=by unfold Kr;rw[sA,fQQ]
theorem eC {x z:Rat}:∀{l:List Rat},z∈Nl x l->z=x\/z∈l
  | [],h=>by cases h
  | e::l,h=>by
    unfold Nl at h;split at h
    · rcases List.mem_cons.1 h with h|h
      · exact .inl h
      exact .inr h
    rcases List.mem_cons.1 h with h|h
    · exact .inr (by rw[h];exact eXX)
    rcases eC h with h|h
    · exact .inl h
    exact .inr (cZZ _ h)
theorem eB {x:Rat}:∀{l:List Rat},l.Pairwise (· <= ·)->(Nl x l).Pairwise (· <= ·)
  | [],_=>List.Pairwise.nil
  | e::l,h=>by
    have h1:=List.pairwise_cons.1 h;unfold Nl;split
    · rename_i c
      refine List.pairwise_cons.2 ⟨fun z hz=> ?_,h⟩;rcases List.mem_cons.1 hz with k|k
      · rw[k];exact Rat.le_of_lt c
      exact Rat.le_trans (Rat.le_of_lt c) (h1.1 z k)
    rename_i c;refine List.pairwise_cons.2 ⟨fun z hz=> ?_,eB h1.2⟩;rcases eC hz with k|k
    · rw[k];exact Rat.not_lt.1 c
    exact h1.1 z k
theorem eD {x h:Rat}(hx:x<h):∀m:List Rat,∃m',Nl x (m++[h])=m'++[h]/\m'.Perm (x::m)
  | []=>⟨[x],by simp[Nl,hx],List.Perm.refl _⟩
  | e::m=>by
    obtain⟨m',h1,h2⟩:=eD hx m;by_cases c:x<e
    · exact⟨x::e::m,by simp[Nl,c],List.Perm.refl _⟩
    exact⟨e::m',by simp[Nl,c,h1],(h2.cons e).trans (List.Perm.swap x e m)⟩
def Qr (px:Int)(a b:Int×Int)(lo hi:Int):Nat->List Rat
  |0=>[((lo:Int):Rat),((hi:Int):Rat)]
  |k+1=>if Lx a b lo hi (px+(k:Int)*256)then(Kr (Il a b (px+(k:Int)*256)) (Qr px a b lo hi k)).1 else Qr px a b lo hi k
def sZ (px:Int)(a b:Int×Int)(lo hi:Int):Nat->List Rat
  |0=>[]
  |k+1=>sZ px a b lo hi k++Jn a b lo hi (px+(k:Int)*256)
theorem Mx (px:Int)(a b:Int×Int)(lo hi:Int):∀k,∃m,Qr px a b lo hi k=((lo:Int):Rat)::(m++[((hi:Int):Rat)])/\m.Perm (sZ px a b lo hi k)
  |0=>⟨[],rfl,List.Perm.refl _⟩
  | k+1=>by
    obtain⟨m,h1,h2⟩:=Mx px a b lo hi k;by_cases c:Lx a b lo hi (px+(k:Int)*256)
    · obtain⟨m',h3,h4⟩:=eD c.2.2 m
      refine⟨m',?_,?_⟩
      · rw[show Qr px a b lo hi (k+1)=_ from if_pos c,jX,h1]
        show Nl _ (((lo:Int):Rat)::(m++[((hi:Int):Rat)]))=_;unfold Nl;rw[if_neg (fun k=>absurd c.2.1 (Rat.not_lt.2 (Rat.le_of_lt k))),h3]
      show m'.Perm (sZ px a b lo hi k++Jn a b lo hi (px+(k:Int)*256));rw[show Jn a b lo hi (px+(k:Int)*256)=[Il a b (px+(k:Int)*256)]from if_pos c];exact h4.trans ((h2.cons _).trans (List.perm_append_singleton _ _).symm)
    refine⟨m,(show Qr px a b lo hi (k+1)=_ from if_neg c).trans h1,?_⟩;show m.Perm (sZ px a b lo hi k++Jn a b lo hi (px+(k:Int)*256));rw[show Jn a b lo hi (px+(k:Int)*256)=[]from if_neg c,hZZ];exact h2
theorem Ui {px:Int}{a b:Int×Int}{lo hi:Int}(h:lo<=hi):∀k,(Qr px a b lo hi k).Pairwise (· <= ·)
  | 0=>by
    have e:((lo:Int):Rat)<=((hi:Int):Rat):=by exact_mod_cast h
    show List.Pairwise _ [((lo:Int):Rat),((hi:Int):Rat)];simp[e]
  | k+1=>by
    show List.Pairwise _ (if _ then _ else _);split
    · rw[jX];exact eB (Ui h k)
    exact Ui h k
theorem cK{px a b lo hi}(h:lo<=hi):Qr px a b lo hi 2=Em px a b lo hi:=by
 refine jD (Ui h 2) ?_;obtain⟨m,h1,h2⟩:=Mx px a b lo hi 2;rw[h1];have e:sZ px a b lo hi 2=Jn a b lo hi px++Jn a b lo hi (px+256):=by
  show([]++Jn a b lo hi (px+((0:Nat):Int)*256))++Jn a b lo hi (px+((1:Nat):Int)*256)=_;rw[fQQ,show px+((0:Nat):Int)*256=px by omega,show px+((1:Nat):Int)*256=px+256 by omega]
 rw[e]at h2;unfold Wd;rw[jQQ];refine List.Perm.cons _ ?_;refine List.perm_append_comm.trans ?_;exact h2.cons _
theorem rW {a b:Int}(h:a<=b):(a:Rat)<=(b:Rat):=by exact_mod_cast h
theorem Mh {F G:Rat->Rat->Rat}:∀{l:List Rat},(∀x,x∈l->∀y,y∈l->F x y=G x y)->Ey F l=Ey G l
  | [],_=>rfl
  | [_],_=>rfl
  | x::y::l,h=>by
    show F x y+Ey F (y::l)=G x y+Ey G (y::l);rw[h x eXX y (cZZ _ eXX),Mh fun a ha b hb=>h a (cZZ _ ha) b (cZZ _ hb)]
theorem Uw:∀l:List Rat,Ey (fun _ _=>0) l=0
  | []=>rfl
  | [_]=>rfl
  |x::y::l=>by show(0:Rat)+Ey _ (y::l)=0;rw[Uw (y::l)];grind
theorem Xo (c h:Rat):∀(m:List Rat) (x:Rat),Ey (fun x y=>c*(y-x)) (x::(m++[h]))=c*(h-x)
  | [],x=>by show c*(h-x)+0=_;grind
  | y::m,x=>by
    show c*(y-x)+Ey (fun x y=>c*(y-x)) (y::(m++[h]))=_;rw[Xo c h m y];grind
theorem oX{p q:Int×Int}{f t y}(hn:p.2≠q.2)(h:((min p.2 q.2:Int):Rat)<=y/\y<=((max p.2 q.2:Int):Rat))(hp:f<=(p.1:Rat)/\(p.1:Rat)<=t)(hq:f<=(q.1:Rat)/\(q.1:Rat)<=t):f<=Cz p.1 p.2 q.1 q.2 y/\Cz p.1 p.2 q.1 q.2 y<=t:=by
 have key:∀{p q:Int×Int} {f t y:Rat},p.2<q.2->(p.2:Rat)<=y->y<=(q.2:Rat)->f<=(p.1:Rat)/\(p.1:Rat)<=t->f<=(q.1:Rat)/\(q.1:Rat)<=t->f<=Cz p.1 p.2 q.1 q.2 y/\Cz p.1 p.2 q.1 q.2 y<=t:=by
  intro p q f t y A0 h1 h2 hp hq;have c:(p.2:Rat)<(q.2:Rat):=by exact_mod_cast A0
  by_cases e1:(p.2:Rat)<y
  ·by_cases e2:y<(q.2:Rat)
   ·exact Yy (.inl ⟨e1,e2⟩) hp hq
   have e3:y=(q.2:Rat):=by grind
   rw[e3,Ot ω];have k:(q.2:Rat)-p.2≠0:=by grind
   have k2:=Rat.mul_inv_cancel _ k;rw[Rat.div_def];generalize ((q.2:Rat)-p.2)⁻¹=i at*;have e5:(p.1:Rat)+((q.2:Rat)-p.2)*(((q.1:Rat)-p.1)*i)=(q.1:Rat):=by grind
   rw[e5];exact hq
  have e3:y=(p.2:Rat):=by grind
  rw[e3];have e4:Cz p.1 p.2 q.1 q.2 (p.2:Rat)=(p.1:Rat):=by unfold Cz;grind
  rw[e4];exact hp
 rcases Int.lt_or_gt_of_ne hn with c|c
 ·rw[Int.min_eq_left ω,Int.max_eq_right ω]at h
  exact key c h.1 h.2 hp hq
 rw[Int.min_eq_right ω,Int.max_eq_left ω]at h;rw[<-xZ (a:=p) (b:=q) hn];exact key c h.1 h.2 hq hp
def lX (p a b:Int×Int):Rat:=if min b.2 (p.2+256)<=max a.2 p.2 then((0:Int):Rat)else Ey (Jk p.1 a b) (Em p.1 a b (max a.2 p.2) (min b.2 (p.2+256)))
theorem lW{p a b}(h:a.2<b.2):lX p a b=Fi p a b:=by
 have e1:Lu p.2 a b=max a.2 p.2:=by unfold Lu;omega
 have e2:Lv p.2 a b=min b.2 (p.2+256):=by unfold Lv;omega
 have A2:min a.2 b.2<=max a.2 p.2:=ω;have A1:min b.2 (p.2+256)<=max a.2 b.2:=ω;unfold lX Fi;rw[e1,e2];generalize max a.2 p.2=lo at*;generalize min b.2 (p.2+256)=hi at*;by_cases c1:hi<=lo
 ·rw[if_pos c1,if_pos (.inl c1)]
 rw[if_neg c1];have hm:∀z,z∈Em p.1 a b lo hi->((min a.2 b.2:Int):Rat)<=z/\z<=((max a.2 b.2:Int):Rat):=fun z hz=>by
  have h1:=aB hz ω;have h2:((min a.2 b.2:Int):Rat)<=((lo:Int):Rat):=by exact_mod_cast A2
  have h3:((hi:Int):Rat)<=((max a.2 b.2:Int):Rat):=by exact_mod_cast A1
  exact⟨Rat.le_trans h2 h1.1,Rat.le_trans h1.2 h3⟩
 have hx:∀{f t:Rat},f<=(a.1:Rat)/\(a.1:Rat)<=t->f<=(b.1:Rat)/\(b.1:Rat)<=t->∀z,z∈Em p.1 a b lo hi->f<=Cz a.1 a.2 b.1 b.2 z/\Cz a.1 a.2 b.1 b.2 z<=t:=fun ha hb z hz=>oX ω (hm z hz) ha hb
 have bx:((min a.1 b.1:Int):Rat)<=(a.1:Rat)/\(a.1:Rat)<=((max a.1 b.1:Int):Rat)/\((min a.1 b.1:Int):Rat)<=(b.1:Rat)/\(b.1:Rat)<=((max a.1 b.1:Int):Rat):=⟨by exact_mod_cast Int.min_le_left _ _,by exact_mod_cast Int.le_max_left _ _,by exact_mod_cast Int.min_le_right _ _,by exact_mod_cast Int.le_max_right _ _⟩;have hx:=hx ⟨bx.1,bx.2.1⟩ ⟨bx.2.2.1,bx.2.2.2⟩;have e0:((0:Int):Rat)=0:=rfl;have A0:((256:Int):Rat)=256:=rfl;by_cases c2:max a.1 b.1<=p.1
 ·rw[if_pos (.inr c2)]
  have k:((max a.1 b.1:Int):Rat)<=((p.1:Int):Rat):=by exact_mod_cast c2
  have hz:∀z,z∈Em p.1 a b lo hi->Fk p.1 (Cz a.1 a.2 b.1 b.2 z)=0:=fun z hz=>by
   have h1:=(hx z hz).2;unfold Fk;rw[e0,A0];split
   ·rfl
   split<;>grind
  rw[Mh (G:=fun _ _=>0) fun x hx y hy=>by unfold Jk;rw[hz x hx,hz y hy];grind,Uw];rfl
 rw[if_neg (fun k=>k.elim c1 c2)];by_cases c3:p.1+256<=min a.1 b.1
 ·rw[if_pos c3]
  have k:((p.1:Int):Rat)+256<=((min a.1 b.1:Int):Rat):=by
   have:(((p.1+256:Int)):Rat)<=((min a.1 b.1:Int):Rat):=rW c3;rw[Rat.intCast_add]at this;exact this
  have hz:∀z,z∈Em p.1 a b lo hi->Fk p.1 (Cz a.1 a.2 b.1 b.2 z)=256:=fun z hz=>by
   have h1:=(hx z hz).1;unfold Fk;rw[e0,A0];rw[if_neg (by grind)];split<;>grind
  obtain⟨m,h1,_⟩:=Mx p.1 a b lo hi 2;rw[Mh (G:=fun x y=>256*(y-x)) fun x hx y hy=>by unfold Jk;rw[hz x hx,hz y hy];grind,<-cK ω,h1,Xo,Rat.intCast_mul,Rat.intCast_sub];rfl
 rw[if_neg c3]
theorem pN(s):s*(((1:Int):Rat)/((65536:Int):Rat))=s/((65536:Int):Rat):=by
  rw[Rat.div_def,Rat.div_def];show s*(1*_)=_;rw[Rat.one_mul]
end
section
section
variable {P:Program} {ρ:Operand->Value} {o:Oper} {w:World} {g n c k size:Nat} {z:Int} {t e:TypeId} {x y:Operand}
end
section
variable {w:World} {b g n c:Nat} {T:TypeId} {es:List Ba}
theorem Bg.elem1(h:Bg w b T 4 (.slice (π g) n c) n (es.flatMap Ba.cells)){k e}(he:es[k]?=some e):w.rangeAt g (k*4) e.cells:=
  h.rangeAt _ _ (fun j v hj=>Hu Ba.len es k e he j v hj)
theorem add_c(g o j):(⟨g,o,none⟩:Addr).add j=⟨g,o+j,none⟩:=by unfold Addr.add;split<;>simp_all
end
section
variable {w0 w w':World} {m:List Et}
end
end
section
attribute [local go_sem ↓] Go.wp_at_zero Go.wp_at_succ Aq An
theorem tY{a b x}:(a.2:Rat)+(((b.2-a.2)*(x-a.1):Int):Rat)/((b.1-a.1:Int):Rat)=Il a b x:=by
  unfold Il;congr 1;rw[Rat.intCast_mul,Rat.div_def,Rat.div_def,Rat.mul_comm ((b.2-a.2:Int):Rat),Rat.mul_assoc,Rat.mul_assoc,Rat.mul_comm ((b.2-a.2:Int):Rat)]
theorem uA{a b y}:(a.1:Rat)+((b.1-a.1:Int):Rat)/((b.2-a.2:Int):Rat)*(y-(a.2:Rat))=yA a b y:=by
  unfold yA;congr 1;rw[Rat.div_def,Rat.div_def,Rat.intCast_one,Rat.one_mul,Rat.mul_comm,Rat.mul_comm ((b.1-a.1:Int):Rat),Rat.mul_assoc]
theorem Wr(a b x w)(ha:Dy a)(hb:Dy b)(hx0: -9223372036854775808<=x/\x<=9223372036854775807):
  Calls prog 86 #[.agg #[iV a.1,iV a.2],.agg #[iV b.1,iV b.2],iV x] w (Ka (Yx a b x) (Il a b x) w):=by
 have VA:=zH (show De a.1 a.2=true from ha);have VB:=zH (show De b.1 b.2=true from hb);clear ha hb;go_enter func86,ntmps86
 have H0:=zH (Hp.start w);go_upto_region 0 with fail;apply wl;apply Ca 52 [iV a.1,iV a.2] H0.1;intro X1 w2 H3 _;apply Ca 52 [iV b.1,iV b.2] H3.1;intro X6 w7 H8 _;refine Ca 26 rz H8.1 ?_;intro D7 G0 A6 _;apply zq φ;have oa:=Bi (p:=a) VA.1;have ob:=Bi (p:=b) VB.1;rcases Cl (a.1=b.1)with C1|C1
 ·go_upto_region 1 with fail
  apply wl;refine Cg A6.1 _ ?_;refine zc (Dx a.1 a.2 _) ?_;rintro e F9 ⟨rfl,hx⟩;have E3:=zH (A6.1.step hx);clear hx;refine⟨.bool true,by rw[VA.1],?_⟩;try simp only[ζ]
  refine Da E3.1 φ φ _ ?_;refine zc (Dx b.1 b.2 _) ?_;rintro e F8 ⟨rfl,hx⟩;have E2:=zH (E3.1.step hx);clear hx;refine⟨.bool true,by rw[VB.1],?_⟩;try simp only[ζ]
  refine bC E2.1 φ φ φ _ _ _ _ ?_;apply zp τ (by exact Sn (e:=(Ar C1.1)));refine Hz Ah τ τ _ _ _ _ _ _ ?_;refine Hz Ah _ τ τ _ _ _ _ _ ?_;refine Da Ah _ _ τ ?_;go_upto_region 2 with fail;apply wl;apply zq (.agg z4);refine Cm 2 rz E2.1 ?_;intro F7 E1 _;apply zq φ;go_wp2_with fail;refine bodyPost_ret ?_ rfl ⟨.inr ⟨fun h=>h.2.2.1 C1.1,rfl⟩,E1.1.ext⟩;exact Ad rfl rfl ((E1.1.blk (i:=2) rR).loadVar rfl rfl rR) rfl
 rcases Cl (x<min a.1 b.1)with C2|C2
 ·go_upto_region 1 with fail
  apply wl;refine Cg A6.1 _ ?_;refine zc (Dx a.1 a.2 _) ?_;rintro e F6 ⟨rfl,hx⟩;have E0:=zH (A6.1.step hx);clear hx;refine⟨.bool true,by rw[VA.1],?_⟩;try simp only[ζ]
  refine Da E0.1 φ φ _ ?_;refine zc (Dx b.1 b.2 _) ?_;rintro e F5 ⟨rfl,hx⟩;have C4:=zH (E0.1.step hx);clear hx;refine⟨.bool true,by rw[VB.1],?_⟩;try simp only[ζ]
  refine bC C4.1 φ φ φ _ _ _ _ ?_;apply zp φ (by exact Sn (e:=(Af C1.1)));refine Hz C4.1 φ φ (iV x) _ _ _ _ (iV (min a.1 b.1)) ?_;apply zp τ (by exact Df (e:=(Ar C2.1)));refine Hz Ah τ τ _ _ _ _ _ _ ?_;refine zk ?_;apply zq τ;go_upto_region 2 with fail;apply wl;apply zq (.agg z4);refine Cm 2 rz C4.1 ?_;intro F4 D9 _;apply zq φ;go_wp2_with fail;refine bodyPost_ret (v:= .tuple #[.agg z4,.bool false]) ?_ rfl ⟨.inr ⟨fun h=>by have h1:=h.2.2.2.1;have h2:=C2.1;omega,rfl⟩,D9.1.ext⟩;exact Ad rfl rfl ((D9.1.blk (i:=2) rR).loadVar rfl rfl rR) rfl
 rcases Cl (max a.1 b.1<x)with C3|C3
 ·go_upto_region 1 with fail
  apply wl;refine Cg A6.1 _ ?_;refine zc (Dx a.1 a.2 _) ?_;rintro e F3 ⟨rfl,hx⟩;have D8:=zH (A6.1.step hx);clear hx;refine⟨.bool true,by rw[VA.1],?_⟩;try simp only[ζ]
  refine Da D8.1 φ φ _ ?_;refine zc (Dx b.1 b.2 _) ?_;rintro e F2 ⟨rfl,hx⟩;have B7:=zH (D8.1.step hx);clear hx;refine⟨.bool true,by rw[VB.1],?_⟩;try simp only[ζ]
  refine bC B7.1 φ φ φ _ _ _ _ ?_;apply zp φ (by exact Sn (e:=(Af C1.1)));refine Hz B7.1 φ φ (iV x) _ _ _ _ (iV (min a.1 b.1)) ?_;apply zp φ (by exact Df (e:=(Af C2.1)));refine Hz B7.1 φ φ (iV x) _ _ _ _ (iV (max a.1 b.1)) ?_;apply zp τ (by exact Lw (e:=(Ar C3.1)));apply zq τ;go_upto_region 2 with fail;apply wl;apply zq (.agg z4);refine Cm 2 rz B7.1 ?_;intro F0 B5 _;apply zq φ;go_wp2_with fail;refine bodyPost_ret (v:= .tuple #[.agg z4,.bool false]) ?_ rfl ⟨.inr ⟨fun h=>by have h1:=h.2.2.2.2;have h2:=C3.1;omega,rfl⟩,B5.1.ext⟩;exact Ad rfl rfl ((B5.1.blk (i:=2) rR).loadVar rfl rfl rR) rfl
 go_upto_region 1 with fail;apply wl;refine Cg A6.1 _ ?_;refine zc (Dx a.1 a.2 _) ?_;rintro e E9 ⟨rfl,hx⟩;have B4:=zH (A6.1.step hx);clear hx;refine⟨.bool true,by rw[VA.1],?_⟩;try simp only[ζ]
 refine Da B4.1 φ φ _ ?_;refine zc (Dx b.1 b.2 _) ?_;rintro e E8 ⟨rfl,hx⟩;have A3:=zH (B4.1.step hx);clear hx;refine⟨.bool true,by rw[VB.1],?_⟩;try simp only[ζ]
 refine bC A3.1 φ φ φ _ _ _ _ ?_;apply zp φ (by exact Sn (e:=(Af C1.1)));refine Hz A3.1 φ φ (iV x) _ _ _ _ (iV (min a.1 b.1)) ?_;apply zp φ (by exact Df (e:=(Af C2.1)));refine Hz A3.1 φ φ (iV x) _ _ _ _ (iV (max a.1 b.1)) ?_;apply zp φ (by exact Lw (e:=(Af C3.1)));apply zq φ;have G2:b.1-a.1≠0:=fun h=>C1.1 (ω)
 have G1: -1048576<=x/\x<=1048576:=by have h2:=C2.1;have h3:=C3.1;omega
 have mb:=Uy (a:=b.2-a.2) (b:=x-a.1) ω ω;go_upto_region 3 with fail;apply wl;refine Ef A3.1 _ _ _ _ ?_;apply zp (iV (b.2-a.2)) (by exact Rh ω);refine Da A3.1 (iV x) _ _ ?_;apply zp (iV (x-a.1)) (by exact Rh ω);apply zp (iV ((b.2-a.2)*(x-a.1))) (by exact aG ω);refine Ef A3.1 _ _ _ _ ?_;apply zp (iV (b.1-a.1)) (by exact Rh ω);refine zc (Jo ((b.2-a.2)*(x-a.1)) (b.1-a.1) _ ω ω ω ω ω) ?_;rintro e E7 ⟨c_,rfl,A8,hx⟩;have C9:=zH (A3.1.step hx);obtain⟨A1,rfl,A5⟩:=A8;have C0:=zH A5;have D6:=zH (Ug ((b.2-a.2)*(x-a.1)) (b.1-a.1) ⟨ω,ω⟩ ⟨ω,ω⟩);clear A5 hx;refine zn ?_;refine Da Ah _ _ _ ?_;refine Ca 26 rz C9.1 ?_;intro A9 E6 C8 D4;apply Cm 3 (rc A1) C8.1;intro A2 A4 D3;apply zq (iV 0);go_upto_region 4 with fail
 refine wp_region_held_drew (S:=fun x=>Fr (fun kz=>kz=D7) A2 x) kR (Fr.of_ext zb) (fun _=> ?_);have C7:=zH (A4.1.step (Aa.refl A2).drew);have D2:=zH (Ac.of_ext (w:=A2) zb);refine zx 0 (bs 7 1) (.pointer (some ⟨X1,1,none⟩)) (Fr.of_ext zb) ?_;refine Dv (g:=X1) (o:=1) (v:= iV a.2) (i:=1) (listed':=(bs 7 3)) rR kR kR kR (by intro _ _ _ h;exact h) rR (fun x hx=>Fr.cell hx (show World.cell? A2 ⟨X1,1,none⟩=some (iV a.2)from Ai (A4.1.range (i:=0) rR 1 1)) (A4.1.offBlk (i:=0) (j:=2) rR rR dC rR)) (by intro x hq;go_simp<;>with_reducible rfl) (Fr.of_ext zb) kR ?_;refine zr 3 (bs 7 11) A9 (0) (rc A1) (fun x hx=>Fr.range hx (show World.rangeAt A2 A9 (0) (rc A1)from(A4.1.range (i:=3) rR 0 4)) (A4.1.offBlk (i:=3) (j:=2) rR rR dC rR)) underlying26 (Fr.of_ext zb) ?_;refine mC 2 (bs 7 15) (Du a.2 _ ω ω) ?_;rintro e A7 ⟨c_,rfl,A8,hx⟩;have C6:=zH (C7.1.step hx);have D1:=zH (show Ac A2.drew A7 from Ac.of_ext hx);have B2:=zH (show Fr (fun kz=>kz=D7) A2 A7 from(Fr.of_ext zb).trans (Fr.of_ext hx));obtain⟨F1,rfl,A5⟩:=A8;have B9:=zH A5;have D5:=zH (Ay a.2 ω ω);clear A5 hx;apply zm B2.1;have B6:=tD (tD (tD D4 D3) D2) D1;refine mC 4 (bs 7 31) (Qt (L:=60000) (RV.Is.nin B9.1 (Al D5.1 ω)) (RV.Is.nin (C0.1.dig B6.1) (Al D6.1 ω)) ω) ?_;rintro e E5 ⟨c_,rfl,A8,hx⟩;have C5:=zH (C6.1.step hx);have B1:=zH (B2.1.trans (Fr.of_ext hx));obtain⟨A0,rfl,A5⟩:=A8;have B8:=zH A5;clear A5 hx;apply zm B1.1;refine Dm (i:=5) (listed':=(bs 7 63)) rR kR rR kR _ _ _ rR C5.1 (ix:=2) rR 0 (rc A0) rR rR (by simp) kR (by simp[Value.oneCell']) (by simp[Av]) ?_;intro E4 hh hd ho;have B3:=hN hh;have D0:=zH (hd);have B0:=zH (Fr.trans_new B1.1 ho (fun j hj=> .inl (by simpa using hj.symm)));clear hh hd ho;refine⟨B0.1,?_⟩
 (try simp only[Act.put])
 refine zx 6 (bs 7 127) τ B0.1 ?_;refine wpAnyH_done kR ?_ _;go_wp2_with fail;refine bodyPost_ret (v:= .tuple #[(rg A0),.bool true]) ?_ rfl ⟨.inl ⟨A0,⟨VA.1,VB.1,C1.1,by have h2:=C2.1;omega,by have h3:=C3.1;omega⟩,rfl,by rw[<-tY];exact(B8.1.dig D0.1)⟩,B3.1.ext⟩;exact Ad rfl rfl ((B3.1.blk (i:=2) rR).loadVar rfl rfl rR) rfl
theorem lN(L a b)(ry:RV)(y w)(hy:ry.In L w y)(hL:1<=L/\L<=2000)(hC:oZ a b y):
  Calls prog 129 #[.agg #[iV a.1,iV a.2],.agg #[iV b.1,iV b.2],(rg ry)] w (Ka (oZ a b y) (yA a b y) w):=by
 have HY:=zH hy;have VA:=zH (show De a.1 a.2=true from hC.1);have VB:=zH (show De b.1 b.2=true from hC.2.1);have C1:=zH (show¬a.2=b.2 from hC.2.2.1);have C2:=zH (Rat.not_lt.2 hC.2.2.2.1);have C3:=zH (Rat.not_lt.2 hC.2.2.2.2);have HC:=zH hC;clear hy hC;go_enter func129,ntmps129
 have H0:=zH (Hp.start w);go_upto_region 0 with fail;apply wl;apply Ca 52 [iV a.1,iV a.2] H0.1;intro A6 J0 G1 _;apply Ca 52 [iV b.1,iV b.2] G1.1;intro J7 I9 G0 _;apply Ca 26 (rc ry) G0.1;intro B6 I8 F9 _;refine Ca 26 rz F9.1 ?_;intro B5 E0 A7 _;apply zq φ;have oa:=Bi (p:=a) VA.1;have ob:=Bi (p:=b) VB.1;go_upto_region 1 with fail
 refine zy ?_;have F8:=zH (A7.1.step (Aa.refl E0).drew);refine Os A7.1 zb (bs 37 1) 0 _ ?_;refine mC 1 (bs 37 3) (Dx a.1 a.2 _) ?_;rintro e I7 ⟨rfl,hx⟩;have F7:=zH (F8.1.step hx);have B1:=zH (zb.trans hx);clear hx;refine⟨.bool true,by rw[VA.1],B1.1,?_⟩;try simp only[ζ]
 refine iT A7.1 B1.1 (bs 37 31) 2 3 4 φ φ _ ?_;refine mC 5 (bs 37 63) (Dx b.1 b.2 _) ?_;rintro e I6 ⟨rfl,hx⟩;have F6:=zH (F7.1.step hx);have A8:=zH (B1.1.trans hx);clear hx;refine⟨.bool true,by rw[VB.1],A8.1,?_⟩;try simp only[ζ]
 refine aDE A7.1 A8.1 (bs 37 8191) 6 7 8 9 10 11 12 φ φ φ _ _ _ _ ?_;refine zu 13 (bs 37 16383) (v:= .bool false) A8.1 ?_ (hv:=by intro w H3;exact Sn (e:=(Af C1.1)));refine xY A7.1 A8.1 (bs 37 4194303) 14 15 16 17 18 19 20 21 φ φ _ _ _ _ _ (iV (min a.2 b.2)) ?_;refine mC 22 (bs 37 8388607) (Du (min a.2 b.2) _ ω ω) ?_;rintro e I5 ⟨c_,rfl,A5,hx⟩;have D2:=zH (F6.1.step hx);have C7:=zH (A8.1.trans hx);obtain⟨J6,rfl,A2⟩:=A5;have E8:=zH A2;have H2:=zH (Ay (min a.2 b.2) ω ω);clear A2 hx;apply zm C7.1;refine mC 23 (bs 37 16777215) (Fq (L:=60000) (RV.In.nin (RV.In.mono (HY.1.dig D2.1.dig0) ω)) (RV.Is.nin E8.1 (Al H2.1 ω)) ω) ?_;rintro e I4 ⟨rfl,hx⟩;have F5:=zH (D2.1.step hx);have A9:=zH (C7.1.trans hx);clear hx;apply zm A9.1;refine zu 24 (bs 37 33554431) (v:= .bool false) A9.1 ?_ (hv:=by intro w H3;exact Df (e:=(Af (fun hh=>C2.1 (rcmp_lt.1 hh)))));refine xY A7.1 A9.1 (bs 37 8589934591) 25 26 27 28 29 30 31 32 φ φ _ _ _ _ _ (iV (max a.2 b.2)) ?_;refine mC 33 (bs 37 17179869183) (Du (max a.2 b.2) _ ω ω) ?_;rintro e I3 ⟨c_,rfl,A5,hx⟩;have D1:=zH (F5.1.step hx);have C6:=zH (A9.1.trans hx);obtain⟨J5,rfl,A2⟩:=A5;have E7:=zH A2;have H1:=zH (Ay (max a.2 b.2) ω ω);clear A2 hx;apply zm C6.1;refine mC 34 (bs 37 34359738367) (Fq (L:=60000) (RV.In.nin (RV.In.mono (HY.1.dig D1.1.dig0) ω)) (RV.Is.nin E7.1 (Al H1.1 ω)) ω) ?_;rintro e I1 ⟨rfl,hx⟩;have B2:=zH (D1.1.step hx);have B0:=zH (C6.1.trans hx);clear hx;apply zm B0.1;refine zu 35 (bs 37 68719476735) (v:= .bool false) B0.1 ?_ (hv:=by intro w H3;exact Lw (e:=(Af (fun hh=>C3.1 (Ei.1 hh)))));refine zx 36 (bs 37 137438953471) φ B0.1 ?_;refine wpAnyH_done kR ?_ _;have J8:b.2-a.2≠0:=fun h=>C1.1 (ω)
 go_upto_region 3 with fail;apply wl;refine Ef B2.1 _ _ _ _ ?_;apply zp (iV (b.1-a.1)) (by exact Rh ω);refine Ef B2.1 _ _ _ _ ?_;apply zp (iV (b.2-a.2)) (by exact Rh ω);refine zc (Jo (b.1-a.1) (b.2-a.2) _ ω ω ω ω ω) ?_;rintro e I0 ⟨c_,rfl,A5,hx⟩;have F4:=zH (B2.1.step hx);obtain⟨A1,rfl,A2⟩:=A5;have E6:=zH A2;have D9:=zH (Ug (b.1-a.1) (b.2-a.2) ⟨ω,ω⟩ ⟨ω,ω⟩);clear A2 hx;refine zn ?_;refine Da Ah _ _ _ ?_;refine Ca 26 rz F4.1 ?_;intro B4 H9 F3 G7;apply Cm 4 (rc A1) F3.1;intro A3 A4 G6;apply zq (iV 0);go_upto_region 4 with fail
 refine wp_region_held_drew (S:=fun x=>Fr (fun kz=>kz=B5) A3 x) kR (Fr.of_ext zb) (fun _=> ?_);have F2:=zH (A4.1.step (Aa.refl A3).drew);have G5:=zH (Ac.of_ext (w:=A3) zb);refine zx 0 (bs 13 1) (.pointer (π A6)) (Fr.of_ext zb) ?_;refine Dv (g:=A6) (o:=0) (v:= iV a.1) (i:=1) (listed':=(bs 13 3)) rR kR kR kR (by intro _ _ _ h;exact h) rR (fun x hx=>Fr.cell hx (show World.cell? A3 ⟨A6,0,none⟩=some (iV a.1)from Ai (A4.1.range (i:=0) rR 0 1)) (A4.1.offBlk (i:=0) (j:=3) rR rR dC rR)) (by intro x hq;go_simp<;>with_reducible rfl) (Fr.of_ext zb) kR ?_;refine mR 3 (bs 13 11) B4 (0) (rc A1) (fun x hx=>Fr.range hx (show World.rangeAt A3 B4 (0) (rc A1)from(A4.1.range (i:=4) rR 0 4)) (A4.1.offBlk (i:=4) (j:=3) rR rR dC rR)) underlying26 (Fr.of_ext zb) ?_;refine zr 4 (bs 13 27) B6 (0) (rc ry) (fun x hx=>Fr.range hx (show World.rangeAt A3 B6 (0) (rc ry)from(A4.1.range (i:=2) rR 0 4)) (A4.1.offBlk (i:=2) (j:=3) rR rR dC rR)) underlying26 (Fr.of_ext zb) ?_;refine zx 5 (bs 13 59) (.pointer (some ⟨A6,1,none⟩)) (Fr.of_ext zb) ?_;refine Dv (g:=A6) (o:=1) (v:= iV a.2) (i:=6) (listed':=(bs 13 123)) rR kR kR kR (by intro _ _ _ h;exact h) rR (fun x hx=>Fr.cell hx (show World.cell? A3 ⟨A6,1,none⟩=some (iV a.2)from Ai (A4.1.range (i:=0) rR 1 1)) (A4.1.offBlk (i:=0) (j:=3) rR rR dC rR)) (by intro x hq;go_simp<;>with_reducible rfl) (Fr.of_ext zb) kR ?_;try simp only[ζ]
 refine mC 2 (bs 13 127) (Du a.1 _ ω ω) ?_;rintro e B3 ⟨c_,rfl,A5,hx⟩;have F1:=zH (F2.1.step hx);have G4:=zH (show Ac A3.drew B3 from Ac.of_ext hx);have C5:=zH (show Fr (fun kz=>kz=B5) A3 B3 from(Fr.of_ext zb).trans (Fr.of_ext hx));obtain⟨J4,rfl,A2⟩:=A5;have E5:=zH A2;have G9:=zH (Ay a.1 ω ω);clear A2 hx;apply zm C5.1;refine mC 7 (bs 13 255) (Du a.2 _ ω ω) ?_;rintro e H8 ⟨c_,rfl,A5,hx⟩;have D0:=zH (F1.1.step hx);have D6:=zH (Ac.of_ext hx);have C4:=zH (C5.1.trans (Fr.of_ext hx));obtain⟨J3,rfl,A2⟩:=A5;have E4:=zH A2;have D8:=zH (Ay a.2 ω ω);clear A2 hx;apply zm C4.1;refine mC 8 (bs 13 511) (Zj (L:=60000) (RV.In.nin (RV.In.mono (HY.1.dig D0.1.dig0) ω)) (RV.Is.nin E4.1 (Al D8.1 ω)) ω) ?_;rintro e H7 ⟨c_,rfl,A5,hx⟩;have C9:=zH (D0.1.step hx);have D5:=zH (Ac.of_ext hx);have C0:=zH (C4.1.trans (Fr.of_ext hx));obtain⟨J2,rfl,A2⟩:=A5;have E3:=zH A2;clear A2;have D7:=zH (show Nm.rl (y-(((a.2):Int):Rat))<=L+2+1 from by have h1:=(show Nm.rl y<=L from by have h:=(HY.1.dig C9.1.dig0).rl;omega);have h2:=D8.1;have h3:=Nm.rl_sub y (((a.2):Int):Rat);omega);clear hx;apply zm C0.1;have D4:=tD (tD (tD (tD (tD G7 G6) G5) G4) D6) D5;refine mC 9 (bs 13 1023) (Zk (L:=60000) (RV.Is.nin (E6.1.dig D4.1) (Al D9.1 ω)) (RV.Is.nin E3.1 (Al D7.1 ω)) ω) ?_;rintro e H6 ⟨c_,rfl,A5,hx⟩;have F0:=zH (C9.1.step hx);have G3:=zH (Ac.of_ext hx);have B9:=zH (C0.1.trans (Fr.of_ext hx));obtain⟨J1,rfl,A2⟩:=A5;have E2:=zH A2;clear A2;have G8:=zH (show Nm.rl ((((b.1-a.1:Int):Rat)/((b.2-a.2:Int):Rat))*(y-(((a.2):Int):Rat)))<=8+(L+2+1)from by have h1:=D9.1;have h2:=D7.1;have h3:=Nm.rl_mul (((b.1-a.1:Int):Rat)/((b.2-a.2:Int):Rat)) (y-(((a.2):Int):Rat));omega);clear hx;apply zm B9.1;have D3:=tD (tD D6 D5) G3;refine mC 10 (bs 13 2047) (Qt (L:=60000) (RV.Is.nin (E5.1.dig D3.1) (Al G9.1 ω)) (RV.Is.nin E2.1 (Al G8.1 ω)) ω) ?_;rintro e H5 ⟨c_,rfl,A5,hx⟩;have E9:=zH (F0.1.step hx);have B8:=zH (B9.1.trans (Fr.of_ext hx));obtain⟨A0,rfl,A2⟩:=A5;have E1:=zH A2;clear A2 hx;apply zm B8.1;refine Dm (i:=11) (listed':=(bs 13 4095)) rR kR rR kR _ _ _ rR E9.1 (ix:=3) rR 0 (rc A0) rR rR (by simp) kR (by simp[Value.oneCell']) (by simp[Av]) ?_;intro H4 hh hd ho;have C8:=hN hh;have G2:=zH (hd);have B7:=zH (Fr.trans_new B8.1 ho (fun j hj=> .inl (by simpa using hj.symm)));clear hh hd ho;refine⟨B7.1,?_⟩
 (try simp only[Act.put])
 refine zx 12 (bs 13 8191) τ B7.1 ?_;refine wpAnyH_done kR ?_ _;go_wp2_with fail;refine bodyPost_ret (v:= .tuple #[(rg A0),.bool true]) ?_ rfl ⟨.inl ⟨A0,HC.1,rfl,by rw[<-uA];exact(E1.1.dig G2.1)⟩,C8.1.ext⟩;exact Ad rfl rfl ((C8.1.blk (i:=3) rR).loadVar rfl rfl rR) rfl
theorem qJ(ry:RV)(y g n c b es w)(hrow:Bg w b 26 4 (.slice (π g) n c) n (List.flatMap Ba.cells es))(hn:n=es.length)(hn2:n<=1000)(hok:∀e,e∈es->e.Ok 24 w)(hy:ry.Is w y)(hyl:Nm.rl y<=24):
  Calls prog 87 #[.slice (π g) n c,(rg ry)] w fun e w'=>∃(A':Option Addr) (n' c':Nat) (es':List Ba),e= .returned (.slice A' n' c')/\n'=es'.length/\n'<=n+1/\Bg w' w.heap.size 26 4 (.slice A' n' c') n' (List.flatMap Ba.cells es')/\es'.map Ba.q=(Kr y (es.map Ba.q)).1/\(∀e,e∈es'->e.Ok 24 w')/\Aa w w':=by
 have A2:=zH hrow;have G9:=zH hok;have RY:=zH hy;have BY:=zH hyl;have HN:=zH hn;clear hrow hok hy hyl hn;go_enter func87,ntmps87
 have H0:=zH (Hp.start w);go_upto_region 0 with fail;apply wl;apply Ca 26 (rc ry) H0.1;intro X1 w2 H3 _;refine Cg Ah _ ?_;go_upto_region 1 with fail;apply wl;refine Cg Ah _ ?_;have H8:=zH (show Hp w w2 [.blk X1 26 (rc ry),ro 26 4 none 0 0 Ba.cells ([])]from H3.1.addNil 26 4);go_upto_region 2 with fail
 apply wl;apply zq φ;go_upto_region 3 with fail;apply wl;apply zq (iV 0);go_wp2_with fail;go_loopg [6,5,7] (n) (fun cq G8 G7 G6 wr=>∃(i:Nat) (dn:Bool) (A1:Option Addr) (m1:Nat) (c1:Nat) (os:List Ba),cq=n-i/\G8= .bool dn/\G7= .slice A1 m1 c1/\G6= iV (i:Int)/\(i<=n)/\(m1=os.length/\m1<=i+1/\(dn=false->m1<=i))/\(os.map Ba.q=(Kr y ((es.map Ba.q).take i)).1)/\(dn=(Kr y ((es.map Ba.q).take i)).2)/\(∀e,e∈os->e.Ok 24 wr)/\Hp w wr [.blk X1 26 (rc ry),.row 26 4 (.slice A1 m1 c1) (m1) (List.flatMap Ba.cells os)]/\Ac w2 wr)
 case atStart=>exact⟨0,false,none,0,0,[],rfl,rfl,rfl,rfl,dXX _,⟨rfl,ω,fun _=>Cp _⟩,rfl,rfl,(fun _ h_=>by cases h_),H8.1,Ac.refl _⟩
 obtain⟨i,dn,A1,m1,c1,os,rfl,rfl,rfl,rfl,A9,A8,A6,B0,A7,E4,E5⟩:=hrel;generalize wr=A0 at*;have H1:=zH A9;clear A9;have B2:=zH A8;clear A8;have C5:=zH A6;clear A6;have C7:=zH B0;clear B0;have C6:=zH A7;clear A7;have A5:=zH E4;have E2:=zH E5;clear E4 E5 H8;have H7:=H1.1;have D0:os.length<=m1/\m1<=os.length/\m1<=i+1/\(dn=false->m1<=i):=⟨jZZ B2.1.1.symm,jZZ B2.1.1,B2.1.2.1,B2.1.2.2⟩;rcases Cl (i<n)with HLT|HLT
 ·have A3:=HLT.1
  obtain⟨e,A4⟩:∃e,es[i]?=some e:=⟨_,aQQ (HN.1▸A3)⟩;have HE:=zH A4;have E9:=zH (G9.1 e (bZZ A4));have B9:=zH E9.1.1;have C0:=zH E9.1.2;have B4:=zH (show(es.map Ba.q).take (i+1)=(es.map Ba.q).take i++[e.q]from by rw[List.take_add_one,kXX,A4];rfl);have B3:=zH (nR y e.q ((es.map Ba.q).take i));clear A4;go_upto_region 4 with fail
  apply wl;refine Da Ah (iV (i:Int)) _ (iV (n:Int)) ?_;apply zp τ (by exact Df (e:=(Ar ω)));rcases Cl (dn=true)with HD|HD
  ·obtain rfl:dn=true:=HD.1
   have HP:=zH (show Rc y (Kr y ((es.map Ba.q).take i)) e.q=((Kr y ((es.map Ba.q).take i)).1++[e.q],(Kr y ((es.map Ba.q).take i)).2)from if_neg (fun h_=>by have D2:=C7.1;rw[h_.1]at D2;cases D2));go_upto_region 6 with fail;refine zy ?_;have F4:=zH (A5.1.step (Aa.refl A0).drew);have G3:=zH (Ac.of_ext (w:=A0) zb);refine xY Ah zb (bs 11 255) 0 1 2 3 4 5 6 7 τ φ φ _ _ _ _ _ ?_;refine iT Ah zb (bs 11 2047) 8 9 10 _ _ φ ?_;refine wpAnyH_done kR ?_ _;go_upto_region 9 with fail
   apply wl;refine zp (w':=A0.drew) (.slice A1 m1 c1) (by go_simp<;>with_reducible rfl) ?_;refine zp (w':=A0.drew) (.slice (π g) n c) (by go_simp<;>with_reducible rfl) ?_;refine zp (w':=A0.drew) (iV (i:Int)) (by go_simp<;>with_reducible rfl) ?_;refine zp (w':=A0.drew) (.pointer (some ⟨g,i*4,none⟩)) (by exact Gw (k:=i) underlying105 (l:=A3) (f:=(cXX _).symm)) ?_;refine zd g (i*4) (rc e.a) ((Bg.ext A2.1 F4.1.ext).elem1 HE.1) underlying26 ?_;refine zp (w':=(A0.drew.alloc (.cells ((rc e.a):List Value).toArray 26))) (.slice (π A0.drew.heap.size) 1 1) (by go_simp) ?_;refine Ki rR _ _ _ rR Yk rR F4.1 (ix:=1) rR 1 1 (rc e.a) rR rfl (by simp[Value.oneCell']) (by simp[Av]) dC (by unfold maxLen;exact ω) ω ?_;intro E8 B8 G4 hf hh hd hg;have H5:=zH hf;clear hf;rw[show List.flatMap Ba.cells os++(rc e.a)=_ from Ee Ba.cells _ (⟨e.a,e.q⟩:Ba)]at hh;have F3:=hN hh;have G2:=zH (show Ac A0.drew G4 from hd);clear hh hd hg;try simp only[ζ]
   apply zq (.slice (π E8) (m1+1) B8);go_upto_region 5 with fail;apply wl;apply zq (iV (i:Int));apply zp (iV ((i+1:Nat):Int)) (by exact Gm ω);apply zq (iV ((i+1:Nat):Int));have E1:=tD G3 G2;have E0:=tD (tD E2 G3) G2;go_wp2_with fail
   go_roundg (n-(i+1))
   case measure=>exact(ω)
   case rel=>exact⟨i+1,true,some ⟨E8,0,none⟩,m1+1,B8,os++[(⟨e.a,e.q⟩:Ba)],rfl,rfl,rfl,(by go_num),A3,⟨by rw[aXX,<-B2.1.1];rfl,ω,fun h_=>by cases h_⟩,(by rw[B4.1,B3.1];show _=(Rc y (Kr y ((es.map Ba.q).take i)) e.q).1;rw[HP.1,hXX,C5.1];rfl),(by rw[B4.1,B3.1,HP.1];exact C7.1),(fun e_ A4=>(List.mem_append.1 A4).elim (fun h_=>(C6.1 e_ h_).dig E1.1) (fun h_=>by rw[List.mem_singleton.1 h_];exact⟨B9.1.dig F3.1.dig0,C0.1⟩)),F3.1,E0.1⟩
  obtain rfl:dn=false:=Bool.eq_false_iff.2 HD.1;rcases Cl (y<e.q)with HLE|HLE
  ·have HP:=zH (show Rc y (Kr y ((es.map Ba.q).take i)) e.q=((Kr y ((es.map Ba.q).take i)).1++[y,e.q],true)from if_pos ⟨C7.1.symm,HLE.1⟩)
   go_upto_region 6 with fail;refine zy ?_;have D7:=zH (A5.1.step (Aa.refl A0).drew);have G1:=zH (Ac.of_ext (w:=A0) zb);refine iT Ah zb (bs 11 7) 0 1 2 φ τ τ ?_;refine zg 3 (bs 11 15) X1 (0) (rc ry) (A5.1.range (i:=0) rR 0 4) underlying26 zb ?_;refine Sh Ah zb (bs 11 63) 4 5 _ (iV (i:Int)) ?_;refine zo 6 (bs 11 127) (v:= .pointer (some ⟨g,i*4,none⟩)) zb ?_ (hv:=by intro w D1;exact Gw (k:=i) underlying105 (l:=A3) (f:=(cXX _).symm));refine zg 7 (bs 11 255) g (i*4) (rc e.a) ((Bg.ext A2.1 A5.1.ext).elem1 HE.1) underlying26 zb ?_;refine mC 8 (bs 11 511) (Fq (L:=60000) (RV.Is.nin (RY.1.dig D7.1.dig0) (Al BY.1 ω)) (RV.Is.nin (B9.1.dig D7.1.dig0) (Al C0.1 ω)) ω) ?_;rintro e C9 ⟨rfl,hx⟩;have F2:=zH (D7.1.step hx);have G0:=zH (show Ac A0.drew C9 from Ac.of_ext hx);have D4:=zH (zb.trans hx);clear hx;apply zm D4.1;refine zu 9 (bs 11 1023) (v:= .bool true) D4.1 ?_ (hv:=by intro w D1;exact Df (e:=(Ar (rcmp_lt.2 HLE.1))));refine zx 10 (bs 11 2047) τ D4.1 ?_;refine wpAnyH_done kR ?_ _;go_upto_region 7 with fail
   apply wl;refine Cg Ah _ ?_;refine zd X1 (0) (rc ry) (F2.1.range (i:=0) rR 0 4) underlying26 ?_;refine zp (w':=(C9.alloc (.cells ((rc ry):List Value).toArray 26))) (.slice (π C9.heap.size) 1 1) (by go_simp) ?_;refine Ki rR _ _ _ rR Yk rR F2.1 (ix:=1) rR 1 1 (rc ry) rR rfl (by simp[Value.oneCell']) (by simp[Av]) dC (by unfold maxLen;exact ω) ω ?_;intro E7 B7 E3 hf hh hd hg;have H4:=zH hf;clear hf;rw[show List.flatMap Ba.cells os++(rc ry)=_ from Ee Ba.cells _ (⟨ry,y⟩:Ba)]at hh;have F1:=hN hh;have F9:=zH (hd);clear hh hd hg;try simp only[ζ]
   apply zq (.slice (π E7) (m1+1) B7);go_upto_region 8 with fail;apply wl;apply zq τ;go_upto_region 9 with fail;apply wl;refine Da Ah (.slice (π E7) (m1+1) B7) _ (iV (i:Int)) ?_;apply zp (.pointer (some ⟨g,i*4,none⟩)) (by exact Gw (k:=i) underlying105 (l:=A3) (f:=(cXX _).symm));refine zd g (i*4) (rc e.a) ((Bg.ext A2.1 F1.1.ext).elem1 HE.1) underlying26 ?_;refine zp (w':=(E3.alloc (.cells ((rc e.a):List Value).toArray 26))) (.slice (π E3.heap.size) 1 1) (by go_simp) ?_;refine Ki rR _ _ _ rR Yk rR F1.1 (ix:=1) rR 1 1 (rc e.a) rR rfl (by simp[Value.oneCell']) (by simp[Av]) dC (by unfold maxLen;exact ω) ω ?_;intro E6 B6 H6 hf hh hd hg;have H2:=zH hf;clear hf;rw[show List.flatMap Ba.cells (os++[(⟨ry,y⟩:Ba)])++(rc e.a)=_ from Ee Ba.cells _ (⟨e.a,e.q⟩:Ba)]at hh;have D6:=hN hh;have F8:=zH (hd);clear hh hd hg;try simp only[ζ]
   apply zq (.slice (π E6) (m1+2) B6);go_upto_region 5 with fail;apply wl;apply zq (iV (i:Int));apply zp (iV ((i+1:Nat):Int)) (by exact Gm ω);apply zq (iV ((i+1:Nat):Int));have D9:=tD (tD (tD G1 G0) F9) F8;have D8:=tD (tD (tD (tD E2 G1) G0) F9) F8;go_wp2_with fail
   go_roundg (n-(i+1))
   case measure=>exact(ω)
   case rel=>exact⟨i+1,true,some ⟨E6,0,none⟩,m1+2,B6,(os++[(⟨ry,y⟩:Ba)])++[(⟨e.a,e.q⟩:Ba)],rfl,rfl,rfl,(by go_num),A3,⟨by rw[aXX,aXX,<-B2.1.1];rfl,by have h_:=D0.2.2.2 (by simp);omega,fun h_=>by cases h_⟩,(by rw[B4.1,B3.1];show _=(Rc y (Kr y ((es.map Ba.q).take i)) e.q).1;rw[HP.1,hXX,hXX,C5.1];simp),(by rw[B4.1,B3.1,HP.1]),(fun e_ A4=>(List.mem_append.1 A4).elim (fun h_=>(List.mem_append.1 h_).elim (fun h_=>(C6.1 e_ h_).dig D9.1) (fun h_=>by rw[List.mem_singleton.1 h_];exact⟨RY.1.dig D6.1.dig0,BY.1⟩)) (fun h_=>by rw[List.mem_singleton.1 h_];exact⟨B9.1.dig D6.1.dig0,C0.1⟩)),D6.1,D8.1⟩
  have HP:=zH (show Rc y (Kr y ((es.map Ba.q).take i)) e.q=((Kr y ((es.map Ba.q).take i)).1++[e.q],(Kr y ((es.map Ba.q).take i)).2)from if_neg (fun h_=>HLE.1 h_.2));go_upto_region 6 with fail;refine zy ?_;have D5:=zH (A5.1.step (Aa.refl A0).drew);have F7:=zH (Ac.of_ext (w:=A0) zb);refine iT Ah zb (bs 11 7) 0 1 2 φ τ τ ?_;refine zg 3 (bs 11 15) X1 (0) (rc ry) (A5.1.range (i:=0) rR 0 4) underlying26 zb ?_;refine Sh Ah zb (bs 11 63) 4 5 _ (iV (i:Int)) ?_;refine zo 6 (bs 11 127) (v:= .pointer (some ⟨g,i*4,none⟩)) zb ?_ (hv:=by intro w D1;exact Gw (k:=i) underlying105 (l:=A3) (f:=(cXX _).symm));refine zg 7 (bs 11 255) g (i*4) (rc e.a) ((Bg.ext A2.1 A5.1.ext).elem1 HE.1) underlying26 zb ?_;refine mC 8 (bs 11 511) (Fq (L:=60000) (RV.Is.nin (RY.1.dig D5.1.dig0) (Al BY.1 ω)) (RV.Is.nin (B9.1.dig D5.1.dig0) (Al C0.1 ω)) ω) ?_;rintro e C8 ⟨rfl,hx⟩;have F0:=zH (D5.1.step hx);have F6:=zH (show Ac A0.drew C8 from Ac.of_ext hx);have D3:=zH (zb.trans hx);clear hx;apply zm D3.1;refine zu 9 (bs 11 1023) (v:= .bool false) D3.1 ?_ (hv:=by intro w D1;exact Df (e:=(Af (fun hh=>HLE.1 (rcmp_lt.1 hh)))));refine zx 10 (bs 11 2047) φ D3.1 ?_;refine wpAnyH_done kR ?_ _;go_upto_region 9 with fail
  apply wl;refine Da Ah _ _ (iV (i:Int)) ?_;apply zp (.pointer (some ⟨g,i*4,none⟩)) (by exact Gw (k:=i) underlying105 (l:=A3) (f:=(cXX _).symm));refine zd g (i*4) (rc e.a) ((Bg.ext A2.1 F0.1.ext).elem1 HE.1) underlying26 ?_;refine zp (w':=(C8.alloc (.cells ((rc e.a):List Value).toArray 26))) (.slice (π C8.heap.size) 1 1) (by go_simp) ?_;refine Ki rR _ _ _ rR Yk rR F0.1 (ix:=1) rR 1 1 (rc e.a) rR rfl (by simp[Value.oneCell']) (by simp[Av]) dC (by unfold maxLen;exact ω) ω ?_;intro B5 B1 G5 hf hh hd hg;have F5:=zH hf;clear hf;rw[show List.flatMap Ba.cells os++(rc e.a)=_ from Ee Ba.cells _ (⟨e.a,e.q⟩:Ba)]at hh;have C1:=hN hh;have C4:=zH (hd);clear hh hd hg;try simp only[ζ]
  apply zq (.slice (π B5) (m1+1) B1);go_upto_region 5 with fail;apply wl;apply zq (iV (i:Int));apply zp (iV ((i+1:Nat):Int)) (by exact Gm ω);apply zq (iV ((i+1:Nat):Int));have C3:=tD (tD F7 F6) C4;have C2:=tD (tD (tD E2 F7) F6) C4;go_wp2_with fail
  go_roundg (n-(i+1))
  case measure=>exact(ω)
  case rel=>exact⟨i+1,false,some ⟨B5,0,none⟩,m1+1,B1,os++[(⟨e.a,e.q⟩:Ba)],rfl,rfl,rfl,(by go_num),A3,⟨by rw[aXX,<-B2.1.1];rfl,ω,fun _=>by have D2:=D0.2.2.2 (by simp);omega⟩,(by rw[B4.1,B3.1];show _=(Rc y (Kr y ((es.map Ba.q).take i)) e.q).1;rw[HP.1,hXX,C5.1];rfl),(by rw[B4.1,B3.1,HP.1];exact C7.1),(fun e_ A4=>(List.mem_append.1 A4).elim (fun h_=>(C6.1 e_ h_).dig C3.1) (fun h_=>by rw[List.mem_singleton.1 h_];exact⟨B9.1.dig C1.1.dig0,C0.1⟩)),C1.1,C2.1⟩
 have A3:=HLT.1;obtain rfl:n=i:=ω;go_upto_region 4 with fail;apply wl;refine Da Ah (iV (n:Int)) _ (iV (n:Int)) ?_;apply zp φ (by exact Df (e:=(Af ω)));go_upto_region 10 with fail;apply wl;refine Cc Ah _ _ ?_;go_wp2_with fail;go_ret;exact⟨A1,m1,c1,os,rfl,B2.1.1,D0.2.2.1,A5.1.row (i:=1) (by rfl),(by rw[C5.1,cQQ (by rw[fXX,<-HN.1];exact Cp _)]),C6.1,A5.1.ext⟩
theorem Ww(px a b)(r:RV)(y w)(hp: -1048576<=px/\px<=1048576)(hc:oZ a b y)(hy:r.Is w y)(hl:Nm.rl y<=20):
  Calls prog 89 #[.agg #[iV a.1,iV a.2],.agg #[iV b.1,iV b.2],(rg r),iV px] w fun e w'=>∃q:RV,e= .returned (rg q)/\q.Is w' (Fk px (Cz a.1 a.2 b.1 b.2 y))/\Aa w w':=by
 have HX:=zH hy;have E9:=zH hl;have HC:=zH hc;clear hy hl hc;go_enter func89,ntmps89
 have H0:=zH (Hp.start w);go_upto_region 0 with fail;apply wl;apply Ca 52 [iV a.1,iV a.2] H0.1;intro X1 w2 H3 _;apply Ca 52 [iV b.1,iV b.2] H3.1;intro X6 w7 H8 _;apply Ca 26 (rc r) H8.1;intro M4 L7 J4 _;refine Ca 26 rz J4.1 ?_;intro M3 L6 D0 _;go_upto_region 1 with fail;apply wl;refine Da D0.1 _ _ _ ?_;refine zc ((lN 20 a b r y _ ((HX.1.dig D0.1.dig0).isIn E9.1) dC HC.1).mono fun _ _ h_=>Ka.yes h_ HC.1) ?_;rintro e L5 ⟨rx,rfl,A0,hx⟩;have J3:=zH (D0.1.step hx);have RX:=zH (show rx.Is _ (Cz a.1 a.2 b.1 b.2 y)from A0);have BX:=zH (Jb (ax:=a.1) (bx:=b.1) HC.1.1 HC.1.2.1 E9.1);clear A0 hx;refine zn ?_;refine Da Ah _ _ τ ?_;refine Ca 26 rz J3.1 ?_;intro M2 L4 J2 K6;apply Cm 4 (rc rx) J2.1;intro B0 F2 K5;apply zq τ;go_upto_region 2 with fail
 refine zy ?_;have C9:=zH (F2.1.step (Aa.refl B0).drew);have K4:=zH (Ac.of_ext (w:=B0) zb);refine Sh F2.1 zb (bs 6 3) 0 1 _ (iV px) ?_;refine gG 4 (some 11) 26 rz B0 C9.1 ?_;refine gL 2 (bs 6 19) (bs 6 7) zb.size C9.1 zb (fun xq A5=>Du px _ ω ω) (by rintro x_ e F7 ⟨c_,rfl,A2,hx⟩;exact hx) ?_;rintro xq e G2 A5 ⟨c_,rfl,A2,hx⟩;replace hx:=A5.trans hx;clear A5;have F1:=zH (C9.1.step hx);have K3:=zH (show Ac B0.drew G2 from Ac.of_ext hx);have C6:=zH (zb.trans hx);obtain⟨M1,rfl,A0⟩:=A2;have I0:=zH A0;have F6:=zH (Ay px ω ω);clear A0 hx;refine⟨_,rfl,?_⟩;try simp only[ζ]
 have D6:=tD (tD (tD K6 K5) K4) K3;refine gL 3 (bs 6 23) (bs 6 15) C6.1.size F1.1 C6.1 (fun xq A5=>Zj (L:=60000) (RV.Is.nin (RX.1.dig (D6.1.trans (Ac.of_ext A5))) (Al BX.1 ω)) (RV.Is.nin (I0.1.dig (Ac.of_ext A5)) (Al F6.1 ω)) ω) (by rintro x_ e F7 ⟨c_,rfl,A2,hx⟩;exact hx) ?_;rintro xq e L3 A5 ⟨c_,rfl,A2,hx⟩;replace hx:=A5.trans hx;clear A5;have J1:=zH (F1.1.step hx);have E8:=zH (C6.1.trans hx);obtain⟨A3,rfl,A0⟩:=A2;have B5:=zH A0;clear A0;have C3:=zH (show Nm.rl ((Cz a.1 a.2 b.1 b.2 y)-(((px):Int):Rat))<=28+2+1 from by have h1:=BX.1;have h2:=F6.1;have h3:=Nm.rl_sub (Cz a.1 a.2 b.1 b.2 y) (((px):Int):Rat);omega);clear hx;refine⟨_,rfl,?_⟩;try simp only[ζ]
 refine gE (bs 6 31) E8.1.size J1.1 E8.1 ?_;intro G9 G1 hx hh hs E3;have J0:=hN hh;have F5:=zH (Ac.of_ext hx);have H4:=zH (show Aa B0 G1 from hs);have J5:=zH (show B0.heap.size<=G9 from E3);clear hh hx E3 hs;try simp only[ζ]
 refine bS 5 5 (bs 6 63) (rc A3) J0.1 H4.1 J5.1 ?_;intro A9 C2 F4 M5;refine wpAnyH_done kR ?_ _;rcases Cl ((Cz a.1 a.2 b.1 b.2 y)-(((px):Int):Rat)<(((0):Int):Rat))with H1|H1
 ·go_upto_region 3 with fail
  refine zy ?_;have I9:=zH (C2.1.step (Aa.refl A9).drew);have K2:=zH (Ac.of_ext (w:=A9) zb);refine Os C2.1 zb (bs 4 1) 0 _ ?_;refine mC 1 (bs 4 3) (Du 0 _ ω ω) ?_;rintro e G0 ⟨c_,rfl,A2,hx⟩;have I8:=zH (I9.1.step hx);have K1:=zH (show Ac A9.drew G0 from Ac.of_ext hx);have E7:=zH (zb.trans hx);obtain⟨M0,rfl,A0⟩:=A2;have H9:=zH A0;have K9:=zH (Ay 0 ω ω);clear A0 hx;apply zm E7.1;have D5:=tD (tD (tD F5 F4) K2) K1;refine mC 2 (bs 4 7) (Fq (L:=60000) (RV.Is.nin (B5.1.dig D5.1) (Al C3.1 ω)) (RV.Is.nin H9.1 (Al K9.1 ω)) ω) ?_;rintro e L2 ⟨rfl,hx⟩;have I7:=zH (I8.1.step hx);have E6:=zH (E7.1.trans hx);clear hx;apply zm E6.1;refine zu 3 (bs 4 15) (v:= .bool true) E6.1 ?_ (hv:=by intro w C5;exact Df (e:=(Ar (rcmp_lt.2 H1.1))));refine wpAnyH_done kR ?_ _;go_upto_region 4 with fail
  apply wl;refine zc (Du 0 _ ω ω) ?_;rintro e L1 ⟨c_,rfl,A2,hx⟩;have I6:=zH (I7.1.step hx);obtain⟨A4,rfl,A0⟩:=A2;have H7:=zH A0;clear A0 hx;refine zn ?_;apply Cm 3 (rc A4) I6.1;intro L0 F0 K0;go_wp2_with fail
  refine bodyPost_ret ?_ rfl ⟨A4,rfl,(show Fk px (Cz a.1 a.2 b.1 b.2 y)=(((0):Int):Rat)from if_pos H1.1)▸(H7.1.dig K0.1),F0.1.ext⟩;exact Ak rfl rfl ((F0.1.blk (i:=3) rR).loadVar rfl rfl rR)
 go_upto_region 3 with fail;refine zy ?_;have I5:=zH (C2.1.step (Aa.refl A9).drew);have J9:=zH (Ac.of_ext (w:=A9) zb);refine Os C2.1 zb (bs 4 1) 0 _ ?_;refine mC 1 (bs 4 3) (Du 0 _ ω ω) ?_;rintro e F9 ⟨c_,rfl,A2,hx⟩;have I4:=zH (I5.1.step hx);have J8:=zH (show Ac A9.drew F9 from Ac.of_ext hx);have E5:=zH (zb.trans hx);obtain⟨L9,rfl,A0⟩:=A2;have H6:=zH A0;have K8:=zH (Ay 0 ω ω);clear A0 hx;apply zm E5.1;have A7:=tD (tD (tD F5 F4) J9) J8;refine mC 2 (bs 4 7) (Fq (L:=60000) (RV.Is.nin (B5.1.dig A7.1) (Al C3.1 ω)) (RV.Is.nin H6.1 (Al K8.1 ω)) ω) ?_;rintro e A8 ⟨rfl,hx⟩;have C1:=zH (I4.1.step hx);have F3:=zH (Ac.of_ext hx);have E4:=zH (E5.1.trans hx);clear hx;apply zm E4.1;refine zu 3 (bs 4 15) (v:= .bool false) E4.1 ?_ (hv:=by intro w C5;exact Df (e:=(Af (fun hh=>H1.1 (rcmp_lt.1 hh)))));refine wpAnyH_done kR ?_ _;rcases Cl ((((256):Int):Rat)<(Cz a.1 a.2 b.1 b.2 y)-(((px):Int):Rat))with H2|H2
 ·go_upto_region 5 with fail
  refine zy ?_;have I3:=zH (C1.1.step (Aa.refl A8).drew);have J7:=zH (Ac.of_ext (w:=A8) zb);refine Os C1.1 zb (bs 4 1) 0 _ ?_;refine mC 1 (bs 4 3) (Du 256 _ ω ω) ?_;rintro e F8 ⟨c_,rfl,A2,hx⟩;have I1:=zH (I3.1.step hx);have J6:=zH (show Ac A8.drew F8 from Ac.of_ext hx);have B4:=zH (zb.trans hx);obtain⟨L8,rfl,A0⟩:=A2;have H5:=zH A0;have K7:=zH (Ay 256 ω ω);clear A0 hx;apply zm B4.1;have C0:=tD (tD (tD A7 F3) J7) J6;refine mC 2 (bs 4 7) (Fq (L:=60000) (RV.Is.nin (B5.1.dig C0.1) (Al C3.1 ω)) (RV.Is.nin H5.1 (Al K7.1 ω)) ω) ?_;rintro e G7 ⟨rfl,hx⟩;have D4:=zH (I1.1.step hx);have B3:=zH (B4.1.trans hx);clear hx;apply zm B3.1;refine zu 3 (bs 4 15) (v:= .bool true) B3.1 ?_ (hv:=by intro w C5;exact Lw (e:=(Ar (Ei.2 H2.1))));refine wpAnyH_done kR ?_ _;go_upto_region 6 with fail
  apply wl;refine zc (Du 256 _ ω ω) ?_;rintro e G6 ⟨c_,rfl,A2,hx⟩;have D3:=zH (D4.1.step hx);obtain⟨A1,rfl,A0⟩:=A2;have C8:=zH A0;clear A0 hx;refine zn ?_;apply Cm 3 (rc A1) D3.1;intro G5 B8 E1;go_wp2_with fail
  refine bodyPost_ret ?_ rfl ⟨A1,rfl,(show Fk px (Cz a.1 a.2 b.1 b.2 y)=(((256):Int):Rat)from(if_neg H1.1).trans (if_pos H2.1))▸(C8.1.dig E1.1),B8.1.ext⟩;exact Ak rfl rfl ((B8.1.blk (i:=3) rR).loadVar rfl rfl rR)
 go_upto_region 5 with fail;refine zy ?_;have D2:=zH (C1.1.step (Aa.refl A8).drew);have E0:=zH (Ac.of_ext (w:=A8) zb);refine Os C1.1 zb (bs 4 1) 0 _ ?_;refine mC 1 (bs 4 3) (Du 256 _ ω ω) ?_;rintro e C4 ⟨c_,rfl,A2,hx⟩;have D1:=zH (D2.1.step hx);have D9:=zH (show Ac A8.drew C4 from Ac.of_ext hx);have B2:=zH (zb.trans hx);obtain⟨G8,rfl,A0⟩:=A2;have C7:=zH A0;have E2:=zH (Ay 256 ω ω);clear A0 hx;apply zm B2.1;have A6:=tD (tD (tD A7 F3) E0) D9;refine mC 2 (bs 4 7) (Fq (L:=60000) (RV.Is.nin (B5.1.dig A6.1) (Al C3.1 ω)) (RV.Is.nin C7.1 (Al E2.1 ω)) ω) ?_;rintro e G4 ⟨rfl,hx⟩;have B7:=zH (D1.1.step hx);have D8:=zH (Ac.of_ext hx);have B1:=zH (B2.1.trans hx);clear hx;apply zm B1.1;refine zu 3 (bs 4 15) (v:= .bool false) B1.1 ?_ (hv:=by intro w C5;exact Lw (e:=(Af (fun hh=>H2.1 (Ei.1 hh)))));refine wpAnyH_done kR ?_ _;go_upto_region 7 with fail
 apply wl;refine Cg B7.1 _ ?_;apply Cm 3 (rc A3) B7.1;intro G3 B6 D7;have B9:=tD (tD A6 D8) D7;go_wp2_with fail
 refine bodyPost_ret ?_ rfl ⟨A3,rfl,(show Fk px (Cz a.1 a.2 b.1 b.2 y)=(Cz a.1 a.2 b.1 b.2 y)-(((px):Int):Rat)from(if_neg H1.1).trans (if_neg H2.1))▸(B5.1.dig B9.1),B6.1.ext⟩;exact Ak rfl rfl ((B6.1.blk (i:=3) rR).loadVar rfl rfl rR)
theorem Ci.digM{w w' n v z}(h:Ci w n v z)(d:Ac w w'):Ci w' n v z:=⟨h.1,d _ _ h.2⟩
theorem uV(w):Calls prog 54 #[iV 2] w fun e w'=>∃p l c,e= .returned (.agg #[.bool false,.slice p l c])/\Ci w' false (.slice p l c) 2/\Aa w w':=by
  refine(Gq 2 w dC dC).mono ?_;rintro e w' ⟨n,v,rfl,h1,hx⟩;obtain⟨p,l,c,rfl⟩:=h1.form;obtain rfl:n=false:=h1.1;exact⟨p,l,c,rfl,h1,hx⟩
theorem yJ(n m u v L y z w)(hu:Cj L w n u y)(hv:Cj L w m v z)(hL:L<=150000):Calls prog 37 #[.agg #[.bool n,u],.agg #[.bool m,v]] w fun e w'=>∃b p l c,e= .returned (.agg #[.bool b,.slice p l c])/\Ci w' b (.slice p l c) (y*z)/\Aa w w':=by
  refine(Hf n m u v L y z w hu hv hL).mono ?_;rintro e w' ⟨b,x,rfl,h1,hx⟩;obtain⟨p,l,c,rfl⟩:=h1.form;exact⟨b,p,l,c,rfl,h1,hx⟩
theorem aAR(s):Rat.divInt s.num (((s.den:Nat):Int)*2)=s/2:=by
 rw[Rat.divInt_eq_div,Rat.intCast_mul];have e:s=(s.num:Rat)/(((s.den:Nat):Int):Rat):=by rw[<-Rat.divInt_eq_div];exact(Rat.num_divInt_den s).symm
 have hd:(((s.den:Nat):Int):Rat)≠0:=by
  have h:((s.den:Nat):Int)≠0:=by have:=s.den_nz;omega
  exact_mod_cast h
 have k:=Rat.inv_mul_cancel _ hd;have k2:((2:Int):Rat)=2:=rfl;rw[Rat.div_def]at e;rw[k2,Rat.div_def,Rat.div_def];have h1:=Rat.inv_mul_cancel ((((s.den:Nat):Int):Rat)*2) (by grind);have h2:(2:Rat)⁻¹*2=1:=by decide+kernel
 generalize ((((s.den:Nat):Int):Rat)*2)⁻¹=j at*;generalize (((s.den:Nat):Int):Rat)⁻¹=i at*;generalize (((s.den:Nat):Int):Rat)=D at*;generalize (2:Rat)⁻¹=h at*;generalize (s.num:Rat)=N at*;rw[e];have e2:j=i*h:=by grind
 rw[e2];grind
theorem mE(a b:RV)(q r L w)(ha:a.In L w q)(hb:b.In L w r)(hL:1<=L/\L<=20000):
  Calls prog 88 #[(rg a),(rg b)] w fun e w'=>∃c:RV,e= .returned (rg c)/\c.Is w' ((q+r)/2)/\Aa w w':=by
 have HA:=zH ha;have HB:=zH hb;have E6:=ha.rl;have E5:=hb.rl;have E4:=Nm.rl_add q r;clear ha hb;go_enter func88,ntmps88
 have H0:=zH (Hp.start w);go_upto_region 0 with fail;apply wl;apply Ca 26 (rc a) H0.1;intro X1 w2 H3 _;apply Ca 26 (rc b) H3.1;intro X6 w7 H8 _;refine Ca 26 rz H8.1 ?_;intro B2 E2 A7 _;go_upto_region 1 with fail;apply wl;refine Cc A7.1 _ _ ?_;refine zc (Qt (L:=60000) (RV.In.nin (RV.In.mono (HA.1.dig A7.1.dig0) ω)) (RV.In.nin (RV.In.mono (HB.1.dig A7.1.dig0) ω)) ω) ?_;rintro e E1 ⟨c_,rfl,C1,hx⟩;have D0:=zH (A7.1.step hx);obtain⟨A0,rfl,A3⟩:=C1;have B6:=zH A3;clear A3 hx;refine zn ?_;refine Ca 26 rz D0.1 ?_;intro A2 E0 C9 D6;apply Cm 3 (rc A0) C9.1;intro A1 A4 D5;have C0:Nm.nl (q+r).num.natAbs<=2*L+3:=Al (Nat.le_max_left _ _) (show Nm.rl (q+r)<=2*L+3 from ω);have B9:Nm.nl ((((q+r).den:Nat):Int)).natAbs<=2*L+3:=Al (Nat.le_max_right _ _) (show Nm.rl (q+r)<=2*L+3 from ω);have E7:(((q+r).den:Nat):Int)≠0:=by have:=(q+r).den_nz;omega
 have B8:Nm.nl ((((q+r).den:Nat):Int)*2).natAbs<=2*L+5:=by rw[Int.natAbs_mul];refine Al (Nm.nl_mul _ _) ?_;have h3:Nm.nl (2:Int).natAbs<=1:=(by decide+kernel);omega
 have A6:=tD D6 D5;have C4:=zH (show Ci A1 A0.n (.slice A0.p A0.l A0.c) (q+r).num from(B6.1.dig A6.1).1);have C3:=zH (show Ci A1 A0.m (.slice A0.p2 A0.l2 A0.c2) (((q+r).den:Nat):Int)from(B6.1.dig A6.1).2);go_upto_region 2 with fail
 refine wp_region_held_drew (S:=fun x=>Fr (fun kz=>kz=B2) A1 x) kR (Fr.of_ext zb) (fun _=> ?_);have C8:=zH (A4.1.step (Aa.refl A1).drew);have D4:=zH (Ac.of_ext (w:=A1) zb);refine mX 0 (bs 8 1) (.pointer (π A2)) (Fr.of_ext zb) ?_;refine zr 1 (bs 8 3) A2 (0) [.bool A0.n,.slice A0.p A0.l A0.c] (fun x hx=>Fr.range hx (show World.rangeAt A1 A2 (0) [.bool A0.n,.slice A0.p A0.l A0.c]from(A4.1.range (i:=3) rR 0 2)) (A4.1.offBlk (i:=3) (j:=2) rR rR dC rR)) underlying24 (Fr.of_ext zb) ?_;refine mX 2 (bs 8 7) (.pointer (some ⟨A2,2,none⟩)) (Fr.of_ext zb) ?_;refine zr 3 (bs 8 15) A2 (2) [.bool A0.m,.slice A0.p2 A0.l2 A0.c2] (fun x hx=>Fr.range hx (show World.rangeAt A1 A2 (2) [.bool A0.m,.slice A0.p2 A0.l2 A0.c2]from(A4.1.range (i:=3) rR 2 2)) (A4.1.offBlk (i:=3) (j:=2) rR rR dC rR)) underlying24 (Fr.of_ext zb) ?_;refine mC 4 (bs 8 31) (uV _) ?_;rintro e A9 ⟨pt,E3,ct,rfl,B0,hx⟩;have C7:=zH (C8.1.step hx);have D3:=zH (show Ac A1.drew A9 from Ac.of_ext hx);have B5:=zH (show Fr (fun kz=>kz=B2) A1 A9 from(Fr.of_ext zb).trans (Fr.of_ext hx));have HT:=zH B0;clear B0 hx;apply zm B5.1;have A5:=tD D4 D3;refine mC 5 (bs 8 63) (yJ _ _ _ _ (2*L+3) _ _ _ (Ci.isIn (Ci.digM C3.1 A5.1) B9) (Ci.isIn HT.1 (show Nm.nl (2:Int).natAbs<=2*L+3 from Al (show Nm.nl (2:Int).natAbs<=1 by decide+kernel) ω)) ω) ?_;rintro e D9 ⟨bm,pm,lm,cm,rfl,B1,hx⟩;have C6:=zH (C7.1.step hx);have D2:=zH (Ac.of_ext hx);have B4:=zH (B5.1.trans (Fr.of_ext hx));have HM:=zH B1;clear B1 hx;apply zm B4.1;have A8:=tD A5 D2;refine mC 6 (bs 8 127) (((Hm _ _ _ _ (2*L+5) _ _ _ (Ci.isIn (Ci.digM C4.1 A8.1) (Al C0 (show 2*L+3<=2*L+5 by omega))) (Ci.isIn HM.1 B8) ω ω).mono fun e w' h=>Fu.v h)) ?_;rintro e D8 ⟨cr,rfl,A3,hx⟩;have C5:=zH (C6.1.step hx);have B3:=zH (B4.1.trans (Fr.of_ext hx));have HR:=zH A3;clear A3 hx;apply zm B3.1;refine Dm (i:=7) (listed':=(bs 8 255)) rR kR rR kR _ _ _ rR C5.1 (ix:=2) rR 0 (rc cr) rR rR (by simp) kR (by simp[Value.oneCell']) (by simp[Av]) ?_;intro D7 hh hd ho;have B7:=hN hh;have D1:=zH (hd);have C2:=zH (Fr.trans_new B3.1 ho (fun j hj=> .inl (by simpa using hj.symm)));clear hh hd ho;refine⟨C2.1,?_⟩
 (try simp only[Act.put])
 refine wpAnyH_done kR ?_ _;go_wp2_with fail;refine bodyPost_ret ?_ rfl ⟨cr,rfl,(aAR (q+r))▸(HR.1.dig D1.1),B7.1.ext⟩;exact Ak rfl rfl ((B7.1.blk (i:=2) rR).loadVar rfl rfl rR)
end
end Go.Proofs.YtlipfipniibpoaaGreat
