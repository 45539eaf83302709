import Derived.Deep.LoopGhost
import Derived.Deep.DeepCutAuto
import Derived.Test.YthlfilomhgeheaaGreatProg
import Derived.Calls
import Derived.Shelf.SlSortCmp.NoneTotal
import Derived.Sort.CutIn
import Derived.Sort.LoopGhostIn
import Derived.Test.YthlfilomhgeheaaGreatM5
set_option maxRecDepth 100000
set_option maxHeartbeats 4000000
namespace Go.Proofs.YthlfilomhgeheaaGreat
open Go.RowKit
open Go.Proofs.Tryz
section
attribute [local go_sem ↓] Go.wp_at_zero Go.wp_at_succ Aw Av
theorem mM {w0 w:World}{m:List Dk}{X i:Nat}{a b c d:Int×Int}(h:Hp w0 w m)(h1:m[i]?=some (.blk X 24 [iV a.1,iV a.2,iV b.1,iV b.2,iV c.1,iV c.2,iV d.1,iV d.2])):Gl w (.slice (π X) 4 4) [a,b,c,d]:=by
 refine⟨_,4,rfl,fun _=>⟨X,0,rfl,fun i hi=> ?_⟩⟩;have hi:i<4:=hi;have:i=0\/i=1\/i=2\/i=3:=ω
 rcases this with rfl|rfl|rfl|rfl
 ·exact⟨h.cell h1 0 rfl,h.cell h1 1 rfl⟩
 ·exact⟨h.cell h1 2 rfl,h.cell h1 3 rfl⟩
 ·exact⟨h.cell h1 4 rfl,h.cell h1 5 rfl⟩
 exact⟨h.cell h1 6 rfl,h.cell h1 7 rfl⟩
theorem Iv {w0 w:World}{m:List Dk}{X i:Nat}{a b:Int×Int}(h:Hp w0 w m)(h1:m[i]?=some (.blk X 24 [iV a.1,iV a.2,iV b.1,iV b.2])):Gl w (.slice (π X) 2 2) [a,b]:=by
  refine⟨_,2,rfl,fun _=>⟨X,0,rfl,fun i hi=> ?_⟩⟩;have hi:i<2:=hi;have:i=0\/i=1:=ω
  rcases this with rfl|rfl
  · exact⟨h.cell h1 0 rfl,h.cell h1 1 rfl⟩
  exact⟨h.cell h1 2 rfl,h.cell h1 3 rfl⟩
theorem Tt (a b c d:Int×Int):0<=(Ah a b c d).2/\(Ah a b c d).2<=2:=by
  unfold Ah;split
  · exact⟨by decide,by decide⟩
  split
  · exact⟨(show(0:Int)<=1 by decide),(show(1:Int)<=2 by decide)⟩
  exact⟨by decide,by decide⟩
theorem Ow {a b c d:Int×Int}(ha:Dv a)(hb:Dv b)(hc:Dv c)(hd:Dv d):Dv (Ah a b c d).1:=by
  unfold Ah;split
  · exact(show Co 0 0=true by decide)
  split
  · exact fR ha hb hc hd
  exact(show Co 0 0=true by decide)
def Jf (a b c d:Int×Int):Rat:=((cr (dv a c) (dv c d):Int):Rat)/((cr (dv a b) (dv c d):Int):Rat)
def Ns (a b c d:Int×Int):Rat:=((cr (dv a c) (dv a b):Int):Rat)/((cr (dv a b) (dv c d):Int):Rat)
def gI (x:Rat):Prop:=¬x<(((0):Int):Rat)/\¬(((1):Int):Rat)<x
instance sW (x:Rat):Decidable (gI x):=inferInstanceAs (Decidable (_/\_))
def Cc (a b c d:Int×Int):Int×Int:=if dv a b=(0,0)then dv c d else dv a b
def Cw (a b c d:Int×Int):Int:=
  if cr (dv a b) (dv c d)≠0 then(if gI (Jf a b c d)/\gI (Ns a b c d)then 1 else 0)
  else if cr (Cc a b c d) (dv a c)≠0\/(Cc a b c d=(0,0)/\a≠c)then 0 else(Ah a b c d).2
def Qg (a b c d:Int×Int):Rat:=if cr (dv a b) (dv c d)≠0 then(a.1:Rat)+Jf a b c d*((b.1-a.1:Int):Rat)else(((Ah a b c d).1.1:Int):Rat)
def Je (a b c d:Int×Int):Rat:=if cr (dv a b) (dv c d)≠0 then(a.2:Rat)+Jf a b c d*((b.2-a.2:Int):Rat)else(((Ah a b c d).1.2:Int):Rat)
def Ir (a b c d:Int×Int)(w:World)(e:Ending)(w':World):Prop:=
  ((∃r s:RV,Cw a b c d=1/\e= .returned (.tuple #[(rg r),(rg s),iV 1])/\r.Is w' (Qg a b c d)/\s.Is w' (Je a b c d))\/
    (Cw a b c d≠1/\e= .returned (.tuple #[.agg z4,.agg z4,iV (Cw a b c d)])))/\Aa w w'
theorem Rl (a b:Int)(h1: -9223372036854775808<=a/\a<=9223372036854775807)(h2: -9223372036854775808<=b/\b<=9223372036854775807):Nm.rl ((a:Rat)/(b:Rat))<=8:=by
  have h:=Nm.rl_div (a:Rat) (b:Rat);have h3:=Bm a h1.1 h1.2;have h4:=Bm b h2.1 h2.2;omega
theorem Nr (a b c d:Int×Int)(w:World)(ha:Dv a)(hb:Dv b)(hc:Dv c)(hd:Dv d):
  Calls prog 61 #[.agg #[iV a.1,iV a.2],.agg #[iV b.1,iV b.2],.agg #[iV c.1,iV c.2],.agg #[iV d.1,iV d.2]] w (Ir a b c d w):=by
 have R2:=zH (show Cz [a,b,c,d]=true from by simp[Cz,ha,hb,hc,hd]);have l1:=Om (Cj ha hb) (Cj hc hd);have l0:=Om (Cj ha hc) (Cj hc hd);have j9:=Om (Cj ha hc) (Cj ha hb);have oa:=Bd ha;have ob:=Bd hb;have oc:=Bd hc;have od:=Bd hd;go_enter func61,ntmps61
 have H0:=zH (Hp.start w);go_upto_region 0 with fail;apply wl;apply Cl 24 [iV a.1,iV a.2] H0.1;intro D0 j7 i3 _;apply Cl 24 [iV b.1,iV b.2] i3.1;intro D6 j6 i2 _;apply Cl 24 [iV c.1,iV c.2] i2.1;intro H5 j5 i1 _;apply Cl 24 [iV d.1,iV d.2] i1.1;intro N9 j4 i0 _;refine Cl 31 rz i0.1 ?_;intro E6 j0 g9 _;refine Cl 31 rz g9.1 ?_;intro E5 i9 Z1 _;apply zq (iV 0);go_upto_region 1 with fail;apply wl;refine Fp Z1.1 _ _ _ _ ?_;apply eD 4 24 [iV a.1,iV a.2,iV b.1,iV b.2,iV c.1,iV c.2,iV d.1,iV d.2] Z1.1;intro P2 i8 Z0 _;refine zc (Hk (.slice (π P2) 4 4) [a,b,c,d] _ (mM Z0.1 (i:=6) rR) (by simp)) ?_;rintro e H4 ⟨rfl,hx⟩;have R3:=zH (Z0.1.step hx);clear hx;refine⟨.bool true,by rw[R2.1],?_⟩;try simp only[ζ]
 apply zq φ;go_upto_region 3 with fail;refine zy ?_;have g8:=zH (R3.1.step (Aa.refl H4).drew);refine sA R3.1 zb (bs 15 219) 0 1 3 4 6 7 _ _ _ _ _ _ ?_;refine FN.go3 (j1:=⟨9,some 11,24,[iV 0,iV 0]⟩) (j2:=⟨10,some 12,24,[iV 0,iV 0]⟩) (j3:=⟨11,some 13,24,[iV 0,iV 0]⟩) (b:=H4) ?_ zb;refine gN 2 (bs 15 223) (fk (fk (fk trivial))) zb.size (fun xq B1=>Qy b a _ hb ha) (by rintro x_ e H3 ⟨rfl,hx⟩;exact hx) ?_;rintro xq e i7 B1 ⟨rfl,hx⟩;replace hx:=B1.trans hx;clear B1;have g7:=zH (g8.1.step hx);have Y9:=zH (zb.trans hx);clear hx;refine⟨_,rfl,?_⟩;try simp only[ζ]
 refine gN 5 (bs 15 255) (fk (fk (fk trivial))) Y9.1.size (fun xq B1=>Qy d c _ hd hc) (by rintro x_ e H3 ⟨rfl,hx⟩;exact hx) ?_;rintro xq e i6 B1 ⟨rfl,hx⟩;replace hx:=B1.trans hx;clear B1;have g6:=zH (g7.1.step hx);have Y8:=zH (Y9.1.trans hx);clear hx;refine⟨_,rfl,?_⟩;try simp only[ζ]
 refine gN 8 (bs 15 511) (fk (fk (fk trivial))) Y8.1.size (fun xq B1=>Qy c a _ hc ha) (by rintro x_ e H3 ⟨rfl,hx⟩;exact hx) ?_;rintro xq e i5 B1 ⟨rfl,hx⟩;replace hx:=B1.trans hx;clear B1;have g5:=zH (g6.1.step hx);have P9:=zH (Y8.1.trans hx);clear hx;refine⟨_,rfl,?_⟩;try simp only[ζ]
 refine tS (bs 15 4095) (fk (fk (fk trivial))) P9.1.size R3.1 g5.1 ?_;intro F2 F1 C4 O9 hx hh I5 I4 Y7 hs;have W2:=hN hh;have P8:=zH (show Aa H4 O9 from hs);have W7:=zH (show H4.heap.size<=F2 from I5);have W6:=zH (show H4.heap.size<=F1 from I4);have W5:=zH (show H4.heap.size<=C4 from Y7);clear hh hx hs I5 I4 Y7;try simp only[ζ]
 refine bS 7 12 (bs 15 8191) [iV ((dv a b).1),iV ((dv a b).2)] W2.1 P8.1 W7.1 ?_;intro f1 W1 _ P7;refine bS 8 13 (bs 15 16383) [iV ((dv c d).1),iV ((dv c d).2)] W1.1 P7.1 W6.1 ?_;intro f0 W0 _ P6;refine bS 9 14 (bs 15 32767) [iV ((dv a c).1),iV ((dv a c).2)] W0.1 P6.1 W5.1 ?_;intro d9 L2 _ g3;refine wpAnyH_done kR ?_ _;go_upto_region 4 with fail;apply wl;refine Bw L2.1 _ _ ?_;refine aC L2.1 (Ge (dv a b) (dv c d) _ (Cj ha hb) (Cj hc hd)) ?_;intro D3 D5 _;apply zq (iV (cr (dv a b) (dv c d)));rcases Cm (cr (dv a b) (dv c d)≠0)with HNZ|HNZ
 ·go_upto_region 5 with fail
  apply wl;apply zq (iV (cr (dv a b) (dv c d)));apply zp τ (by exact Kt (e:=(Ay HNZ.1)));go_upto_region 6 with fail;refine zy ?_;have V9:=zH (D5.1.step (Aa.refl D3).drew);refine sA D5.1 zb (bs 14 363) 0 1 3 5 6 8 _ _ (iV (cr (dv a b) (dv c d))) _ _ (iV (cr (dv a b) (dv c d))) ?_;refine FN.go2 (j1:=⟨10,some 15,31,[.bool false,.slice none 0 0,.bool false,.slice none 0 0]⟩) (j2:=⟨11,some 16,31,[.bool false,.slice none 0 0,.bool false,.slice none 0 0]⟩) (b:=D3) ?_ zb;refine gN 2 (bs 14 367) (fk (fk trivial)) zb.size (fun xq B1=>Ge (dv a c) (dv c d) _ (Cj ha hc) (Cj hc hd)) (by rintro x_ e H3 ⟨rfl,hx⟩;exact hx) ?_;rintro xq e d8 B1 ⟨rfl,hx⟩;replace hx:=B1.trans hx;clear B1;have V8:=zH (V9.1.step hx);have K7:=zH (zb.trans hx);clear hx;refine⟨_,rfl,?_⟩;try simp only[ζ]
  refine gN 4 (bs 14 383) (fk (fk trivial)) K7.1.size (fun xq B1=>Wv (cr (dv a c) (dv c d)) (cr (dv a b) (dv c d)) _ ω ω ω ω HNZ.1) (by rintro x_ e H3 ⟨c_,rfl,B2,hx⟩;exact hx) ?_;rintro xq e d7 B1 ⟨c_,rfl,B2,hx⟩;replace hx:=B1.trans hx;clear B1;have V7:=zH (V8.1.step hx);have K6:=zH (K7.1.trans hx);obtain⟨A0,rfl,A3⟩:=B2;have F6:=zH A3;have H2:=zH (Rl (cr (dv a c) (dv c d)) (cr (dv a b) (dv c d)) ω ω);clear A3 hx;refine⟨_,rfl,?_⟩;try simp only[ζ]
  refine gN 7 (bs 14 511) (fk (fk trivial)) K6.1.size (fun xq B1=>Ge (dv a c) (dv a b) _ (Cj ha hc) (Cj ha hb)) (by rintro x_ e H3 ⟨rfl,hx⟩;exact hx) ?_;rintro xq e d6 B1 ⟨rfl,hx⟩;replace hx:=B1.trans hx;clear B1;have V6:=zH (V7.1.step hx);have N7:=zH (Af.of_ext hx);have K5:=zH (K6.1.trans hx);clear hx;refine⟨_,rfl,?_⟩;try simp only[ζ]
  refine gN 9 (bs 14 1023) (fk (fk trivial)) K5.1.size (fun xq B1=>Wv (cr (dv a c) (dv a b)) (cr (dv a b) (dv c d)) _ ω ω ω ω HNZ.1) (by rintro x_ e H3 ⟨c_,rfl,B2,hx⟩;exact hx) ?_;rintro xq e d5 B1 ⟨c_,rfl,B2,hx⟩;replace hx:=B1.trans hx;clear B1;have V5:=zH (V6.1.step hx);have N6:=zH (Af.of_ext hx);have P5:=zH (K5.1.trans hx);obtain⟨A1,rfl,A3⟩:=B2;have R1:=zH A3;have Y6:=zH (Rl (cr (dv a c) (dv a b)) (cr (dv a b) (dv c d)) ω ω);clear A3 hx;refine⟨_,rfl,?_⟩;try simp only[ζ]
  refine nW (bs 14 4095) (fk (fk trivial)) P5.1.size D5.1 V5.1 ?_;intro C8 I7 O8 hx hh I5 I4 hs;have V4:=hN hh;have G9:=zH (Af.of_ext hx);have P4:=zH (show Aa D3 O8 from hs);have W4:=zH (show D3.heap.size<=C8 from I5);have W3:=zH (show D3.heap.size<=I7 from I4);clear hh hx hs I5 I4;try simp only[ζ]
  refine bS 10 12 (bs 14 8191) (rc A0) V4.1 P4.1 W4.1 ?_;intro d4 V3 G8 P3;refine bS 11 13 (bs 14 16383) (rc A1) V3.1 P3.1 W3.1 ?_;intro d3 L1 G7 g2;refine wpAnyH_done kR ?_ _;go_upto_region 7 with fail;apply wl;refine Bw L1.1 _ _ ?_;apply eD 2 31 [.bool A0.n,.slice A0.p A0.l A0.c,.bool A0.m,.slice A0.p2 A0.l2 A0.c2,.bool A1.n,.slice A1.p A1.l A1.c,.bool A1.m,.slice A1.p2 A1.l2 A1.c2] L1.1;intro D7 O7 L0 G6;refine Bw Ai _ _ ?_;go_wp2_with fail;go_loopg [59] (2) (fun cq P0 wr=>∃(k:Nat),cq=2-k/\P0= iV (k:Int)/\(k<=2)/\(1<=k->gI (Jf a b c d))/\(2<=k->gI (Ns a b c d))/\Hp w wr [.blk D0 24 [iV a.1,iV a.2],.blk D6 24 [iV b.1,iV b.2],.blk H5 24 [iV c.1,iV c.2],.blk N9 24 [iV d.1,iV d.2],.blk E6 31 [.bool false,.slice none 0 0,.bool false,.slice none 0 0],.blk E5 31 [.bool false,.slice none 0 0,.bool false,.slice none 0 0],.blk P2 24 [iV a.1,iV a.2,iV b.1,iV b.2,iV c.1,iV c.2,iV d.1,iV d.2],.blk F2 24 [iV ((dv a b).1),iV ((dv a b).2)],.blk F1 24 [iV ((dv c d).1),iV ((dv c d).2)],.blk C4 24 [iV ((dv a c).1),iV ((dv a c).2)],.blk C8 31 (rc A0),.blk I7 31 (rc A1),.blk D7 31 [.bool A0.n,.slice A0.p A0.l A0.c,.bool A0.m,.slice A0.p2 A0.l2 A0.c2,.bool A1.n,.slice A1.p A1.l A1.c,.bool A1.m,.slice A1.p2 A1.l2 A1.c2]]/\Af O7 wr)
  case atStart=>exact⟨0,rfl,rfl,(by decide),(fun h_=>absurd h_ (by decide)),(fun h_=>absurd h_ (by decide)),L0.1,Af.refl _⟩
  obtain⟨k,rfl,rfl,H8,I0,H9,I3,I6⟩:=hrel;generalize wr=B0 at*;have HK:=zH H8;clear H8;have H0:=zH I0;clear I0;have H1:=zH H9;clear H9;have A2:=zH I3;have E4:=zH I6;clear I3 I6 L0;rcases Cm (k<2)with HLT|HLT
  ·have M5:=tD (tD (tD (tD (tD (tD N7 N6) G9) G8) G7) G6) E4
   have M4:=tD (tD (tD (tD G9 G8) G7) G6) E4;have I2:k=0\/k=1:=by have h_:=HLT.1;omega
   have H6:=zH I2;clear I2;obtain⟨rk,D4⟩:∃r:RV,r=if k=0 then A0 else A1:=⟨_,rfl⟩
   obtain⟨xk,C5⟩:∃x:Rat,x=if k=0 then Jf a b c d else Ns a b c d:=⟨_,rfl⟩
   have O0:=zH C5;have K8:=zH (show rk.Is B0 xk from by rcases H6.1 with h_|h_;rw[D4,C5,if_pos h_,if_pos h_];exact(F6.1.dig M5.1);rw[D4,C5,if_neg ω,if_neg ω];exact(R1.1.dig M4.1));have K9:=zH (show Nm.rl xk<=8 from by rcases H6.1 with h_|h_;rw[C5,if_pos h_];exact H2.1;rw[C5,if_neg ω];exact Y6.1);have g4:=zH (show World.rangeAt B0 D7 (k*4) (rc rk)from by rcases H6.1 with h_|h_;rw[D4,if_pos h_,h_];exact A2.1.range (i:=12) (by rfl) 0 4;have g0:k=1:=h_;rw[D4,if_neg ω,g0];exact A2.1.range (i:=12) (by rfl) 4 4);clear D4 C5;go_upto_region 8 with fail
   apply wl;apply zp τ (by exact Dw (e:=(Ay (by have B4:=HLT.1;omega))));go_upto_region 9 with fail;apply wl;apply zp (.pointer (some ⟨D7,k*4,none⟩)) (by exact Eo (k:=k) underlying54 (l:=HLT.1) (f:=(uF _).symm));refine zd D7 (k*4) (rc rk) g4.1 underlying31 ?_;refine Cl 31 rz A2.1 ?_;intro g1 d2 V2 E3;apply Ck 13 (rc rk) V2.1;intro B6 C3 E2;rcases Cm (xk<(((0):Int):Rat))with C1|C1
   ·go_upto_region 10 with fail
    refine zy ?_;have V1:=zH (C3.1.step (Aa.refl B6).drew);have Y0:=zH (Af.of_ext (w:=B6) zb);refine Ta C3.1 zb (bs 10 1) 0 _ ?_;refine mC 1 (bs 10 3) (Fc 0 _ (by have B4:=HLT.1;omega) (by have B4:=HLT.1;omega)) ?_;rintro e O6 ⟨c_,rfl,B2,hx⟩;have V0:=zH (V1.1.step hx);have X9:=zH (show Af B6.drew O6 from Af.of_ext hx);have K4:=zH (zb.trans hx);obtain⟨f6,rfl,A3⟩:=B2;have R0:=zH A3;have Y5:=zH (Bm 0 (by have B4:=HLT.1;omega) (by have B4:=HLT.1;omega));clear A3 hx;apply zm K4.1;have M3:=tD (tD (tD E3 E2) Y0) X9;refine mC 2 (bs 10 7) (Hv (L:=60000) (RV.Is.nin (K8.1.dig M3.1) (Ar K9.1 ω)) (RV.Is.nin R0.1 (Ar Y5.1 ω)) ω) ?_;rintro e d1 ⟨rfl,hx⟩;have U9:=zH (V0.1.step hx);have F5:=zH (K4.1.trans hx);clear hx;apply zm F5.1;refine zu 3 (bs 10 15) (v:= .bool true) F5.1 ?_ (hv:=by intro w N8;exact Dw (e:=(Ay (rcmp_lt.2 C1.1))));refine sA Ai F5.1 (bs 10 1023) 4 5 6 7 8 9 τ _ _ _ _ τ ?_;refine wpAnyH_done kR ?_ _;go_upto_region 11 with fail
    apply wl;refine Bw Ai _ _ ?_;refine Ck 4 rz U9.1 ?_;intro d0 U8 _;refine Ck 5 rz U8.1 ?_;intro c9 G5 _;apply zq (iV 0);have B5:=zH (show Cw a b c d=0 from by unfold Cw;rw[if_pos HNZ.1,if_neg (fun h_=>by have e_:=O0.1;rcases H6.1 with k_|k_;rw[if_pos k_]at e_;exact h_.1.1 (e_▸C1.1);rw[if_neg ω]at e_;exact h_.2.1 (e_▸C1.1))]);go_wp2_with fail
    refine bodyPost_ret (v:= .tuple #[.agg z4,.agg z4,iV 0]) ?_ rfl ⟨.inr ⟨by rw[B5.1];decide,by rw[B5.1]⟩,G5.1.ext⟩;exact At rfl rfl rfl ((G5.1.blk (i:=4) rR).loadVar rfl rfl rR) ((G5.1.blk (i:=5) rR).loadVar rfl rfl rR) rfl
   rcases Cm ((((1):Int):Rat)<xk)with C2|C2
   ·go_upto_region 10 with fail
    refine zy ?_;have U7:=zH (C3.1.step (Aa.refl B6).drew);have X8:=zH (Af.of_ext (w:=B6) zb);refine Ta C3.1 zb (bs 10 1) 0 _ ?_;refine mC 1 (bs 10 3) (Fc 0 _ (by have B4:=HLT.1;omega) (by have B4:=HLT.1;omega)) ?_;rintro e O5 ⟨c_,rfl,B2,hx⟩;have U6:=zH (U7.1.step hx);have X7:=zH (show Af B6.drew O5 from Af.of_ext hx);have K3:=zH (zb.trans hx);obtain⟨f5,rfl,A3⟩:=B2;have Q9:=zH A3;have Y4:=zH (Bm 0 (by have B4:=HLT.1;omega) (by have B4:=HLT.1;omega));clear A3 hx;apply zm K3.1;have E9:=tD (tD (tD E3 E2) X8) X7;refine mC 2 (bs 10 7) (Hv (L:=60000) (RV.Is.nin (K8.1.dig E9.1) (Ar K9.1 ω)) (RV.Is.nin Q9.1 (Ar Y4.1 ω)) ω) ?_;rintro e c8 ⟨rfl,hx⟩;have U5:=zH (U6.1.step hx);have X6:=zH (Af.of_ext hx);have D9:=zH (K3.1.trans hx);clear hx;apply zm D9.1;refine zu 3 (bs 10 15) (v:= .bool false) D9.1 ?_ (hv:=by intro w N8;exact Dw (e:=(Al (fun hh=>C1.1 (rcmp_lt.1 hh)))));refine Jl C3.1 D9.1 (bs 10 63) 4 5 φ _ ?_;refine mC 6 (bs 10 127) (Fc 1 _ (by have B4:=HLT.1;omega) (by have B4:=HLT.1;omega)) ?_;rintro e c7 ⟨c_,rfl,B2,hx⟩;have U4:=zH (U5.1.step hx);have X5:=zH (Af.of_ext hx);have K2:=zH (D9.1.trans hx);obtain⟨f4,rfl,A3⟩:=B2;have Q8:=zH A3;have Y3:=zH (Bm 1 (by have B4:=HLT.1;omega) (by have B4:=HLT.1;omega));clear A3 hx;apply zm K2.1;have M2:=tD (tD E9 X6) X5;refine mC 7 (bs 10 255) (Hv (L:=60000) (RV.Is.nin (K8.1.dig M2.1) (Ar K9.1 ω)) (RV.Is.nin Q8.1 (Ar Y3.1 ω)) ω) ?_;rintro e c6 ⟨rfl,hx⟩;have U3:=zH (U4.1.step hx);have F4:=zH (K2.1.trans hx);clear hx;apply zm F4.1;refine zu 8 (bs 10 511) (v:= .bool true) F4.1 ?_ (hv:=by intro w N8;exact Sg (e:=(Ay (Hu.2 C2.1))));refine zx 9 (bs 10 1023) τ F4.1 ?_;refine wpAnyH_done kR ?_ _;go_upto_region 11 with fail
    apply wl;refine Bw Ai _ _ ?_;refine Ck 4 rz U3.1 ?_;intro c5 U2 _;refine Ck 5 rz U2.1 ?_;intro c4 G4 _;apply zq (iV 0);have B5:=zH (show Cw a b c d=0 from by unfold Cw;rw[if_pos HNZ.1,if_neg (fun h_=>by have e_:=O0.1;rcases H6.1 with k_|k_;rw[if_pos k_]at e_;exact h_.1.2 (e_▸C2.1);rw[if_neg ω]at e_;exact h_.2.2 (e_▸C2.1))]);go_wp2_with fail
    refine bodyPost_ret (v:= .tuple #[.agg z4,.agg z4,iV 0]) ?_ rfl ⟨.inr ⟨by rw[B5.1];decide,by rw[B5.1]⟩,G4.1.ext⟩;exact At rfl rfl rfl ((G4.1.blk (i:=4) rR).loadVar rfl rfl rR) ((G4.1.blk (i:=5) rR).loadVar rfl rfl rR) rfl
   go_upto_region 10 with fail;refine zy ?_;have U1:=zH (C3.1.step (Aa.refl B6).drew);have N5:=zH (Af.of_ext (w:=B6) zb);refine Ta C3.1 zb (bs 10 1) 0 _ ?_;refine mC 1 (bs 10 3) (Fc 0 _ (by have B4:=HLT.1;omega) (by have B4:=HLT.1;omega)) ?_;rintro e O4 ⟨c_,rfl,B2,hx⟩;have U0:=zH (U1.1.step hx);have N4:=zH (show Af B6.drew O4 from Af.of_ext hx);have K1:=zH (zb.trans hx);obtain⟨f3,rfl,A3⟩:=B2;have Q7:=zH A3;have Y2:=zH (Bm 0 (by have B4:=HLT.1;omega) (by have B4:=HLT.1;omega));clear A3 hx;apply zm K1.1;have E8:=tD (tD (tD E3 E2) N5) N4;refine mC 2 (bs 10 7) (Hv (L:=60000) (RV.Is.nin (K8.1.dig E8.1) (Ar K9.1 ω)) (RV.Is.nin Q7.1 (Ar Y2.1 ω)) ω) ?_;rintro e c3 ⟨rfl,hx⟩;have T9:=zH (U0.1.step hx);have N3:=zH (Af.of_ext hx);have D8:=zH (K1.1.trans hx);clear hx;apply zm D8.1;refine zu 3 (bs 10 15) (v:= .bool false) D8.1 ?_ (hv:=by intro w N8;exact Dw (e:=(Al (fun hh=>C1.1 (rcmp_lt.1 hh)))));refine Jl C3.1 D8.1 (bs 10 63) 4 5 φ _ ?_;refine mC 6 (bs 10 127) (Fc 1 _ (by have B4:=HLT.1;omega) (by have B4:=HLT.1;omega)) ?_;rintro e c1 ⟨c_,rfl,B2,hx⟩;have T8:=zH (T9.1.step hx);have N2:=zH (Af.of_ext hx);have K0:=zH (D8.1.trans hx);obtain⟨f2,rfl,A3⟩:=B2;have Q6:=zH A3;have Y1:=zH (Bm 1 (by have B4:=HLT.1;omega) (by have B4:=HLT.1;omega));clear A3 hx;apply zm K0.1;have M1:=tD (tD E8 N3) N2;refine mC 7 (bs 10 255) (Hv (L:=60000) (RV.Is.nin (K8.1.dig M1.1) (Ar K9.1 ω)) (RV.Is.nin Q6.1 (Ar Y1.1 ω)) ω) ?_;rintro e c0 ⟨rfl,hx⟩;have T7:=zH (T8.1.step hx);have X4:=zH (Af.of_ext hx);have F3:=zH (K0.1.trans hx);clear hx;apply zm F3.1;refine zu 8 (bs 10 511) (v:= .bool false) F3.1 ?_ (hv:=by intro w N8;exact Sg (e:=(Al (fun hh=>C2.1 (Hu.1 hh)))));refine zx 9 (bs 10 1023) φ F3.1 ?_;refine wpAnyH_done kR ?_ _;go_upto_region 12 with fail
   apply wl;apply zp (iV ((k+1:Nat):Int)) (by exact Ie (by have B4:=HLT.1;omega));apply zq (iV ((k+1:Nat):Int));have M0:=tD (tD (tD (tD (tD (tD (tD E4 E3) E2) N5) N4) N3) N2) X4;go_wp2_with fail
   go_roundg (2-(k+1))
   case measure=>exact(by have B4:=HLT.1;omega)
   case rel=>exact⟨k+1,rfl,(by go_num),(by have h_:=HLT.1;omega),(fun _=>by rcases H6.1 with k_|k_;have e_:=O0.1;rw[if_pos k_]at e_;rw[<-e_];exact⟨C1.1,C2.1⟩;exact H0.1 ω),(fun f9=>by have e_:=O0.1;rw[if_neg ω]at e_;rw[<-e_];exact⟨C1.1,C2.1⟩),T7.1.take 13,M0.1⟩
  obtain rfl:k=2:=by have h_:=HLT.1;have f9:=HK.1;omega
  have B5:=zH (show Cw a b c d=1 from by unfold Cw;rw[if_pos HNZ.1,if_pos ⟨H0.1 (by decide),H1.1 (by decide)⟩]);go_upto_region 8 with fail;apply wl;apply zp φ (by exact Dw (e:=(Al dC)));go_upto_region 13 with fail;refine wp_region_held_drew (S:=fun x=>Fr (fun kz=>kz=E6\/kz=E5) B0 x) kR (Fr.of_ext zb) (fun _=> ?_);have T6:=zH (A2.1.step (Aa.refl B0).drew);have X3:=zH (Af.of_ext (w:=B0) zb);refine zx 0 (bs 15 1) (.pointer (π D0)) (Fr.of_ext zb) ?_;refine Db (g:=D0) (o:=0) (v:= iV a.1) (i:=1) (listed':=(bs 15 3)) rR kR kR kR (by intro _ _ _ h;exact h) rR (fun x hx=>Fr.cell hx (show World.cell? B0 ⟨D0,0,none⟩=some (iV a.1)from Az (A2.1.range (i:=0) rR 0 1)) (fun hk=>hk.elim (A2.1.offBlk (i:=0) (j:=4) rR rR dC rR) (A2.1.offBlk (i:=0) (j:=5) rR rR dC rR))) (by intro x hq;go_simp<;>with_reducible rfl) (Fr.of_ext zb) kR ?_;try simp only[ζ]
  refine zx 2 (bs 15 7) (.pointer (π D6)) (Fr.of_ext zb) ?_;refine Db (g:=D6) (o:=0) (v:= iV b.1) (i:=3) (listed':=(bs 15 15)) rR kR kR kR (by intro _ _ _ h;exact h) rR (fun x hx=>Fr.cell hx (show World.cell? B0 ⟨D6,0,none⟩=some (iV b.1)from Az (A2.1.range (i:=1) rR 0 1)) (fun hk=>hk.elim (A2.1.offBlk (i:=1) (j:=4) rR rR dC rR) (A2.1.offBlk (i:=1) (j:=5) rR rR dC rR))) (by intro x hq;go_simp<;>with_reducible rfl) (Fr.of_ext zb) kR ?_;refine zr 4 (bs 15 31) C8 (0) (rc A0) (fun x hx=>Fr.range hx (show World.rangeAt B0 C8 (0) (rc A0)from(A2.1.range (i:=10) rR 0 4)) (fun hk=>hk.elim (A2.1.offBlk (i:=10) (j:=4) rR rR dC rR) (A2.1.offBlk (i:=10) (j:=5) rR rR dC rR))) underlying31 (Fr.of_ext zb) ?_;refine zx 6 (bs 15 95) (.pointer (some ⟨D0,1,none⟩)) (Fr.of_ext zb) ?_;refine Db (g:=D0) (o:=1) (v:= iV a.2) (i:=7) (listed':=(bs 15 223)) rR kR kR kR (by intro _ _ _ h;exact h) rR (fun x hx=>Fr.cell hx (show World.cell? B0 ⟨D0,1,none⟩=some (iV a.2)from Az (A2.1.range (i:=0) rR 1 1)) (fun hk=>hk.elim (A2.1.offBlk (i:=0) (j:=4) rR rR dC rR) (A2.1.offBlk (i:=0) (j:=5) rR rR dC rR))) (by intro x hq;go_simp<;>with_reducible rfl) (Fr.of_ext zb) kR ?_;try simp only[ζ]
  refine zx 8 (bs 15 479) (.pointer (some ⟨D6,1,none⟩)) (Fr.of_ext zb) ?_;refine Db (g:=D6) (o:=1) (v:= iV b.2) (i:=9) (listed':=(bs 15 991)) rR kR kR kR (by intro _ _ _ h;exact h) rR (fun x hx=>Fr.cell hx (show World.cell? B0 ⟨D6,1,none⟩=some (iV b.2)from Az (A2.1.range (i:=1) rR 1 1)) (fun hk=>hk.elim (A2.1.offBlk (i:=1) (j:=4) rR rR dC rR) (A2.1.offBlk (i:=1) (j:=5) rR rR dC rR))) (by intro x hq;go_simp<;>with_reducible rfl) (Fr.of_ext zb) kR ?_;refine zr 10 (bs 15 2015) C8 (0) (rc A0) (fun x hx=>Fr.range hx (show World.rangeAt B0 C8 (0) (rc A0)from(A2.1.range (i:=10) rR 0 4)) (fun hk=>hk.elim (A2.1.offBlk (i:=10) (j:=4) rR rR dC rR) (A2.1.offBlk (i:=10) (j:=5) rR rR dC rR))) underlying31 (Fr.of_ext zb) ?_;have E7:=tD (tD (tD (tD (tD (tD (tD N7 N6) G9) G8) G7) G6) E4) X3;refine mC 5 (bs 15 2047) (Md 20 a.1 b.1 _ (((cr (dv a c) (dv c d):Int):Rat)/((cr (dv a b) (dv c d):Int):Rat)) _ (RV.Is.nin (F6.1.dig E7.1) (Ar H2.1 ω)) dC dC ⟨ω,ω⟩ ⟨ω,ω⟩) ?_;rintro e H7 ⟨c_,rfl,B2,hx⟩;have T5:=zH (T6.1.step hx);have X2:=zH (show Af B0.drew H7 from Af.of_ext hx);have J9:=zH (show Fr (fun kz=>kz=E6\/kz=E5) B0 H7 from(Fr.of_ext zb).trans (Fr.of_ext hx));obtain⟨A9,rfl,A3⟩:=B2;have Q5:=zH A3;clear A3 hx;apply zm J9.1;have L9:=tD E7 X2;refine mC 11 (bs 15 4095) (Md 20 a.2 b.2 _ (((cr (dv a c) (dv c d):Int):Rat)/((cr (dv a b) (dv c d):Int):Rat)) _ (RV.Is.nin (F6.1.dig L9.1) (Ar H2.1 ω)) dC dC ⟨ω,ω⟩ ⟨ω,ω⟩) ?_;rintro e b9 ⟨c_,rfl,B2,hx⟩;have T4:=zH (T5.1.step hx);have X1:=zH (Af.of_ext hx);have J8:=zH (J9.1.trans (Fr.of_ext hx));obtain⟨A8,rfl,A3⟩:=B2;have Q4:=zH A3;clear A3 hx;apply zm J8.1;refine Dz (i:=12) (listed':=(bs 15 8191)) rR kR rR kR _ _ _ rR T4.1 (ix:=4) rR 0 (rc A9) rR rR (by simp) kR (by simp[Value.oneCell']) (by simp[Aq]) ?_;intro b8 hh hd ho;have T3:=hN hh;have N1:=zH (hd);have J7:=zH (Fr.trans_new J8.1 ho (fun j hj=> .inl (.inl (by injection hj with hj;exact hj.symm))));clear hh hd ho;refine⟨J7.1,?_⟩
  (try simp only[Act.put])
  refine Dz (i:=13) (listed':=(bs 15 16383)) rR kR rR kR _ _ _ rR T3.1 (ix:=5) rR 0 (rc A8) rR rR (by simp) kR (by simp[Value.oneCell']) (by simp[Aq]) ?_;intro b7 hh hd ho;have G3:=hN hh;have N0:=zH (hd);have J6:=zH (Fr.trans_new J7.1 ho (fun j hj=> .inl (.inr (by injection hj with hj;exact hj.symm))));clear hh hd ho;refine⟨J6.1,?_⟩
  (try simp only[Act.put])
  refine zx 14 (bs 15 32767) (iV 1) J6.1 ?_;refine wpAnyH_done kR ?_ _;have L8:=tD (tD X1 N1) N0;have L7:=tD N1 N0;go_wp2_with fail
  refine bodyPost_ret (v:= .tuple #[(rg A9),(rg A8),iV 1]) ?_ rfl ⟨.inl ⟨A9,A8,B5.1,rfl,by unfold Qg;rw[if_pos HNZ.1];exact(Q5.1.dig L8.1),by unfold Je;rw[if_pos HNZ.1];exact(Q4.1.dig L7.1)⟩,G3.1.ext⟩;exact At rfl rfl rfl ((G3.1.blk (i:=4) rR).loadVar rfl rfl rR) ((G3.1.blk (i:=5) rR).loadVar rfl rfl rR) rfl
 go_upto_region 5 with fail;apply wl;apply zq (iV (cr (dv a b) (dv c d)));apply zp φ (by exact Kt (e:=(Al HNZ.1)));go_upto_region 14 with fail;apply wl;refine Ds D5.1 _ ?_;apply Cl 24 [iV 0,iV 0] D5.1;intro B7 b6 T2 _;apply Ck 10 [iV ((dv a b).1),iV ((dv a b).2)] T2.1;intro O3 E1 _;go_upto_region 15 with fail;apply wl;refine Bw E1.1 _ _ ?_;apply zp (.bool ((dv a b).1==0&&(dv a b).2==0)) (by exact Eb rR rR rR rfl);go_upto_if 91 with fail
 go_cut [] (fun wx=>Hp w wx [.blk D0 24 [iV a.1,iV a.2],.blk D6 24 [iV b.1,iV b.2],.blk H5 24 [iV c.1,iV c.2],.blk N9 24 [iV d.1,iV d.2],.blk E6 31 [.bool false,.slice none 0 0,.bool false,.slice none 0 0],.blk E5 31 [.bool false,.slice none 0 0,.bool false,.slice none 0 0],.blk P2 24 [iV a.1,iV a.2,iV b.1,iV b.2,iV c.1,iV c.2,iV d.1,iV d.2],.blk F2 24 [iV ((dv a b).1),iV ((dv a b).2)],.blk F1 24 [iV ((dv c d).1),iV ((dv c d).2)],.blk C4 24 [iV ((dv a c).1),iV ((dv a c).2)],.blk B7 24 [iV ((Cc a b c d).1),iV ((Cc a b c d).2)]]/\Af O3 wx)
 case first=>
  by_cases cj:((dv a b).1==0&&(dv a b).2==0)=true
  ·rw[cj]
   go_upto_region 16 with fail;apply wl;refine Ds E1.1 _ ?_;apply Ck 10 [iV ((dv c d).1),iV ((dv c d).2)] E1.1;intro b5 T1 X0;go_wp2_with fail;go_meet
   exact⟨(by rw[show Cc a b c d=dv c d from if_pos ((Gh (a:=dv a b) (b:=(0,0))).1 cj)];exact T1.1),X0.1⟩
  rw[Bool.eq_false_iff.2 cj];go_wp2_with fail;go_meet
  exact⟨(by rw[show Cc a b c d=dv a b from if_neg (fun h_=>cj ((Gh (a:=dv a b) (b:=(0,0))).2 h_))];exact E1.1),(Af.refl _)⟩
 obtain⟨I3,I6⟩:=hcut;generalize wc=b4 at*;have B3:=zH I3;have i4:=zH I6;clear I3 I6;have HL:=zH (show Cc a b c d=Cc a b c d from rfl);have I1:(-2097152<=(Cc a b c d).1/\(Cc a b c d).1<=2097152)/\(-2097152<=(Cc a b c d).2/\(Cc a b c d).2<=2097152):=by unfold Cc;split;exact Cj hc hd;exact Cj ha hb
 have j8:=Om I1 (Cj ha hc);rcases Cm (cr (Cc a b c d) (dv a c)≠0)with HX|HX
 ·go_upto_region 17 with fail
  apply wl;refine zd B7 (0) [iV ((Cc a b c d).1),iV ((Cc a b c d).2)] (B3.1.range (i:=10) rR 0 2) underlying24 ?_;refine zd C4 (0) [iV ((dv a c).1),iV ((dv a c).2)] (B3.1.range (i:=9) rR 0 2) underlying24 ?_;refine aC B3.1 (Ge (Cc a b c d) (dv a c) _ I1 (Cj ha hc)) ?_;intro b3 T0 _;apply zp τ (by exact Kt (e:=(Ay HX.1)));refine Jm Ai τ _ _ _ _ _ _ _ ?_;refine zk ?_;apply zq τ;go_upto_region 18 with fail;apply wl;refine Bw Ai _ _ ?_;refine Ck 4 rz T0.1 ?_;intro b2 S9 _;refine Ck 5 rz S9.1 ?_;intro b1 G2 _;apply zq (iV 0);have B5:=zH (show Cw a b c d=0 from by unfold Cw;rw[if_neg HNZ.1,HL.1];exact if_pos (.inl HX.1));go_wp2_with fail
  refine bodyPost_ret (v:= .tuple #[.agg z4,.agg z4,iV 0]) ?_ rfl ⟨.inr ⟨by rw[B5.1];decide,by rw[B5.1]⟩,G2.1.ext⟩;exact At rfl rfl rfl ((G2.1.blk (i:=4) rR).loadVar rfl rfl rR) ((G2.1.blk (i:=5) rR).loadVar rfl rfl rR) rfl
 rcases Cm (Cc a b c d=(0,0))with HL0|HL0
 ·rcases Cm (a≠c)with HAC|HAC
  ·go_upto_region 17 with fail
   apply wl;refine zd B7 (0) [iV ((Cc a b c d).1),iV ((Cc a b c d).2)] (B3.1.range (i:=10) rR 0 2) underlying24 ?_;refine zd C4 (0) [iV ((dv a c).1),iV ((dv a c).2)] (B3.1.range (i:=9) rR 0 2) underlying24 ?_;refine aC B3.1 (Ge (Cc a b c d) (dv a c) _ I1 (Cj ha hc)) ?_;intro b0 E0 _;apply zp φ (by exact Kt (e:=(Al HX.1)));apply qV φ;refine zd B7 (0) [iV ((Cc a b c d).1),iV ((Cc a b c d).2)] (E0.1.range (i:=10) rR 0 2) underlying24 ?_;refine Ds Ai _ ?_;apply zp τ (by exact Eb rR rR rR ((Gh (a:=Cc a b c d) (b:=(0,0))).2 HL0.1));apply qV τ;refine zd D0 (0) [iV a.1,iV a.2] (E0.1.range (i:=0) rR 0 2) underlying24 ?_;refine zd H5 (0) [iV c.1,iV c.2] (E0.1.range (i:=2) rR 0 2) underlying24 ?_;apply zp τ (by exact Jt rR rR rR (by rw[Bool.not_eq_true',Bool.eq_false_iff];exact fun h_=>HAC.1 (Gh.1 h_)));refine Bw Ai τ τ ?_;go_upto_region 18 with fail;apply wl;refine Bw Ai _ _ ?_;refine Ck 4 rz E0.1 ?_;intro a9 S8 _;refine Ck 5 rz S8.1 ?_;intro a8 G1 _;apply zq (iV 0);have B5:=zH (show Cw a b c d=0 from by unfold Cw;rw[if_neg HNZ.1,HL.1];exact if_pos (.inr ⟨HL0.1,HAC.1⟩));go_wp2_with fail
   refine bodyPost_ret (v:= .tuple #[.agg z4,.agg z4,iV 0]) ?_ rfl ⟨.inr ⟨by rw[B5.1];decide,by rw[B5.1]⟩,G1.1.ext⟩;exact At rfl rfl rfl ((G1.1.blk (i:=4) rR).loadVar rfl rfl rR) ((G1.1.blk (i:=5) rR).loadVar rfl rfl rR) rfl
  have HR:=zH (show¬(Cc a b c d=(0,0)/\a≠c)from fun h_=>HAC.1 h_.2);go_upto_region 17 with fail;apply wl;refine zd B7 (0) [iV ((Cc a b c d).1),iV ((Cc a b c d).2)] (B3.1.range (i:=10) rR 0 2) underlying24 ?_;refine zd C4 (0) [iV ((dv a c).1),iV ((dv a c).2)] (B3.1.range (i:=9) rR 0 2) underlying24 ?_;refine aC B3.1 (Ge (Cc a b c d) (dv a c) _ I1 (Cj ha hc)) ?_;intro a7 C0 _;apply zp φ (by exact Kt (e:=(Al HX.1)));apply qV φ;refine zd B7 (0) [iV ((Cc a b c d).1),iV ((Cc a b c d).2)] (C0.1.range (i:=10) rR 0 2) underlying24 ?_;refine Ds Ai _ ?_;apply zp τ (by exact Eb rR rR rR ((Gh (a:=Cc a b c d) (b:=(0,0))).2 HL0.1));apply qV τ;refine zd D0 (0) [iV a.1,iV a.2] (C0.1.range (i:=0) rR 0 2) underlying24 ?_;refine zd H5 (0) [iV c.1,iV c.2] (C0.1.range (i:=2) rR 0 2) underlying24 ?_;apply zp φ (by exact Jt rR rR rR (by rw[Bool.not_eq_false'];exact Gh.2 (Classical.not_not.1 HAC.1)));refine Bw Ai φ φ ?_;go_upto_region 19 with fail;apply wl;refine zd D0 (0) [iV a.1,iV a.2] (C0.1.range (i:=0) rR 0 2) underlying24 ?_;refine zd D6 (0) [iV b.1,iV b.2] (C0.1.range (i:=1) rR 0 2) underlying24 ?_;refine zd H5 (0) [iV c.1,iV c.2] (C0.1.range (i:=2) rR 0 2) underlying24 ?_;refine zd N9 (0) [iV d.1,iV d.2] (C0.1.range (i:=3) rR 0 2) underlying24 ?_;refine aC C0.1 (Rf a b c d _ ha hb hc hd) ?_;intro a6 S7 _;refine Dh Ai _ _ (iV ((Ah a b c d).2)) ?_;apply Cl 24 [iV 0,iV 0] S7.1;intro C7 a5 S6 _;apply Ck 11 [iV ((Ah a b c d).1.1),iV ((Ah a b c d).1.2)] S6.1;intro D2 B9 _;apply zq (iV ((Ah a b c d).2));have B5:=zH (show Cw a b c d=(Ah a b c d).2 from by unfold Cw;rw[if_neg HNZ.1,HL.1];exact if_neg (fun h_=>h_.elim (fun h_=>HX.1 h_) (fun h_=>HR.1 h_)));have f8:=Tt a b c d;rcases Cm ((Ah a b c d).2≠1)with HK1|HK1
  ·go_upto_region 20 with fail
   apply wl;apply zq (iV ((Ah a b c d).2));apply zp τ (by exact Kt (e:=(Ay HK1.1)));go_upto_region 21 with fail;apply wl;refine Dh Ai _ _ (iV ((Ah a b c d).2)) ?_;refine Ck 4 rz B9.1 ?_;intro a4 S5 _;refine Ck 5 rz S5.1 ?_;intro a3 G0 _;apply zq (iV ((Ah a b c d).2));go_wp2_with fail;refine bodyPost_ret (v:= .tuple #[.agg z4,.agg z4,iV (Ah a b c d).2]) ?_ rfl ⟨.inr ⟨by rw[B5.1];exact HK1.1,by rw[B5.1]⟩,G0.1.ext⟩;exact At rfl rfl rfl ((G0.1.blk (i:=4) rR).loadVar rfl rfl rR) ((G0.1.blk (i:=5) rR).loadVar rfl rfl rR) rfl
  have F0:(Ah a b c d).2=1:=by have h_:=HK1.1;omega
  have P1:=Ow ha hb hc hd;have f7:=Bd P1;go_upto_region 20 with fail
  apply wl;apply zq (iV ((Ah a b c d).2));apply zp φ (by exact Kt (e:=(Al HK1.1)));go_upto_region 22 with fail;refine wp_region_held_drew (S:=fun x=>Fr (fun kz=>kz=E6\/kz=E5) D2 x) kR (Fr.of_ext zb) (fun _=> ?_);have S4:=zH (B9.1.step (Aa.refl D2).drew);refine zx 0 (bs 9 1) (.pointer (π C7)) (Fr.of_ext zb) ?_;refine Db (g:=C7) (o:=0) (v:= iV ((Ah a b c d).1.1)) (i:=1) (listed':=(bs 9 3)) rR kR kR kR (by intro _ _ _ h;exact h) rR (fun x hx=>Fr.cell hx (show World.cell? D2 ⟨C7,0,none⟩=some (iV ((Ah a b c d).1.1))from Az (B9.1.range (i:=11) rR 0 1)) (fun hk=>hk.elim (B9.1.offBlk (i:=11) (j:=4) rR rR dC rR) (B9.1.offBlk (i:=11) (j:=5) rR rR dC rR))) (by intro x hq;go_simp<;>with_reducible rfl) (Fr.of_ext zb) kR ?_;try simp only[ζ]
  refine zx 3 (bs 9 11) (.pointer (some ⟨C7,1,none⟩)) (Fr.of_ext zb) ?_;refine Db (g:=C7) (o:=1) (v:= iV ((Ah a b c d).1.2)) (i:=4) (listed':=(bs 9 27)) rR kR kR kR (by intro _ _ _ h;exact h) rR (fun x hx=>Fr.cell hx (show World.cell? D2 ⟨C7,1,none⟩=some (iV ((Ah a b c d).1.2))from Az (B9.1.range (i:=11) rR 1 1)) (fun hk=>hk.elim (B9.1.offBlk (i:=11) (j:=4) rR rR dC rR) (B9.1.offBlk (i:=11) (j:=5) rR rR dC rR))) (by intro x hq;go_simp<;>with_reducible rfl) (Fr.of_ext zb) kR ?_;try simp only[ζ]
  refine mC 2 (bs 9 31) (Fc ((Ah a b c d).1.1) _ ω ω) ?_;rintro e O2 ⟨c_,rfl,B2,hx⟩;have S3:=zH (S4.1.step hx);have J5:=zH (show Fr (fun kz=>kz=E6\/kz=E5) D2 O2 from(Fr.of_ext zb).trans (Fr.of_ext hx));obtain⟨A7,rfl,A3⟩:=B2;have Q3:=zH A3;clear A3 hx;apply zm J5.1;refine mC 5 (bs 9 63) (Fc ((Ah a b c d).1.2) _ ω ω) ?_;rintro e a2 ⟨c_,rfl,B2,hx⟩;have S2:=zH (S3.1.step hx);have W9:=zH (Af.of_ext hx);have J4:=zH (J5.1.trans (Fr.of_ext hx));obtain⟨A6,rfl,A3⟩:=B2;have Q2:=zH A3;clear A3 hx;apply zm J4.1;refine Dz (i:=6) (listed':=(bs 9 127)) rR kR rR kR _ _ _ rR S2.1 (ix:=4) rR 0 (rc A7) rR rR (by simp) kR (by simp[Value.oneCell']) (by simp[Aq]) ?_;intro a1 hh hd ho;have S1:=hN hh;have M9:=zH (hd);have J3:=zH (Fr.trans_new J4.1 ho (fun j hj=> .inl (.inl (by injection hj with hj;exact hj.symm))));clear hh hd ho;refine⟨J3.1,?_⟩
  (try simp only[Act.put])
  refine Dz (i:=7) (listed':=(bs 9 255)) rR kR rR kR _ _ _ rR S1.1 (ix:=5) rR 0 (rc A6) rR rR (by simp) kR (by simp[Value.oneCell']) (by simp[Aq]) ?_;intro a0 hh hd ho;have F9:=hN hh;have M8:=zH (hd);have J2:=zH (Fr.trans_new J3.1 ho (fun j hj=> .inl (.inr (by injection hj with hj;exact hj.symm))));clear hh hd ho;refine⟨J2.1,?_⟩
  (try simp only[Act.put])
  refine zx 8 (bs 9 511) (iV 1) J2.1 ?_;refine wpAnyH_done kR ?_ _;have L6:=tD (tD W9 M9) M8;have L5:=tD M9 M8;go_wp2_with fail
  refine bodyPost_ret (v:= .tuple #[(rg A7),(rg A6),iV 1]) ?_ rfl ⟨.inl ⟨A7,A6,B5.1.trans F0,rfl,by unfold Qg;rw[if_neg HNZ.1];exact(Q3.1.dig L6.1),by unfold Je;rw[if_neg HNZ.1];exact(Q2.1.dig L5.1)⟩,F9.1.ext⟩;exact At rfl rfl rfl ((F9.1.blk (i:=4) rR).loadVar rfl rfl rR) ((F9.1.blk (i:=5) rR).loadVar rfl rfl rR) rfl
 have HR:=zH (show¬(Cc a b c d=(0,0)/\a≠c)from fun h_=>HL0.1 h_.1);go_upto_region 17 with fail;apply wl;refine zd B7 (0) [iV ((Cc a b c d).1),iV ((Cc a b c d).2)] (B3.1.range (i:=10) rR 0 2) underlying24 ?_;refine zd C4 (0) [iV ((dv a c).1),iV ((dv a c).2)] (B3.1.range (i:=9) rR 0 2) underlying24 ?_;refine aC B3.1 (Ge (Cc a b c d) (dv a c) _ I1 (Cj ha hc)) ?_;intro Z9 C9 _;apply zp φ (by exact Kt (e:=(Al HX.1)));apply qV φ;refine zd B7 (0) [iV ((Cc a b c d).1),iV ((Cc a b c d).2)] (C9.1.range (i:=10) rR 0 2) underlying24 ?_;refine Ds Ai _ ?_;apply zp φ (by exact Eb rR rR rR (Bool.eq_false_iff.2 (fun h_=>HL0.1 ((Gh (a:=Cc a b c d) (b:=(0,0))).1 h_))));refine cC Ai φ _ _ _ φ φ ?_;go_upto_region 19 with fail;apply wl;refine zd D0 (0) [iV a.1,iV a.2] (C9.1.range (i:=0) rR 0 2) underlying24 ?_;refine zd D6 (0) [iV b.1,iV b.2] (C9.1.range (i:=1) rR 0 2) underlying24 ?_;refine zd H5 (0) [iV c.1,iV c.2] (C9.1.range (i:=2) rR 0 2) underlying24 ?_;refine zd N9 (0) [iV d.1,iV d.2] (C9.1.range (i:=3) rR 0 2) underlying24 ?_;refine aC C9.1 (Rf a b c d _ ha hb hc hd) ?_;intro Z8 S0 _;refine Dh Ai _ _ (iV ((Ah a b c d).2)) ?_;apply Cl 24 [iV 0,iV 0] S0.1;intro C6 Z7 R9 _;apply Ck 11 [iV ((Ah a b c d).1.1),iV ((Ah a b c d).1.2)] R9.1;intro D1 B8 _;apply zq (iV ((Ah a b c d).2));have B5:=zH (show Cw a b c d=(Ah a b c d).2 from by unfold Cw;rw[if_neg HNZ.1,HL.1];exact if_neg (fun h_=>h_.elim (fun h_=>HX.1 h_) (fun h_=>HR.1 h_)));have f8:=Tt a b c d;rcases Cm ((Ah a b c d).2≠1)with HK1|HK1
 ·go_upto_region 20 with fail
  apply wl;apply zq (iV ((Ah a b c d).2));apply zp τ (by exact Kt (e:=(Ay HK1.1)));go_upto_region 21 with fail;apply wl;refine Dh Ai _ _ (iV ((Ah a b c d).2)) ?_;refine Ck 4 rz B8.1 ?_;intro Z6 R8 _;refine Ck 5 rz R8.1 ?_;intro Z5 F8 _;apply zq (iV ((Ah a b c d).2));go_wp2_with fail;refine bodyPost_ret (v:= .tuple #[.agg z4,.agg z4,iV (Ah a b c d).2]) ?_ rfl ⟨.inr ⟨by rw[B5.1];exact HK1.1,by rw[B5.1]⟩,F8.1.ext⟩;exact At rfl rfl rfl ((F8.1.blk (i:=4) rR).loadVar rfl rfl rR) ((F8.1.blk (i:=5) rR).loadVar rfl rfl rR) rfl
 have F0:(Ah a b c d).2=1:=by have h_:=HK1.1;omega
 have P1:=Ow ha hb hc hd;have f7:=Bd P1;go_upto_region 20 with fail
 apply wl;apply zq (iV ((Ah a b c d).2));apply zp φ (by exact Kt (e:=(Al HK1.1)));go_upto_region 22 with fail;refine wp_region_held_drew (S:=fun x=>Fr (fun kz=>kz=E6\/kz=E5) D1 x) kR (Fr.of_ext zb) (fun _=> ?_);have R7:=zH (B8.1.step (Aa.refl D1).drew);refine zx 0 (bs 9 1) (.pointer (π C6)) (Fr.of_ext zb) ?_;refine Db (g:=C6) (o:=0) (v:= iV ((Ah a b c d).1.1)) (i:=1) (listed':=(bs 9 3)) rR kR kR kR (by intro _ _ _ h;exact h) rR (fun x hx=>Fr.cell hx (show World.cell? D1 ⟨C6,0,none⟩=some (iV ((Ah a b c d).1.1))from Az (B8.1.range (i:=11) rR 0 1)) (fun hk=>hk.elim (B8.1.offBlk (i:=11) (j:=4) rR rR dC rR) (B8.1.offBlk (i:=11) (j:=5) rR rR dC rR))) (by intro x hq;go_simp<;>with_reducible rfl) (Fr.of_ext zb) kR ?_;try simp only[ζ]
 refine zx 3 (bs 9 11) (.pointer (some ⟨C6,1,none⟩)) (Fr.of_ext zb) ?_;refine Db (g:=C6) (o:=1) (v:= iV ((Ah a b c d).1.2)) (i:=4) (listed':=(bs 9 27)) rR kR kR kR (by intro _ _ _ h;exact h) rR (fun x hx=>Fr.cell hx (show World.cell? D1 ⟨C6,1,none⟩=some (iV ((Ah a b c d).1.2))from Az (B8.1.range (i:=11) rR 1 1)) (fun hk=>hk.elim (B8.1.offBlk (i:=11) (j:=4) rR rR dC rR) (B8.1.offBlk (i:=11) (j:=5) rR rR dC rR))) (by intro x hq;go_simp<;>with_reducible rfl) (Fr.of_ext zb) kR ?_;try simp only[ζ]
 refine mC 2 (bs 9 31) (Fc ((Ah a b c d).1.1) _ ω ω) ?_;rintro e O1 ⟨c_,rfl,B2,hx⟩;have R6:=zH (R7.1.step hx);have J1:=zH (show Fr (fun kz=>kz=E6\/kz=E5) D1 O1 from(Fr.of_ext zb).trans (Fr.of_ext hx));obtain⟨A5,rfl,A3⟩:=B2;have Q1:=zH A3;clear A3 hx;apply zm J1.1;refine mC 5 (bs 9 63) (Fc ((Ah a b c d).1.2) _ ω ω) ?_;rintro e Z4 ⟨c_,rfl,B2,hx⟩;have R5:=zH (R6.1.step hx);have W8:=zH (Af.of_ext hx);have J0:=zH (J1.1.trans (Fr.of_ext hx));obtain⟨A4,rfl,A3⟩:=B2;have Q0:=zH A3;clear A3 hx;apply zm J0.1;refine Dz (i:=6) (listed':=(bs 9 127)) rR kR rR kR _ _ _ rR R5.1 (ix:=4) rR 0 (rc A5) rR rR (by simp) kR (by simp[Value.oneCell']) (by simp[Aq]) ?_;intro Z3 hh hd ho;have R4:=hN hh;have M7:=zH (hd);have I9:=zH (Fr.trans_new J0.1 ho (fun j hj=> .inl (.inl (by injection hj with hj;exact hj.symm))));clear hh hd ho;refine⟨I9.1,?_⟩
 (try simp only[Act.put])
 refine Dz (i:=7) (listed':=(bs 9 255)) rR kR rR kR _ _ _ rR R4.1 (ix:=5) rR 0 (rc A4) rR rR (by simp) kR (by simp[Value.oneCell']) (by simp[Aq]) ?_;intro Z2 hh hd ho;have F7:=hN hh;have M6:=zH (hd);have I8:=zH (Fr.trans_new I9.1 ho (fun j hj=> .inl (.inr (by injection hj with hj;exact hj.symm))));clear hh hd ho;refine⟨I8.1,?_⟩
 (try simp only[Act.put])
 refine zx 8 (bs 9 511) (iV 1) I8.1 ?_;refine wpAnyH_done kR ?_ _;have L4:=tD (tD W8 M7) M6;have L3:=tD M7 M6;go_wp2_with fail
 refine bodyPost_ret (v:= .tuple #[(rg A5),(rg A4),iV 1]) ?_ rfl ⟨.inl ⟨A5,A4,B5.1.trans F0,rfl,by unfold Qg;rw[if_neg HNZ.1];exact(Q1.1.dig L4.1),by unfold Je;rw[if_neg HNZ.1];exact(Q0.1.dig L3.1)⟩,F7.1.ext⟩;exact At rfl rfl rfl ((F7.1.blk (i:=4) rR).loadVar rfl rfl rR) ((F7.1.blk (i:=5) rR).loadVar rfl rfl rR) rfl
def Kq (C:Prop)(q:Rat)(w:World)(e:Ending)(w':World):Prop:=
  ((∃r:RV,C/\e= .returned (.tuple #[(rg r),.bool true])/\r.Is w' q)\/
    (¬C/\e= .returned (.tuple #[.agg z4,.bool false])))/\Aa w w'
def Qw (a b:Int×Int)(x:Int):Prop:=Dv a/\Dv b/\a.1≠b.1/\min a.1 b.1<=x/\x<=max a.1 b.1
def Me (a b:Int×Int)(x:Int):Rat:=(a.2:Rat)+((x-a.1:Int):Rat)/((b.1-a.1:Int):Rat)*((b.2-a.2:Int):Rat)
theorem Wf {a b:Int×Int}:Cz [a,b]=true↔Dv a/\Dv b:=by simp[Cz,Dv]
theorem cD (a b:Int×Int)(x:Int)(w:World)(hx0: -9223372036854775808<=x/\x<=9223372036854775807):
  Calls prog 60 #[.agg #[iV a.1,iV a.2],.agg #[iV b.1,iV b.2],iV x] w (Kq (Qw a b x) (Me a b x) w):=by
 go_enter func60,ntmps60;have H0:=zH (Hp.start w);go_upto_region 0 with fail;apply wl;apply Cl 24 [iV a.1,iV a.2] H0.1;intro X1 w2 H3 _;apply Cl 24 [iV b.1,iV b.2] H3.1;intro X6 w7 H8 _;refine Cl 31 rz H8.1 ?_;intro D1 G1 A4 _;apply zq φ;rcases Cm (Cz [a,b]=true)with HB|HB
 ·have A3:=HB
  have B5:=Wf.1 HB.1;have oa:=Bd B5.1;have ob:=Bd B5.2;have D2:=zH B5;rcases Cm (a.1=b.1)with C1|C1
  ·go_upto_region 1 with fail
   apply wl;refine Bw A4.1 _ _ ?_;apply eD 2 24 [iV a.1,iV a.2,iV b.1,iV b.2] A4.1;intro F0 G0 D9 _;refine zc (Hk (.slice (π F0) 2 2) [a,b] _ (Iv D9.1 (i:=3) rR) (by simp)) ?_;rintro e F9 ⟨rfl,hx⟩;have D8:=zH (D9.1.step hx);clear hx;refine⟨.bool true,by rw[A3.1],?_⟩;try simp only[ζ]
   refine cC D8.1 φ φ _ _ _ _ ?_;apply zp τ (by exact Li (e:=(Ay C1.1)));refine Jm Ai τ τ _ _ _ _ _ _ ?_;refine Jm Ai _ τ τ _ _ _ _ _ ?_;refine Dh Ai _ _ τ ?_;go_upto_region 2 with fail;apply wl;apply zq (.agg z4);refine Ck 2 rz D8.1 ?_;intro F8 D7 _;apply zq φ;go_wp2_with fail;refine bodyPost_ret (v:= .tuple #[.agg z4,.bool false]) ?_ rfl ⟨.inr ⟨fun h=>h.2.2.1 C1.1,rfl⟩,D7.1.ext⟩;exact An rfl rfl ((D7.1.blk (i:=2) rR).loadVar rfl rfl rR) rfl
  rcases Cm (x<min a.1 b.1)with C2|C2
  ·go_upto_region 1 with fail
   apply wl;refine Bw A4.1 _ _ ?_;apply eD 2 24 [iV a.1,iV a.2,iV b.1,iV b.2] A4.1;intro E9 F7 D6 _;refine zc (Hk (.slice (π E9) 2 2) [a,b] _ (Iv D6.1 (i:=3) rR) (by simp)) ?_;rintro e F6 ⟨rfl,hx⟩;have C4:=zH (D6.1.step hx);clear hx;refine⟨.bool true,by rw[A3.1],?_⟩;try simp only[ζ]
   refine cC C4.1 φ φ _ _ _ _ ?_;apply zp φ (by exact Li (e:=(Al C1.1)));refine Jm C4.1 φ φ (iV x) _ _ _ _ (iV (min a.1 b.1)) ?_;apply zp τ (by exact Dw (e:=(Ay C2.1)));refine Jm Ai τ τ _ _ _ _ _ _ ?_;refine zk ?_;apply zq τ;go_upto_region 2 with fail;apply wl;apply zq (.agg z4);refine Ck 2 rz C4.1 ?_;intro F5 D5 _;apply zq φ;go_wp2_with fail;refine bodyPost_ret (v:= .tuple #[.agg z4,.bool false]) ?_ rfl ⟨.inr ⟨fun h=>by have h1:=h.2.2.2.1;have h2:=C2.1;omega,rfl⟩,D5.1.ext⟩;exact An rfl rfl ((D5.1.blk (i:=2) rR).loadVar rfl rfl rR) rfl
  rcases Cm (max a.1 b.1<x)with C3|C3
  ·go_upto_region 1 with fail
   apply wl;refine Bw A4.1 _ _ ?_;apply eD 2 24 [iV a.1,iV a.2,iV b.1,iV b.2] A4.1;intro E8 F4 D4 _;refine zc (Hk (.slice (π E8) 2 2) [a,b] _ (Iv D4.1 (i:=3) rR) (by simp)) ?_;rintro e F3 ⟨rfl,hx⟩;have B3:=zH (D4.1.step hx);clear hx;refine⟨.bool true,by rw[A3.1],?_⟩;try simp only[ζ]
   refine cC B3.1 φ φ _ _ _ _ ?_;apply zp φ (by exact Li (e:=(Al C1.1)));refine Jm B3.1 φ φ (iV x) _ _ _ _ (iV (min a.1 b.1)) ?_;apply zp φ (by exact Dw (e:=(Al C2.1)));refine Jm B3.1 φ φ (iV x) _ _ _ _ (iV (max a.1 b.1)) ?_;apply zp τ (by exact Sg (e:=(Ay C3.1)));apply zq τ;go_upto_region 2 with fail;apply wl;apply zq (.agg z4);refine Ck 2 rz B3.1 ?_;intro F2 D3 _;apply zq φ;go_wp2_with fail;refine bodyPost_ret (v:= .tuple #[.agg z4,.bool false]) ?_ rfl ⟨.inr ⟨fun h=>by have h1:=h.2.2.2.2;have h2:=C3.1;omega,rfl⟩,D3.1.ext⟩;exact An rfl rfl ((D3.1.blk (i:=2) rR).loadVar rfl rfl rR) rfl
  go_upto_region 1 with fail;apply wl;refine Bw A4.1 _ _ ?_;apply eD 2 24 [iV a.1,iV a.2,iV b.1,iV b.2] A4.1;intro B8 E5 B2 _;refine zc (Hk (.slice (π B8) 2 2) [a,b] _ (Iv B2.1 (i:=3) rR) (by simp)) ?_;rintro e A2 ⟨rfl,hx⟩;have A1:=zH (B2.1.step hx);clear hx;refine⟨.bool true,by rw[A3.1],?_⟩;try simp only[ζ]
  refine cC A1.1 φ φ _ _ _ _ ?_;apply zp φ (by exact Li (e:=(Al C1.1)));refine Jm A1.1 φ φ (iV x) _ _ _ _ (iV (min a.1 b.1)) ?_;apply zp φ (by exact Dw (e:=(Al C2.1)));refine Jm A1.1 φ φ (iV x) _ _ _ _ (iV (max a.1 b.1)) ?_;apply zp φ (by exact Sg (e:=(Al C3.1)));apply zq φ;have F1:=zH (show b.1-a.1≠0 from fun h=>C1.1 ω);have G2: -1048576<=x/\x<=1048576:=by have h2:=C2.1;have h3:=C3.1;omega
  go_upto_region 3 with fail;refine wp_region_held_drew (S:=fun x=>Fr (fun kz=>kz=D1) A2 x) kR (Fr.of_ext zb) (fun _=> ?_);have C8:=zH (A1.1.step (Aa.refl A2).drew);refine zx 0 (bs 17 1) (.pointer (some ⟨X1,1,none⟩)) (Fr.of_ext zb) ?_;refine Db (g:=X1) (o:=1) (v:= iV a.2) (i:=1) (listed':=(bs 17 3)) rR kR kR kR (by intro _ _ _ h;exact h) rR (fun x hx=>Fr.cell hx (show World.cell? A2 ⟨X1,1,none⟩=some (iV a.2)from Az (A1.1.range (i:=0) rR 1 1)) (A1.1.offBlk (i:=0) (j:=2) rR rR dC rR)) (by intro x hq;go_simp<;>with_reducible rfl) (Fr.of_ext zb) kR ?_;try simp only[ζ]
  refine zx 2 (bs 17 7) (.pointer (some ⟨X6,1,none⟩)) (Fr.of_ext zb) ?_;refine Db (g:=X6) (o:=1) (v:= iV b.2) (i:=3) (listed':=(bs 17 15)) rR kR kR kR (by intro _ _ _ h;exact h) rR (fun x hx=>Fr.cell hx (show World.cell? A2 ⟨X6,1,none⟩=some (iV b.2)from Az (A1.1.range (i:=1) rR 1 1)) (A1.1.offBlk (i:=1) (j:=2) rR rR dC rR)) (by intro x hq;go_simp<;>with_reducible rfl) (Fr.of_ext zb) kR ?_;try simp only[ζ]
  refine zx 4 (bs 17 31) (iV x) (Fr.of_ext zb) ?_;refine zx 5 (bs 17 63) (.pointer (π X1)) (Fr.of_ext zb) ?_;refine Db (g:=X1) (o:=0) (v:= iV a.1) (i:=6) (listed':=(bs 17 127)) rR kR kR kR (by intro _ _ _ h;exact h) rR (fun x hx=>Fr.cell hx (show World.cell? A2 ⟨X1,0,none⟩=some (iV a.1)from Az (A1.1.range (i:=0) rR 0 1)) (A1.1.offBlk (i:=0) (j:=2) rR rR dC rR)) (by intro x hq;go_simp<;>with_reducible rfl) (Fr.of_ext zb) kR ?_;try simp only[ζ]
  refine zu 7 (bs 17 255) (v:= iV (x-a.1)) (Fr.of_ext zb) ?_ (hv:=by intro w E7;exact Nj ω);refine zx 8 (bs 17 511) (.pointer (π X6)) (Fr.of_ext zb) ?_;refine Db (g:=X6) (o:=0) (v:= iV b.1) (i:=9) (listed':=(bs 17 1023)) rR kR kR kR (by intro _ _ _ h;exact h) rR (fun x hx=>Fr.cell hx (show World.cell? A2 ⟨X6,0,none⟩=some (iV b.1)from Az (A1.1.range (i:=1) rR 0 1)) (A1.1.offBlk (i:=1) (j:=2) rR rR dC rR)) (by intro x hq;go_simp<;>with_reducible rfl) (Fr.of_ext zb) kR ?_;try simp only[ζ]
  refine zx 10 (bs 17 2047) (.pointer (π X1)) (Fr.of_ext zb) ?_;refine Db (g:=X1) (o:=0) (v:= iV a.1) (i:=11) (listed':=(bs 17 4095)) rR kR kR kR (by intro _ _ _ h;exact h) rR (fun x hx=>Fr.cell hx (show World.cell? A2 ⟨X1,0,none⟩=some (iV a.1)from Az (A1.1.range (i:=0) rR 0 1)) (A1.1.offBlk (i:=0) (j:=2) rR rR dC rR)) (by intro x hq;go_simp<;>with_reducible rfl) (Fr.of_ext zb) kR ?_;try simp only[ζ]
  refine zu 12 (bs 17 8191) (v:= iV (b.1-a.1)) (Fr.of_ext zb) ?_ (hv:=by intro w E7;exact Nj ω);refine mC 13 (bs 17 16383) (Wv (x-a.1) (b.1-a.1) _ ω ω ω ω F1.1) ?_;rintro e B4 ⟨c_,rfl,B6,hx⟩;have C7:=zH (C8.1.step hx);have A8:=zH (show Fr (fun kz=>kz=D1) A2 B4 from(Fr.of_ext zb).trans (Fr.of_ext hx));obtain⟨E6,rfl,A5⟩:=B6;have C0:=zH A5;have D0:=zH (Rl (x-a.1) (b.1-a.1) ω ω);clear A5 hx;apply zm A8.1;refine mC 14 (bs 17 32767) (Md 20 a.2 b.2 _ (((x-a.1:Int):Rat)/((b.1-a.1:Int):Rat)) _ (RV.Is.nin C0.1 (Ar D0.1 ω)) dC dC ⟨ω,ω⟩ ⟨ω,ω⟩) ?_;rintro e E4 ⟨c_,rfl,B6,hx⟩;have C6:=zH (C7.1.step hx);have A7:=zH (A8.1.trans (Fr.of_ext hx));obtain⟨A0,rfl,A5⟩:=B6;have B9:=zH A5;clear A5 hx;apply zm A7.1;refine Dz (i:=15) (listed':=(bs 17 65535)) rR kR rR kR _ _ _ rR C6.1 (ix:=2) rR 0 (rc A0) rR rR (by simp) kR (by simp[Value.oneCell']) (by simp[Aq]) ?_;intro E3 hh hd ho;have B1:=hN hh;have C9:=zH (hd);have A6:=zH (Fr.trans_new A7.1 ho (fun j hj=> .inl (by simpa using hj.symm)));clear hh hd ho;refine⟨A6.1,?_⟩
  (try simp only[Act.put])
  refine zx 16 (bs 17 131071) τ A6.1 ?_;refine wpAnyH_done kR ?_ _;go_wp2_with fail;refine bodyPost_ret (v:= .tuple #[(rg A0),.bool true]) ?_ rfl ⟨.inl ⟨A0,⟨D2.1.1,D2.1.2,C1.1,by have h2:=C2.1;omega,by have h3:=C3.1;omega⟩,rfl,(B9.1.dig C9.1)⟩,B1.1.ext⟩;exact An rfl rfl ((B1.1.blk (i:=2) rR).loadVar rfl rfl rR) rfl
 have A3:=zH (Bool.eq_false_iff.2 HB.1);go_upto_region 1 with fail;apply wl;refine Bw A4.1 _ _ ?_;apply eD 2 24 [iV a.1,iV a.2,iV b.1,iV b.2] A4.1;intro B7 E2 B0 _;refine zc (Hk (.slice (π B7) 2 2) [a,b] _ (Iv B0.1 (i:=3) rR) (by simp)) ?_;rintro e E1 ⟨rfl,hx⟩;have C5:=zH (B0.1.step hx);clear hx;refine⟨.bool false,by rw[A3.1],?_⟩;try simp only[ζ]
 refine Jm Ai τ τ _ _ _ _ _ τ ?_;refine Jm Ai τ _ _ _ _ _ _ _ ?_;refine Jm Ai τ τ _ _ _ _ _ _ ?_;refine zk ?_;apply zq τ;go_upto_region 2 with fail;apply wl;apply zq (.agg z4);refine Ck 2 rz C5.1 ?_;intro E0 A9 _;apply zq φ;go_wp2_with fail;refine bodyPost_ret (v:= .tuple #[.agg z4,.bool false]) ?_ rfl ⟨.inr ⟨fun h=>HB.1 (Wf.2 ⟨h.1,h.2.1⟩),rfl⟩,A9.1.ext⟩;exact An rfl rfl ((A9.1.blk (i:=2) rR).loadVar rfl rfl rR) rfl
end
section
def Zs (lo hi:Rat)(q:Rat):List Rat:=if lo<q/\q<hi then[q]else[]
instance sB (a b:Int×Int) (x:Int):Decidable (Qw a b x):=inferInstanceAs (Decidable (_/\_))
def Mf (e:Dd)(x:Int):List Rat:=if Qw e.1 e.2 x then[Me e.1 e.2 x]else[]
def Jy (o e:Dd):List Rat:=if Cw o.1 o.2 e.1 e.2=1 then[Je o.1 o.2 e.1 e.2]else[]
def Sh (a b:Int×Int)(pre:List Dd)(x:Dd):List Rat:=
  (Mf x a.1).flatMap (Zs a.2 b.2)++(Mf x b.1).flatMap (Zs a.2 b.2)++pre.flatMap (fun o=>(Jy o x).flatMap (Zs a.2 b.2))
def gS (a b:Int×Int):List Dd->List Dd->List Rat
  |_,[]=>[]
  |pre,x::l=>Sh a b pre x++gS a b (pre++[x]) l
theorem Zi (a b:Int×Int)(x:Dd):∀(l p:List Dd),gS a b p (l++[x])=gS a b p l++Sh a b (p++l) x
  | [],p=>by simp[gS]
  | y::l,p=>by
    have h:=Zi a b x l (p++[y]);simp only[uR,gS];rw[h,uK,uK];rfl
def pG (a b:Int×Int)(rs:List Ba):List Rat:=rs.flatMap fun r=>r.flatMap fun p=>Zs a.2 b.2 (p.2:Rat)
def Tj (a b:Int×Int)(rs:List Ba):Prop:=Hc rs=true/\Dv a/\Dv b/\a.2<b.2
instance sI (a b:Int×Int) (rs:List Ba):Decidable (Tj a b rs):=inferInstanceAs (Decidable (_/\_))
def rH (a b:Int×Int)(rs:List Ba):List Rat:=if Tj a b rs then[(a.2:Rat),(b.2:Rat)]++pG a b rs++gS a b [] (Ca rs)else[]
theorem aV {r:Ba}{k:Nat}{p:Int×Int}(h:r[k]?=some p)(f:Int×Int->List Rat):(r.take (k+1)).flatMap f=(r.take k).flatMap f++f p:=by
  rw[List.take_add_one,h,List.flatMap_append];simp
theorem aP {a b:Int×Int}{x:Int}(ha:Dv a)(hb:Dv b)(hx: -1048576<=x/\x<=1048576):Nm.rl (Me a b x)<=20:=by
  have h1:=Bd ha;have h2:=Bd hb;have h3:=Rl (x-a.1) (b.1-a.1) ω ω;have h4:=Bm (b.2-a.2) ω ω;have h5:=Bm a.2 ω ω;have h6:=Nm.rl_mul (((x-a.1:Int):Rat)/((b.1-a.1:Int):Rat)) ((b.2-a.2:Int):Rat);have h7:=Nm.rl_add (a.2:Rat) (((x-a.1:Int):Rat)/((b.1-a.1:Int):Rat)*((b.2-a.2:Int):Rat));unfold Me;omega
theorem mG {a b c d:Int×Int}(ha:Dv a)(hb:Dv b)(hc:Dv c)(hd:Dv d):Nm.rl (Jf a b c d)<=8:=by
  have h1:=Om (Cj ha hc) (Cj hc hd);have h2:=Om (Cj ha hb) (Cj hc hd);exact Rl _ _ ω (ω)
theorem Yb {a b c d:Int×Int}(ha:Dv a)(hb:Dv b)(hc:Dv c)(hd:Dv d):Nm.rl (Qg a b c d)<=20/\Nm.rl (Je a b c d)<=20:=by
 have h1:=Bd ha;have h2:=Bd hb;have ht:=mG ha hb hc hd;have hs:=Bd (Ow ha hb hc hd);have k1:=Bm (b.1-a.1) ω ω;have k2:=Bm (b.2-a.2) ω ω;have k3:=Bm a.1 ω ω;have k4:=Bm a.2 ω ω;have k5:=Bm (Ah a b c d).1.1 ω ω;have k6:=Bm (Ah a b c d).1.2 ω ω;have m1:=Nm.rl_mul (Jf a b c d) ((b.1-a.1:Int):Rat);have m2:=Nm.rl_mul (Jf a b c d) ((b.2-a.2:Int):Rat);have a1:=Nm.rl_add (a.1:Rat) (Jf a b c d*((b.1-a.1:Int):Rat));have a2:=Nm.rl_add (a.2:Rat) (Jf a b c d*((b.2-a.2:Int):Rat));unfold Qg Je;constructor
 ·split<;>omega
 split<;>omega
end
section
theorem Uv {a b:Int×Int}:Cq a b=true↔a.2<b.2\/(a.2=b.2/\a.1<b.1):=by
  unfold Cq;simp
theorem dK {a b:Int×Int}(h:¬Cq a b=true)(k:¬Cq b a=true):a=b:=by
  rw[Uv]at h k;exact Prod.ext ω (ω)
theorem Uu {a b:Int×Int}(h:Cq a b=true):¬Cq b a=true:=by
  rw[Uv]at h⊢;omega
theorem iT (a b c d:Int×Int):Gy c d a b=Gy a b c d:=by
  unfold Gy;by_cases h:Cq (Cu a b) (Cu c d)=true
  · rw[if_pos h,if_neg (Uu h)]
  by_cases k:Cq (Cu c d) (Cu a b)=true
  · rw[if_neg h,if_pos k]
  rw[if_neg h,if_neg k,dK h k]
theorem iU (a b c d:Int×Int):Jo c d a b=Jo a b c d:=by
  unfold Jo;by_cases h:Cq (Cg a b) (Cg c d)=true
  · rw[if_pos h,if_neg (Uu h)]
  by_cases k:Cq (Cg c d) (Cg a b)=true
  · rw[if_neg h,if_pos k]
  rw[if_neg h,if_neg k,dK h k]
theorem Pq (a b c d:Int×Int):Ah c d a b=Ah a b c d:=by unfold Ah;rw[iT,iU]
theorem Ng {u v:Int×Int}:cr u v= -cr v u:=by unfold cr;grind
theorem Oq (x y:Int):(((-x:Int)):Rat)/(((-y:Int)):Rat)=(x:Rat)/(y:Rat):=by
  rw[Rat.intCast_neg,Rat.intCast_neg];by_cases h:(y:Rat)=0
  · rw[h];simp[Rat.div_def]
  grind
theorem Tw (a b c d:Int×Int):Jf c d a b=Ns a b c d:=by
  unfold Jf Ns;rw[show cr (dv c a) (dv a b)= -cr (dv a c) (dv a b)by unfold cr dv;grind,show cr (dv c d) (dv a b)= -cr (dv a b) (dv c d)from Ng,Oq]
theorem eT (a b c d:Int×Int):Ns c d a b=Jf a b c d:=by
  unfold Jf Ns;rw[show cr (dv c a) (dv c d)= -cr (dv a c) (dv c d)by unfold cr dv;grind,show cr (dv c d) (dv a b)= -cr (dv a b) (dv c d)from Ng,Oq]
theorem Wq {a b:Int×Int}:dv a b=(0,0)↔a=b:=by
  unfold dv;constructor
  · intro h;injection h with h1 h2;exact Prod.ext ω (ω)
  intro h;subst h;simp
theorem Us {a b c d:Int×Int}:Cc a b c d=(0,0)↔a=b/\c=d:=by
  unfold Cc;split
  · rename_i h;rw[Wq]at h;rw[Wq];exact⟨fun k=>⟨h,k⟩,fun k=>k.2⟩
  rename_i h;exact⟨fun k=>absurd k h,fun k=>absurd (Wq.2 k.1) h⟩
def Yw (a b c d:Int×Int):Prop:=cr (Cc a b c d) (dv a c)≠0\/(Cc a b c d=(0,0)/\a≠c)
theorem qE {u v z:Int×Int}(hu:u≠(0,0))(h:cr u v=0)(k:cr u z=0):cr v z=0:=by
  obtain⟨u1,u2⟩:=u;obtain⟨v1,v2⟩:=v;obtain⟨z1,z2⟩:=z;unfold cr at h k⊢;dsimp only at h k⊢
  have A0:u1≠0\/u2≠0:=by
    by_cases e:u1=0
    · right;intro e2;exact hu (by rw[e,e2])
    exact .inl e
  rcases A0 with e|e
  · have:u1*(v1*z2-v2*z1)=0:=by grind
    exact(Int.mul_eq_zero.1 this).resolve_left e
  have:u2*(v1*z2-v2*z1)=0:=by grind
  exact(Int.mul_eq_zero.1 this).resolve_left e
theorem Rs {a b c d:Int×Int}(h0:cr (dv a b) (dv c d)=0)(h:Yw c d a b):Yw a b c d:=by
 unfold Yw at h⊢;rcases h with h|⟨h1,h2⟩
 ·left
  intro k;apply h;have hz:cr (Cc a b c d) (dv c a)=0:=by
   have:cr (Cc a b c d) (dv c a)= -cr (Cc a b c d) (dv a c):=by unfold cr dv;grind
   omega
  by_cases e1:dv a b=(0,0)
  ·have e3:Cc a b c d=dv c d:=if_pos e1
   rw[e3]at hz;by_cases e2:dv c d=(0,0)
   ·rw[show Cc c d a b=dv a b from if_pos e2,e1];unfold cr;simp
   rw[show Cc c d a b=dv c d from if_neg e2];exact hz
  have e3:Cc a b c d=dv a b:=if_neg e1;rw[e3]at hz;by_cases e2:dv c d=(0,0)
  ·rw[show Cc c d a b=dv a b from if_pos e2];exact hz
  rw[show Cc c d a b=dv c d from if_neg e2];exact qE e1 h0 hz
 rw[Us]at h1;exact .inr ⟨Us.2 ⟨h1.2,h1.1⟩,fun e=>h2 e.symm⟩
theorem Ul {a b c d:Int×Int}(h0:cr (dv a b) (dv c d)=0):Yw c d a b↔Yw a b c d:=
  ⟨Rs h0,Rs (by rw[Ng,h0];rfl)⟩
theorem iZ {a b c d:Int×Int}(h:cr (dv a b) (dv c d)=0):Cw a b c d=(open Classical in if Yw a b c d then 0 else(Ah a b c d).2):=by
  unfold Cw;rw[if_neg (by simpa using h)];by_cases k:Yw a b c d
  · rw[if_pos k];exact if_pos k
  rw[if_neg k];exact if_neg k
theorem iY {a b c d:Int×Int}(h:cr (dv a b) (dv c d)≠0):Cw a b c d=if gI (Jf a b c d)/\gI (Ns a b c d)then 1 else 0:=if_pos h
theorem eU (a b c d:Int×Int):Cw c d a b=Cw a b c d:=by
  by_cases h:cr (dv a b) (dv c d)=0
  · rw[iZ h,iZ (by rw[Ng,h];rfl),Pq]
    by_cases k:Yw a b c d
    · rw[if_pos k,if_pos ((Ul h).2 k)]
    rw[if_neg k,if_neg (fun e=>k ((Ul h).1 e))]
  rw[iY h,iY (by rw[Ng];omega),Tw a b c d,eT a b c d];by_cases k:gI (Jf a b c d)/\gI (Ns a b c d)
  · rw[if_pos k,if_pos k.symm]
  rw[if_neg k,if_neg (fun e=>k e.symm)]
theorem rN {u v:Int×Int}:((cr u v:Int):Rat)=(u.1:Rat)*(v.2:Rat)-(u.2:Rat)*(v.1:Rat):=by unfold cr;rw[Rat.intCast_sub,Rat.intCast_mul,Rat.intCast_mul]
theorem tZ (a b:Int×Int):(((dv a b).1:Int):Rat)=(b.1:Rat)-(a.1:Rat):=by unfold dv;rw[Rat.intCast_sub]
theorem tY (a b:Int×Int):(((dv a b).2:Int):Rat)=(b.2:Rat)-(a.2:Rat):=by unfold dv;rw[Rat.intCast_sub]
theorem mN {a b c d:Int×Int}(h:cr (dv a b) (dv c d)≠0):
  (c.1:Rat)+Ns a b c d*((d.1-c.1:Int):Rat)=(a.1:Rat)+Jf a b c d*((b.1-a.1:Int):Rat)/\(c.2:Rat)+Ns a b c d*((d.2-c.2:Int):Rat)=(a.2:Rat)+Jf a b c d*((b.2-a.2:Int):Rat):=by
 have h2:((cr (dv a b) (dv c d):Int):Rat)≠0:=fun e=>h (by exact_mod_cast e)
 unfold Ns Jf;rw[Rat.intCast_sub,Rat.intCast_sub,Rat.intCast_sub,Rat.intCast_sub];simp only[rN,tZ,tY]at h2⊢;generalize (a.1:Rat)=a1 at*;generalize (a.2:Rat)=a2 at*;generalize (b.1:Rat)=b1 at*;generalize (b.2:Rat)=b2 at*;generalize (c.1:Rat)=c1 at*;generalize (c.2:Rat)=c2 at*;generalize (d.1:Rat)=d1 at*;generalize (d.2:Rat)=d2 at*;constructor<;>grind
theorem eS {a b c d:Int×Int}:Je c d a b=Je a b c d:=by
  unfold Je;by_cases h:cr (dv a b) (dv c d)=0
  · rw[if_neg (by rw[Ng,h];decide),if_neg (by rw[h];decide),Pq]
  rw[if_pos (by rw[Ng];omega),if_pos h,Tw];exact(mN h).2
end
section
def Vm {α:Type}:Result α->World
  | .ok _ w=>w
  | .halt _ w=>w
theorem iA {α:Type}(x:Ask α):∀w:World,w.drawn<=(w.ask x).2.drawn:=by
  induction x with
  |done a=>intro w;exact Bp _
  | ask what range k ih=>
    intro w;simp only[World.ask];split
    · exact ih _ w
    exact Ar (Nat.le_succ _) (ih _ {w with drawn:=w.drawn+1})
theorem Tp (w:World)(c:Sys):w.drawn<=(w.sys c).2.drawn:=by
  have h:=iA (Kernel.perform c w.os) w;unfold World.sys;split
  · exact Bp _
  rename_i h1;rw[h1]at h;exact h
theorem Qf {p:Program}{w:World}{a:Addr}{u:TypeId}{k:Addr}{v:Value}{b:Bool}{r:World×List Addr}(h:w.viewStore p a u k v b= .ok r):r.1.drawn=w.drawn:=by
  unfold World.viewStore at h;simp only[bind,Except.bind,pure,Except.pure]at h;repeat' split at h
  all_goals first|(cases h;rfl)|(cases h)
theorem Lh {p:Program}{w:World}{a:Addr}{v:Value}{b:Bool}{r:World×List Addr}(h:w.farStore p a v b= .ok r):r.1.drawn=w.drawn:=by
  unfold World.farStore at h;split at h
  · split at h
    · rename_i h2
      cases h;exact Qf h2
    cases h
  cases h
theorem Ox {α:Type}(p:Program)(s:Sem α):∀w:World,w.drawn<=(Vm (s.run p w)).drawn:=by
  induction s with
  |pure a=>intro w;exact Bp _
  | load m a k ih=>
    intro w;unfold Sem.run;split
    · exact ih _ w
    split
    · exact ih _ w
    exact Bp _
  | store m a v k ih=>
    intro w;cases v<;>simp only[Sem.run]<;>first
      |exact Bp _
      | (split
         · split
           · exact Bp _
           exact ih (w.setCell a _)
         split
         · rename_i h;have e:=Lh h;rw[<-e];exact ih _
         exact Bp _)
  |new o k ih=>intro w;exact ih _ {w with heap:=w.heap.push o}
  |shape r k ih=>intro w;exact ih _ w
  | freeze a n k ih=>
    intro w;have h:=ih (w.freeze a n);have e:(w.freeze a n).drawn=w.drawn:=by unfold World.freeze;split<;>rfl
    rw[e]at h;exact h
  |frozen a k ih=>intro w;exact ih _ w
  | getObj r k ih=>
    intro w;unfold Sem.run;split
    · exact Bp _
    · exact ih _ w
    exact Bp _
  | setObj r o k ih=>
    intro w;unfold Sem.run;split
    · exact Bp _
    · exact ih {w with heap:=w.heap.setIfInBounds r o}
    exact Bp _
  | choose q k ih=>
    intro w;unfold Sem.run;split
    · exact ih _ w
    exact Ar (Nat.le_succ _) (ih _ {w with drawn:=w.drawn+1})
  |sys c k ih=>intro w;exact Ar (Tp w c) (ih _ _)
  |program k ih=>intro w;exact ih _ w
  |mark m k ih=>intro w;exact ih w
  |halt h=>intro w;exact Bp _
theorem Ew {α:Type}(p:Program)(s:Sem α):∀(w:World) (es:Array Event),w.drawn<=(Vm (s.runT p w es).1).drawn:=by
  induction s with
  |pure a=>intro w es;exact Bp _
  | load m a k ih=>
    intro w es;unfold Sem.runT;split
    · exact ih _ w _
    split
    · exact ih _ w _
    exact Bp _
  | store m a v k ih=>
    intro w es;cases v<;>simp only[Sem.runT]<;>first
      |exact Bp _
      | (split
         · split
           · exact Bp _
           exact ih (w.setCell a _) _
         split
         · rename_i h;have e:=Lh h;rw[<-e];exact ih _ _
         exact Bp _)
  |new o k ih=>intro w es;exact ih _ {w with heap:=w.heap.push o} _
  |shape r k ih=>intro w es;exact ih _ w _
  | freeze a n k ih=>
    intro w es;have h:=ih (w.freeze a n) es;have e:(w.freeze a n).drawn=w.drawn:=by unfold World.freeze;split<;>rfl
    rw[e]at h;exact h
  |frozen a k ih=>intro w es;exact ih _ w _
  | getObj r k ih=>
    intro w es;unfold Sem.runT;split
    · exact Bp _
    · exact ih _ w _
    exact Bp _
  | setObj r o k ih=>
    intro w es;unfold Sem.runT;split
    · exact Bp _
    · exact ih {w with heap:=w.heap.setIfInBounds r o} _
    exact Bp _
  | choose q k ih=>
    intro w es;unfold Sem.runT;split
    · exact ih _ w _
    exact Ar (Nat.le_succ _) (ih _ {w with drawn:=w.drawn+1} _)
  |sys c k ih=>intro w es;exact Ar (Tp w c) (ih _ _ _)
  |program k ih=>intro w es;exact ih _ w _
  |mark m k ih=>intro w es;exact ih w _
  |halt h=>intro w es;exact Bp _
theorem Fj {α:Type}{p:Program}{s:Sem α}{w w':World}{a:α}(h:s.run p w= .ok a w'):w.drawn<=w'.drawn:=by
  have h2:=Ox p s w;rw[h]at h2;exact h2
theorem jD {α:Type}{p:Program}{s:Sem α}{w w':World}{a:Halt}(h:s.run p w= .halt a w'):w.drawn<=w'.drawn:=by
  have h2:=Ox p s w;rw[h]at h2;exact h2
theorem cT {α:Type}{p:Program}{s:Sem α}{w w':World}{a:α}{es es':Array Event}(h:s.runT p w es=(.ok a w',es')):w.drawn<=w'.drawn:=by
  have h2:=Ew p s w es;rw[h]at h2;exact h2
theorem eV {α:Type}{p:Program}{s:Sem α}{w w':World}{a:Halt}{es es':Array Event}(h:s.runT p w es=(.halt a w',es')):w.drawn<=w'.drawn:=by
  have h2:=Ew p s w es;rw[h]at h2;exact h2
def Py (d:Nat):GStep->Prop
  | .go _ w _=>d<=w.drawn
  | .comm _ _ _ _ w _=>d<=w.drawn
  | .spawn _ _ w _=>d<=w.drawn
  | .count _ w _=>d<=w.drawn
  | .timer _ _ w _=>d<=w.drawn
  | .alone _ _ w _=>d<=w.drawn
  | .newcoro _ _ _ w _=>d<=w.drawn
  | .coroswitch _ _ _ w _=>d<=w.drawn
  | .collect _ w _=>d<=w.drawn
  | .watch _ w _=>d<=w.drawn
  | .ended .. =>True
theorem Iq {d:Nat}{es:Array Event}{g:GStep}:Py d (GStep.after es g)=Py d g:=by cases g<;>rfl
theorem Nd {c:Prop}[Decidable c]{a b:GStep}{d:Nat}(h1:Py d a)(h2:Py d b):Py d (if c then a else b):=by
  split
  · exact h1
  exact h2
theorem bM (d:Nat)(w:World)(n:Nat)(t:ByteArray)(o:Outcome):Py d (endWith w n t o):=by
  unfold endWith;dsimp only
  repeat' split
  all_goals exact True.intro
theorem Lj {d:Nat}{p:Program}{fr:Frame}{v:Value}{w:World}(h:d<=w.drawn):Py d (endPrinting p fr v w):=by
  unfold endPrinting;dsimp only
  split
  · exact h
  exact True.intro
theorem Pz {d:Nat}{p:Program}{fr:Frame}{cs:List Frame}{dy:Option Dying}{m:String}{w:World}(h:d<=w.drawn):Py d (endFatal p fr cs dy m w):=by
  unfold endFatal;dsimp only
  split
  · rename_i h1
    exact Ar h (Fj h1)
  · exact True.intro
  exact True.intro
theorem Ln {d:Nat}{p:Program}{b:Bool}{fr:Frame}{cs:List Frame}{dy:Option Dying}{v:Value}{w:World}(h:d<=w.drawn):Py d (doReturn p b fr cs dy v w):=by
  unfold doReturn;repeat' split
  all_goals first|exact h|exact True.intro
theorem Qj {p:Program}{fr:Frame}{cs:List Frame}{dy:Option Dying}{d:Deferred}{w:World}:Py w.drawn (callDeferred p fr cs dy d w):=by
  unfold callDeferred;refine Nd True.intro ?_
  · have h:=Ew p (invoke d.target d.args) w #[]
    generalize (invoke d.target d.args).runT p w #[]=q at h;obtain⟨r,es⟩:=q;dsimp only
    rw[Iq];repeat' split
    all_goals first|exact h|exact True.intro|exact Pz h
theorem eI {p:Program}{b:Bool}{fr:Frame}{cs:List Frame}{dy:Option Dying}{w:World}:Py w.drawn (unwind p b fr cs dy w):=by
  unfold unwind;split
  · rename_i block _ _ _
    have h:=Ew p (Instr.takeDeferred block) w #[];generalize (Instr.takeDeferred block).runT p w #[]=q at h;obtain⟨r,es⟩:=q;dsimp only
    rw[Iq];split
    · exact h
    exact True.intro
  · exact Qj
  split
  · exact True.intro
  · split
    · exact True.intro
    split
    · exact Bp _
    split
    · split
      · exact Bp _
      split
      · rename_i h1
        exact Fj h1
      · exact True.intro
      exact True.intro
    split
    · exact Lj (Bp _)
    exact True.intro
  split
  · exact Ln (Bp _)
  rename_i fn _;have h:=Ew p (results fn fr.tmps) w #[];generalize (results fn fr.tmps).runT p w #[]=q at h
  obtain⟨r,es⟩:=q;dsimp only
  rw[Iq];split
  · exact Ln h
  · exact True.intro
  exact True.intro
theorem Zy {p:Program}{fr:Frame}{d:Dying}{f:Fatal}{w:World}:Py w.drawn (writeOn p fr d f w):=by
  unfold writeOn;dsimp only
  split
  · exact True.intro
  split<;>rename_i h1<;>first|exact True.intro|exact cT h1|exact eV h1
theorem rL {p:Program}{fr:Frame}{d:Dying}{w:World}:Py w.drawn (die p fr d w):=by
  unfold die;split
  · exact Zy
  split
  · split
    · exact Bp _
    exact bM _ _ _ _ _
  dsimp only
  split
  · exact Bp _
  · split
    · rename_i h1
      exact Fj h1
    exact True.intro
  · rename_i t recv name _
    have h:=Ew p (invoke (.fn (.method name) #[]) #[.iface t recv]) w #[];generalize (invoke (.fn (.method name) #[]) #[.iface t recv]).runT p w #[]=q at h;obtain⟨r,es⟩:=q;dsimp only
    rw[Iq];split;all_goals first|exact h|exact True.intro|exact Lj h
  exact True.intro
theorem lB {p:Program}{fr:Frame}{cs:List Frame}{dy:Option Dying}{g d:Nat}{w:World}(h:d<=w.drawn):Py d (early p fr cs dy g w):=by
  have hn:∀w:World,d<=w.drawn->Py d (match w.heap[g]?with
    |some (.pending c elem)=>GStep.go {frame:=fr,callers:=cs,status:= .running,dying:=dy} {w with heap:=w.heap.setIfInBounds g (.cells c elem)}
    |_=> .ended (.stuck "early: the variable does not wait" (fr.pos p)) w):=by
    intro w hw;split
    · exact hw
    exact True.intro
  unfold early;dsimp only
  refine Nd (hn w h) ?_;split
  · exact True.intro
  refine Nd (hn w h) (Nd (hn w h) ?_);split
  · exact True.intro
  · exact h
  · exact True.intro
  · exact hn w h
  refine Nd h (Nd (hn w h) ?_);split
  · rename_i h1;exact hn _ (Ar h (Fj h1))
  · rename_i h1;exact Ar h (Fj h1)
  exact True.intro
theorem Lp {p:Program}{l:Bool}{fr:Frame}{cs:List Frame}{dy:Option Dying}{s:Sem Next}{w:World}:Py w.drawn (stepG.apply p l fr cs dy s w):=by
  unfold stepG.apply;dsimp only
  generalize hq:(if l=true then s.runT p w #[]else(s.run p w,#[]))=q;have h:w.drawn<=(Vm q.1).drawn:=by
    subst hq;split
    · exact Ew p s w #[]
    exact Ox p s w
  obtain⟨r,es⟩:=q;dsimp only
  rw[Iq];cases r with
  | ok v w1=>
    have h:w.drawn<=w1.drawn:=h;cases v;all_goals (try dsimp only)
    all_goals (repeat' split)
    all_goals first|exact h|exact True.intro
  | halt v w1=>
    have h:w.drawn<=w1.drawn:=h;cases v with
    | unsupported u=>
      cases u with
      |initOrder g=>exact lB h
      |_=>exact True.intro
    |fatal m=>exact Pz h
    |_=>first|exact h|exact True.intro
theorem mS {p:Program}{l:Bool}{fr:Frame}{cs:List Frame}{dy:Option Dying}{w:World}:Py w.drawn (stepG.oper p l fr cs dy w):=by
  unfold stepG.oper;split
  · exact True.intro
  split
  · exact Lp
  exact Lp
theorem dW {α:Type}{o:Option α}{a:GStep}{f:α->GStep}{d:Nat}(h1:Py d a)(h2:∀x,Py d (f x)):Py d (o.elim a f):=by
  cases o with
  |none=>exact h1
  |some x=>exact h2 x
theorem oT {d e:Nat}{g:GStep}(h:d<=e)(hg:Py e g):Py d g:=by
  cases g<;>first|exact Ar h hg|exact True.intro
theorem Xy {α:Type}{p:Program}{s:Sem α}{w w':World}{a:α}{es:Array Event}(h:(s.runT p w es).1= .ok a w'):w.drawn<=w'.drawn:=by
  have h2:=Ew p s w es;rw[h]at h2;exact h2
theorem aM {α:Type}{p:Program}{s:Sem α}{w w':World}{a:Halt}{es:Array Event}(h:(s.runT p w es).1= .halt a w'):w.drawn<=w'.drawn:=by
  have h2:=Ew p s w es;rw[h]at h2;exact h2
theorem oG {p:Program}{b l:Bool}{fr:Frame}{cs:List Frame}{dy:Option Dying}{w:World}:Py w.drawn (stepG.exec p b l fr cs dy w):=by
  have hl:∀(A0:Option Code) (ok:Bool),Py w.drawn (match fr.roundOf with
      |none=>if ok=true then GStep.go {frame:={fr with mode:= .returning},callers:=cs,status:= .running,dying:=dy} w else .ended (.stuck "exit, goto: no such block or label" (fr.pos p)) w
      | some l=>
        let (r,es):=(Instr.endRound l A0).runT p w #[]
        GStep.after (seen p fr.fn es)<|match r with
        | .ok v w=>doReturn p b fr cs dy v w
        | .halt _ w=> .ended (.stuck "range over a function: no such loop" (fr.pos p)) w):=by
    intro A0 ok;split
    · refine Nd (Bp _) True.intro
    split;rename_i h1;rw[Iq];split
    · exact Ln (cT h1)
    exact True.intro
  unfold stepG.exec;dsimp only
  split;all_goals first|exact hl _ _|exact Bp _|exact True.intro|exact Lp|exact dW (hl _ _) (fun _=>Bp _)|exact dW True.intro (fun _=>Lp)|skip
  all_goals (try rw[Iq])
  all_goals (repeat' split)
  all_goals first|exact Bp _|exact True.intro|exact mS|(rename_i h1;first|exact Xy h1|exact aM h1|exact Fj h1|exact oT (Xy h1) Lp)
theorem iP {p:Program}{b l:Bool}{g:Goroutine}{w:World}:Py w.drawn (stepG p b g w l):=by
  unfold stepG;dsimp only
  split
  · exact rL
  · exact oG
  exact eI
def lR (d:Nat):Stepped->Prop
  | .next m=>d<=m.world.drawn
  | .ended .. =>True
theorem bG {β:Type}{c:Prop}[Decidable c]{a b:Stepped×β}{d:Nat}(h1:lR d (a.1))(h2:lR d (b.1)):lR d ((if c then a else b).1):=by
  split
  · exact h1
  exact h2
theorem So {p:Program}{rest:Rest}{gs:Array Goroutine}{i:Nat}{g:Goroutine}{cases:Array CommCase}{b:Bool}{sh:CommShape}{w:World}:lR w.drawn ((communicate p rest gs i g cases b sh w).1):=by
  unfold communicate;dsimp only
  refine bG True.intro (bG (bG ?_ ?_) ?_)
  · split
    · rename_i h1
      unfold waitingAt at h1;split at h1
      · split at h1
        · cases h1;exact Bp _
        cases h1
      cases h1;exact Bp _
    exact True.intro
  · exact Bp _
  split
  · exact True.intro
  rename_i h1;have h:=Fj h1;repeat' split
  all_goals first|exact h|exact True.intro|exact Ar h (jD (by assumption))|(rename Sem.run p (choose _) _=Result.ok _ _=>h9;have A0:=Fj h9;exact Ar h A0)
theorem dI {p:Program}{rest:Rest}{gs:Array Goroutine}{w:World}:lR w.drawn (look p gs rest w):=by
  unfold look;dsimp only
  repeat' split
  all_goals first|exact True.intro|(rename Sem.run p _ w=Result.ok _ _=>h9;have A0:=Fj h9;exact A0)
theorem Zl (w:World)(c:Nat):(drain w c).2.drawn=w.drawn:=by
  unfold drain;split<;>rfl
theorem Nw (m:Machine)(k:Nat)(t:Timer)(a b:Nat):(retime m k t a b).2.world.drawn=m.world.drawn:=by
  unfold retime;dsimp only
  split
  · exact Zl _ _
  rfl
theorem Pw {m m':Machine}{var:Addr}{f:Nat->Timer->Value×Machine}{v:Value}{d:Nat}(hf:∀k t,(f k t).2.world.drawn=d)(h:timerOp.named m var f= .ok (v,m')):m'.world.drawn=d:=by
  unfold timerOp.named at h;split at h
  · rename_i k _
    have e:=hf k (m.rest.timers.getD k default);injection h with h
    rw[h]at e;exact e
  cases h
theorem aB {m m':Machine}{op:TimerOp}{v:Value}(h:timerOp m op= .ok (v,m')):m'.world.drawn=m.world.drawn:=by
  cases op with
  | new t=>
    simp only[timerOp]at h;split at h
    · cases h;rfl
    split at h
    · split at h
      · cases h
      cases h;rfl
    cases h
  |stop var=>exact Pw (fun k t=>Nw m k t 0 t.period) h
  | reset var a b=>
    simp only[timerOp]at h;split at h
    · rename_i m2 h2
      have e:m2.world.drawn=m.world.drawn:=by
        unfold timerOp.opened at h2;split at h2
        · split at h2
          · cases h2;rfl
          cases h2
        cases h2;rfl
      exact Pw (fun k t=>(Nw m2 k t a b).trans e) h
    cases h
  | deadline ctx r w t=>
    simp only[timerOp]at h;cases h;rfl
theorem iX {p:Program}{m:Machine}{k:Nat}:lR m.world.drawn (serve p m k):=by
  unfold serve;split
  · exact True.intro
  · exact Bp _
  dsimp only
  split
  · exact True.intro
  exact Bp _
theorem pZ {p:Program}{m:Machine}{i:Nat}{l:Bool}:lR m.world.drawn ((Go.runT p m i l).1):=by
  unfold Go.runT;dsimp only
  generalize hs:stepG p (i==0) _ m.world l=s;have h:Py m.world.drawn s:=by rw[<-hs];exact iP
  cases s with
  | comm g c b sh w es=>
    have h:m.world.drawn<=w.drawn:=h;have hc:=So (p:=p) (rest:=m.rest) (gs:=(m.gs.swapAt! i {(default:Goroutine)with status:= .finished}).2) (i:=i) (g:=g) (cases:=c) (b:=b) (sh:=sh) (w:=w);dsimp only
    revert hc
    generalize communicate p m.rest _ i g c b sh w=q;intro hc;obtain⟨r,A0⟩:=q;cases r with
    |next m2=>exact Ar h hc
    |ended=>exact True.intro
  | collect g w es=>
    have h:m.world.drawn<=w.drawn:=h;have hc:=dI (p:=p) (gs:=(m.gs.swapAt! i {(default:Goroutine)with status:= .finished}).2.setIfInBounds i g) (rest:=m.rest) (w:=w);dsimp only
    revert hc
    generalize look p _ m.rest w=q;intro hc;cases q with
    |next m2=>exact Ar h hc
    |ended=>exact True.intro
  | timer g op w es=>
    have h:m.world.drawn<=w.drawn:=h;dsimp only
    split
    · rename_i h2
      have e:=aB h2;exact Ar h (vA e.symm)
    all_goals first|exact True.intro|exact h
  | coroswitch g c ex w es=>
    have h:m.world.drawn<=w.drawn:=h;dsimp only
    repeat' split
    all_goals first|exact h|exact True.intro|(rename endThrow _ _ _=GStep.go _ _ _=>h9;unfold endThrow dieOf at h9;cases h9;exact h)
  | count g w es=>
    have h:m.world.drawn<=w.drawn:=h;dsimp only
    split
    · exact True.intro
    exact h
  |_=>first|exact h|exact True.intro
def pE (d:Nat):Move->Prop
  | .goroutine m _=>d<=m.world.drawn
  | .machine s _=>lR d s
theorem Pf {c:Prop}[Decidable c]{a b:Move}{d:Nat}(h1:pE d a)(h2:pE d b):pE d (if c then a else b):=by
  split
  · exact h1
  exact h2
theorem Wd {p:Program}{rs:List Nat}{d:Nat}(m:Machine)(h:d<=m.world.drawn):pE d (match (choose (.sched rs.length)).run p m.world with
      | .halt _ w=>Move.machine (.ended (.stuck "sched" "") w)
      | .ok k world=>
        if rs.length<=1 then .goroutine {m with world} (rs.getD k 0)else
        match (choose (.extern "sched.slice" 65536)).run p world with
        | .halt _ w=> .machine (.ended (.stuck "sched.slice" "") w)
        | .ok n world=> .goroutine {m with world,rest:={m.rest with slice:=if n=0 then none else some (rs.getD k 0,n)}} (rs.getD k 0)):=by
  split
  · exact True.intro
  rename_i h1;have h2:=Fj h1;refine Pf (Ar h h2) ?_;split
  · exact True.intro
  rename_i h3;have h4:=Fj h3;exact Ar h (Ar h2 h4)
theorem aK {p:Program}{m:Machine}{k d:Nat}(h:d<=m.world.drawn):lR d (serve p m k):=by
  have hs:=iX (p:=p) (m:=m) (k:=k);generalize serve p m k=q at hs;cases q with
  |next m2=>exact Ar h hs
  |ended=>exact True.intro
theorem Zw {p:Program}{m:Machine}:pE m.world.drawn (askOn p m):=by
  unfold askOn;dsimp only
  split
  · exact True.intro
  rename_i w1 h1;have h2:=Fj h1;refine Pf (aK h2) ?_;split
  · split
    · exact h2
    refine Pf h2 ?_;split
    · exact True.intro
    exact True.intro
  split
  · exact Wd {m with world:=w1} h2
  split
  · exact True.intro
  · rename_i w3 h3
    have h4:=Fj h3;exact Wd {m with world:=w3} (Ar h2 h4)
  · rename_i h3
    have h4:=Fj h3;exact Ar h2 h4
  rename_i h3;have h4:=Fj h3;exact Wd _ (Ar h2 h4)
theorem Sv {p:Program}{m:Machine}{d:Nat}(h:d<=m.world.drawn):pE d (askOn p m):=by
  have hs:=Zw (p:=p) (m:=m);generalize askOn p m=q at hs;cases q with
  |goroutine m2 i=>exact Ar h hs
  | machine s ops=>
    cases s with
    |next m2=>exact Ar h hs
    |ended=>exact True.intro
theorem lK {p:Program}{m:Machine}:pE m.world.drawn (ask p m):=by
  unfold ask;refine Pf ?_ Zw;split
  · exact True.intro
  · rename_i w1 h1
    have h2:=Fj h1;have hl:=dI (p:=p) (gs:=m.gs) (rest:=m.rest) (w:=w1);generalize look p m.gs m.rest w1=q at hl
    cases q with
    |next m2=>exact Sv (Ar h2 hl)
    |ended=>exact True.intro
  rename_i w1 _ h1;have h2:=Fj h1;exact Sv (m:={m with world:=w1}) h2
theorem nK {p:Program}{m:Machine}:pE m.world.drawn (move p m):=by
  unfold move;split
  · refine Pf (Bp _) True.intro
  split
  · refine Pf (Bp _) lK
  exact lK
theorem lY {p:Program}{m:Machine}:lR m.world.drawn (step p m):=by
  unfold step stepT;have h:=nK (p:=p) (m:=m);generalize move p m=q at h
  cases q with
  | goroutine m2 i=>
    have h2:=pZ (p:=p) (m:=m2) (i:=i) (l:=true);dsimp only
    generalize (Go.runT p m2 i true).1=r at h2;cases r with
    |next m3=>exact Ar h h2
    |ended=>exact True.intro
  |machine s ops=>exact h
theorem Xr {p:Program}{m m':Machine}(h:Steps p m m'):m.world.drawn<=m'.world.drawn:=by
  obtain⟨n,h⟩:=h;induction n generalizing m with
  | zero=>
    simp only[runN]at h;injection h with h
    rw[h];exact Bp _
  | succ n ih=>
    simp only[runN]at h;have hs:=lY (p:=p) (m:=m);generalize step p m=q at h hs
    cases q with
    |next m2=>exact Ar hs (ih h)
    |ended=>cases h
theorem Calls.drawn {P:Program}{f:FuncId}{args:Array Value}{w:World}{R:Ending->World->Prop}(h:Calls P f args w R)(hr:∀e w',R e w'->∃v,e= .returned v):
    Calls P f args w fun e w'=>R e w'/\w.drawn<=w'.drawn:=by
  intro cs;obtain⟨e,w',fr,h1,h2,h3⟩:=h cs;refine⟨e,w',fr,⟨h1,?_⟩,h2,h3⟩;obtain⟨v,rfl⟩:=hr e w' h1;exact Xr h2
end
section
open Go.RowKit Go.Shelf Go.Lib Go.Sort
theorem kT {W W':World}(h:Aa W W')(hd:W.drawn<=W'.drawn):∃q os',W'=grow (W.drewN q) os':=by
 refine⟨W'.drawn-W.drawn,W'.heap.extract W.heap.size W'.heap.size,?_⟩;have e:W'.heap=W.heap++W'.heap.extract W.heap.size W'.heap.size:=by
  have hs:=h.size;apply Array.ext_getElem?;intro i;rw[Array.getElem?_append];by_cases hi:i<W.heap.size
  ·rw[if_pos hi]
   exact h.block i hi
  rw[if_neg hi,Array.getElem?_extract];have A0:min W'.heap.size W'.heap.size-W.heap.size=W'.heap.size-W.heap.size:=ω
  by_cases h2:i<W'.heap.size
  ·rw[if_pos ω]
   congr 1;omega
  rw[if_neg ω,Array.getElem?_eq_none ω]
 have h1:=h.os;have h2:=h.tape;have h3:=h.output;cases W' with
 |mk hp tp dr o ou=>
  simp only at e h1 h2 h3 hd;subst h1;subst h2;subst h3;simp only[grow,World.drewN];rw[<-e];congr 1;omega
section
variable {α:Type} {enc:α->List Value} {k:Nat}
theorem Uz [Inhabited α](hk:∀x,(enc x).length=k)(h0:0<k)(xs:List α)(j:Nat)(hj:j<xs.length*k):(xs.flatMap enc)[j]?=some ((enc xs.toArray[j/k]!)[j%k]!):=by
 have h1:j/k<xs.length:=Nat.div_lt_of_lt_mul (by rw[vK];exact hj);have e1:xs[j/k]?=some xs.toArray[j/k]! :=by
  rw[getElem!_pos xs.toArray (j/k) (by simpa using h1),uB h1];simp
 have h2:j%k<(enc xs.toArray[j/k]!).length:=by rw[hk];exact Nat.mod_lt _ h0
 have h3:=Hm hk xs (j/k) _ e1 (j%k) _ (uB h2);rw[vK,Nat.div_add_mod]at h3;rw[h3,getElem!_pos (enc xs.toArray[j/k]!) (j%k) h2]
theorem bJ [Inhabited α](hk:∀x,(enc x).length=k)(h0:0<k){w:World}{g:Nat}{T:TypeId}{xs:List α}{rest:List Value}(hb:Ak w g T (xs.flatMap enc++rest).toArray):HoldsK enc k w g 0 xs.toArray:=by
  intro j hj;have A0:j<xs.length*k:=by simpa using hj
  refine⟨?_,hb.frozen _⟩;have A1:j<xs.toArray.size*k:=by simpa using A0
  rw[uF,hb.cell,uO,uP (by rw[Du hk];exact A0),Uz hk h0 xs j A0,get_flatK enc k _ j A1];rfl
theorem La [Inhabited α](w:World)(g off m:Nat)(dk:Array α)(os:Array Obj)(_hg:g<w.heap.size):Aj g w (sortWorldK enc k w g off m dk os):=by
  have hs:(putRowK enc k (Sort.ahead w m) g off dk).heap.size=w.heap.size:=size_putRowK enc k _ _ _ _;refine⟨rfl,rfl,rfl,?_,fun i hi hne=> ?_⟩
  · unfold sortWorldK
    rw[size_grow,hs];exact Nat.le_add_right _ _
  unfold sortWorldK;rw[heap_grow_old _ _ (by rw[hs];exact hi)];show(w.heap.modify g _)[i]?=_;rw[Array.getElem?_modify,if_neg (fun e=>hne (by rw[e]))]
theorem St [Inhabited α](hk:∀x,(enc x).length=k)(h0:0<k){w:World}{g:Nat}{T:TypeId}{xs ys:List α}{rest:List Value}(hb:Ak w g T (xs.flatMap enc++rest).toArray)(hl:ys.length=xs.length)(m:Nat)(os:Array Obj):
  Ak (sortWorldK enc k w g 0 m ys.toArray os) g T (ys.flatMap enc++rest).toArray:=by
 have hg:=hb.lt;have hs:(putRowK enc k (Sort.ahead w m) g 0 ys.toArray).heap.size=w.heap.size:=size_putRowK enc k _ _ _ _;unfold sortWorldK Ak;rw[heap_grow_old _ _ (by rw[hs];exact hg)];show(w.heap.modify g (onCells (putCells id 0 (flatK enc k ys.toArray))))[g]?=_;have A5:w.heap[g]?=some (.cells (xs.flatMap enc++rest).toArray T (0,0)):=hb;rw[Array.getElem?_modify,if_pos rfl,A5];simp only[Option.map_some,onCells];congr 2;apply Array.ext_getElem?;intro j;unfold putCells;rw[Array.getElem?_mapIdx,uO,uO];have A4:(flatK enc k ys.toArray).size=ys.length*k:=by simp
 have A3:(xs.flatMap enc).length=xs.length*k:=Du hk xs;have A2:(ys.flatMap enc).length=ys.length*k:=Du hk ys;by_cases hj:j<ys.length*k
 ·have A0:j<(xs.flatMap enc).length:=by rw[A3,<-hl];exact hj
  rw[uP A0,uB A0,uP (by rw[A2];exact hj),Uz hk h0 ys j hj];simp only[Option.map_some];rw[if_pos (by rw[A4];omega),Nat.sub_zero,get_flatK enc k _ j (by simpa using hj)];rfl
 have A1:¬(0<=j/\j<0+(flatK enc k ys.toArray).size):=by rw[A4];omega
 have A0:(xs.flatMap enc).length<=j:=by rw[A3,<-hl];omega
 rw[uH A0,uH (by rw[A2];omega),A3,A2,hl];cases (rest[j-xs.length*k]?)with
 |none=>rfl
 |some v=>simp only[Option.map_some];rw[if_neg A1]
end
theorem eO {ρ:Ren}(LL:SlLaysF0.n6 prog ρ)(k:Nat)(h0:0<k)(aE:∀w,(isAgg (ρ.t 24)).run prog w= .ok true w)(zE:∀w,(Go.sizeOf (ρ.t 24)).run prog w= .ok k w){α:Type}(enc:α->List Value)(hk:∀x,(enc x).length=k)
  (h1:∀x,∀v∈enc x,v.oneCell'=true)(hu:∀x,Aq (enc x))(Ok:World->α->Prop)(hOk:∀{w w' x},Ok w x->Af w w'->Ok w' x)(cf:α->α->Int)
  (hO1:∀x,¬cf x x<0)(hO2:∀x y z,cf x y<0->cf y z<0->cf x z<0)(hO3:∀x y z,¬cf x y<0->¬cf y z<0->¬cf x z<0)(f:Nat)(eg:∀args w,(callFunc f args).run prog w= .ok (.enter f args) w)
  (hcmp:∀w x y,Ok w x->Ok w y->Calls prog f #[.agg (enc x).toArray,.agg (enc y).toArray] w fun e w'=>e= .returned (iV (cf x y))/\Aa w w')
  (v:Value)(es:List α)(base:Nat)(T:TypeId)(w:World)(h:Bh w base T k v es.length (es.flatMap enc))(hok:∀e,e∈es->Ok w e)(hn:es.length<4611686018427387904):
  Calls prog (ρ.f 6) #[v,.func (.func f) #[] #[]] w fun e w'=>e= .returned (.tuple #[])/\
   ∃es':List α,es'.Perm es/\es'.Pairwise (fun x y=>¬cf y x<0)/\Bh w' base T k v es'.length (es'.flatMap enc)/\w.grownBy w' v.ownBlock/\Af w w':=by
 cases es with
 |nil=>
  obtain⟨A,c,rfl,_⟩:=Bh.form h;refine(AnyF.slices_SortFunc_none LL A c _ w).mono ?_;rintro e w' ⟨rfl,rfl⟩;exact⟨rfl,[],.refl _,.nil,h,World.grownBy.refl _ _,Af.refl _⟩
 |cons e0 es0=>
  rcases h.2 with⟨_,hn0⟩|⟨g,cap,rest,rfl,hb,hg,hc1,hc2,hc3,hc4⟩
  ·simp at hn0
  have A0:∃xs:List {e:α//Ok w e},xs.map Subtype.val=e0::es0:=by
   clear h hg hc1 hc3 hn hc4;generalize e0::es0=es at hok;induction es with
   |nil=>exact⟨[],rfl⟩
   |cons e es ih=>
    obtain⟨xs,hx⟩:=ih (fun f hf=>hok f (by simp[hf]));exact⟨⟨e,hok e (by simp)⟩::xs,by rw[List.map_cons,hx]⟩
  obtain⟨xs,A0⟩:=A0;haveI:Inhabited {e:α//Ok w e}:=⟨⟨e0,hok e0 (by simp)⟩⟩
  have B1:∀ys:List {e:α//Ok w e},ys.flatMap (fun x=>enc x.1)=(ys.map Subtype.val).flatMap enc:=fun ys=>by rw[List.flatMap_map]
  have A7:xs.length=(e0::es0).length:=by rw[<-A0,uU]
  rw[<-A0,<-B1]at hg hc3 hc4;rw[<-A7]at hn h hc1⊢;have A4:∀x: {e:α//Ok w e},(enc x.1).length=k:=fun x=>hk x.1
  have A6:SWO (ltOf (fun x y: {e:α//Ok w e}=>cf x.1 y.1)):=
   ⟨fun x=>decide_eq_false (hO1 x.1),fun x y z a b=>decide_eq_true (hO2 x.1 y.1 z.1 (of_decide_eq_true a) (of_decide_eq_true b)),fun x y z a b=>decide_eq_false (hO3 x.1 y.1 z.1 (of_decide_eq_false a) (of_decide_eq_false b))⟩
  have A3:∀(m:Nat) (os:Array Obj) (dk:Array {e:α//Ok w e}),Af w (sortWorldK (fun x=>enc x.1) k w g 0 m dk os):=fun m os dk=>
   Af.of_own hg hc4.arr (La w g 0 m dk os hg.lt)
  have A2:CmpLays prog f #[] (fun x: {e:α//Ok w e}=>enc x.1) k (fun x y=>cf x.1 y.1) g 0 xs.toArray.size w:=by
   intro m os dk _ x y;have hd:=A3 m os dk;revert hd
   generalize sortWorldK (fun x: {e:α//Ok w e}=>enc x.1) k w g 0 m dk os=W;intro hd;have hx:Ok W x.1:=hOk (w:=w) (w':=W) (x:=x.1) x.2 hd;have hy:Ok W y.1:=hOk (w:=w) (w':=W) (x:=y.1) y.2 hd;have hc:=Calls.drawn (hcmp W x.1 y.1 hx hy) (fun e w' he=>⟨_,he.1⟩);rw[Array.append_empty];exact hc.mono fun e w' he=>⟨he.1.1,kT he.1.2 he.2⟩
  have hH:HoldsK (fun x: {e:α//Ok w e}=>enc x.1) k w g 0 xs.toArray:=bJ (enc:=fun x: {e:α//Ok w e}=>enc x.1) A4 h0 (xs:=xs) (T:=T) (rest:=rest) hg;have A5:xs.toArray.size<4611686018427387904:=by simpa using hn
  have hS:=AnyQ.slices_SortFunc LL k aE zE (fun x: {e:α//Ok w e}=>enc x.1) A4 (fun x=>h1 x.1) (fun x y=>cf x.1 y.1) A6 f #[] g 0 cap xs.toArray w eg A2 hH hg.lt A5;rw[List.size_toArray]at hS;refine hS.mono ?_;rintro e w' ⟨rfl,d',n,os,hp,hs,rfl⟩;obtain⟨B0,_,A9⟩:=hp;have hl:d'.toList.length=xs.length:=by simpa using B0
  have A1:d'.toList.Perm xs:=by
   have e1:d'.extract 0 xs.length=d':=by
    have A5:d'.size=xs.length:=by simpa using B0
    rw[<-A5];simp
   have e2:xs.toArray.extract 0 xs.length=xs.toArray:=by simp
   rw[e1,e2]at A9;simpa using A9
  have B2:=St (k:=k) (enc:=fun x: {e:α//Ok w e}=>enc x.1) A4 h0 hg hl n os;rw[Array.toArray_toList]at B2;have B3:(d'.toList.map Subtype.val).length=xs.length:=by rw[uU,hl]
  have A8:∀ys:List {e:α//Ok w e},(ys.flatMap (fun x=>enc x.1)).length=ys.length*k:=fun ys=>Du A4 ys
  refine⟨rfl,d'.toList.map Subtype.val,by rw[<-A0];exact A1.map _,?_,?_,?_,?_⟩
  ·rw[List.pairwise_map,List.pairwise_iff_getElem]
   intro i j hi hj B5;have h3:=hs i j (uL _) B5 (by rw[hl]at hj;simpa using hj);have B6:i<d'.size:=by simpa using hi
   have B4:j<d'.size:=by simpa using hj
   rw[getElem!_pos d' i B6,getElem!_pos d' j B4]at h3;have h4:=of_decide_eq_false h3;simpa using h4
  ·rw[B3,<-B1]
   refine⟨by rw[A8,hl],.inr ⟨g,cap,rest,rfl,hb,B2,hc1,hc2,?_,?_⟩⟩
   ·rw[A8,hl,<-A8];exact hc3
   refine Aq.app ?_ hc4.right;intro z hz;obtain⟨x,_,hx⟩:=List.mem_flatMap.1 hz;exact hu x.1 z hx
  ·have ho:=La (k:=k) (enc:=fun x: {e:α//Ok w e}=>enc x.1) w g 0 n d' os hg.lt
   simpa[Value.ownBlock,Aj]using ho
  exact A3 n os d'
end
section
structure Bb where
  a:RV
  q:Rat
def Bb.cells (e:Bb):List Value:=(rc e.a)
theorem Bb.len (e:Bb):e.cells.length=4:=rfl
theorem Bb.one (e:Bb):∀v,v∈e.cells->v.oneCell'=true:=by simp[Bb.cells,Value.oneCell']
theorem eE (e:Bb):Aq e.cells:=by simp[Bb.cells,Aq]
def Bb.Ok (L:Nat)(w:World)(e:Bb):Prop:=e.a.Is w e.q/\Nm.rl e.q<=L
theorem Bb.Ok.dig {L:Nat}{w w':World}{e:Bb}(h:e.Ok L w)(d:Af w w'):e.Ok L w':=⟨h.1.dig d,h.2⟩
theorem Rp {w:World}{g o:Nat}{v:Value}(h:w.cell? ⟨g,o,none⟩=some v):w.rangeAt g o [v]:=by
  intro j u hj;match j,hj with
  |0,hj=>simp at hj;subst hj;exact h
  |j+1,hj=>simp at hj
section
variable {α:Type} (eqv:α->α->Bool)
def Gu (p:α):List α->List α
  | []=>[]
  |x::l=>if eqv x p then Gu x l else x::Gu x l
def Dm:List α->List α
  | []=>[]
  |x::l=>x::Gu eqv x l
theorem bV (l:List α):∀(p:α) (q x:α),(p::l).getLast?=some q->Gu eqv p (l++[x])=Gu eqv p l++(if eqv x q then[]else[x]):=by
  induction l with
  | nil=>
    intro p q x h;simp at h;subst h;simp[Gu]
  | cons y l ih=>
    intro p q x h;have h2:(y::l).getLast?=some q:=by simpa using h
    have h3:=ih y q x h2;simp only[uR,Gu];split
    · exact h3
    rw[h3,uR]
theorem Tm {l:List α}{q x:α}(h:l.getLast?=some q):Dm eqv (l++[x])=Dm eqv l++(if eqv x q then[]else[x]):=by
  cases l with
  |nil=>simp at h
  | cons p l=>
    simp only[uR,Dm];rw[bV eqv l p q x h]
theorem gY (l:List α):∀(p z:α),z∈Gu eqv p l->z∈l:=by
  induction l with
  |nil=>intro p z h;simp[Gu]at h
  | cons y l ih=>
    intro p z h;unfold Gu at h;split at h
    · exact uQ _ (ih y z h)
    rcases List.mem_cons.1 h with h|h
    · rw[h];simp
    exact uQ _ (ih y z h)
theorem Oo {l:List α}{z:α}(h:z∈Dm eqv l):z∈l:=by
  cases l with
  |nil=>simp[Dm]at h
  | cons p l=>
    rcases List.mem_cons.1 h with h|h
    · rw[h];simp
    exact uQ _ (gY eqv l p z h)
variable {eqv}
theorem gZ {β:Type}{key:α->β}(hk:∀x y,eqv x y=true->key x=key y)(l:List α):∀(p z:α),z∈p::l->∃y∈p::Gu eqv p l,key y=key z:=by
 induction l with
 |nil=>intro p z h;exact⟨z,by simpa[Gu]using h,rfl⟩
 |cons x l ih=>
  intro p z h;rcases List.mem_cons.1 h with rfl|h
  ·exact⟨z,by simp,rfl⟩
  obtain⟨y,h1,h2⟩:=ih x z h;unfold Gu;split
  ·rename_i he
   rcases List.mem_cons.1 h1 with rfl|h1
   ·exact⟨p,by simp,by rw[<-h2,hk _ _ he]⟩
   exact⟨y,uQ _ h1,h2⟩
  exact⟨y,uQ _ h1,h2⟩
theorem Wr {β:Type}{key:α->β}(hk:∀x y,eqv x y=true->key x=key y){l:List α}{z:α}(h:z∈l):∃y∈Dm eqv l,key y=key z:=by
  cases l with
  |nil=>simp at h
  |cons p l=>exact gZ hk l p z h
theorem Wt {lt le:α->α->Prop}(ht:∀a b c,le a b->lt b c->lt a c)(h1:∀x y,le y x->eqv x y=false->lt y x)(h2:∀x y,eqv x y=true->∀z,lt x z->lt y z)(l:List α):∀p:α,(p::l).Pairwise le->(p::Gu eqv p l).Pairwise lt/\∀z,z∈Gu eqv p l->lt p z:=by
 induction l with
 |nil=>intro p _;simp[Gu]
 |cons x l ih=>
  intro p hp;have A1:=List.pairwise_cons.1 hp;obtain⟨h3,h4⟩:=ih x A1.2;have A0:=A1.1 x (by simp);unfold Gu;split
  ·rename_i he
   have h5:∀z,z∈Gu eqv x l->lt p z:=fun z hz=>h2 _ _ he z (h4 z hz)
   exact⟨List.pairwise_cons.2 ⟨h5,(List.pairwise_cons.1 h3).2⟩,h5⟩
  rename_i he;have A2:=h1 x p A0 (by simpa using he);have h5:∀z,z∈x::Gu eqv x l->lt p z:=fun z hz=>by
   rcases List.mem_cons.1 hz with rfl|hz
   ·exact A2
   exact ht p x z A0 (h4 z hz)
  exact⟨List.pairwise_cons.2 ⟨h5,h3⟩,h5⟩
theorem Qi {lt le:α->α->Prop}(ht:∀a b c,le a b->lt b c->lt a c)(h1:∀x y,le y x->eqv x y=false->lt y x)(h2:∀x y,eqv x y=true->∀z,lt x z->lt y z){l:List α}(hl:l.Pairwise le):(Dm eqv l).Pairwise lt:=by
  cases l with
  |nil=>exact .nil
  |cons p l=>exact(Wt ht h1 h2 l p hl).1
end
theorem Mk {α:Type}{lt:α->α->Prop}(hi:∀a,¬lt a a)(ht:∀a b c,lt a b->lt b c->lt a c):∀{l m:List α},l.Pairwise lt->m.Pairwise lt->(∀z,z∈l↔z∈m)->l=m
 | [],[],_,_,_=>rfl
 | [],y::m,_,_,h=>by have:=(h y).2 (by simp);simp at this
 |x::l,[],_,_,h=>by have:=(h x).1 (by simp);simp at this
 |x::l,y::m,hl,hm,h=>by
  have A1:=List.pairwise_cons.1 hl;have A0:=List.pairwise_cons.1 hm;have e:x=y:=by
   rcases List.mem_cons.1 ((h x).1 (by simp))with e|hx
   ·exact e
   rcases List.mem_cons.1 ((h y).2 (by simp))with e|hy
   ·exact e.symm
   exact absurd (ht _ _ _ (A1.1 y hy) (A0.1 x hx)) (hi x)
  subst e;rw[Mk hi ht A1.2 A0.2 (fun z=>by
   constructor
   ·intro hz
    rcases List.mem_cons.1 ((h z).1 (uQ _ hz))with e|h2
    ·subst e;exact absurd (A1.1 z hz) (hi z)
    exact h2
   intro hz;rcases List.mem_cons.1 ((h z).2 (uQ _ hz))with e|h2
   ·subst e;exact absurd (A0.1 z hz) (hi z)
   exact h2)]
theorem dS {P:Program}{ρ:Operand->Value}{o:Oper}{w:World}{g n c size k d c2:Nat}{z:Int}{t e:TypeId}{x y:Operand}(ho:o.op= .slice t x (some y) none none)(ht:P.underlying t=some (.slice e))(hs:(P.info? e).map (·.size)=some size)
  (hx:ρ x= .slice (π g) n c)(hy:ρ y= iV z)(hz:z=(k:Int))(hn:n=k+d)(hd:0<d)(hc:c=k+c2)(hc2:d<=c2):(execOp ρ o).run P w= .ok (.value (.slice (some ⟨g,k*size,none⟩) d c2)) w:=by
 subst hz;subst hn;subst hc;have A0:P.elem t=e:=by simp[Program.elem,ht]
 have h1:P.underlying t=some (.slice (P.elem t)):=by rw[A0];exact ht
 unfold execOp;simp only[ho,hx,hy,Option.map_some,Option.map_none,Sem.run_bind,run_sliceAt_slice _ _ _ _ _ _ h1,run_slice_l w t _ _ _ h1 .i64 (k:Int) ω (by omega:(k:Int)<=((k+d:Nat):Int)),A0];cases hq:P.info? e with
 |none=>simp[hq]at hs
 |some i=>
  have h2:i.size=size:=by simpa[hq]using hs
  have h3:k+d-k=d:=ω;have h4:k+c2-k=c2:=ω;simp[sizeOf,typeInfo,hq,sliced,h2,h3,h4,Int.toNat_natCast,show¬c2=0 by omega,Addr.add_lit]
theorem Lk {w:World}{g a b c:Nat}{cs:List Value}(h:w.rangeAt g ((a+b)*c) cs):w.rangeAt g (a*c+b*c) cs:=by rw[vI]at h;exact h
theorem Px {α:Type}{l m:List α}{i x:Nat}(h:l.drop i=m.drop i)(hx:i<=x):l[x]?=m[x]?:=by
  have e1:(l.drop i)[x-i]?=(m.drop i)[x-i]?:=by rw[h]
  rw[List.getElem?_drop,List.getElem?_drop]at e1;rwa[show i+(x-i)=x by omega]at e1
theorem Fr.grownBy {r:Option Nat}{w w':World}(h:Fr (fun k=>r=some k) w w'):w.grownBy w' r:=⟨h.os,h.tape,h.output,h.size,fun k hk hne=>h.block k hk (fun e=>hne e.symm)⟩
theorem oY (w:World)(b:Nat)(h:b<=w.heap.size):∃w0,Aa w0 w/\w0.heap.size=b:=
  ⟨{w with heap:=w.heap.extract 0 b},⟨rfl,rfl,rfl,by rw[show({w with heap:=w.heap.extract 0 b}:World).heap.size=min b w.heap.size-0 from Array.size_extract];omega,fun k hk=>by
    have A0:k<b:=by simp at hk;omega
    simp[show k<min b w.heap.size by omega]⟩,by simp;omega⟩
theorem Hp.one {w0 w:World}{t:TypeId}{size n:Nat}{v:Value}{xs:List Value}(x:Aa w0 w)(h:Bh w w0.heap.size t size v n xs):Hp w0 w [.row t size v n xs]:=
  ((Hp.start w0).step x).add h (fun i f hf=>by simp at hf)
theorem Tg {α:Type}{l:List α}{k:Nat}{e:α}(h:k<l.length):(l.set k e).take (k+1)=l.take k++[e]:=by
  rw[List.take_add_one,List.take_set_of_le (Bp k)];simp[h]
theorem On {α:Type}{eqv:α->α->Bool}{es:List α}{j:Nat}{e f:α}(he:es[j+1]?=some e)(hf:es[j]?=some f):Dm eqv (es.take (j+1+1))=Dm eqv (es.take (j+1))++(if eqv e f then[]else[e]):=by
  have h1:es.take (j+1+1)=es.take (j+1)++[e]:=by rw[List.take_add_one,he];rfl
  rw[h1];refine Tm eqv ?_;rw[List.take_add_one,hf];simp
theorem oJ {P:Program}{ρ:Operand->Value}{o:Oper}{w:World}{g n c size k:Nat}{z:Int}{t e:TypeId}{x y:Operand}(ho:o.op= .slice t x none (some y) none)(ht:P.underlying t=some (.slice e))(hs:(P.info? e).map (·.size)=some size)
  (hx:ρ x= .slice (π g) n c)(hy:ρ y= iV z)(hz:z=(k:Int))(hk:k<=n)(hn:n<=c)(hc:0<c):(execOp ρ o).run P w= .ok (.value (.slice (π g) k c)) w:=by
 subst hz;have A0:P.elem t=e:=by simp[Program.elem,ht]
 have h1:P.underlying t=some (.slice (P.elem t)):=by rw[A0];exact ht
 unfold execOp;simp only[ho,hx,hy,Option.map_some,Option.map_none,Sem.run_bind,run_sliceAt_slice _ _ _ _ _ _ h1,run_slice_h w t _ _ _ h1 .i64 (k:Int) ω (by omega:(k:Int)<=(c:Int)),A0];cases hq:P.info? e with
 |none=>simp[hq]at hs
 |some i=>
  have h2:i.size=size:=by simpa[hq]using hs
  simp[sizeOf,typeInfo,hq,sliced,h2,Int.toNat_natCast,show¬c=0 by omega,Addr.add_lit]
theorem Bh.cut {w:World}{base:Nat}{t:TypeId}{size g n cap k:Nat}{xs:List Value}(h:Bh w base t size (.slice (π g) n cap) n xs)(hk:k<=n):Bh w base t size (.slice (π g) k cap) k (xs.take (k*size)):=by
 obtain⟨h1,⟨hv,_⟩|⟨g',A0,rest,hv,a,hb,h3,h4,h5,h6⟩⟩:=h
 ·cases hv
 injection hv with e1 e2 e3
 injection e1 with e1
 injection e1 with e1
 subst e1;subst e3;have hl:k*size<=xs.length:=by rw[h1];exact uZ _ hk
 have e:xs.take (k*size)++(xs.drop (k*size)++rest)=xs++rest:=by rw[<-uK,List.take_append_drop]
 refine⟨by rw[uJ];omega,.inr ⟨g,cap,xs.drop (k*size)++rest,rfl,a,by rw[e];exact hb,ω,h4,?_,by rw[e];exact h6⟩⟩;rw[uJ,uC,List.length_drop];omega
theorem kD {α:Type}{f:α->List Value}{P:Program}{w0 w:World}{m:List Dk}{ix:Nat}{a:Act}{Q:Exit->Act->World->Prop}{rest:List Oper}{op:Oper}{ops:Array Oper}(hw:Region.wanted op (yielded ops a.tmps)=true)(x:Operand)(ty:TypeId)(ho:op.op= .call {callee:= .builtin .clear,args:=#[x],argTypes:=#[ty]})
  {g n cap size:Nat}{t:TypeId}{es:List α}(hH:Hp w0 w m)(hi:m[ix]?=some (.row t size (.slice (π g) n cap) n (es.flatMap f)))(hc:∀x,(f x).length=size)(hl:es.length=n)(k c:Nat)(hk:k<n)(hx:a.eval x= .slice (some ⟨g,k*size,none⟩) (n-k) c)
  (ht:P.underlying ty=some (.slice t))(z:Value)(hz:∀w,(zeroValue t).run P w= .ok z w)(hzs:z.cells.size=size)(h1:∀v,v∈z.cells.toList->v.oneCell'=true)(hn:Aq z.cells.toList)(h0:0<size)
  (h:∀w',Hp w0 w' (m.set ix (.row t size (.slice (π g) k cap) k ((es.take k).flatMap f)))->Af w w'->Aj g w w'->wpList P ops Q rest (a.put op.dst (.tuple #[])) w'):wpList P ops Q (op::rest) a w:=by
 have A1:(Builtin.zeroCells z.cells (n-k)).size=(n-k)*size:=by rw[size_zeroCells,hzs]
 have A7:(es.flatMap f).length=n*size:=by rw[Du hc,hl]
 have B3:k*size+(n-k)*size=n*size:=by rw[<-vI];congr 1;omega
 have A9:w.there g (k*size) ((n-k)*size):=(hH.row hi).there (k*size) ((n-k)*size) (by rw[A7];omega);have B1:Aq (Builtin.zeroCells z.cells (n-k)).toList:=Pa _ _ ω hn;have A4:∀v,v∈(Builtin.zeroCells z.cells (n-k)).toList->v.oneCell'=true:=by
  intro v hv;unfold Builtin.zeroCells at hv;simp only[Array.toList_map,List.mem_map]at hv;obtain⟨i,_,rfl⟩:=hv;have B2:i%z.cells.size<z.cells.size:=Nat.mod_lt _ ω;rw[getElem!_pos z.cells _ B2];exact h1 _ (by simp)
 have B0:=run_storeCells_cells (P:=P) g (k*size) (Builtin.zeroCells z.cells (n-k)).toList 0 w (fun j hj=>by simpa using(A9 j (by simpa[A1]using hj)).1) (fun j hj=>by simpa using(A9 j (by simpa[A1]using hj)).2) A4;have A3:(Builtin.clear_ #[ty] op.type #[.slice (some ⟨g,k*size,none⟩) (n-k) c]).run P w= .ok (.tuple #[]) (w.setCells g (k*size) (Builtin.zeroCells z.cells (n-k)).toList):=by
  obtain⟨d,hd⟩:∃d,n-k=d+1:=⟨n-k-1,ω⟩;rw[hd]at B0⊢;simp[Builtin.clear_,run_underlying ht,hz,B0]
 have A2:=(hH.row hi).setPart (k*size) (Builtin.zeroCells z.cells (n-k)).toList (by rw[A7,Array.length_toList,A1];omega) B1;have A0:=A2.cut (vO hk);have e:((es.flatMap f).take (k*size)++(Builtin.zeroCells z.cells (n-k)).toList++(es.flatMap f).drop (k*size+(Builtin.zeroCells z.cells (n-k)).toList.length)).take (k*size)=(es.take k).flatMap f:=by
  have B4:((es.flatMap f).take (k*size)).length=k*size:=by rw[uJ,A7];exact Nat.min_eq_left (uZ _ ω)
  rw[uK,List.take_append_of_le_length ω,uI ω,Lz hc]
 rw[e]at A0;have A6:w.grownBy (w.setCells g (k*size) (Builtin.zeroCells z.cells (n-k)).toList) (some g):=Dr _ _ _ _;have A5:=hH.turn (r:=some g) (e':= .row t size (.slice (π g) k cap) k ((es.take k).flatMap f)) hi (fun k hk=>by simpa[Dk.own,Value.ownBlock]using hk) A6 A0 (fun k hk=> .inl hk);have A8:Af w (w.setCells g (k*size) (Builtin.zeroCells z.cells (n-k)).toList):=by
  refine Af.grown (hH.row hi) ?_;exact A6
 have h2:=h _ A5 A8 A6;refine Bj hw ?_;unfold Oper.wp;simp[execOp,ho,resolve,invoke,builtin,hx,A3,Result.andThen];exact h2
end
section
def Gz:List Rat->Rat->List Rat
  | [],y=>[y]
  |x::l,y=>if x<y then x::Gz l y else if x=y then x::l else y::x::l
theorem Rq {y z:Rat}:∀{l:List Rat},z∈Gz l y↔z=y\/z∈l
  | []=>by simp[Gz]
  | x::l=>by
    unfold Gz;split
    · rw[List.mem_cons,Rq,List.mem_cons]
      constructor
      · rintro(h|h|h)
        · exact .inr (.inl h)
        · exact .inl h
        exact .inr (.inr h)
      rintro(h|h|h)
      · exact .inr (.inl h)
      · exact .inl h
      exact .inr (.inr h)
    split
    · rename_i h;subst h;simp
    simp
theorem Yn {y:Rat}:∀{l:List Rat},l.Pairwise (· < ·)->(Gz l y).Pairwise (· < ·)
 | [],_=>by simp[Gz]
 |x::l,h=>by
  obtain⟨h1,h2⟩:=List.pairwise_cons.1 h;unfold Gz;split
  ·rename_i hx
   refine List.pairwise_cons.2 ⟨fun z hz=> ?_,Yn h2⟩;rcases Rq.1 hz with e|e
   ·rw[e];exact hx
   exact h1 z e
  split
  ·exact h
  rename_i hx hy;have A0:y<x:=by
   have:=Rat.not_lt.1 hx;grind
  refine List.pairwise_cons.2 ⟨fun z hz=> ?_,h⟩;rcases List.mem_cons.1 hz with e|e
  ·rw[e];exact A0
  have:=h1 z e;grind
theorem Qp {y:Rat}:∀{l:List Rat} {k:Nat},(∀i x,i<k->l[i]?=some x->x<y)->(∀x,l[k]?=some x->¬x<y)->k<=l.length->Gz l y=if l[k]?=some y then l else l.take k++y::l.drop k
 | [],k,_,_,hk=>by
  have:k=0:=by simpa using hk
  subst this;simp[Gz]
 |x::l,0,_,h2,_=>by
  unfold Gz;rw[if_neg (h2 x rfl)];by_cases e:x=y
  ·subst e;simp
  rw[if_neg e,if_neg (by simpa using e)];simp
 |x::l,k+1,h1,h2,hk=>by
  unfold Gz;rw[if_pos (h1 0 x ω rfl)];have ih:=Qp (l:=l) (k:=k) (y:=y) (fun i z hi hz=>h1 (i+1) z ω (by simpa using hz)) (fun z hz=>h2 z (by simpa using hz)) (by simpa using hk);rw[ih,List.getElem?_cons_succ];split<;>simp
def Jh (lo hi:Rat)(l all:List Rat):List Rat:=all.foldl (fun o x=>if lo<x/\x<hi then Gz o x else o) l
theorem Oy {lo hi x:Rat}{l all:List Rat}:Jh lo hi l (all++[x])=if lo<x/\x<hi then Gz (Jh lo hi l all) x else Jh lo hi l all:=by unfold Jh;rw[List.foldl_append];rfl
theorem Il {lo hi z:Rat}:∀{all l:List Rat},z∈Jh lo hi l all↔z∈l\/(z∈all/\lo<z/\z<hi)
  | [],l=>by simp[Jh]
  | x::all,l=>by
    show z∈Jh lo hi (if lo<x/\x<hi then Gz l x else l) all↔_;rw[Il];by_cases h:lo<x/\x<hi
    · rw[if_pos h,Rq,List.mem_cons]
      constructor
      · rintro((e|e)|e)
        · subst e;exact .inr ⟨.inl rfl,h⟩
        · exact .inl e
        exact .inr ⟨.inr e.1,e.2⟩
      rintro(e|⟨e|e,f⟩)
      · exact .inl (.inr e)
      · exact .inl (.inl e)
      exact .inr ⟨e,f⟩
    rw[if_neg h,List.mem_cons];constructor
    · rintro(e|e)
      · exact .inl e
      exact .inr ⟨.inr e.1,e.2⟩
    rintro(e|⟨e|e,f⟩)
    · exact .inl e
    · subst e;exact absurd f h
    exact .inr ⟨e,f⟩
theorem Ny {lo hi:Rat}:∀{all l:List Rat},l.Pairwise (· < ·)->(Jh lo hi l all).Pairwise (· < ·)
  | [],l,h=>h
  | x::all,l,h=>by
    show(Jh lo hi (if lo<x/\x<hi then Gz l x else l) all).Pairwise (· < ·);refine Ny ?_;split
    · exact Yn h
    exact h
theorem bA {lo hi:Rat}(h:lo<hi)(all:List Rat):(Jh lo hi [lo,hi] all).head?=some lo/\(Jh lo hi [lo,hi] all).getLast?=some hi:=by
 have hs:=Ny (lo:=lo) (hi:=hi) (all:=all) (l:=[lo,hi]) (by simp[h]);have hm:∀z,z∈Jh lo hi [lo,hi] all->lo<=z/\z<=hi:=by
  intro z hz;rcases Il.1 hz with e|⟨_,e1,e2⟩
  ·simp at e
   rcases e with rfl|rfl
   ·exact⟨Rat.le_refl,Rat.le_of_lt h⟩
   exact⟨Rat.le_of_lt h,Rat.le_refl⟩
  exact⟨Rat.le_of_lt e1,Rat.le_of_lt e2⟩
 have hl:lo∈Jh lo hi [lo,hi] all:=Il.2 (.inl (by simp));have hh:hi∈Jh lo hi [lo,hi] all:=Il.2 (.inl (by simp));generalize Jh lo hi [lo,hi] all=L at*
 constructor
 ·cases L with
  |nil=>simp at hl
  |cons x l=>
   have h1:=(hm x (by simp)).1;rcases List.mem_cons.1 hl with e|e
   ·rw[<-e];rfl
   have:=(List.pairwise_cons.1 hs).1 lo e;grind
 rcases List.eq_nil_or_concat L with e|⟨l,x,e⟩
 ·rw[e]at hl;simp at hl
 rw[List.concat_eq_append]at e;subst e;rw[List.getLast?_concat];have h1:=(hm x (by simp)).2;rcases List.mem_append.1 hh with e|e
 ·have:=(List.pairwise_append.1 hs).2.2 hi e x (by simp);grind
 simp at e;rw[e]
def Ht (a b:Int×Int)(pre:List Dd)(x:Dd):List Rat:=pre.flatMap (fun o=>Jy x o)++Mf x a.1++Mf x b.1
def Jz (a b:Int×Int):List Dd->List Dd->List Rat
  |_,[]=>[]
  |pre,x::l=>Ht a b pre x++Jz a b (pre++[x]) l
theorem Ud (a b:Int×Int)(x:Dd):∀(l p:List Dd),Jz a b p (l++[x])=Jz a b p l++Ht a b (p++l) x
  | [],p=>by simp[Jz]
  | y::l,p=>by
    have h:=Ud a b x l (p++[y]);simp only[uR,Jz];rw[h,uK,uK];rfl
def Mt (rs:List Ba):List Rat:=rs.flatMap fun r=>r.map fun p=>(p.2:Rat)
def Kw (a b:Int×Int)(rs:List Ba):List Rat:=Mt rs++Jz a b [] (Ca rs)
theorem Ty (x o:Dd):Jy o x=Jy x o:=by unfold Jy;rw[eU,eS]
theorem Ww {lo hi q z:Rat}:z∈Zs lo hi q↔z=q/\lo<z/\z<hi:=by
  unfold Zs;split
  · rename_i h;simp;intro e;rw[e];exact h
  rename_i h;simp;intro e h1 h2;rw[e]at h1 h2;exact h ⟨h1,h2⟩
theorem Ot {lo hi z:Rat}{l:List Rat}:z∈l.flatMap (Zs lo hi)↔z∈l/\lo<z/\z<hi:=by
  rw[List.mem_flatMap];constructor
  · rintro⟨q,h1,h2⟩;obtain⟨e,h3⟩:=Ww.1 h2;rw[e]at h3⊢;exact⟨h1,h3⟩
  rintro⟨h1,h2⟩;exact⟨z,h1,Ww.2 ⟨rfl,h2⟩⟩
theorem iO {a b:Int×Int}{pre:List Dd}{x:Dd}{z:Rat}:z∈Sh a b pre x↔z∈Ht a b pre x/\(a.2:Rat)<z/\z<(b.2:Rat):=by
 unfold Sh Ht;rw[vQ,vQ,vQ,vQ,Ot,Ot,List.mem_flatMap,List.mem_flatMap];constructor
 ·rintro((⟨h1,h2⟩|⟨h1,h2⟩)|⟨o,h1,h2⟩)
  ·exact⟨.inl (.inr h1),h2⟩
  ·exact⟨.inr h1,h2⟩
  rw[Ot,Ty]at h2;exact⟨.inl (.inl ⟨o,h1,h2.1⟩),h2.2⟩
 rintro⟨(⟨o,h1,h2⟩|h1)|h1,h3⟩
 ·exact .inr ⟨o,h1,by rw[Ot,Ty];exact⟨h2,h3⟩⟩
 ·exact .inl (.inl ⟨h1,h3⟩)
 exact .inl (.inr ⟨h1,h3⟩)
theorem dT {a b:Int×Int}{z:Rat}:∀{l p:List Dd},z∈gS a b p l↔z∈Jz a b p l/\(a.2:Rat)<z/\z<(b.2:Rat)
  | [],p=>by simp[gS,Jz]
  | x::l,p=>by
    unfold gS Jz;rw[vQ,vQ,iO,dT];constructor
    · rintro(h|h)
      · exact⟨.inl h.1,h.2⟩
      exact⟨.inr h.1,h.2⟩
    rintro⟨h|h,k⟩
    · exact .inl ⟨h,k⟩
    exact .inr ⟨h,k⟩
theorem oK {a b:Int×Int}{rs:List Ba}{z:Rat}:z∈pG a b rs↔z∈Mt rs/\(a.2:Rat)<z/\z<(b.2:Rat):=by
  unfold pG Mt;simp only[List.mem_flatMap,List.mem_map,Ww];constructor
  · rintro⟨r,h1,p,h2,h3,h4⟩;exact⟨⟨r,h1,p,h2,h3.symm⟩,h4⟩
  rintro⟨⟨r,h1,p,h2,h3⟩,h4⟩;exact⟨r,h1,p,h2,h3.symm,h4⟩
def Ea (a b:Int×Int)(rs:List Ba):List Rat:=if Tj a b rs then Jh (a.2:Rat) (b.2:Rat) [(a.2:Rat),(b.2:Rat)] (Kw a b rs)else[]
theorem oI {a b:Int×Int}{rs:List Ba}{l:List Rat}(h:l.Pairwise (· < ·))(hm:∀x,x∈l↔x∈rH a b rs):l=Ea a b rs:=by
 unfold Ea;unfold rH at hm;by_cases k:Tj a b rs
 ·rw[if_pos k]at hm⊢
  have A0:(a.2:Rat)<(b.2:Rat):=by exact_mod_cast k.2.2.2
  refine Mk (lt:=(· < ·)) (fun x=>Rat.lt_irrefl) (fun x y z h1 h2=>by grind) h (Ny (by simp[A0])) (fun z=> ?_);rw[hm,Il];unfold Kw;rw[vQ,vQ,vQ,oK,dT];constructor
  ·rintro((e|e)|e)
   ·exact .inl e
   ·exact .inr ⟨.inl e.1,e.2⟩
   exact .inr ⟨.inr e.1,e.2⟩
  rintro(e|⟨e|e,f⟩)
  ·exact .inl (.inl e)
  ·exact .inl (.inr ⟨e,f⟩)
  exact .inr ⟨e,f⟩
 rw[if_neg k]at hm⊢;cases l with
 |nil=>rfl
 |cons x l=>have:=(hm x).1 (by simp);simp at this
def Ec (W:Rat->Rat):List Rat->Rat
  |x::y::l=>W ((x+y)/2)*(y-x)+Ec W (y::l)
  |_=>0
def Tb (l:List QQ)(x:Rat):Prop:=∃p,p∈l/\p.1<=x/\x<=p.2
def Qd (l:List QQ):Prop:=l.Pairwise (fun a b=>a.2<b.1)/\∀p,p∈l->p.1<p.2
theorem cR:Qd []:=⟨List.Pairwise.nil,by simp⟩
theorem Qd.tail {a:QQ}{l:List QQ}(h:Qd (a::l)):Qd l:=⟨(List.pairwise_cons.1 h.1).2,fun p hp=>h.2 p (uQ _ hp)⟩
theorem Qd.far {a:QQ}{l:List QQ}(h:Qd (a::l)){p:QQ}(hp:p∈l):a.2<p.1:=(List.pairwise_cons.1 h.1).1 p hp
theorem Qd.head {a:QQ}{l:List QQ}(h:Qd (a::l)):a.1<a.2:=h.2 a (vD ..)
theorem Fn {a:QQ}{l:List QQ}{x:Rat}:Tb (a::l) x↔(a.1<=x/\x<=a.2)\/Tb l x:=by
  constructor
  · rintro⟨p,hp,h⟩
    rcases List.mem_cons.1 hp with rfl|hp
    · exact Or.inl h
    exact Or.inr ⟨p,hp,h⟩
  rintro(h|⟨p,hp,h⟩)
  · exact⟨a,vD ..,h⟩
  exact⟨p,uQ _ hp,h⟩
theorem Lo {a:QQ}{l:List QQ}{x:Rat}:Tb (l++[a]) x↔Tb l x\/(a.1<=x/\x<=a.2):=by
  constructor
  · rintro⟨p,hp,h⟩
    rcases List.mem_append.1 hp with hp|hp
    · exact Or.inl ⟨p,hp,h⟩
    rw[vG]at hp;subst hp;exact Or.inr h
  rintro(⟨p,hp,h⟩|h)
  · exact⟨p,List.mem_append.2 (Or.inl hp),h⟩
  exact⟨a,List.mem_append.2 (Or.inr (List.mem_singleton.2 rfl)),h⟩
theorem Iw {x:Rat}:¬Tb [] x:=by rintro⟨p,hp,_⟩;simp at hp
theorem Qd.tail_cov {a:QQ}{l:List QQ}(h:Qd (a::l)){x:Rat}:Tb l x↔Tb (a::l) x/\a.2<x:=by
  constructor
  · rintro⟨p,hp,h1,h2⟩
    refine⟨Fn.2 (Or.inr ⟨p,hp,h1,h2⟩),?_⟩;have:=h.far hp;grind
  rintro⟨hc,hx⟩;rcases Fn.1 hc with h1|h1
  · grind
  exact h1
theorem Qd.first_le {a:QQ}{l:List QQ}(h:Qd (a::l)){x:Rat}(hc:Tb (a::l) x):a.1<=x:=by
  rcases Fn.1 hc with h1|⟨p,hp,h1,_⟩
  · exact h1.1
  have:=h.far hp;have:=h.head;grind
theorem Qd.gap {a:QQ}{l:List QQ}(h:Qd (a::l)){y:Rat}(hy:a.2<y):∃x,a.2<x/\x<y/\¬Tb (a::l) x:=by
 have hm:∃z,a.2<z/\z<=y/\∀p,p∈l->z<=p.1:=by
  cases l with
  |nil=>exact⟨y,hy,by grind,by simp⟩
  |cons b l=>
   have A1:=h.far (vD (a:=b) (l:=l));have ht:=h.tail;have hb:∀p,p∈b::l->b.1<=p.1:=by
    intro p hp;rcases List.mem_cons.1 hp with rfl|hp
    ·grind
    have:=ht.far hp;have:=ht.head;grind
   by_cases hyb:y<=b.1
   ·exact⟨y,hy,by grind,fun p hp=>by have:=hb p hp;grind⟩
   exact⟨b.1,A1,by grind,hb⟩
 obtain⟨z,A3,A2,A0⟩:=hm;refine⟨(a.2+z)/2,by grind,by grind,?_⟩;intro hc;rcases Fn.1 hc with h1|⟨p,hp,h1,_⟩
 ·grind
 have:=A0 p hp;grind
theorem Rg:∀{l m:List QQ},Qd l->Qd m->(∀x,Tb l x↔Tb m x)->l=m
 | [],[],_,_,_=>rfl
 | [],b::m,_,hm,h=>by
  have:=(h b.1).2 (Fn.2 (Or.inl ⟨by grind,by have:=hm.head;grind⟩));exact(Iw this).elim
 |a::l,[],hl,_,h=>by
  have:=(h a.1).1 (Fn.2 (Or.inl ⟨by grind,by have:=hl.head;grind⟩));exact(Iw this).elim
 |a::l,b::m,hl,hm,h=>by
  have ha:=hl.head;have hb:=hm.head;have e1:a.1=b.1:=by
   have h1:=hm.first_le ((h a.1).1 (Fn.2 (Or.inl ⟨by grind,by grind⟩)));have h2:=hl.first_le ((h b.1).2 (Fn.2 (Or.inl ⟨by grind,by grind⟩)));grind
  have e2:a.2=b.2:=by
   by_cases h1:a.2<b.2
   ·obtain⟨x,A2,A1,A0⟩:=hl.gap h1
    exact(A0 ((h x).2 (Fn.2 (Or.inl ⟨by grind,by grind⟩)))).elim
   by_cases h2:b.2<a.2
   ·obtain⟨x,A2,A1,A0⟩:=hm.gap h2
    exact(A0 ((h x).1 (Fn.2 (Or.inl ⟨by grind,by grind⟩)))).elim
   grind
  have e:a=b:=Prod.ext e1 e2;subst e;rw[Rg hl.tail hm.tail (fun x=>by rw[hl.tail_cov,hm.tail_cov,h])]
theorem lE {l m:List QQ}(h:∀p,p∈l↔p∈m)(x:Rat):Tb l x↔Tb m x:=
  ⟨fun⟨p,hp,k⟩=>⟨p,(h p).1 hp,k⟩,fun⟨p,hp,k⟩=>⟨p,(h p).2 hp,k⟩⟩
theorem dN {l:List QQ}{a:QQ}(h:l.getLast?=some a):l=l.dropLast++[a]:=by
  obtain⟨ys,rfl⟩:=List.getLast?_eq_some_iff.1 h;simp
theorem Np {l:List QQ}{a:QQ}:Qd (l++[a])↔Qd l/\a.1<a.2/\∀p,p∈l->p.2<a.1:=by
 constructor
 ·rintro⟨h1,h2⟩
  rw[List.pairwise_append]at h1;exact⟨⟨h1.1,fun p hp=>h2 p (List.mem_append.2 (Or.inl hp))⟩,h2 a (by simp),fun p hp=>h1.2.2 p hp a (by simp)⟩
 rintro⟨h1,h2,h3⟩;refine⟨List.pairwise_append.2 ⟨h1.1,List.pairwise_singleton ..,fun p hp q hq=> ?_⟩,fun p hp=> ?_⟩
 ·rw[vG]at hq
  subst hq;exact h3 p hp
 rcases List.mem_append.1 hp with hp|hp
 ·exact h1.2 p hp
 rw[vG]at hp;subst hp;exact h2
theorem fW {out:List QQ}{s:QQ}(h:Qd out)(hs:s.1<s.2)(hl:∀p,p∈out->p.1<=s.1):
  Qd (Ek out s)/\(∀x,Tb (Ek out s) x↔Tb out x\/(s.1<=x/\x<=s.2))/\∀p,p∈Ek out s->p.1<=s.1:=by
 unfold Ek;split
 ·rename_i h0
  rw[List.getLast?_eq_none_iff]at h0;subst h0;refine⟨Np.2 ⟨cR,hs,by simp⟩,fun x=>Lo,?_⟩;intro p hp;simp at hp;subst hp;grind
 rename_i l h0;have e:=dN h0;generalize out.dropLast=o at e
 subst e;obtain⟨k1,k2,k3⟩:=Np.1 h;have A0:=hl l (by simp);split
 ·rename_i h1
  refine⟨Np.2 ⟨h,hs,?_⟩,fun x=>Lo,?_⟩
  ·intro p hp
   rcases List.mem_append.1 hp with hp|hp
   ·have:=k3 p hp
    grind
   rw[vG]at hp;subst hp;exact h1
  intro p hp;rcases List.mem_append.1 hp with hp|hp
  ·exact hl p hp
  rw[vG]at hp;subst hp;grind
 rename_i h1;split
 ·rename_i h2
  refine⟨Np.2 ⟨k1,by show l.1<s.2;grind,k3⟩,fun x=> ?_,?_⟩
  ·rw[Lo,Lo]
   show Tb o x\/(l.1<=x/\x<=s.2)↔(Tb o x\/(l.1<=x/\x<=l.2))\/(s.1<=x/\x<=s.2);grind
  intro p hp;rcases List.mem_append.1 hp with hp|hp
  ·exact hl p (List.mem_append.2 (Or.inl hp))
  rw[vG]at hp;subst hp;exact A0
 rename_i h2;refine⟨h,fun x=> ?_,hl⟩;rw[Lo];grind
theorem kQ (l:List QQ):∀(out:List QQ),Qd out->(∀p,p∈l->p.1<p.2)->l.Pairwise (fun a b=>a.1<=b.1)->(∀p,p∈out->∀q,q∈l->p.1<=q.1)->
  Qd (l.foldl Ek out)/\∀x,Tb (l.foldl Ek out) x↔Tb out x\/Tb l x:=by
 induction l with
 |nil=>intro out h _ _ _;exact⟨h,fun x=>⟨Or.inl,fun k=>k.elim id fun k=>(Iw k).elim⟩⟩
 |cons s l ih=>
  intro out h h1 h2 h3;obtain⟨a1,a2,a3⟩:=fW h (h1 s (vD ..)) (fun p hp=>h3 p hp s (vD ..));obtain⟨p1,p2⟩:=List.pairwise_cons.1 h2;obtain⟨b1,b2⟩:=ih (Ek out s) a1 (fun p hp=>h1 p (uQ _ hp)) p2 (fun p hp q hq=>by have:=a3 p hp;have:=p1 q hq;grind);refine⟨b1,fun x=> ?_⟩;rw[List.foldl_cons,b2,a2,Fn,or_assoc]
theorem Uq {ps:List QQ}{p:QQ}:p∈Kl ps↔p∈ps/\p.1<p.2:=by unfold Kl;simp
theorem Kf (ps:List QQ):Qd (Ee ps)/\∀x,Tb (Ee ps) x↔Tb (Kl ps) x:=by
  have hs:Stb.Srt nO (Di ps):=Stb.stab_srt (sU fun p:QQ=>p.1) _;have hm:∀p,p∈Di ps↔p∈Kl ps:=fun p=>Stb.mem_stab
  obtain⟨a,b⟩:=kQ (Di ps) [] cR (fun p hp=>(Uq.1 ((hm p).1 hp)).2) (List.Pairwise.imp (fun {x y} h=>by unfold nO at h;rw[decide_eq_false_iff_not]at h;grind) hs) (by simp);refine⟨a,fun x=> ?_⟩;unfold Ee;rw[b,lE hm];exact⟨fun k=>k.elim (fun k=>(Iw k).elim) id,Or.inr⟩
theorem eP {l:List QQ}(h:Qd l):Kl l=l:=by
  unfold Kl;rw[List.filter_eq_self];intro p hp;rw[decide_eq_true_iff];exact h.2 p hp
theorem bE {l:List QQ}(h:Qd l):Ee l=l:=Rg (Kf l).1 h (fun x=>by rw[(Kf l).2,eP h])
theorem Yy (ps:List QQ):Ee (Ee ps)=Ee ps:=bE (Kf ps).1
def Ji (f t:Rat)(p:QQ):Rat:=
  if (if p.1<f then f else p.1)<(if t<p.2 then t else p.2)then(if t<p.2 then t else p.2)-(if p.1<f then f else p.1)else 0
def Fe (f t:Rat)(l:List QQ):Rat:=(l.map (Ji f t)).sum
theorem Lf (f t:Rat):Fe f t []=0:=rfl
theorem Hg (f t:Rat)(p:QQ)(l:List QQ):Fe f t (p::l)=Ji f t p+Fe f t l:=by unfold Fe;rw[List.map_cons,List.sum_cons]
theorem kL (f t:Rat)(l m:List QQ):Fe f t (l++m)=Fe f t l+Fe f t m:=by
  induction l with
  |nil=>rw[Lf,uS];grind
  |cons p l ih=>rw[uR,Hg,Hg,ih];grind
theorem nR (f t:Rat)(p:QQ):0<=Ji f t p:=by unfold Ji;grind
theorem nQ (f t:Rat)(l:List QQ):0<=Fe f t l:=by
  induction l with
  |nil=>rw[Lf];grind
  |cons p l ih=>rw[Hg];have:=nR f t p;grind
theorem Wj {f t:Rat}:∀(l:List QQ),Qd l->f<=t->Fe f t l<=t-f
 | [],_,h=>by rw[Lf];grind
 |p::l,hs,h=>by
  rw[Hg];have hp:=hs.head;by_cases h1:p.2<=f
  ·have:=Wj l hs.tail h
   have:Ji f t p=0:=by unfold Ji;grind
   grind
  by_cases h2:t<=p.2
  ·have hz:Fe f t l=0:=by
    have A0:∀q,q∈l->Ji f t q=0:=fun q hq=>by have:=hs.far hq;unfold Ji;grind
    clear hs;induction l with
    |nil=>rfl
    |cons q l ih=>rw[Hg,A0 q (vD ..),ih fun r hr=>A0 r (uQ _ hr)];grind
   have:Ji f t p<=t-f:=by unfold Ji;grind
   grind
  have hz:Fe f t l=Fe p.2 t l:=by
   have A0:∀q,q∈l->Ji f t q=Ji p.2 t q:=fun q hq=>by have:=hs.far hq;unfold Ji;grind
   unfold Fe;rw[List.map_congr_left A0]
  have h3:=Wj (f:=p.2) (t:=t) l hs.tail (by grind);have:Ji f t p<=p.2-f:=by unfold Ji;grind
  grind
end
section
attribute [local go_sem ↓] Go.wp_at_zero Go.wp_at_succ Aw Av
theorem Lt (L:Nat)(hL:L<=60000)(Bc:Nat)(w:World)(e f:Bb)(he:e.Ok L w)(hf:f.Ok L w)(hc:w.cell? ⟨Bc,0,none⟩=some (.func (.func 47) #[] #[])):
  Calls prog 111 #[(rg e.a),(rg f.a),.pointer (π Bc)] w fun x w'=>x= .returned (.bool (decide (e.q=f.q)))/\Aa w w':=by
 have RE:=zH he.1;have A2:=zH he.2;have RF:=zH hf.1;have A1:=zH hf.2;have HC:=zH hc;clear he hf hc;go_enter func111,ntmps111
 have H0:=zH (Hp.start w);go_upto_region 0 with fail;apply wl;apply Cl 31 (rc e.a) H0.1;intro B1 A9 A5 _;apply Cl 31 (rc f.a) A5.1;intro B0 A8 A0 _;apply zq φ;rcases Cm (e.q=f.q)with CQ|CQ
 ·go_upto_region 1 with fail
  apply wl;refine ze Bc 0 (.func (.func 47) #[] #[]) (Rp (A0.1.ext.get HC.1)) ?_;refine Bw A0.1 _ _ ?_;refine aC A0.1 (Hv (L:=60000) (RV.Is.nin (RE.1.dig A0.1.dig0) (Ar A2.1 ω)) (RV.Is.nin (RF.1.dig A0.1.dig0) (Ar A1.1 ω)) ω) ?_;intro A7 A4 _;apply zp τ (by exact Li (e:=(Ay (Lu.2 CQ.1))));apply zq τ;go_wp2_with fail;go_ret;exact⟨by rw[decide_eq_true CQ.1];rfl,A4.1.ext⟩
 go_upto_region 1 with fail;apply wl;refine ze Bc 0 (.func (.func 47) #[] #[]) (Rp (A0.1.ext.get HC.1)) ?_;refine Bw A0.1 _ _ ?_;refine aC A0.1 (Hv (L:=60000) (RV.Is.nin (RE.1.dig A0.1.dig0) (Ar A2.1 ω)) (RV.Is.nin (RF.1.dig A0.1.dig0) (Ar A1.1 ω)) ω) ?_;intro A6 A3 _;apply zp φ (by exact Li (e:=(Al (fun hh=>CQ.1 (Lu.1 hh)))));apply zq φ;go_wp2_with fail;go_ret;exact⟨by rw[decide_eq_false CQ.1];rfl,A3.1.ext⟩
theorem gX (L:Nat)(hL:L<=60000)(Bc:Nat)(v:Value)(es:List Bb)(base:Nat)(w:World)(h:Bh w base 31 4 v es.length (es.flatMap Bb.cells))(hbase:base<=w.heap.size)(hok:∀e,e∈es->e.Ok L w)(hc:w.cell? ⟨Bc,0,none⟩=some (.func (.func 47) #[] #[]))(hB:¬v.ownBlock=some Bc)(hn:es.length<=100000000):
  Calls prog 110 #[v,.func (.func 111) #[] #[.pointer (π Bc)]] w fun x w'=>∃v',x= .returned v'/\Bh w' base 31 4 v' (Dm (fun x y:Bb=>decide (x.q=y.q)) es).length ((Dm (fun x y:Bb=>decide (x.q=y.q)) es).flatMap Bb.cells)/\w.grownBy w' v.ownBlock/\Af w w'/\v'.ownBlock=v.ownBlock:=by
 obtain⟨w0,I2,rfl⟩:=oY w base hbase;have F2:=zH hok;have HC:=zH hc;have HB:=zH hB;clear hc hB hok;rcases h.2 with⟨rfl,h0⟩|⟨g,cap,rest,rfl,hb,hg,hc1,E9,E8,hc4⟩
 ·have he:es=[]:=uN h0
  subst he;go_enter func110,ntmps110;go_wp2_with fail;go_ret;exact⟨_,rfl,h,World.grownBy.refl _ _,Af.refl _,rfl⟩
 have H0:=zH (Hp.one I2 h);have A5:=zH hc1;clear h I2 hb hg E9 E8 hc4;have B6:=zH (show Fr (fun kz=>Value.ownBlock (.slice (π g) es.length cap)=some kz) w w from Fr.of_ext (Aa.refl w));go_enter func110,ntmps110
 go_upto_region 0 with fail;apply wl;refine Ds Ai _ ?_;by_cases c2:es.length<2
 ·have HS:=zH c2
  clear c2;go_upto_region 1 with fail;apply wl;refine Bw Ai _ (iV ((es.length:Nat):Int)) ?_;apply zp τ (by exact Dw (e:=(Ay (by have A0:=HS.1;omega))));go_upto_region 2 with fail;apply wl;refine Bw Ai _ _ ?_;have G0:Dm (fun x y:Bb=>decide (x.q=y.q)) es=es:=by have hs:=HS.1;match es,hs with| [],_=>rfl| [x],_=>rfl|x::y::l,hs=>exact absurd hs (by simp)
  go_wp2_with fail;go_ret;exact⟨_,rfl,by rw[G0];exact H0.1.row (i:=0) (by rfl),World.grownBy.refl _ _,Af.refl _,rfl⟩
 have HS:=zH c2;clear c2;go_upto_region 1 with fail;apply wl;refine Bw Ai _ (iV ((es.length:Nat):Int)) ?_;apply zp φ (by exact Dw (e:=(Al (by have A0:=HS.1;omega))));go_upto_region 3 with fail;apply wl;apply zq (iV 1);go_wp2_with fail;go_loopg [5] (es.length) (fun cq K7 wr=>∃(j:Nat),cq=es.length-j/\K7= iV ((j+1:Nat):Int)/\(j+1<=es.length)/\(Dm (fun x y:Bb=>decide (x.q=y.q)) (es.take (j+1))=es.take (j+1))/\(Fr (fun kz=>Value.ownBlock (.slice (π g) es.length cap)=some kz) w wr)/\Hp w0 wr [.row 31 4 (.slice (π g) es.length cap) (es.length) (List.flatMap Bb.cells es)]/\Af w wr)
 case atStart=>exact⟨0,rfl,rfl,(by have h_:=HS.1;omega),(by have hs:=HS.1;match es,hs with| [],hs=>exact absurd hs (by decide)|x::l,_=>rfl),B6.1,H0.1,Af.refl _⟩
 obtain⟨j,rfl,rfl,C9,C4,A2,D2,D3⟩:=hrel;generalize wr=B9 at*;have HK:=zH C9;clear C9;have G7:=zH C4;clear C4;have B6:=zH A2;clear A2;have C8:=zH D2;have F5:=zH D3;clear D2 D3;rcases Cm (j+1<es.length)with HLT|HLT
 ·go_upto_region 4 with fail
  apply wl;refine Dh Ai (iV ((j+1:Nat):Int)) _ (iV ((es.length:Nat):Int)) ?_;apply zp τ (by exact Dw (e:=(Ay (by have A0:=HK.1;have A3:=HLT.1;omega))));obtain⟨e,he⟩:∃e,es[j+1]?=some e:=⟨_,uB HLT.1⟩;obtain⟨f,hf⟩:∃f,es[j]?=some f:=⟨_,uB (by have h_:=HLT.1;omega)⟩;have F1:=zH he;have A6:=F2.1 e (uD he);have J4:=zH A6.1;have K1:=zH A6.2;clear he A6;have G5:=zH hf;have A6:=F2.1 f (uD hf);have J3:=zH A6.1;have K0:=zH A6.2;clear hf A6;have J1:=zH (On (eqv:=(fun x y:Bb=>decide (x.q=y.q))) F1.1 G5.1);rcases Cm (e.q=f.q)with HEQ|HEQ
  ·go_upto_region 6 with fail
   refine zy ?_;have L6:=zH (C8.1.step (Aa.refl B9).drew);have J9:=zH (Af.of_ext (w:=B9) zb);have J0:=zH (B6.1.trans (Fr.of_ext (Aa.refl B9).drew));refine Qk Ai zb (bs 11 7) 0 1 2 _ _ (iV ((j+1:Nat):Int)) ?_;refine zo 3 (bs 11 15) (v:= .pointer (some ⟨g,(j+1)*4,none⟩)) zb ?_ (hv:=by intro w B2;exact Eo (k:=j+1) underlying54 (l:=(by have h_:=HLT.1;omega)) (f:=(uF _).symm));refine zg 4 (bs 11 31) g ((j+1)*4) (rc e.a) (C8.1.elem (f:=Bb.cells) (i:=0) rR Bb.len F1.1) underlying31 zb ?_;refine Jl Ai zb (bs 11 127) 5 6 _ (iV ((j+1:Nat):Int)) ?_;refine zu 7 (bs 11 255) (v:= iV (j:Int)) zb ?_ (hv:=by intro w B2;exact Nj (by have A0:=HK.1;have A3:=HLT.1;omega));refine zo 8 (bs 11 511) (v:= .pointer (some ⟨g,j*4,none⟩)) zb ?_ (hv:=by intro w B2;exact Eo (k:=j) underlying54 (l:=(by have h_:=HLT.1;omega)) (f:=(uF _).symm));refine zg 9 (bs 11 1023) g (j*4) (rc f.a) (C8.1.elem (f:=Bb.cells) (i:=0) rR Bb.len G5.1) underlying31 zb ?_;have B7:=tD F5 J9;refine mC 10 (bs 11 2047) (Lt L hL Bc _ e f ⟨(J4.1.dig B7.1),K1.1⟩ ⟨(J3.1.dig B7.1),K0.1⟩ (J0.1.cell HC.1 HB.1)) ?_;rintro e I0 ⟨rfl,hx⟩;have J6:=zH (L6.1.step hx);have H5:=zH (show Af B9.drew I0 from Af.of_ext hx);have L1:=zH (J0.1.trans (Fr.of_ext hx));have K8:=zH (zb.trans hx);clear hx;refine⟨.bool true,by rw[decide_eq_true HEQ.1],K8.1,?_⟩;try simp only[ζ]
   refine wpAnyH_done kR ?_ _;obtain⟨d,hd⟩:∃d,es.length=j+1+d:=⟨es.length-(j+1),by have h_:=HLT.1;omega⟩;obtain⟨c2,E9⟩:∃c2,cap=j+1+c2:=⟨cap-(j+1),by have h_:=HLT.1;have A7:=A5.1;omega⟩;have HD:=zH hd;have A8:=zH E9;clear hd E9;go_upto_region 7 with fail
   apply wl;refine Bw Ai _ (iV ((j+1:Nat):Int)) ?_;apply zp (.slice (some ⟨g,(j+1)*4,none⟩) d c2) (by exact dS rR underlying54 kR rR rR (by first|rfl|omega) HD.1 (by have A0:=HK.1;have A3:=HLT.1;have B1:=HD.1;have A9:=A8.1;have B0:=A5.1;omega) A8.1 (by have A0:=HK.1;have A3:=HLT.1;have B1:=HD.1;have A9:=A8.1;have B0:=A5.1;omega));apply zq (.slice (some ⟨g,(j+1)*4,none⟩) d c2);go_upto_region 8 with fail;apply wl;apply zq (iV 1);go_wp2_with fail;go_loopg [5,7] (d) (fun cq K6 v45 wr=>∃(i:Nat) (k:Nat) (ds:List Bb),cq=d-i/\K6= iV (k:Int)/\v45= iV ((i+1:Nat):Int)/\(i+1<=d)/\(k<j+1+(i+1))/\(ds.length=es.length)/\(ds.take k=Dm (fun x y:Bb=>decide (x.q=y.q)) (es.take (j+1+(i+1))))/\(ds.drop (j+1+i)=es.drop (j+1+i))/\(Fr (fun kz=>Value.ownBlock (.slice (π g) es.length cap)=some kz) w wr)/\Hp w0 wr [.row 31 4 (.slice (π g) es.length cap) (es.length) (List.flatMap Bb.cells ds)]/\Af I0 wr)
   case atStart=>exact⟨0,j+1,es,rfl,rfl,rfl,(by have h_:=HLT.1;have A7:=HD.1;omega),ω,rfl,(by rw[show j+1+(0+1)=j+1+1 by omega,J1.1,if_pos (decide_eq_true HEQ.1),vB];exact G7.1.symm),rfl,L1.1,J6.1,Af.refl _⟩
   obtain⟨i,k,ds,rfl,rfl,rfl,D0,C0,C1,C3,C2,A2,D2,D3⟩:=hrel;generalize wr=B8 at*;have HI:=zH D0;clear D0;have A1:=zH C0;clear C0;have A4:=zH C1;clear C1;have G6:=zH C3;clear C3;have F3:=zH C2;clear C2;have B6:=zH A2;clear A2;have C7:=zH D2;have E5:=zH D3;clear D2 D3 J6;rcases Cm (i+1<d)with HLT2|HLT2
   ·go_upto_region 9 with fail
    apply wl;refine Dh Ai (iV ((i+1:Nat):Int)) (.slice (some ⟨g,(j+1)*4,none⟩) d c2) (iV (d:Int)) ?_;apply zp τ (by exact Dw (e:=(Ay (by have A0:=HI.1;have A3:=A1.1;have B1:=HD.1;have A9:=A8.1;have B0:=A5.1;have B5:=A4.1;have B4:=HLT2.1;omega))));obtain⟨e2,F9⟩:∃e2,es[j+1+i+1]?=some e2:=⟨_,uB (by have h_:=HLT2.1;have A7:=HD.1;omega)⟩;obtain⟨f2,F8⟩:∃f2,es[j+1+i]?=some f2:=⟨_,uB (by have h_:=HLT2.1;have A7:=HD.1;omega)⟩;have D8:=zH F9;have A6:=F2.1 e2 (uD F9);have E0:=zH A6.1;have E7:=zH A6.2;clear F9 A6;have D7:=zH F8;have A6:=F2.1 f2 (uD F8);have D9:=zH A6.1;have E6:=zH A6.2;clear F8 A6;have C5:=zH (show ds[j+1+(i+1)]?=some e2 from(Px F3.1 ω).trans D8.1);have D6:=zH (show ds[j+1+i]?=some f2 from(Px F3.1 ω).trans D7.1);have D5:=zH (On (eqv:=(fun x y:Bb=>decide (x.q=y.q))) D8.1 D7.1);rcases Cm (e2.q=f2.q)with HEQ2|HEQ2
    ·go_upto_region 11 with fail
     refine zy ?_;have L5:=zH (C7.1.step (Aa.refl B8).drew);have J8:=zH (Af.of_ext (w:=B8) zb);have I9:=zH (B6.1.trans (Fr.of_ext (Aa.refl B8).drew));refine Qk Ai zb (bs 12 7) 0 1 2 _ (.slice (some ⟨g,(j+1)*4,none⟩) d c2) (iV ((i+1:Nat):Int)) ?_;refine zo 3 (bs 12 15) (v:= .pointer (some ⟨g,(j+1)*4+(i+1)*4,none⟩)) zb ?_ (hv:=by intro w B2;exact Eo (k:=i+1) underlying54 (l:=(by have h_:=HLT2.1;omega)) (f:=rfl));refine zg 4 (bs 12 31) g ((j+1)*4+(i+1)*4) (rc e2.a) (Lk (C7.1.elem (f:=Bb.cells) (i:=0) rR Bb.len C5.1)) underlying31 zb ?_;refine Jl Ai zb (bs 12 127) 5 6 (.slice (some ⟨g,(j+1)*4,none⟩) d c2) (iV ((i+1:Nat):Int)) ?_;refine zu 7 (bs 12 255) (v:= iV (i:Int)) zb ?_ (hv:=by intro w B2;exact Nj (by have A0:=HI.1;have A3:=A1.1;have B1:=HD.1;have A9:=A8.1;have B0:=A5.1;have B5:=A4.1;have B4:=HLT2.1;omega));refine zo 8 (bs 12 511) (v:= .pointer (some ⟨g,(j+1)*4+i*4,none⟩)) zb ?_ (hv:=by intro w B2;exact Eo (k:=i) underlying54 (l:=(by have h_:=HLT2.1;omega)) (f:=rfl));refine zg 9 (bs 12 1023) g ((j+1)*4+i*4) (rc f2.a) (Lk (C7.1.elem (f:=Bb.cells) (i:=0) rR Bb.len D6.1)) underlying31 zb ?_;have E2:=tD (tD (tD B7 H5) E5) J8;refine mC 10 (bs 12 2047) (Lt L hL Bc _ e2 f2 ⟨(E0.1.dig E2.1),E7.1⟩ ⟨(D9.1.dig E2.1),E6.1⟩ (I9.1.cell HC.1 HB.1)) ?_;rintro e K3 ⟨rfl,hx⟩;have L4:=zH (L5.1.step hx);have L8:=zH (show Af B8.drew K3 from Af.of_ext hx);have L0:=zH (I9.1.trans (Fr.of_ext hx));have I7:=zH (zb.trans hx);clear hx;refine⟨.bool true,by rw[decide_eq_true HEQ2.1],I7.1,?_⟩;try simp only[ζ]
     refine zx 11 (bs 12 4095) φ I7.1 ?_;refine wpAnyH_done kR ?_ _;go_upto_region 10 with fail;apply wl;apply zq (iV ((i+1:Nat):Int));apply zp (iV ((i+2:Nat):Int)) (by exact Ie (by have A0:=HI.1;have A3:=A1.1;have B1:=HD.1;have A9:=A8.1;have B0:=A5.1;have B5:=A4.1;have B4:=HLT2.1;omega));apply zq (iV ((i+2:Nat):Int));have H4:=tD (tD E5 J8) L8;go_wp2_with fail
     go_roundg (d-(i+1))
     case measure=>exact(by have A0:=HI.1;have A3:=A1.1;have B1:=HD.1;have A9:=A8.1;have B0:=A5.1;have B5:=A4.1;have B4:=HLT2.1;have I1:=(show i<d from by have h_:=HLT2.1;omega);omega)
     case rel=>exact⟨i+1,k,ds,rfl,rfl,(by go_num),HLT2.1,(by have h_:=A1.1;omega),A4.1,(by rw[show j+1+(i+1+1)=j+1+i+1+1 by omega,D5.1,if_pos (decide_eq_true HEQ2.1),vB];exact G6.1),(by rw[show j+1+(i+1)=(j+1+i)+1 by omega,<-List.drop_drop,F3.1,List.drop_drop]),L0.1,L4.1,H4.1⟩
    go_upto_region 11 with fail;refine zy ?_;have L3:=zH (C7.1.step (Aa.refl B8).drew);have J7:=zH (Af.of_ext (w:=B8) zb);have I8:=zH (B6.1.trans (Fr.of_ext (Aa.refl B8).drew));refine Qk Ai zb (bs 12 7) 0 1 2 _ (.slice (some ⟨g,(j+1)*4,none⟩) d c2) (iV ((i+1:Nat):Int)) ?_;refine zo 3 (bs 12 15) (v:= .pointer (some ⟨g,(j+1)*4+(i+1)*4,none⟩)) zb ?_ (hv:=by intro w B2;exact Eo (k:=i+1) underlying54 (l:=(by have h_:=HLT2.1;omega)) (f:=rfl));refine zg 4 (bs 12 31) g ((j+1)*4+(i+1)*4) (rc e2.a) (Lk (C7.1.elem (f:=Bb.cells) (i:=0) rR Bb.len C5.1)) underlying31 zb ?_;refine Jl Ai zb (bs 12 127) 5 6 (.slice (some ⟨g,(j+1)*4,none⟩) d c2) (iV ((i+1:Nat):Int)) ?_;refine zu 7 (bs 12 255) (v:= iV (i:Int)) zb ?_ (hv:=by intro w B2;exact Nj (by have A0:=HI.1;have A3:=A1.1;have B1:=HD.1;have A9:=A8.1;have B0:=A5.1;have B5:=A4.1;have B4:=HLT2.1;omega));refine zo 8 (bs 12 511) (v:= .pointer (some ⟨g,(j+1)*4+i*4,none⟩)) zb ?_ (hv:=by intro w B2;exact Eo (k:=i) underlying54 (l:=(by have h_:=HLT2.1;omega)) (f:=rfl));refine zg 9 (bs 12 1023) g ((j+1)*4+i*4) (rc f2.a) (Lk (C7.1.elem (f:=Bb.cells) (i:=0) rR Bb.len D6.1)) underlying31 zb ?_;have E1:=tD (tD (tD B7 H5) E5) J7;refine mC 10 (bs 12 2047) (Lt L hL Bc _ e2 f2 ⟨(E0.1.dig E1.1),E7.1⟩ ⟨(D9.1.dig E1.1),E6.1⟩ (I8.1.cell HC.1 HB.1)) ?_;rintro e K2 ⟨rfl,hx⟩;have J5:=zH (L3.1.step hx);have L7:=zH (show Af B8.drew K2 from Af.of_ext hx);have K9:=zH (I8.1.trans (Fr.of_ext hx));have I6:=zH (zb.trans hx);clear hx;refine⟨.bool false,by rw[decide_eq_false HEQ2.1],I6.1,?_⟩;try simp only[ζ]
    refine zx 11 (bs 12 4095) τ I6.1 ?_;refine wpAnyH_done kR ?_ _;go_upto_region 12 with fail;apply wl;refine Fp Ai _ (iV (k:Int)) (.slice (some ⟨g,(j+1)*4,none⟩) d c2) (iV ((i+1:Nat):Int)) ?_;apply zp (.pointer (some ⟨g,(j+1)*4+(i+1)*4,none⟩)) (by exact Eo (k:=i+1) underlying54 (l:=(by have h_:=HLT2.1;omega)) (f:=rfl));refine zd g ((j+1)*4+(i+1)*4) (rc e2.a) (Lk (J5.1.elem (f:=Bb.cells) (i:=0) rR Bb.len C5.1)) underlying31 ?_;apply zp (.pointer (some ⟨g,k*4,none⟩)) (by exact Eo (k:=k) underlying54 (l:=(by have h_:=A1.1;have I5:=HLT2.1;have A7:=HD.1;omega)) (f:=(uF _).symm));refine Pc (f:=Bb.cells) rR _ _ _ rR J5.1 (ix:=0) rR Bb.len k e2 (by have h_:=A1.1;have I5:=HLT2.1;have A7:=HD.1;have F0:=A4.1;omega) (rc e2.a) rR (k*4) rR rR rR kR (by simp[Value.oneCell']) (by simp[Aq]) ?_;intro K5 hh hd ho;have H3:=hN hh;have H9:=zH (hd);have G4:=zH (K9.1.trans_new ho (fun j hj=> .inl hj));clear hh hd ho
    (try simp only[Act.put])
    go_upto_region 13 with fail;apply wl;apply zq (iV (k:Int));apply zp (iV ((k+1:Nat):Int)) (by exact Ie (by have A0:=HI.1;have A3:=A1.1;have B1:=HD.1;have A9:=A8.1;have B0:=A5.1;have B5:=A4.1;have B4:=HLT2.1;omega));apply zq (iV ((k+1:Nat):Int));go_upto_region 10 with fail;apply wl;apply zq (iV ((i+1:Nat):Int));apply zp (iV ((i+2:Nat):Int)) (by exact Ie (by have A0:=HI.1;have A3:=A1.1;have B1:=HD.1;have A9:=A8.1;have B0:=A5.1;have B5:=A4.1;have B4:=HLT2.1;omega));apply zq (iV ((i+2:Nat):Int));have E4:=tD (tD (tD E5 J7) L7) H9;go_wp2_with fail
    go_roundg (d-(i+1))
    case measure=>exact(by have A0:=HI.1;have A3:=A1.1;have B1:=HD.1;have A9:=A8.1;have B0:=A5.1;have B5:=A4.1;have B4:=HLT2.1;have I1:=(show i<d from by have h_:=HLT2.1;omega);omega)
    case rel=>exact⟨i+1,k+1,(ds.set k e2),rfl,(by go_num),(by go_num),HLT2.1,(by have h_:=A1.1;omega),(by rw[uM];exact A4.1),(by rw[show j+1+(i+1+1)=j+1+i+1+1 by omega,D5.1,if_neg (by rw[decide_eq_false HEQ2.1];decide),Tg (by have h_:=A1.1;have I5:=HLT2.1;have A7:=HD.1;have F0:=A4.1;omega)];exact congrArg (· ++[e2]) G6.1),(by rw[List.drop_set_of_lt (by have h_:=A1.1;omega),show j+1+(i+1)=(j+1+i)+1 by omega,<-List.drop_drop,F3.1,List.drop_drop]),G4.1,H3.1,E4.1⟩
   go_upto_region 9 with fail;apply wl;refine Dh Ai (iV ((i+1:Nat):Int)) (.slice (some ⟨g,(j+1)*4,none⟩) d c2) (iV (d:Int)) ?_;apply zp φ (by exact Dw (e:=(Al (by have A0:=HI.1;have A3:=A1.1;have B1:=HD.1;have A9:=A8.1;have B0:=A5.1;have B5:=A4.1;have B4:=HLT2.1;omega))));have F7:i+1=d:=by have h_:=HLT2.1;have A7:=HI.1;omega
   have L2:=zH (show ds.take k=Dm (fun x y:Bb=>decide (x.q=y.q)) es from by rw[G6.1,show j+1+(i+1)=es.length by rw[HD.1];omega,uI (Bp _)]);obtain⟨d3,I3⟩:∃d3,es.length=k+d3:=⟨es.length-k,by have h_:=A1.1;have A7:=HD.1;omega⟩;obtain⟨c3,E8⟩:∃c3,cap=k+c3:=⟨cap-k,by have h_:=A1.1;have A7:=HD.1;have F0:=A5.1;omega⟩;have C6:=zH I3;have G8:=zH E8;have I4:0<d3:=by have h_:=A1.1;have A7:=HD.1;omega
   have F4:=zH I4;clear I3 E8 F7 I4;go_upto_region 14 with fail;apply wl;refine Bw Ai _ (iV (k:Int)) ?_;apply zp (.slice (some ⟨g,k*4,none⟩) d3 c3) (by exact dS rR underlying54 kR rR rR (by first|rfl|omega) C6.1 F4.1 G8.1 (by have A0:=HI.1;have A3:=A1.1;have B1:=HD.1;have A9:=A8.1;have B0:=A5.1;have B5:=A4.1;have B4:=HLT2.1;have M0:=C6.1;have I1:=G8.1;have L9:=F4.1;omega));refine kD (f:=Bb.cells) rR _ 54 rR C7.1 (ix:=0) rR Bb.len A4.1 k c3 (by have h_:=C6.1;have A7:=F4.1;omega) (by rw[show es.length-k=d3 by have h_:=C6.1;omega];rfl) underlying54 (.agg z4) Tryz.zeroValue31 rfl (by simp[Value.cells,Value.oneCell']) (by simp[Value.cells,Aq]) dC ?_;intro K4 hh hd ho;have H2:=hN hh;have H8:=zH (hd);have G3:=zH (B6.1.trans_new ho (fun j hj=> .inl hj));clear hh hd ho
   (try simp only[Act.put])
   go_upto_region 15 with fail;apply wl;refine Bw Ai _ (iV (k:Int)) ?_;apply zp (.slice (π g) k cap) (by exact oJ (size:=4) rR underlying54 kR rR rR (by first|rfl|omega) (by have h_:=C6.1;omega) A5.1 (by have h_:=G8.1;have A7:=C6.1;have F0:=A5.1;have M1:=F4.1;omega));refine Ds Ai _ ?_;have J2:=zH (H2.1.row (i:=0) (by rfl));have D1:(ds.take k).length=k:=by rw[uJ,A4.1,C6.1];omega
   rw[L2.1]at D1 J2;go_wp2_with fail;go_ret;exact⟨_,rfl,by rw[D1];exact J2.1,G3.1.grownBy,((((F5.1.trans J9.1).trans H5.1).trans E5.1).trans H8.1),rfl⟩
  go_upto_region 6 with fail;refine zy ?_;have H1:=zH (C8.1.step (Aa.refl B9).drew);have H7:=zH (Af.of_ext (w:=B9) zb);have D4:=zH (B6.1.trans (Fr.of_ext (Aa.refl B9).drew));refine Qk Ai zb (bs 11 7) 0 1 2 _ _ (iV ((j+1:Nat):Int)) ?_;refine zo 3 (bs 11 15) (v:= .pointer (some ⟨g,(j+1)*4,none⟩)) zb ?_ (hv:=by intro w B2;exact Eo (k:=j+1) underlying54 (l:=(by have h_:=HLT.1;omega)) (f:=(uF _).symm));refine zg 4 (bs 11 31) g ((j+1)*4) (rc e.a) (C8.1.elem (f:=Bb.cells) (i:=0) rR Bb.len F1.1) underlying31 zb ?_;refine Jl Ai zb (bs 11 127) 5 6 _ (iV ((j+1:Nat):Int)) ?_;refine zu 7 (bs 11 255) (v:= iV (j:Int)) zb ?_ (hv:=by intro w B2;exact Nj (by have A0:=HK.1;have A3:=HLT.1;omega));refine zo 8 (bs 11 511) (v:= .pointer (some ⟨g,j*4,none⟩)) zb ?_ (hv:=by intro w B2;exact Eo (k:=j) underlying54 (l:=(by have h_:=HLT.1;omega)) (f:=(uF _).symm));refine zg 9 (bs 11 1023) g (j*4) (rc f.a) (C8.1.elem (f:=Bb.cells) (i:=0) rR Bb.len G5.1) underlying31 zb ?_;have B3:=tD F5 H7;refine mC 10 (bs 11 2047) (Lt L hL Bc _ e f ⟨(J4.1.dig B3.1),K1.1⟩ ⟨(J3.1.dig B3.1),K0.1⟩ (D4.1.cell HC.1 HB.1)) ?_;rintro e F6 ⟨rfl,hx⟩;have G9:=zH (H1.1.step hx);have H6:=zH (show Af B9.drew F6 from Af.of_ext hx);have G2:=zH (D4.1.trans (Fr.of_ext hx));have G1:=zH (zb.trans hx);clear hx;refine⟨.bool false,by rw[decide_eq_false HEQ.1],G1.1,?_⟩;try simp only[ζ]
  refine wpAnyH_done kR ?_ _;go_upto_region 5 with fail;apply wl;apply zq (iV ((j+1:Nat):Int));apply zp (iV ((j+2:Nat):Int)) (by exact Ie (by have A0:=HK.1;have A3:=HLT.1;omega));apply zq (iV ((j+2:Nat):Int));have E3:=tD B3 H6;go_wp2_with fail
  go_roundg (es.length-(j+1))
  case measure=>exact(by have A0:=HK.1;have A3:=HLT.1;have A9:=(show j<es.length from by have h_:=HLT.1;omega);omega)
  case rel=>exact⟨j+1,rfl,(by go_num),HLT.1,(by rw[J1.1,if_neg (by rw[decide_eq_false HEQ.1];decide),G7.1,List.take_add_one (i:=j+1),F1.1];rfl),G2.1,G9.1,E3.1⟩
 go_upto_region 4 with fail;apply wl;refine Dh Ai (iV ((j+1:Nat):Int)) _ (iV ((es.length:Nat):Int)) ?_;apply zp φ (by exact Dw (e:=(Al (by have A0:=HK.1;have A3:=HLT.1;omega))));go_upto_region 16 with fail;apply wl;refine Bw Ai _ _ ?_;have G0:Dm (fun x y:Bb=>decide (x.q=y.q)) es=es:=by have h_:=G7.1;rwa[show j+1=es.length by have A7:=HLT.1;have F0:=HK.1;omega,uI (Bp _)]at h_
 go_wp2_with fail;go_ret;exact⟨_,rfl,by rw[G0];exact C8.1.row (i:=0) (by rfl),B6.1.grownBy,F5.1,rfl⟩
end
section
open Go.Shelf Go.RowKit
def Xt:Go.Shelf.Ren:=⟨fun|6=>109|15=>151|14=>150|28=>168|29=>177|20=>169|21=>170|22=>171|23=>172|24=>173|25=>174|26=>175|27=>176|46=>188|47=>189|48=>190|49=>191|50=>192|57=>198|n=>n,fun|22=>54|24=>31|25=>69|3=>3|39=>103|0=>0|53=>96|55=>101|4=>4|46=>168|45=>167|50=>172|5=>5|9=>9|66=>178|70=>182|76=>185|77=>186|n=>n,fun|n=>n⟩
theorem lZ:Go.Proofs.SlLaysF0.n6 prog Xt:={
 mixed:=by kernel_rfl
 f6:=⟨Tryz.f109.name,by decide,func109.trans (congrArg some (by kernel_rfl))⟩
 f14:=⟨Tryz.f150.name,by decide,func150.trans (congrArg some (by kernel_rfl))⟩
 f15:=func151.trans (congrArg some (by kernel_rfl))
 f20:=⟨Tryz.f169.name,by decide,func169.trans (congrArg some (by kernel_rfl))⟩
 f21:=⟨Tryz.f170.name,by decide,func170.trans (congrArg some (by kernel_rfl))⟩
 f22:=⟨Tryz.f171.name,by decide,func171.trans (congrArg some (by kernel_rfl))⟩
 f23:=⟨Tryz.f172.name,by decide,func172.trans (congrArg some (by kernel_rfl))⟩
 f24:=⟨Tryz.f173.name,by decide,func173.trans (congrArg some (by kernel_rfl))⟩
 f25:=⟨Tryz.f174.name,by decide,func174.trans (congrArg some (by kernel_rfl))⟩
 f26:=⟨Tryz.f175.name,by decide,func175.trans (congrArg some (by kernel_rfl))⟩
 f27:=⟨Tryz.f176.name,by decide,func176.trans (congrArg some (by kernel_rfl))⟩
 f28:=func168.trans (congrArg some (by kernel_rfl))
 f29:=func177.trans (congrArg some (by kernel_rfl))
 f46:=⟨Tryz.f188.name,by decide,func188.trans (congrArg some (by kernel_rfl))⟩
 f47:=func189.trans (congrArg some (by kernel_rfl))
 f48:=func190.trans (congrArg some (by kernel_rfl))
 f49:=⟨Tryz.f191.name,by decide,func191.trans (congrArg some (by kernel_rfl))⟩
 f50:=⟨Tryz.f192.name,by decide,func192.trans (congrArg some (by kernel_rfl))⟩
 f57:=⟨Tryz.f198.name,by decide,func198.trans (congrArg some (by kernel_rfl))⟩
 t0:=underlying0
 a0:=Tryz.isAgg0
 z0:=Tryz.sizeOf0
 v0:=Tryz.zeroValue0
 t3:=underlying3
 a3:=Tryz.isAgg3
 z3:=Tryz.sizeOf3
 v3:=Tryz.zeroValue3
 t4:=underlying4
 a4:=Tryz.isAgg4
 z4:=Tryz.sizeOf4
 v4:=Tryz.zeroValue4
 t5:=underlying5
 a5:=Tryz.isAgg5
 z5:=Tryz.sizeOf5
 v5:=Tryz.zeroValue5
 t9:=underlying9
 a9:=Tryz.isAgg9
 z9:=Tryz.sizeOf9
 v9:=Tryz.zeroValue9
 t22:=underlying54
 a22:=Tryz.isAgg54
 z22:=Tryz.sizeOf54
 v22:=Tryz.zeroValue54
 t25:=underlying69
 a25:=Tryz.isAgg69
 z25:=Tryz.sizeOf69
 v25:=Tryz.zeroValue69
 t39:=underlying103
 a39:=Tryz.isAgg103
 z39:=Tryz.sizeOf103
 v39:=Tryz.zeroValue103
 t45:=underlying167
 a45:=Tryz.isAgg167
 z45:=Tryz.sizeOf167
 v45:=Tryz.zeroValue167
 t46:=underlying168
 a46:=Tryz.isAgg168
 z46:=Tryz.sizeOf168
 v46:=Tryz.zeroValue168
 t50:=underlying172
 a50:=Tryz.isAgg172
 z50:=Tryz.sizeOf172
 v50:=Tryz.zeroValue172
 t53:=underlying96
 a53:=Tryz.isAgg96
 z53:=Tryz.sizeOf96
 v53:=Tryz.zeroValue96
 t55:=underlying101
 a55:=Tryz.isAgg101
 z55:=Tryz.sizeOf101
 v55:=Tryz.zeroValue101
 t66:=underlying178
 a66:=Tryz.isAgg178
 z66:=Tryz.sizeOf178
 v66:=Tryz.zeroValue178
 t70:=underlying182
 a70:=Tryz.isAgg182
 z70:=Tryz.sizeOf182
 v70:=Tryz.zeroValue182
 t76:=underlying185
 a76:=Tryz.isAgg185
 z76:=Tryz.sizeOf185
 v76:=Tryz.zeroValue185
 t77:=underlying186
 a77:=Tryz.isAgg186
 z77:=Tryz.sizeOf186
 v77:=Tryz.zeroValue186}
theorem aI (L:Nat)(hL:L<=60000)(v:Value)(es:List Bb)(base:Nat)(w:World)(h:Bh w base 31 4 v es.length (es.flatMap Bb.cells))(hok:∀e,e∈es->e.Ok L w)(hn:es.length<=100000000):
  Calls prog 109 #[v,.func (.func 47) #[] #[]] w fun e w'=>e= .returned (.tuple #[])/\
   ∃es':List Bb,es'.Perm es/\es'.Pairwise (fun x y=>x.q<=y.q)/\Bh w' base 31 4 v es'.length (es'.flatMap Bb.cells)/\w.grownBy w' v.ownBlock/\Af w w':=by
 have hc:=eO lZ 4 (by decide) Tryz.isAgg31 Tryz.sizeOf31 Bb.cells Bb.len Bb.one eE (fun w e=>e.Ok L w) (fun h d=>h.dig d) (fun x y=>Df x.q y.q)
  (fun x h=>Rat.not_lt.2 Rat.le_refl (rcmp_lt.1 h)) (fun x y z h1 h2=>rcmp_lt.2 (by have a:=rcmp_lt.1 h1;have b:=rcmp_lt.1 h2;grind))
  (fun x y z h1 h2 h3=>by have k1:=Rat.not_lt.1 (fun h=>h1 (rcmp_lt.2 h));have k2:=Rat.not_lt.1 (fun h=>h2 (rcmp_lt.2 h));exact Rat.not_lt.2 (Rat.le_trans k2 k1) (rcmp_lt.1 h3))
  47 (enters_of func47 (by kernel_rfl) rfl)
  (fun w x y hx hy=>(Hv (L:=60000) (RV.Is.nin hx.1 (Ar hx.2 hL)) (RV.Is.nin hy.1 (Ar hy.2 hL)) ω:Calls _ _ _ _ _)) v es base 31 w h hok (ω)
 refine hc.mono ?_;rintro e w' ⟨rfl,es',h1,h2,h3⟩;exact⟨rfl,es',h1,h2.imp (fun h=>Rat.not_lt.1 (fun k=>h (rcmp_lt.2 k))),h3⟩
end
section
attribute [local go_sem ↓] Go.wp_at_zero Go.wp_at_succ Aw Av
theorem aR (L:Nat)(hL:L<=60000)(v:Value)(es:List Bb)(base:Nat)(w:World)(h:Bh w base 31 4 v es.length (es.flatMap Bb.cells))(hbase:base<=w.heap.size)(hok:∀e,e∈es->e.Ok L w)(hn:es.length<=100000000):
  Calls prog 62 #[v,.func (.func 47) #[] #[]] w fun x w'=>∃(v':Value) (es':List Bb),x= .returned v'/\Bh w' base 31 4 v' es'.length (es'.flatMap Bb.cells)/\w.grownBy w' v.ownBlock/\Af w w'/\v'.ownBlock=v.ownBlock/\
   (es'.map Bb.q).Pairwise (· < ·)/\(∀x,x∈es'.map Bb.q↔x∈es.map Bb.q)/\(∀e,e∈es'->e∈es):=by
 obtain⟨w0,A6,rfl⟩:=oY w base hbase;obtain⟨A,c,rfl,_⟩:=Bh.form h;have A9:=zH hok;have H0:=zH (Hp.one A6 h);have C1:=zH (show Fr (fun kz=>Value.ownBlock (.slice A es.length c)=some kz) w w from Fr.of_ext (Aa.refl w));clear h A6 hok;go_enter func62,ntmps62
 go_upto_region 0 with fail;apply wl;apply aA 69 [.func (.func 47) #[] #[]] H0.1;intro X1 w2 H4 hx B4;have D4:=zH (Af.of_ext hx);have K6:=zH (C1.1.trans (Fr.of_ext hx));clear hx B4;refine Ds Ai _ ?_;go_upto_region 1 with fail
 apply wl;refine Bw H4.1 _ _ ?_;refine zc (aI L hL (.slice A es.length c) es _ _ (H4.1.row (i:=0) rR) (fun e he=>(A9.1 e he).dig D4.1) hn) ?_;rintro e B1 ⟨rfl,A1,A4,A7,A3,A5,A8⟩;have A0:=zH A4;have C0:=zH A7;rw[A4.length_eq]at A3;have hh:=H4.1.turn (i:=0) (e:= .row 31 4 (.slice A es.length c) es.length (es.flatMap Bb.cells)) (e':= .row 31 4 (.slice A es.length c) es.length (A1.flatMap Bb.cells)) (by rfl) (fun k h=>h) A5 A3 (fun k hk=> .inl hk);have A2:=hN hh;have B0:=zH (show Af w2 B1 from A8);have B9:=zH (K6.1.trans_new A5 (fun j hj=> .inl hj));have hx:=True.intro;clear hh A3 A5 A8 A4 A7 hx;refine zn ?_;go_upto_region 2 with fail
 apply wl;refine Bw Ai _ _ ?_;refine zc (gX L hL X1 (.slice A es.length c) A1 _ _ (by rw[A0.1.length_eq];exact A2.1.row (i:=0) rR) A2.1.ext.size (fun e he=>(A9.1 e (A0.1.mem_iff.1 he)).dig (D4.1.trans B0.1)) (A2.1.cell (i:=1) rR 0 rR) (A2.1.offRow (i:=1) (j:=0) rR rR dC rR) (by rw[A0.1.length_eq];exact hn)) ?_;rintro e C2 ⟨v2,rfl,B3,B5,B6,B7⟩;have B8:=zH (B9.1.trans_new B5 (fun j hj=> .inl hj));have hx:=True.intro;clear hx;refine zn ?_;refine zq (v2) ?_;go_wp2_with fail
 go_ret;have B2:(Dm (fun x y:Bb=>decide (x.q=y.q)) A1).Pairwise (fun x y=>x.q<y.q):=Qi (le:=fun x y=>x.q<=y.q) (fun a b c h1 h2=>by grind) (fun x y h1 h2=>by have h3:=of_decide_eq_false h2;grind) (fun x y h1 z h2=>by have h3:=of_decide_eq_true h1;grind) C0.1;refine⟨_,Dm (fun x y:Bb=>decide (x.q=y.q)) A1,rfl,B3,B8.1.grownBy,(D4.1.trans B0.1).trans B6,B7,?_,fun x=>⟨fun hx=> ?_,fun hx=> ?_⟩,fun e he=>A0.1.mem_iff.1 (Oo _ he)⟩
 ·rw[List.pairwise_map];exact B2
 ·obtain⟨e,he,rfl⟩:=List.mem_map.1 hx
  exact List.mem_map_of_mem (A0.1.mem_iff.1 (Oo _ he))
 obtain⟨e,he,rfl⟩:=List.mem_map.1 hx;obtain⟨f,hf,h2⟩:=Wr (eqv:=(fun x y:Bb=>decide (x.q=y.q))) (key:=Bb.q) (fun x y h=>of_decide_eq_true h) (A0.1.mem_iff.2 he);exact List.mem_map.2 ⟨f,hf,h2⟩
def Wy (L:Nat)(y lo hi:Rat)(Bo:Nat)(A:Option Addr)(n c:Nat)(es:List Bb)(w0 w w':World):Prop:=
  ∃ (A':Option Addr) (c' n':Nat) (es':List Bb),Hp w0 w' [.blk Bo 54 [.slice A' n' c'],.row 31 4 (.slice A' n' c') n' (List.flatMap Bb.cells es')]/\Af w w'/\Fr (fun kz=>kz=Bo\/Value.ownBlock (.slice A n c)=some kz) w w'/\
    (∀k,Value.ownBlock (.slice A' n' c')=some k->Value.ownBlock (.slice A n c)=some k\/w.heap.size<=k)/\es'.map Bb.q=es.map Bb.q++(if lo<y/\y<hi then[y]else[])/\n'=es'.length/\n'<=n+1/\∀e,e∈es'->e.Ok L w'
theorem Vy (L:Nat)(hL:L<=60000)(ry rl rh:RV)(y lo hi:Rat)(Xl Xh Bo:Nat)(A:Option Addr)(n c:Nat)(es:List Bb)(w0 w:World)(hh:Hp w0 w [.blk Bo 54 [.slice A n c],.row 31 4 (.slice A n c) n (List.flatMap Bb.cells es)])
  (hy:ry.Is w y)(h1:Nm.rl y<=L)(hl:rl.Is w lo)(hh2:rh.Is w hi)(hl2:Nm.rl lo<=L)(hh3:Nm.rl hi<=L)(hrl:w.rangeAt Xl 0 (rc rl))(hrh:w.rangeAt Xh 0 (rc rh))
  (hnl:¬(Xl=Bo\/Value.ownBlock (.slice A n c)=some Xl))(hnh:¬(Xh=Bo\/Value.ownBlock (.slice A n c)=some Xh))(hn:n=es.length)(hn2:n<=90000000)(hok:∀e,e∈es->e.Ok L w):
  Calls prog 58 #[(rg ry),.pointer (π Xl),.pointer (π Xh),.pointer (π Bo)] w fun e w'=>e= .returned (.tuple #[])/\Wy L y lo hi Bo A n c es w0 w w':=by
 have RY:=zH hy;have BY:=zH h1;have RL:=zH hl;have RH:=zH hh2;have BL:=zH hl2;have BH:=zH hh3;have GL:=zH hrl;have GH:=zH hrh;have NL:=zH hnl;have NH:=zH hnh;have HN:=zH hn;have A4:=zH hok;have H0:=zH hh;have B6:=zH hn2;clear hy h1 hl hh2 hl2 hh3 hrl hrh hnl hnh hn hn2 hok hh;have D0:=zH (show Fr (fun kz=>kz=Bo\/Value.ownBlock (.slice A n c)=some kz) w w from Fr.of_ext (Aa.refl w));go_enter func58,ntmps58
 go_upto_region 0 with fail;apply wl;apply aA 31 (rc ry) H0.1;intro X1 w2 H4 hx C5;have D4:=zH (Af.of_ext hx);have K6:=zH (D0.1.trans (Fr.of_ext hx));clear hx C5;rcases Cm (lo<y/\y<hi)with CL|CL
 ·go_upto_region 1 with fail
  apply wl;refine zd Xl (0) (rc rl) (K6.1.range GL.1 NL.1) underlying31 ?_;refine Ds H4.1 _ ?_;refine zc (Hv (L:=60000) (RV.Is.nin (RL.1.dig D4.1) (Ar BL.1 ω)) (RV.Is.nin (RY.1.dig D4.1) (Ar BY.1 ω)) ω) ?_;rintro e w9 ⟨rfl,hx⟩;have B9:=zH (H4.1.step hx);have B1:=zH (Af.of_ext hx);have B5:=zH (K6.1.trans (Fr.of_ext hx));clear hx;refine zn ?_;apply zp τ (by exact Dw (e:=(Ay (rcmp_lt.2 CL.1.1))));refine Bw B9.1 τ _ ?_;refine zd Xh (0) (rc rh) (B5.1.range GH.1 NH.1) underlying31 ?_;have A0:=tD D4 B1;refine zc (Hv (L:=60000) (RV.Is.nin (RY.1.dig A0.1) (Ar BY.1 ω)) (RV.Is.nin (RH.1.dig A0.1) (Ar BH.1 ω)) ω) ?_;rintro e B2 ⟨rfl,hx⟩;have B8:=zH (B9.1.step hx);have B0:=zH (Af.of_ext hx);have B4:=zH (B5.1.trans (Fr.of_ext hx));clear hx;refine zn ?_;apply zp τ (by exact Dw (e:=(Ay (rcmp_lt.2 CL.1.2))));apply zq τ;go_upto_region 2 with fail
  apply wl;refine Bw B8.1 _ _ ?_;refine zp (w':=(B2.alloc (.cells ((rc ry):List Value).toArray 31))) (.slice (π B2.heap.size) 1 1) (by go_simp) ?_;refine He rR _ _ _ rR Ko rR B8.1 (ix:=1) rR 1 1 (rc ry) rR rfl (by simp[Value.oneCell']) (by simp[Aq]) dC (by unfold maxLen;exact(by have C4:=B6.1;omega)) (by have C4:=B6.1;omega) ?_;intro A3 A1 C3 hf hh hd hg;have A5:=zH hf;clear hf;rw[show List.flatMap Bb.cells es++(rc ry)=_ from Do Bb.cells _ (⟨ry,y⟩:Bb)]at hh;have D5:=hN hh;have A9:=zH (hd);have C9:=zH (show Fr (fun kz=>kz=Bo\/Value.ownBlock (.slice A n c)=some kz) w C3 from(B4.1.trans (Fr.of_ext (Ad.alloc _))).trans_new hg (fun j hj=> .inl (.inr hj)));clear hh hd hg;try simp only[ζ]
  apply aU 0 (.slice (π A3) (n+1) A1) D5.1;intro D9 D3 hd ho;have A8:=zH (hd);have C8:=zH (C9.1.trans_new ho (fun j hj=> .inl (.inl (by injection hj with hj;exact hj.symm))));clear hd ho;have A6:=tD (tD (tD A0 B0) A9) A8;go_wp2_with fail
  first|refine bodyPost_end (v:= .tuple #[]) (results_none rfl _ _ _) rfl ?_|refine bodyPost_ret (v:= .tuple #[]) (results_none rfl _ _ _) rfl ?_
  exact⟨rfl,some ⟨A3,0,none⟩,A1,n+1,es++[(⟨ry,y⟩:Bb)],D3.1.take 2,((((D4.1.trans B1.1).trans B0.1).trans A9.1).trans A8.1),C8.1,(fun k_ hk_=>by have e_:A3=k_:=(by simpa[Value.ownBlock]using hk_);subst e_;exact A5.1.imp id (fun h_=>Ar B4.1.size h_)),(by rw[vE,if_pos CL.1];rfl),(by rw[uC,<-HN.1];rfl),Bp _,(fun g_ hg_=>(List.mem_append.1 hg_).elim (fun hg_=>(A4.1 g_ hg_).dig ((((D4.1.trans B1.1).trans B0.1).trans A9.1).trans A8.1)) (fun hg_=>by rw[List.mem_singleton.1 hg_];exact⟨(RY.1.dig A6.1),BY.1⟩))⟩
 rcases Cm (lo<y)with C1|C1
 ·go_upto_region 1 with fail
  apply wl;refine zd Xl (0) (rc rl) (K6.1.range GL.1 NL.1) underlying31 ?_;refine Ds H4.1 _ ?_;refine zc (Hv (L:=60000) (RV.Is.nin (RL.1.dig D4.1) (Ar BL.1 ω)) (RV.Is.nin (RY.1.dig D4.1) (Ar BY.1 ω)) ω) ?_;rintro e D8 ⟨rfl,hx⟩;have B7:=zH (H4.1.step hx);have A7:=zH (Af.of_ext hx);have B3:=zH (K6.1.trans (Fr.of_ext hx));clear hx;refine zn ?_;apply zp τ (by exact Dw (e:=(Ay (rcmp_lt.2 C1.1))));refine Bw B7.1 τ _ ?_;refine zd Xh (0) (rc rh) (B3.1.range GH.1 NH.1) underlying31 ?_;have A2:=tD D4 A7;refine zc (Hv (L:=60000) (RV.Is.nin (RY.1.dig A2.1) (Ar BY.1 ω)) (RV.Is.nin (RH.1.dig A2.1) (Ar BH.1 ω)) ω) ?_;rintro e D7 ⟨rfl,hx⟩;have D2:=zH (B7.1.step hx);have C2:=zH (Af.of_ext hx);have C7:=zH (B3.1.trans (Fr.of_ext hx));clear hx;refine zn ?_;apply zp φ (by exact Dw (e:=(Al (fun hh=>(fun h_=>CL.1 ⟨C1.1,h_⟩) (rcmp_lt.1 hh)))));apply zq φ;go_wp2_with fail
  first|refine bodyPost_end (v:= .tuple #[]) (results_none rfl _ _ _) rfl ?_|refine bodyPost_ret (v:= .tuple #[]) (results_none rfl _ _ _) rfl ?_
  exact⟨rfl,A,c,n,es,D2.1.take 2,((D4.1.trans A7.1).trans C2.1),C7.1,(fun k_ hk_=> .inl hk_),(by rw[if_neg CL.1,vB]),HN.1,Nat.le_succ _,(fun g_ hg_=>(A4.1 g_ hg_).dig ((D4.1.trans A7.1).trans C2.1))⟩
 go_upto_region 1 with fail;apply wl;refine zd Xl (0) (rc rl) (K6.1.range GL.1 NL.1) underlying31 ?_;refine Ds H4.1 _ ?_;refine zc (Hv (L:=60000) (RV.Is.nin (RL.1.dig D4.1) (Ar BL.1 ω)) (RV.Is.nin (RY.1.dig D4.1) (Ar BY.1 ω)) ω) ?_;rintro e D6 ⟨rfl,hx⟩;have D1:=zH (H4.1.step hx);have C0:=zH (Af.of_ext hx);have C6:=zH (K6.1.trans (Fr.of_ext hx));clear hx;refine zn ?_;apply zp φ (by exact Dw (e:=(Al (fun hh=>C1.1 (rcmp_lt.1 hh)))));refine cC Ai φ _ _ _ _ φ ?_;go_wp2_with fail
 first|refine bodyPost_end (v:= .tuple #[]) (results_none rfl _ _ _) rfl ?_|refine bodyPost_ret (v:= .tuple #[]) (results_none rfl _ _ _) rfl ?_
 exact⟨rfl,A,c,n,es,D1.1.take 2,(D4.1.trans C0.1),C6.1,(fun k_ hk_=> .inl hk_),(by rw[if_neg CL.1,vB]),HN.1,Nat.le_succ _,(fun g_ hg_=>(A4.1 g_ hg_).dig (D4.1.trans C0.1))⟩
end
section
theorem Rr {w:World}{g o:Nat}{r:Ba}{k:Nat}{p:Int×Int}(h:Sy w g o r)(hp:r[k]?=some p):w.rangeAt g (o+k*2) [iV p.1,iV p.2]:=by
  obtain⟨hk,rfl⟩:=List.getElem?_eq_some_iff.1 hp;have h2:=h k hk;intro j v hj;match j,hj with
  |0,hj=>simp at hj;subst hj;have h3:=h2.1;simpa[uE,hk]using h3
  |1,hj=>simp at hj;subst hj;have h3:=h2.2;simpa[uE,hk,Nat.add_assoc]using h3
  |j+2,hj=>simp at hj
theorem qN {rs:List Ba}{r:Ba}(h:Hc rs=true)(hr:r∈rs):Cz r=true:=by
  unfold Hc at h;rw[vC]at h;exact List.all_eq_true.1 h.2 r hr
theorem We {rs:List Ba}{r:Ba}{i k:Nat}{p:Int×Int}(h:Hc rs=true)(hr:rs[i]?=some r)(hp:r[k]?=some p):Dv p:=by
  have h2:=qN h (uD hr);unfold Cz at h2;exact List.all_eq_true.1 h2 p (uD hp)
theorem kX {a b:Int×Int}{rs:List Ba}{r:Ba}{i:Nat}(h:rs[i]?=some r):pG a b (rs.take (i+1))=pG a b (rs.take i)++r.flatMap (fun p=>Zs a.2 b.2 (p.2:Rat)):=by
  unfold pG;rw[List.take_add_one,h,List.flatMap_append];simp
theorem Hp.litRow17 {w0 w:World}{m:List Dk}{i X n size:Nat}{t:TypeId}{cs:List Value}(h:Hp w0 w m)(hi:m[i]?=some (.blk X t cs))(hl:cs.length=n*size)(hn:n<=maxLen):Bh w w0.heap.size t size (.slice (π X) n n) n cs:=
  ⟨hl,.inr ⟨X,n,[],rfl,h.ge hi rfl,by rw[vB];exact h.blk hi,Bp _,hn,by simp[hl],by rw[vB];exact h.noU hi⟩⟩
theorem Af.keptQ {w w':World}{r:Option Nat}(hg:w.grownBy w' r)(hr:∀k,r=some k->∃o:Obj,w.heap[k]?=some o/\o.isCells=false):Af w w':=by
 intro v xs h;obtain⟨p,A1,rfl,hc,hd,hp⟩:=h;refine⟨p,A1,rfl,hc,hd,fun h0=> ?_⟩;obtain⟨b,o,rfl,hb⟩:=hp h0;refine⟨b,o,rfl,fun i hi=> ?_⟩;have h1:=hb i hi;have A0:¬(some b=r):=fun e=>by
  obtain⟨ob,h2,h3⟩:=hr b e.symm;cases ob with
  |cells cs t fz=>cases h3
  |_=>simp[World.cell?,h2]at h1
 rw[World.cell?_of_block (hg.block b (World.block_lt_of_cell? w ⟨b,o+i,none⟩ h1) A0)];exact h1
theorem Hp.keptQ {w0 w w':World}{m:List Dk}{r:Option Nat}(h:Hp w0 w m)(hg:w.grownBy w' r)(hr:∀k,r=some k->w0.heap.size<=k/\∃o:Obj,w.heap[k]?=some o/\o.isCells=false):Hp w0 w' m:=by
 refine⟨h.ext.grown hg (fun k hk=>(hr k hk).1),fun i e he=>(h.all i e he).kept hg (fun k hk hrk=> ?_),h.apart⟩;obtain⟨o,h2,h3⟩:=(hr k hrk).2;cases e with
 |blk g t cs=>
  injection hk with hk
  subst hk;have:=h.blk he;unfold Ak at this;rw[h2]at this;injection this with this
  rw[this]at h3;cases h3
 |row t size v n xs=>
  obtain⟨h4,⟨rfl,_⟩|⟨g,A0,rest,rfl,a,hb,c⟩⟩:=h.row he
  ·simp[Dk.own,Value.ownBlock]at hk
  have hk:g=k:=by simpa[Dk.own,Value.ownBlock]using hk
  subst hk;unfold Ak at hb;rw[h2]at hb;injection hb with hb
  rw[hb]at h3;cases h3
theorem kH {w0 w:World}{m:List Dk}{i X:Nat}{t:TypeId}{p q:Int}(h:Hp w0 w m)(hi:m[i]?=some (.blk X t [iV p,iV q]))(k:Nat)(hk:k<2):w.rangeAt X k [iV (if k=0 then p else q)]:=by
  have:k=0\/k=1:=ω;rcases this with rfl|rfl
  · exact h.range hi 0 1
  exact h.range hi 1 1
theorem Kq.yes {C:Prop}{q:Rat}{w w':World}{e:Ending}(h:Kq C q w e w')(hc:C):∃r:RV,e= .returned (.tuple #[(rg r),.bool true])/\r.Is w' q/\Aa w w':=by
  obtain⟨⟨r,_,h1,h2⟩|⟨h1,_⟩,hx⟩:=h
  · exact⟨r,h1,h2,hx⟩
  exact absurd hc h1
theorem Kq.no {C:Prop}{q:Rat}{w w':World}{e:Ending}(h:Kq C q w e w')(hc:¬C):e= .returned (.tuple #[.agg z4,.bool false])/\Aa w w':=by
  obtain⟨⟨r,h0,h1,h2⟩|⟨_,h1⟩,hx⟩:=h
  · exact absurd h0 hc
  exact⟨h1,hx⟩
theorem Ir.yes {a b c d:Int×Int}{w w':World}{e:Ending}(h:Ir a b c d w e w')(hc:Cw a b c d=1):∃r s:RV,e= .returned (.tuple #[(rg r),(rg s),iV 1])/\r.Is w' (Qg a b c d)/\s.Is w' (Je a b c d)/\Aa w w':=by
  obtain⟨⟨r,s,_,h1,h2,h3⟩|⟨h1,_⟩,hx⟩:=h
  · exact⟨r,s,h1,h2,h3,hx⟩
  exact absurd hc h1
theorem Ir.no {a b c d:Int×Int}{w w':World}{e:Ending}(h:Ir a b c d w e w')(hc:¬Cw a b c d=1):e= .returned (.tuple #[.agg z4,.agg z4,iV (Cw a b c d)])/\Aa w w':=by
  obtain⟨⟨r,s,h0,h1,h2,h3⟩|⟨_,h1⟩,hx⟩:=h
  · exact absurd h0 hc
  exact⟨h1,hx⟩
theorem iF {e:Dd}{x:Int}(h:Qw e.1 e.2 x):Mf e x=[Me e.1 e.2 x]:=if_pos h
theorem lT {e:Dd}{x:Int}(h:¬Qw e.1 e.2 x):Mf e x=[]:=if_neg h
theorem jA {o e:Dd}(h:Cw o.1 o.2 e.1 e.2=1):Jy o e=[Je o.1 o.2 e.1 e.2]:=if_pos h
theorem mF {o e:Dd}(h:¬Cw o.1 o.2 e.1 e.2=1):Jy o e=[]:=if_neg h
def eG (a b:Int×Int)(e:Dd)(k:Nat):List Rat:=(if 1<=k then(Mf e a.1).flatMap (Zs a.2 b.2)else[])++(if 2<=k then(Mf e b.1).flatMap (Zs a.2 b.2)else[])
theorem Tn (a b:Int×Int)(e:Dd)(k:Nat)(hk:k<2):eG a b e (k+1)=eG a b e k++(Mf e (if k=0 then a.1 else b.1)).flatMap (Zs a.2 b.2):=by
  have:k=0\/k=1:=ω;rcases this with rfl|rfl<;>simp[eG]
theorem Fr.trans_fr {G G':Nat->Prop}{a b c:World}(h:Fr G a b)(k:Fr G' b c)(hG:∀j,G' j->G j\/a.heap.size<=j):Fr G a c:=
  ⟨k.os.trans h.os,k.tape.trans h.tape,k.output.trans h.output,Ar h.size k.size,fun i hi hn=>(k.block i (vF hi h.size) (fun g=>(hG i g).elim hn (fun h2=>ω))).trans (h.block i hi hn)⟩
theorem Hp.addTyp3 {w0 w:World}{m:List Dk}{X Y B:Nat}{T:TypeId}{zs us:List Value}(h:Hp w0 w m)(B1:Ak w X T zs.toArray)(B2:Ak w Y T us.toArray)(hne:X≠Y)(hB:w0.heap.size<=B)(z1:B<=X)(z2:B<=Y)(n1:Aq zs)(n2:Aq us)
  (ht:∀e,e∈m->e.typ≠T\/∀k,e.own=some k->k<B):Hp w0 w (m++[.blk X T zs]++[.blk Y T us]):=by
 have h1:Hp w0 w (m++[.blk X T zs]):=h.add ⟨Ar hB z1,B1,n1⟩ (fun i f hf k hk e=>by
  injection e with e
  subst e;rcases ht f (uD hf)with h2|h2
  ·exact h2 (h.typ hf B1 hk)
  have:=h2 _ hk;omega)
 refine h1.add ⟨Ar hB z2,B2,n2⟩ (fun i f hf k hk e=> ?_);injection e with e
 subst e;rcases List.mem_append.1 (uD hf)with hm|hm
 ·obtain⟨j,hj⟩:=List.mem_iff_getElem?.1 hm
  rcases ht f hm with h2|h2
  ·exact h2 (h.typ hj B2 hk)
  have:=h2 _ hk;omega
 simp at hm;subst hm;injection hk with hk
 exact hne hk
def Pm (F:Fence)(n:Nat)(P:Program)(fn:Func)(R:Ending->World->Prop):Exit->Act->World->Prop
  | .normal,a,w| .ret,a,w=>LeavesInM F n P fn a.tmps R a.defers .returning w
  |_,_,_=>False
theorem Pm.m {F:Fence}{n:Nat}{P:Program}{fn:Func}{R:Ending->World->Prop}:∀e a w,Pm F n P fn R e a w->bodyPostM F n P fn R e a w:=by
  intro e a w h;cases e<;>first|exact h|exact h.elim
end
section
attribute [local go_sem ↓] Go.wp_at_zero Go.wp_at_succ Aw Av
structure tX where
  a:Int×Int
  b:Int×Int
  r:Nat
  i:Nat
  n:Nat
def tJ (e:tX)(p:Rat×Rat):Prop:=(((e.b.1-e.a.1):Int):Rat)*(p.2-(((e.a.2):Int):Rat))=(((e.b.2-e.a.2):Int):Rat)*(p.1-(((e.a.1):Int):Rat))/\(((0):Int):Rat)<=(((e.b.1-e.a.1):Int):Rat)*(p.1-(((e.a.1):Int):Rat))+(((e.b.2-e.a.2):Int):Rat)*(p.2-(((e.a.2):Int):Rat))/\(((e.b.1-e.a.1):Int):Rat)*(p.1-(((e.a.1):Int):Rat))+(((e.b.2-e.a.2):Int):Rat)*(p.2-(((e.a.2):Int):Rat))<=(((e.b.1-e.a.1):Int):Rat)*(((e.b.1-e.a.1):Int):Rat)+(((e.b.2-e.a.2):Int):Rat)*(((e.b.2-e.a.2):Int):Rat)
instance sL (e:tX) (p:Rat×Rat):Decidable (tJ e p):=inferInstanceAs (Decidable (_/\_))
end
section
def pW (a b:Int×Int):Rat:=((1:Int):Rat)/((b.2-a.2:Int):Rat)*((b.1-a.1:Int):Rat)
theorem iI (a b:Int×Int)(y:Rat):Hn a.1 a.2 b.1 b.2 y=pW a b*y+((a.1:Rat)-(a.2:Rat)*pW a b):=by
  unfold Hn pW;generalize ((1:Int):Rat)/((b.2-a.2:Int):Rat)=i;generalize ((b.1-a.1:Int):Rat)=u;grind
end
section
attribute [local go_sem ↓] Go.wp_at_zero Go.wp_at_succ
def Gf (n rule:Int):Bool:=(decide (rule=1)&&decide (n≠0))||(decide (rule=2)&&decide (n%2≠0))
theorem Xm (n:Int):n.tmod 2=0↔n%2=0:=by
  rw[<-Int.dvd_iff_tmod_eq_zero,<-Int.dvd_iff_emod_eq_zero]
theorem Ub (n rule:Int)(b:Bool)(w:World)(h:Gf n rule=b)(hn: -1000000<=n/\n<=1000000):
    Calls prog 118 #[iV n,iV rule] w fun e w'=>e= .returned (.bool b)/\Aa w w':=by
  have ht: -1<=n.tmod 2/\n.tmod 2<=1:=by
    rw[Int.tmod_eq_emod];rw[show(2:Int).natAbs=2 from rfl];split<;>rename_i hk
    · omega
    have:n%2≠0:=fun k=>hk (Or.inr (Int.dvd_of_emod_eq_zero k))
    omega
  have wt:IntKind.i64.wrap (n.tmod 2)=n.tmod 2:=by rw[IntKind.wrap_i64];omega
  by_cases h1:rule=1
  · subst h1
    by_cases h2:n=0
    · have hb:b=false:=by rw[<-h];unfold Gf;simp[h2]
      subst hb;subst h2;clear h;go_enter func118,ntmps118;go_wp2_with fail;go_ret;exact⟨rfl,Aa.refl _⟩
    have hb:b=true:=by rw[<-h];unfold Gf;simp[h2]
    subst hb;clear h;go_enter func118,ntmps118;go_wp2_with fail;go_ret;exact⟨by simp,Aa.refl _⟩
  by_cases h3:rule=2
  · subst h3
    by_cases h4:n.tmod 2=0
    · have h5:=(Xm n).1 h4
      have hb:b=false:=by rw[<-h];unfold Gf;simp[h5]
      subst hb;clear h;go_enter func118,ntmps118;go_wp2_with fail;go_ret;exact⟨by simp,Aa.refl _⟩
    have h5:n%2≠0:=fun k=>h4 ((Xm n).2 k)
    have hb:b=true:=by rw[<-h];unfold Gf;simp[h5]
    subst hb;clear h;go_enter func118,ntmps118;go_wp2_with fail;go_ret;exact⟨by simp[h4],Aa.refl _⟩
  have hb:b=false:=by rw[<-h];unfold Gf;simp[h1,h3]
  subst hb;clear h;go_enter func118,ntmps118;go_wp2_with fail;go_ret;exact⟨by simp,Aa.refl _⟩
end
section
def Mr:Int->List QI->List (QQ×Int)
  |s,a::b::t=>((a.1,b.1),s+a.2)::Mr (s+a.2) (b::t)
  |_,[_]=>[]
  |_,[]=>[]
def cS (rule:Int)(l:List (QQ×Int)):List QQ:=(l.filter fun r=>Gf r.2 rule).map fun r=>r.1
def Jd (rule:Int)(ms:List QI):List QQ:=Ee (cS rule (Mr 0 ms))
theorem mE (rule:Int)(l m:List (QQ×Int)):cS rule (l++m)=cS rule l++cS rule m:=by unfold cS;simp
theorem mB (rule:Int)(r:QQ×Int):cS rule [r]=if Gf r.2 rule=true then[r.1]else[]:=by
  unfold cS;by_cases h:Gf r.2 rule=true<;>simp[h]
end
end Go.Proofs.YthlfilomhgeheaaGreat
