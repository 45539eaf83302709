import Derived.Shelf.Spec.SlicesGrow
import Derived.Test.YthlfilomhgeheaaGreatRows
import Derived.ProofKit
import Derived.OpenShut
import Derived.Below
import Derived.Deep.Slices
import Derived.Lib.SmallJoins
import Derived.ChangeSlices
import Derived.Deep.LoopGhost
import Derived.Deep.DeepCutAuto
import Derived.Test.YthlfilomhgeheaaGreatM7
set_option maxRecDepth 100000
set_option maxHeartbeats 4000000
namespace Go.Proofs.YthlfilomhgeheaaGreat
open Go.RowKit
open Go.Proofs.Tryz
section
attribute [local go_sem ↓] Go.wp_at_zero Go.wp_at_succ Az Ay
def Jt (B:Nat)(E:Int)(q:Rat)(w:World)(e:Ending)(w':World):Prop:=
  ∃r:RV,e= .returned (.tuple #[(rg r),iV E])/\(E=0->r.Is w' q/\Nm.rl q<=B)/\(E≠0->r=RV.zero)/\Aa w w'
theorem Jt.ok {B:Nat}{E:Int}{q:Rat}{w w':World}{e:Ending}(h:Jt B E q w e w')(h0:E=0):∃r:RV,e= .returned (.tuple #[(rg r),iV 0])/\r.Is w' q/\Nm.rl q<=B/\Aa w w':=by
  obtain⟨r,rfl,h1,_,hx⟩:=h;exact⟨r,by rw[h0],(h1 h0).1,(h1 h0).2,hx⟩
theorem Jt.bad {B:Nat}{E:Int}{q:Rat}{w w':World}{e:Ending}(h:Jt B E q w e w')(h0:E≠0):e= .returned (.tuple #[.agg z4,iV E])/\Aa w w':=by
  obtain⟨r,rfl,_,h2,hx⟩:=h;rw[h2 h0];exact⟨rfl,hx⟩
theorem Ka (A:Option Addr)(cap:Nat)(rs:List Bb)(rule:Int)(a b:Int×Int)(w:World)(hu:Ch w (.slice A rs.length cap) rs)(hn:rs.length<=1048576)(hr:∀r,r∈rs->r.length<=1048576)(hs:Gj rs<=24)(hru: -9223372036854775808<=rule/\rule<=9223372036854775807):
  Calls prog 7 #[.slice A rs.length cap,iV rule,.agg #[iV a.1,iV a.2],.agg #[iV b.1,iV b.2]] w (Jt 50000 (Cp rule a b rs) (En rule a b rs) w):=by
 have HU:=zH hu;have HN:=zH hn;have D9:=zH hr;clear hu hr;have D8:=zH hs;have O0:=zH hru;clear hs hru;go_enter func7,ntmps7
 have H0:=zH (Hp.start w);go_upto_region 0 with fail;apply wl;apply Cd 22 [.slice A rs.length cap] H0.1;intro D5 P3 O8 _;apply Cd 3 [iV rule] O8.1;intro D4 P2 O7 _;apply Cd 24 [iV a.1,iV a.2] O7.1;intro G8 P1 O6 _;apply Cd 24 [iV b.1,iV b.2] O6.1;intro G7 P0 J4 _;refine Cd 31 rz J4.1 ?_;intro C3 N6 A6 _;apply zq (iV 0);rcases Ck (Hh rs=true)with HV|HV
 ·rcases Ck (rule=1\/rule=2)with HRL|HRL
  ·go_upto_region 1 with fail
   apply wl;refine Bq A6.1 _ _ ?_;refine aC A6.1 (Ke A cap rs rule 0 _ (HU.1.ext A6.1.ext) HN.1 D9.1 ((if_pos HV.1).trans (if_pos HRL.1))) ?_;intro N5 B3 _;apply zq (iV 0);go_upto_region 2 with fail;apply wl;apply zq (iV 0);apply zp φ (by exact Kg (e:=(Aj ω)));rcases Ck (Cm a.1 a.2=true)with VA|VA
   ·rcases Ck (Cm b.1 b.2=true)with VB|VB
    ·go_upto_region 4 with fail
     apply wl;refine Cy B3.1 _ ?_;refine zc (Fw a.1 a.2 _) ?_;rintro e N4 ⟨rfl,hx⟩;have E9:=zH (B3.1.step hx);clear hx;refine⟨.bool true,by rw[VA.1],?_⟩;try simp only[ζ]
     refine Cn E9.1 φ φ _ ?_;refine zc (Fw b.1 b.2 _) ?_;rintro e N3 ⟨rfl,hx⟩;have J3:=zH (E9.1.step hx);clear hx;refine⟨.bool true,by rw[VB.1],?_⟩;try simp only[ζ]
     refine Bq Af φ φ ?_;have G1:=zH (show Cp rule a b rs=0 from Il.2 ⟨HV.1,HRL.1,VA.1,VB.1⟩);have oa:=Bg (p:=a) VA.1;have ob:=Bg (p:=b) VB.1;go_upto_region 6 with fail
     apply wl;refine zc (Ff 0 _ ω ω) ?_;rintro e N2 ⟨c_,rfl,C2,hx⟩;have J2:=zH (J3.1.step hx);obtain⟨A1,rfl,B8⟩:=C2;have D7:=zH B8;have K2:=zH (Bm 0 ω ω);clear B8 hx;refine zn ?_;refine Cd 31 rz J2.1 ?_;intro A4 N1 J1 F7;apply Ca 5 (rc A1) J1.1;intro A8 B0 F6;rcases Ck (b.1<=a.1)with HX1|HX1
     ·go_upto_region 7 with fail
      apply wl;refine Ek B0.1 _ _ _ _ ?_;apply zp τ (by exact Yp (e:=(Aq HX1.1)));go_upto_region 8 with fail;apply wl;refine Cy B0.1 _ ?_;apply Ca 4 (rc A1) B0.1;intro N0 E8 K1;apply zq (iV 0);have F4:=tD (tD F7 F6) K1;go_wp2_with fail
      refine bodyPost_ret (v:= .tuple #[(rg A1),iV 0]) ?_ rfl ⟨A1,by rw[G1.1],fun _=>⟨(show((0:Int):Rat)=En rule a b rs from(if_pos (.inl HX1.1)).symm)▸(D7.1.dig F4.1),(show((0:Int):Rat)=En rule a b rs from(if_pos (.inl HX1.1)).symm)▸Aw K2.1 dC⟩,fun h_=>absurd G1.1 h_,E8.1.ext⟩;exact Ad rfl rfl ((E8.1.blk (i:=4) rR).loadVar rfl rfl rR) rfl
     go_upto_region 7 with fail;apply wl;refine Ek B0.1 _ _ _ _ ?_;apply zp φ (by exact Yp (e:=(Aj HX1.1)));go_upto_region 9 with fail;refine zy ?_;have J0:=zH (B0.1.step (Aa.refl A8).drew);have K0:=zH (Ah.of_ext (w:=A8) zb);refine qT B0.1 zb (bs 10 27) 0 1 3 4 _ _ _ _ ?_;refine FN.go2 (j1:=⟨6,some 12,31,[.bool false,.slice none 0 0,.bool false,.slice none 0 0]⟩) (j2:=⟨7,some 13,31,[.bool false,.slice none 0 0,.bool false,.slice none 0 0]⟩) (b:=A8) ?_ zb;refine gN 2 (bs 10 31) (fk (fk trivial)) zb.size (fun xq C0=>Ff a.1 _ ω ω) (by rintro x_ e L6 ⟨c_,rfl,C2,hx⟩;exact hx) ?_;rintro xq e G3 C0 ⟨c_,rfl,C2,hx⟩;replace hx:=C0.trans hx;clear C0;have I9:=zH (J0.1.step hx);have J9:=zH (show Ah A8.drew G3 from Ah.of_ext hx);have D6:=zH (zb.trans hx);obtain⟨A3,rfl,B8⟩:=C2;have H6:=zH B8;clear B8 hx;refine⟨_,rfl,?_⟩;try simp only[ζ]
     refine gN 5 (bs 10 63) (fk (fk trivial)) D6.1.size (fun xq C0=>Ff b.1 _ ω ω) (by rintro x_ e L6 ⟨c_,rfl,C2,hx⟩;exact hx) ?_;rintro xq e M9 C0 ⟨c_,rfl,C2,hx⟩;replace hx:=C0.trans hx;clear C0;have I8:=zH (I9.1.step hx);have F5:=zH (Ah.of_ext hx);have H3:=zH (D6.1.trans hx);obtain⟨A2,rfl,B8⟩:=C2;have H5:=zH B8;clear B8 hx;refine⟨_,rfl,?_⟩;try simp only[ζ]
     refine pU (bs 10 255) (fk (fk trivial)) H3.1.size B0.1 I8.1 ?_;intro B2 B1 G2 hx hh K9 K8 hs;have I7:=hN hh;have D0:=zH (Ah.of_ext hx);have H2:=zH (show Aa A8 G2 from hs);have J6:=zH (show A8.heap.size<=B2 from K9);have J5:=zH (show A8.heap.size<=B1 from K8);clear hh hx hs K9 K8;try simp only[ζ]
     refine bS 6 8 (bs 10 511) (rc A3) I7.1 H2.1 J6.1 ?_;intro M8 I6 C9 H1;refine bS 7 9 (bs 10 1023) (rc A2) I6.1 H1.1 J5.1 ?_;intro M7 C5 C8 N8;refine wpAnyH_done kR ?_ _;go_upto_region 10 with fail;apply wl;refine Bq Af _ _ ?_;go_upto_region 11 with fail;apply wl;refine Cn C5.1 _ _ _ ?_;refine zc (aT _ rs a b _ (HU.1.ext C5.1.ext) HN.1 D9.1) ?_;rintro e D1 ⟨P4,ep,rfl,B4,K3,K5,K4,hx⟩;obtain⟨Ap,cp,rfl,D3⟩:=B4.form;have O5:=zH D3;have G0:=zH (qE K3 K5);have E0:=zH K4;clear D3 K3 K5 K4;have C4:=zH (show Hp w D1 [.blk D5 22 [.slice A rs.length cap],.blk D4 3 [iV rule],.blk G8 24 [iV a.1,iV a.2],.blk G7 24 [iV b.1,iV b.2],.blk C3 31 rz,.blk A4 31 (rc A1),.blk B2 31 (rc A3),.blk B1 31 (rc A2),ro 31 4 Ap ep.length cp Bd.cells ep]from C5.1.addRow hx B4);have C7:=zH (Ah.of_ext hx);clear B4 hx;refine zn ?_;refine Cy Af _ ?_;have P6:ep.length<=9223372036854775807:=by have h_:=Bi.capA (Hp.row (i:=8) C4.1 (by rfl));exact h_
     have O2:=zH (show(Eb a b rs).length=ep.length from by rw[<-G0.1,wU]);have O4:=zH (show∀x,x∈Eb a b rs->Nm.rl x<=24 from fun x_ C1=>by rw[<-G0.1]at C1;obtain⟨e_,N7,rfl⟩:=List.mem_map.1 C1;exact(E0.1 e_ N7).2);have P5:=HX1.1;have O1:=zH (fun k_=>eJ (rule:=rule) (a:=a) (b:=b) (rs:=rs) VA.1 VB.1 ω D8.1 O4.1 k_);go_upto_region 12 with fail
     apply wl;apply zq (iV 0);have F3:=tD (tD (tD (tD (tD (tD (tD (tD F7 F6) K0) J9) F5) D0) C9) C8) C7;go_wp2_with fail
     go_loopg [16] (ep.length) (fun cq G4 wr=>∃(i:Nat) (A0:RV),cq=ep.length-i/\G4= iV (i:Int)/\(i=0\/i+1<=ep.length)/\(A0.Is wr (part rule a b rs i))/\Hp w wr [.blk D5 22 [.slice A rs.length cap],.blk D4 3 [iV rule],.blk G8 24 [iV a.1,iV a.2],.blk G7 24 [iV b.1,iV b.2],.blk C3 31 [.bool false,.slice none 0 0,.bool false,.slice none 0 0],.blk A4 31 (rc A0),.blk B2 31 (rc A3),.blk B1 31 (rc A2),.row 31 4 (.slice Ap ep.length cp) (ep.length) (List.flatMap Bd.cells ep)]/\Ah D1 wr)
     case atStart=>exact⟨0,A1,rfl,rfl,(.inl rfl),(by rw[Vo];exact(D7.1.dig F3.1)),C4.1,Ah.refl _⟩
     obtain⟨i,A0,rfl,rfl,B7,D2,K7,L0⟩:=hrel;generalize wr=A7 at*;have O3:=zH B7;clear B7;have RZ:=zH D2;clear D2;have A9:=zH K7;have C6:=zH L0;clear K7 L0 C4;have BZ:=zH (O1.1 i);rcases Ck (i+1<ep.length)with HLT|HLT
     ·have F9:=HLT.1
      have hj:i<ep.length:=ω;obtain⟨gp,rfl⟩:=O5.1 ω;obtain⟨xe,C1⟩:∃e,ep[i]?=some e:=⟨_,wC hj⟩;obtain⟨ye,F8⟩:∃e,ep[i+1]?=some e:=⟨_,wC F9⟩;have HX:=zH C1;have HY:=zH F8;have I0:=zH (E0.1 xe (wE C1)).1;have H9:=zH (E0.1 xe (wE C1)).2;have H8:=zH (E0.1 ye (wE F8)).1;have H7:=zH (E0.1 ye (wE F8)).2;have N9:=zH (Vp (rule:=rule) (a:=a) (b:=b) (rs:=rs) (k:=i) (x:=xe.q) (y:=ye.q) (by rw[<-G0.1,xJ,HX.1];rfl) (by rw[<-G0.1,xJ,HY.1];rfl));clear C1 F8;go_upto_region 13 with fail
      apply wl;apply zq (iV (i:Int));apply zp (iV ((i+1:Nat):Int)) (by exact Hr ω);refine Bq Af _ (iV ((ep.length:Nat):Int)) ?_;apply zp τ (by exact Dp (e:=(Aq ω)));go_upto_region 15 with fail;refine wp_region_held_drew (S:=fun x=>Fr (fun kz=>kz=A4) A7 x) kR (Fr.of_ext zb) (fun _=> ?_);have E7:=zH (A9.1.step (Aa.refl A7).drew);have B6:=zH (Ah.of_ext (w:=A7) zb);refine zx 0 (bs 11 1) (.func (.func 21) #[] #[.pointer (π D5),.pointer (π D4),.pointer (π B2),.pointer (π B1),.pointer (π A4)]) (Fr.of_ext zb) ?_;refine zx 1 (bs 11 3) (.slice (π gp) ep.length cp) (Fr.of_ext zb) ?_;refine zx 2 (bs 11 7) (iV (i:Int)) (Fr.of_ext zb) ?_;refine zo 3 (bs 11 15) (v:= .pointer (some ⟨gp,i*4,none⟩)) (Fr.of_ext zb) ?_ (hv:=by intro w L1;exact Eh (k:=i) underlying54 (l:=hj) (f:=(wH _).symm));refine zr 4 (bs 11 31) gp (i*4) (rc xe.a) (fun x hx=>Fr.range hx (show World.rangeAt A7 gp (i*4) (rc xe.a)from(A9.1.elem (f:=Bd.cells) (i:=8) rR Bd.len HX.1)) (A9.1.offBlk (i:=8) (j:=5) rR rR dC rR)) underlying31 (Fr.of_ext zb) ?_;refine zx 5 (bs 11 63) (.slice (π gp) ep.length cp) (Fr.of_ext zb) ?_;refine zx 6 (bs 11 127) (iV (i:Int)) (Fr.of_ext zb) ?_;refine zu 7 (bs 11 255) (v:= iV ((i+1:Nat):Int)) (Fr.of_ext zb) ?_ (hv:=by intro w L1;exact Hr ω);refine zo 8 (bs 11 511) (v:= .pointer (some ⟨gp,(i+1)*4,none⟩)) (Fr.of_ext zb) ?_ (hv:=by intro w L1;exact Eh (k:=i+1) underlying54 (l:=F9) (f:=(wH _).symm));refine zr 9 (bs 11 1023) gp ((i+1)*4) (rc ye.a) (fun x hx=>Fr.range hx (show World.rangeAt A7 gp ((i+1)*4) (rc ye.a)from(A9.1.elem (f:=Bd.cells) (i:=8) rR Bd.len HY.1)) (A9.1.offBlk (i:=8) (j:=5) rR rR dC rR)) underlying31 (Fr.of_ext zb) ?_;have B5:=tD C6 B6;have F2:=tD (tD (tD (tD (tD (tD F5 D0) C9) C8) C7) C6) B6;have F1:=tD (tD (tD (tD (tD D0 C9) C8) C7) C6) B6;refine mC 10 (bs 11 2047) (nJ A cap rs rule a b xe.q ye.q (part rule a b rs i) xe.a ye.a A3 A2 A0 D5 D4 B2 B1 A4 w _ (E7.1.pickL [0,1,6,7,5] dC _ rR) HU.1 HN.1 D9.1 O0.1 HV.1 VA.1 VB.1 ω D8.1 (I0.1.dig B5.1) H9.1 (H8.1.dig B5.1) H7.1 (H6.1.dig F2.1) (H5.1.dig F1.1) (RZ.1.dig B6.1) BZ.1) ?_;rintro e B9 ⟨rfl,G5⟩;obtain⟨A5,L4,K6,L3,L2,G6⟩:=G5;have H4:=zH L4;have O9:=zH K6;have I5:=zH (show Hp w B9 [.blk D5 22 [.slice A rs.length cap],.blk D4 3 [iV rule],.blk G8 24 [iV a.1,iV a.2],.blk G7 24 [iV b.1,iV b.2],.blk C3 31 rz,.blk A4 31 (rc A5),.blk B2 31 (rc A3),.blk B1 31 (rc A2),ro 31 4 (π gp) ep.length cp Bd.cells ep]from E7.1.callO (ir:=5) (f:= .blk A4 31 (rc A0)) (f':= .blk A4 31 (rc A5)) (by rfl) G6 (fun k_ hk_=>by rw[show k_=A4 from hk_];rfl) L3 rfl);have J8:=zH (show Ah A7.drew B9 from L2);have hx:=G6;clear L4 K6 L3 L2 G6;have G9:=zH (show Fr (fun kz=>kz=A4) A7 B9 from(Fr.of_ext zb).trans hx);clear hx;apply zm G9.1;refine wpAnyH_done kR ?_ _;go_upto_region 14 with fail
      apply wl;apply zq (iV (i:Int));apply zp (iV ((i+1:Nat):Int)) (by exact Hr ω);apply zq (iV ((i+1:Nat):Int));have F0:=tD B5 J8;go_wp2_with fail
      go_roundg (ep.length-(i+1))
      case measure=>exact(ω)
      case rel=>exact⟨i+1,A5,rfl,(by go_num),(.inr F9),(by rw[N9.1];exact H4.1),I5.1,F0.1⟩
     have F9:=HLT.1;have P7:=O3.1;go_upto_region 13 with fail
     apply wl;apply zq (iV (i:Int));apply zp (iV ((i+1:Nat):Int)) (by exact Hr ω);refine Bq Af _ (iV ((ep.length:Nat):Int)) ?_;apply zp φ (by exact Dp (e:=(Aj ω)));go_upto_region 16 with fail;apply wl;refine zd A4 (0) (rc A0) (A9.1.range (i:=5) rR 0 4) underlying31 ?_;apply Ca 4 (rc A0) A9.1;intro M6 E6 J7;apply zq (iV 0);have L5:=zH (show part rule a b rs i=En rule a b rs from Zz (by rw[O2.1];omega) (by have h_:=HX1.1;omega));go_wp2_with fail
     refine bodyPost_ret (v:= .tuple #[(rg A0),iV 0]) ?_ rfl ⟨A0,by rw[G1.1],fun _=>⟨L5.1▸(RZ.1.dig J7.1),L5.1▸BZ.1⟩,fun h_=>absurd G1.1 h_,E6.1.ext⟩;exact Ad rfl rfl ((E6.1.blk (i:=4) rR).loadVar rfl rfl rR) rfl
    have Wb:=zH (Bool.eq_false_iff.2 VB.1);go_upto_region 4 with fail;apply wl;refine Cy B3.1 _ ?_;refine zc (Fw a.1 a.2 _) ?_;rintro e M5 ⟨rfl,hx⟩;have E5:=zH (B3.1.step hx);clear hx;refine⟨.bool true,by rw[VA.1],?_⟩;try simp only[ζ]
    refine Cn E5.1 φ φ _ ?_;refine zc (Fw b.1 b.2 _) ?_;rintro e M4 ⟨rfl,hx⟩;have I4:=zH (E5.1.step hx);clear hx;refine⟨.bool false,by rw[Wb.1],?_⟩;try simp only[ζ]
    refine Bq Af τ τ ?_;go_upto_region 5 with fail;apply wl;apply zq (.agg z4);refine Ca 4 rz I4.1 ?_;intro M3 E4 _;apply zq (iV 6);go_wp2_with fail;refine bodyPost_ret (v:= .tuple #[.agg z4,iV 6]) ?_ rfl ⟨RV.zero,by rw[show Cp rule a b rs=6 from(if_pos HV.1).trans ((if_pos HRL.1).trans (if_neg (fun h_=>VB.1 h_.2)))];rfl,fun h_=>absurd h_ (by rw[show Cp rule a b rs=6 from(if_pos HV.1).trans ((if_pos HRL.1).trans (if_neg (fun h_=>VB.1 h_.2)))];decide),fun _=>rfl,E4.1.ext⟩;exact Ad rfl rfl ((E4.1.blk (i:=4) rR).loadVar rfl rfl rR) rfl
   have Wa:=zH (Bool.eq_false_iff.2 VA.1);go_upto_region 4 with fail;apply wl;refine Cy B3.1 _ ?_;refine zc (Fw a.1 a.2 _) ?_;rintro e M2 ⟨rfl,hx⟩;have I3:=zH (B3.1.step hx);clear hx;refine⟨.bool false,by rw[Wa.1],?_⟩;try simp only[ζ]
   refine dR Af τ τ _ _ _ τ ?_;go_upto_region 5 with fail;apply wl;apply zq (.agg z4);refine Ca 4 rz I3.1 ?_;intro M1 E3 _;apply zq (iV 6);go_wp2_with fail;refine bodyPost_ret (v:= .tuple #[.agg z4,iV 6]) ?_ rfl ⟨RV.zero,by rw[show Cp rule a b rs=6 from(if_pos HV.1).trans ((if_pos HRL.1).trans (if_neg (fun h_=>VA.1 h_.1)))];rfl,fun h_=>absurd h_ (by rw[show Cp rule a b rs=6 from(if_pos HV.1).trans ((if_pos HRL.1).trans (if_neg (fun h_=>VA.1 h_.1)))];decide),fun _=>rfl,E3.1.ext⟩;exact Ad rfl rfl ((E3.1.blk (i:=4) rR).loadVar rfl rfl rR) rfl
  go_upto_region 1 with fail;apply wl;refine Bq A6.1 _ _ ?_;refine aC A6.1 (Ke A cap rs rule 2 _ (HU.1.ext A6.1.ext) HN.1 D9.1 ((if_pos HV.1).trans (if_neg HRL.1))) ?_;intro M0 I2 _;apply zq (iV 2);go_upto_region 2 with fail;apply wl;apply zq (iV 2);apply zp τ (by exact Kg (e:=(Aq ω)));go_upto_region 3 with fail;apply wl;refine Bq Af _ _ ?_;refine Ca 4 rz I2.1 ?_;intro L9 E2 _;apply zq (iV 2);go_wp2_with fail;refine bodyPost_ret (v:= .tuple #[.agg z4,iV 2]) ?_ rfl ⟨RV.zero,by rw[show Cp rule a b rs=2 from(if_pos HV.1).trans (if_neg HRL.1)];rfl,fun h_=>absurd h_ (by rw[show Cp rule a b rs=2 from(if_pos HV.1).trans (if_neg HRL.1)];decide),fun _=>rfl,E2.1.ext⟩;exact Ad rfl rfl ((E2.1.blk (i:=4) rR).loadVar rfl rfl rR) rfl
 go_upto_region 1 with fail;apply wl;refine Bq A6.1 _ _ ?_;refine aC A6.1 (Ke A cap rs rule 12 _ (HU.1.ext A6.1.ext) HN.1 D9.1 (if_neg HV.1)) ?_;intro L8 I1 _;apply zq (iV 12);go_upto_region 2 with fail;apply wl;apply zq (iV 12);apply zp τ (by exact Kg (e:=(Aq ω)));go_upto_region 3 with fail;apply wl;refine Bq Af _ _ ?_;refine Ca 4 rz I1.1 ?_;intro L7 E1 _;apply zq (iV 12);go_wp2_with fail;refine bodyPost_ret (v:= .tuple #[.agg z4,iV 12]) ?_ rfl ⟨RV.zero,by rw[show Cp rule a b rs=12 from if_neg HV.1];rfl,fun h_=>absurd h_ (by rw[show Cp rule a b rs=12 from if_neg HV.1];decide),fun _=>rfl,E1.1.ext⟩;exact Ad rfl rfl ((E1.1.blk (i:=4) rR).loadVar rfl rfl rR) rfl
theorem Ya {n:Int}(h:De n=false): -4096<=n/\n<=4096:=by
  unfold De at h;simp at h;omega
theorem Rq {x y:Int}(h:Cm (An x y).1 (An x y).2=true):(-4096<=x/\x<=4096)/\(-4096<=y/\y<=4096):=by
  unfold An at h;by_cases c:(De x||De y)=true
  · rw[if_pos c]at h;exact absurd h (by decide)
  simp at c;have h1:=Ya c.1;have h2:=Ya c.2;omega
theorem Kq (r:RV)(E:Int)(q:Rat)(w:World)(hr:E=0->r.Is w q/\Nm.rl q<=50000)(hz:E≠0->r=RV.zero):
  Calls prog 35 #[(rg r),iV E] w (Jt 50010 E (q/((65536:Int):Rat)) w):=by
 have A8:=zH hr;have B9:=zH hz;clear hr hz;rcases Ck (E=0)with HE|HE
 ·have C0:=zH (A8.1 HE.1).1
  have A9:=zH (A8.1 HE.1).2;obtain rfl:E=0:=HE.1;go_enter func35,ntmps35;have H0:=zH (Hp.start w);go_upto_region 0 with fail;apply wl;apply Cd 31 (rc r) H0.1;intro X2 w3 H4 _;refine Cd 31 rz H4.1 ?_;intro X7 w8 H9 _;apply zq (iV 0);go_upto_region 1 with fail;apply wl;apply zq (iV 0);apply zp φ (by exact Kg (e:=(Aj ω)));go_upto_region 3 with fail;refine wp_region_held_drew (S:=fun x=>Fr (fun kz=>kz=X2) w8 x) kR (Fr.of_ext zb) (fun _=> ?_);have C4:=zH (H9.1.step (Aa.refl w8).drew);refine Fd.go (j:=0) (dj:=some 11) (u:= (rg r)) ?_;refine Kv (b:=w8) (i:=1) (lj:=(bs 7 1)) (li:=(bs 7 2)) rR rR kR kR kR kR kR dC kR rR rR (fun x_ h_=>Fr.of_ext h_) (Aa.refl w8).drew (fun x_ h_=>Lc _ _ rR X2 (0) (rc r) rR (Be (show World.rangeAt w8 X2 (0) (rc r)from H9.1.range (i:=0) rR 0 4) h_) underlying31 rR kR) rR (by go_simp) kR (Ff 65536 _ ω ω) ?_;rintro e A5 ⟨c_,rfl,A3,hx⟩;have B3:=zH (C4.1.step hx);have B5:=zH (show Aa w8 A5 from(Aa.refl w8).drew.trans hx);have A7:=zH (show Fr (fun kz=>kz=X2) w8 A5 from(Fr.of_ext zb).trans (Fr.of_ext hx));obtain⟨D4,rfl,A1⟩:=A3;have B8:=zH A1;have B4:=zH (Bm 65536 ω ω);clear A1;have A6:=hx;clear hx;refine⟨_,rfl,A6,?_⟩;try simp only[ζ]
  clear A6;refine To rR kR rR rR A7.1 (Lc _ _ rR X2 (0) (rc r) rR (Be (show World.rangeAt w8 X2 (0) (rc r)from H9.1.range (i:=0) rR 0 4) B5.1) underlying31 rR kR) (show _=(bs 7 3)by kernel_rfl) ?_;try simp only[ζ]
  refine mC 2 (bs 7 7) (vD (L:=60000) (RV.Is.nin (C0.1.dig B3.1.dig0) (Aw A9.1 ω)) (RV.Is.nin B8.1 (Aw B4.1 ω)) dC dC) ?_;rintro e D3 ⟨c_,rfl,A3,hx⟩;have C3:=zH (B3.1.step hx);have A2:=zH (A7.1.trans (Fr.of_ext hx));obtain⟨A0,rfl,A1⟩:=A3;have B7:=zH A1;have C7:=zH (show Nm.rl (q/(((65536):Int):Rat))<=50010 from by have h1:=A9.1;have h2:=B4.1;have h3:=Nm.rl_div q (((65536):Int):Rat);omega);clear A1 hx;apply zm A2.1;refine zx 3 (bs 7 15) (.tuple #[(rg A0),iV 0]) A2.1 ?_;refine zx 4 (bs 7 31) (rg A0) A2.1 ?_;refine zx 5 (bs 7 63) (iV 0) A2.1 ?_;refine Dm (i:=6) (listed':=(bs 7 127)) rR kR rR kR _ _ _ rR C3.1 (ix:=0) rR 0 (rc A0) rR rR (by simp) kR (by simp[Value.oneCell']) (by simp[Ar]) ?_;intro D2 hh hd ho;have B2:=hN hh;have C6:=zH (hd);have B6:=zH (Fr.trans_new A2.1 ho (fun j hj=> .inl (by simpa using hj.symm)));clear hh hd ho;refine⟨B6.1,?_⟩
  (try simp only[Act.put])
  refine wpAnyH_done kR ?_ _;go_upto_region 4 with fail;apply wl;refine Cy B2.1 _ ?_;apply Ca 1 (rc A0) B2.1;intro D1 B1 C5;apply zq (iV 0);have A4:=tD C6 C5;go_wp2_with fail
  refine bodyPost_ret (v:= .tuple #[(rg A0),iV 0]) ?_ rfl ⟨A0,rfl,fun _=>⟨(B7.1.dig A4.1),C7.1⟩,fun h_=>absurd rfl h_,B1.1.ext⟩;exact Ad rfl rfl ((B1.1.blk (i:=1) rR).loadVar rfl rfl rR) rfl
 obtain rfl:r=RV.zero:=B9.1 HE.1;go_enter func35,ntmps35;have H0:=zH (Hp.start w);go_upto_region 0 with fail;apply wl;apply Cd 31 (rc RV.zero) H0.1;intro D6 D0 C2 _;refine Cd 31 rz C2.1 ?_;intro D5 C9 C1 _;apply zq (iV 0);go_upto_region 1 with fail;apply wl;apply zq (iV E);apply zp τ (by exact Kg (e:=(Aq HE.1)));go_upto_region 2 with fail;apply wl;refine Bq Af _ (iV E) ?_;refine Ca 1 rz C1.1 ?_;intro C8 B0 _;apply zq (iV E);go_wp2_with fail;refine bodyPost_ret (v:= .tuple #[.agg z4,iV E]) ?_ rfl ⟨RV.zero,rfl,fun h_=>absurd h_ HE.1,fun _=>rfl,B0.1.ext⟩;exact Ad rfl rfl ((B0.1.blk (i:=1) rR).loadVar rfl rfl rR) rfl
theorem Pg (n:Int)(b:Bool)(w:World)(hb:De n=b):Calls prog 71 #[iV n] w fun e w'=>e= .returned (.bool b)/\Aa w w':=by
 subst hb;go_enter func71,ntmps71;have H0:=zH (Hp.start w);go_upto_region 0 with fail;apply wl;apply zq φ;rcases Ck (n< -4096)with C1|C1
 ·go_upto_region 1 with fail
  apply wl;apply zq (iV n);apply zp τ (by exact Dp (e:=(Aq C1.1)));refine Ql Af τ _ _ τ τ ?_;go_wp2_with fail;go_ret;exact⟨by rw[show De n=true from by unfold De;simp;have A0:=C1.1;omega]<;>rfl,H0.1.ext⟩
 rcases Ck (4096<n)with C2|C2
 ·go_upto_region 1 with fail
  apply wl;apply zq (iV n);apply zp φ (by exact Dp (e:=(Aj C1.1)));refine Bq Af φ (iV n) ?_;apply zp τ (by exact Ph (e:=(Aq C2.1)));refine Bq Af τ τ ?_;go_wp2_with fail;go_ret;exact⟨by rw[show De n=true from by unfold De;simp;have A0:=C1.1;have A1:=C2.1;omega]<;>rfl,H0.1.ext⟩
 go_upto_region 1 with fail;apply wl;apply zq (iV n);apply zp φ (by exact Dp (e:=(Aj C1.1)));apply qV φ;apply zq (iV n);apply zp φ (by exact Ph (e:=(Aj C2.1)));apply qV φ;apply zq φ;go_wp2_with fail;go_ret;exact⟨by rw[show De n=false from by unfold De;simp;have A0:=C1.1;have A1:=C2.1;omega]<;>rfl,H0.1.ext⟩
theorem Iw (x y:Int)(w:World):Calls prog 34 #[iV x,iV y] w fun e w'=>e= .returned (.agg #[iV (An x y).1,iV (An x y).2])/\Aa w w':=by
 go_enter func34,ntmps34;have H0:=zH (Hp.start w);go_upto_region 0 with fail;apply wl;apply Cd 24 [iV 0,iV 0] H0.1;intro B8 B7 A2 _;go_upto_region 1 with fail;apply wl;refine Cy Af _ ?_;rcases Ck (De x=true)with C1|C1
 ·have HC:=zH (show An x y=(1048577,0)from if_pos (by rw[C1.1];rfl))
  go_upto_region 2 with fail;apply wl;refine Bq Af _ (iV x) ?_;refine aC A2.1 (Pg x true _ C1.1) ?_;intro B6 B4 _;refine Ql Af τ _ _ _ τ ?_;go_upto_region 3 with fail;apply wl;refine Cy Af _ ?_;apply Ca 0 [iV 1048577,iV 0] B4.1;intro B5 A7 _;go_wp2_with fail;refine bodyPost_ret (v:= .agg #[iV 1048577,iV 0]) ?_ rfl ⟨by rw[HC.1],A7.1.ext⟩;exact By rfl rfl ((A7.1.blk (i:=0) rR).loadVar rfl rfl rR)
 have F1:=zH (Bool.eq_false_iff.2 C1.1);rcases Ck (De y=true)with C2|C2
 ·have HC:=zH (show An x y=(1048577,0)from if_pos (by rw[F1.1,C2.1];rfl))
  go_upto_region 2 with fail;apply wl;refine Bq Af _ (iV x) ?_;refine aC A2.1 (Pg x false _ F1.1) ?_;intro B3 A6 _;refine Cn Af φ _ (iV y) ?_;refine aC A6.1 (Pg y true _ C2.1) ?_;intro B2 A5 _;apply zq τ;go_upto_region 3 with fail;apply wl;refine Cy Af _ ?_;apply Ca 0 [iV 1048577,iV 0] A5.1;intro B1 A1 _;go_wp2_with fail;refine bodyPost_ret (v:= .agg #[iV 1048577,iV 0]) ?_ rfl ⟨by rw[HC.1],A1.1.ext⟩;exact By rfl rfl ((A1.1.blk (i:=0) rR).loadVar rfl rfl rR)
 have F2:=zH (Bool.eq_false_iff.2 C2.1);have b1:=Ya F1.1;have b2:=Ya F2.1;have HC:=zH (show An x y=(x*256,y*256)from if_neg (by rw[F1.1,F2.1];decide));go_upto_region 2 with fail
 apply wl;refine Bq Af _ (iV x) ?_;refine aC A2.1 (Pg x false _ F1.1) ?_;intro B0 A4 _;refine Cn Af φ _ (iV y) ?_;refine aC A4.1 (Pg y false _ F2.1) ?_;intro A9 A3 _;apply zq φ;go_upto_region 4 with fail;apply wl;apply zq (iV x);apply zp (iV (x*256)) (by exact mH ω);apply zq (iV y);apply zp (iV (y*256)) (by exact mH ω);refine Cy Af _ ?_;apply Ca 0 [iV (x*256),iV (y*256)] A3.1;intro A8 A0 _;go_wp2_with fail;refine bodyPost_ret (v:= .agg #[iV (x*256),iV (y*256)]) ?_ rfl ⟨by rw[HC.1],A0.1.ext⟩;exact By rfl rfl ((A0.1.blk (i:=0) rR).loadVar rfl rfl rR)
theorem Vn (A:Option Addr)(cap:Nat)(rs:List Bb)(rule x y:Int)(w:World)(hu:Ch w (.slice A rs.length cap) rs)(hn:rs.length<=1048576)(hr:∀r,r∈rs->r.length<=1048576)(hs:Gj rs<=24)(hru: -9223372036854775808<=rule/\rule<=9223372036854775807):
  Calls prog 10 #[.slice A rs.length cap,iV rule,iV x,iV y] w (Jt 50010 (Cp rule (An x y) (Hm x y) rs) (En rule (An x y) (Hm x y) rs/((65536:Int):Rat)) w):=by
 have HU:=zH hu;have HN:=zH hn;have D5:=zH hr;clear hu hr;have B5:=zH hs;have D4:=zH hru;clear hs hru;go_enter func10,ntmps10
 have H0:=zH (Hp.start w);go_upto_region 0 with fail;apply wl;refine Cd 31 rz H0.1 ?_;intro F6 F3 D1 _;apply zq (iV 0);go_upto_region 1 with fail;apply wl;apply qV (iV x);apply zq (iV y);refine aC D1.1 (Iw x y _) ?_;intro F2 D0 _;apply qV (iV x);apply zq (iV y);refine aC D0.1 (Iw x y _) ?_;intro F0 C9 _;apply Cd 24 [iV 0,iV 0] C9.1;intro F5 E9 C8 _;apply Cd 24 [iV 0,iV 0] C8.1;intro F4 E8 C7 _;apply Ca 1 [iV ((An x y).1),iV ((An x y).2)] C7.1;intro E7 C6 _;apply Ca 2 [iV ((An x y).1),iV ((An x y).2)] C6.1;intro E6 A4 _;rcases Ck (Cm (An x y).1 (An x y).2=true)with HV|HV
 ·go_upto_region 2 with fail
  apply wl;refine Cy A4.1 _ ?_;refine zc (Fw (An x y).1 (An x y).2 _) ?_;rintro e E5 ⟨rfl,hx⟩;have C5:=zH (A4.1.step hx);clear hx;refine⟨.bool true,by rw[HV.1],?_⟩;try simp only[ζ]
  have b1:=(Rq HV.1).1;have b2:=(Rq HV.1).2;go_upto_region 3 with fail
  apply wl;apply zq (iV x);apply zp (iV (x+1)) (by exact Hr ω);apply zq (iV y);apply zp (iV (y+1)) (by exact Hr ω);refine aC C5.1 (Iw (x+1) (y+1) _) ?_;intro E4 C4 _;apply Ca 2 [iV ((An (x+1) (y+1)).1),iV ((An (x+1) (y+1)).2)] C4.1;intro E3 B0 _;go_upto_region 4 with fail;apply wl;refine Ek B0.1 _ (iV rule) _ _ ?_;refine zc (Ka A cap rs rule (An x y) (An (x+1) (y+1)) _ (HU.1.ext B0.1.ext) HN.1 D5.1 B5.1 D4.1) ?_;rintro e E2 ⟨B9,rfl,A3,A2,hx⟩;have C3:=zH (B0.1.step hx);have A8:=zH A3;have B4:=zH A2;clear A3 A2 hx;refine zn ?_;refine Bq Af _ (iV (Cp rule (An x y) (An (x+1) (y+1)) rs)) ?_;refine zc (Kq B9 (Cp rule (An x y) (An (x+1) (y+1)) rs) (En rule (An x y) (An (x+1) (y+1)) rs) _ (fun h_=>⟨(A8.1 h_).1,(A8.1 h_).2⟩) B4.1) ?_;rintro e E1 ⟨A1,rfl,A3,A2,hx⟩;have C2:=zH (C3.1.step hx);have A7:=zH A3;have B3:=zH A2;clear A3 A2 hx;refine zn ?_;refine Bq Af _ (iV (Cp rule (An x y) (An (x+1) (y+1)) rs)) ?_;apply Ca 0 (rc A1) C2.1;intro E0 B7 D3;apply zq (iV (Cp rule (An x y) (An (x+1) (y+1)) rs));go_wp2_with fail
  refine bodyPost_ret (v:= .tuple #[(rg A1),iV (Cp rule (An x y) (An (x+1) (y+1)) rs)]) ?_ rfl (by rw[show Hm x y=An (x+1) (y+1)from if_pos HV.1];exact⟨A1,rfl,fun h_=>⟨(A7.1 h_).1.dig D3.1,(A7.1 h_).2⟩,B3.1,B7.1.ext⟩);exact Ad rfl rfl ((B7.1.blk (i:=0) rR).loadVar rfl rfl rR) rfl
 have F1:=zH (Bool.eq_false_iff.2 HV.1);go_upto_region 2 with fail;apply wl;refine Cy A4.1 _ ?_;refine zc (Fw (An x y).1 (An x y).2 _) ?_;rintro e D9 ⟨rfl,hx⟩;have A9:=zH (A4.1.step hx);clear hx;refine⟨.bool false,by rw[F1.1],?_⟩;try simp only[ζ]
 go_upto_region 4 with fail;apply wl;refine Ek A9.1 _ (iV rule) _ _ ?_;refine zc (Ka A cap rs rule (An x y) (An x y) _ (HU.1.ext A9.1.ext) HN.1 D5.1 B5.1 D4.1) ?_;rintro e D8 ⟨B8,rfl,A3,A2,hx⟩;have C1:=zH (A9.1.step hx);have A6:=zH A3;have B2:=zH A2;clear A3 A2 hx;refine zn ?_;refine Bq Af _ (iV (Cp rule (An x y) (An x y) rs)) ?_;refine zc (Kq B8 (Cp rule (An x y) (An x y) rs) (En rule (An x y) (An x y) rs) _ (fun h_=>⟨(A6.1 h_).1,(A6.1 h_).2⟩) B2.1) ?_;rintro e D7 ⟨A0,rfl,A3,A2,hx⟩;have C0:=zH (C1.1.step hx);have A5:=zH A3;have B1:=zH A2;clear A3 A2 hx;refine zn ?_;refine Bq Af _ (iV (Cp rule (An x y) (An x y) rs)) ?_;apply Ca 0 (rc A0) C0.1;intro D6 B6 D2;apply zq (iV (Cp rule (An x y) (An x y) rs));go_wp2_with fail
 refine bodyPost_ret (v:= .tuple #[(rg A0),iV (Cp rule (An x y) (An x y) rs)]) ?_ rfl (by rw[show Hm x y=An x y from if_neg HV.1];exact⟨A0,rfl,fun h_=>⟨(A5.1 h_).1.dig D2.1,(A5.1 h_).2⟩,B1.1,B6.1.ext⟩);exact Ad rfl rfl ((B6.1.blk (i:=0) rR).loadVar rfl rfl rR) rfl
end
section
theorem fG:Yr prog 43 24 2 16:=Yr.of (z:= .agg #[iV 0,iV 0]) underlying43 (by kernel_rfl) rfl (by simp[Ar,Value.cells]) (by decide)
def Yl (p:Int×Int):List Value:=[iV p.1,iV p.2]
theorem Kp (p:Int×Int):(Yl p).length=2:=rfl
theorem hU {w:World}{A:Option Addr}{c:Nat}{l:List (Int×Int)}(h:Gs w (.slice A l.length c) l):0<l.length->∃ad,A=some ad/\∀j u,(l.flatMap Yl)[j]?=some u->w.cell? (ad.add j)=some u:=by
 intro h0;obtain⟨A',c',e,hf⟩:=h;injection e with e1 _ e3
 subst e1 e3;obtain⟨g,A0,rfl,hp⟩:=hf (by intro e;rw[e]at h0;simp at h0);refine⟨_,rfl,fun j u hj=> ?_⟩;have A1:j<l.length*2:=by have:=(List.getElem?_eq_some_iff.1 hj).1;rwa[Dx Kp]at this
 have h1:j/2<l.length:=ω;obtain⟨q1,q2⟩:=hp (j/2) h1;have hg:l[j/2]?=some l[j/2]:=wC h1;have e:l.getD (j/2) (0,0)=l[j/2]:=by rw[wF,hg];rfl
 rw[e]at q1 q2;have e9:(⟨g,A0,none⟩:Addr).add j=⟨g,A0+j,none⟩:=by simp[Addr.add]
 have hm:j=j/2*2\/j=j/2*2+1:=ω;rcases hm with hm|hm
 ·have h3:=Hw Kp l (j/2) _ hg 0 _ rfl
  rw[xO,<-hm,hj]at h3;injection h3 with h3
  subst h3;rw[e9,show A0+j=A0+j/2*2 by omega];exact q1
 have h3:=Hw Kp l (j/2) _ hg 1 _ rfl;rw[<-hm,hj]at h3;injection h3 with h3
 subst h3;rw[e9,show A0+j=A0+(j/2*2+1)by omega];exact q2
theorem oR (l:List (Int×Int)):∀u,u∈l.flatMap Yl->u.oneCell'=true:=by
  intro u hu;obtain⟨e,_,he⟩:=List.mem_flatMap.1 hu;unfold Yl at he;simp only[List.mem_cons,List.not_mem_nil,or_false]at he;rcases he with rfl|rfl<;>rfl
theorem sE (l:List (Int×Int)):Ar (l.flatMap Yl):=by
  intro u hu;obtain⟨e,_,he⟩:=List.mem_flatMap.1 hu;unfold Yl at he;simp only[List.mem_cons,List.not_mem_nil,or_false]at he;rcases he with rfl|rfl<;>simp
end
section
open Go.Shelf Go.RowKit
def iR:Go.Shelf.Ren:=⟨fun|4=>125|n=>n,fun|0=>0|3=>3|4=>4|9=>9|20=>20|22=>43|25=>24|n=>n,fun|n=>n⟩
theorem rF:Go.Proofs.Lays8.n4 prog iR:={
 mixed:=by kernel_rfl
 f4:=⟨Tryz.f125.name,by decide,func125.trans (congrArg some (by kernel_rfl))⟩
 t0:=underlying0
 a0:=Tryz.isAgg0
 z0:=Tryz.sizeOf0
 v0:=Tryz.zeroValue0
 t3:=underlying3
 a3:=Tryz.isAgg3
 z3:=Tryz.sizeOf3
 v3:=Tryz.zeroValue3
 t4:=underlying4
 a4:=Tryz.isAgg4
 z4:=Tryz.sizeOf4
 v4:=Tryz.zeroValue4
 t9:=underlying9
 a9:=Tryz.isAgg9
 z9:=Tryz.sizeOf9
 v9:=Tryz.zeroValue9
 t20:=underlying20
 a20:=Tryz.isAgg20
 z20:=Tryz.sizeOf20
 v20:=Tryz.zeroValue20
 t22:=underlying43
 a22:=Tryz.isAgg43
 z22:=Tryz.sizeOf43
 v22:=Tryz.zeroValue43}
theorem iS (n:Nat)(w:World)(hn:n<=1000000):
  Calls prog 125 #[.slice none 0 0,iV n] w fun e w'=>∃(A:Option Addr) (c:Nat),e= .returned (.slice A 0 c)/\Bi w' w.heap.size 24 2 (.slice A 0 c) 0 []/\Aa w w':=by
 by_cases h0:n=0
 ·subst h0
  refine(Any8.slices_Grow_room rF none 0 0 0 w (Bz _) dC dC dC:Calls _ _ _ _ _).mono ?_;rintro e w' ⟨rfl,rfl⟩;exact⟨none,0,rfl,Bi.nil _ _ _ _,Aa.refl _⟩
 obtain⟨h1,i,z,hi,hz,hs,hb,A2,A1,_⟩:=fG;refine(Any8.slices_Grow_grow rF i z hi hz ω none 0 0 n [] w (Bz _) ω (by rw[hb];omega) ω (by simp) (fun _=>rfl) (fun a h=>by cases h):Calls _ _ _ _ _).mono ?_;rintro e w' ⟨rfl,rfl⟩;simp only[wH,Nat.sub_zero];have A3:=grownCap_ge w n 0 24;have A4:grownCap w n 0 24<=maxLen:=grownCap_le_maxLen w n 0 24 (by unfold maxLen;omega);have A0:∀k,Ar (Builtin.zeroCells z.cells k).toList:=fun k=>Py _ _ ω A1
 refine⟨_,_,rfl,⟨by simp,.inr ⟨w.heap.size,_,(Builtin.zeroCells z.cells n).toList++(Builtin.zeroCells z.cells (grownCap w n 0 24-n)).toList,rfl,Bz _,?_,wM _,A4,?_,?_⟩⟩,((Aa.refl w).drew).alloc _⟩
 ·have h:=Al.new w.drew 24 (([]:List Value).toArray++Builtin.zeroCells z.cells n++Builtin.zeroCells z.cells (grownCap w n 0 24-n))
  have e2:([]++((Builtin.zeroCells z.cells n).toList++(Builtin.zeroCells z.cells (grownCap w n 0 24-n)).toList)).toArray=([]:List Value).toArray++Builtin.zeroCells z.cells n++Builtin.zeroCells z.cells (grownCap w n 0 24-n):=by
   apply Array.ext';simp
  rw[e2];exact h
 ·rw[List.length_nil,wD,Array.length_toList,Array.length_toList,size_zeroCells,size_zeroCells,A2,<-xL,wH,Nat.add_sub_cancel' A3]
  rfl
 exact(A0 _).app (A0 _)
end
section
attribute [local go_sem ↓] Go.wp_at_zero Go.wp_at_succ Az Ay
theorem dA {rs:List Bb}{k:Nat}{r:Bb}(h:rs[k]?=some r):(rs.take (k+1)).flatten=(rs.take k).flatten++r:=by
  rw[List.take_add_one,h,List.flatten_append];simp
theorem Lt:∀rs:List Bb,rs.flatten.length=Gj rs
  | []=>rfl
  | r::rs=>by
    rw[List.flatten_cons,wD,Lt rs];show _=rs.foldl (fun n r=>n+r.length) (0+r.length);rw[Wf];omega
def lR (m:(Int×Int)×(Int×Int))(q:Int×Int):(Int×Int)×(Int×Int):=((min m.1.1 q.1,min m.1.2 q.2),(max m.2.1 q.1,max m.2.2 q.2))
def Lg (p:Int×Int)(l:List (Int×Int)):(Int×Int)×(Int×Int):=l.foldl lR (p,p)
theorem bJ (p q:Int×Int)(l:List (Int×Int)):Lg p (l++[q])=lR (Lg p l) q:=by unfold Lg;rw[List.foldl_append];rfl
theorem tR {p:Int×Int}{l:List (Int×Int)}(hp:Dy p):∀{m},(∀q,q∈l->Dy q)->m=Lg p l->Dy m.1/\Dy m.2:=by
 have key:∀(l:List (Int×Int)) (m:(Int×Int)×(Int×Int)),Dy m.1->Dy m.2->(∀q,q∈l->Dy q)->Dy (l.foldl lR m).1/\Dy (l.foldl lR m).2:=by
  intro l;induction l with
  |nil=>intro m h1 h2 _;exact⟨h1,h2⟩
  |cons q l ih=>
   intro m h1 h2 h;have hq:=Bg (h q (by simp));have k1:=Bg h1;have k2:=Bg h2;refine ih (lR m q) ?_ ?_ (fun z hz=>h z (by simp[hz]))
   ·unfold lR;simp[Dy,Cm];omega
   unfold lR;simp[Dy,Cm];omega
 intro m h e;subst e;exact key l (p,p) hp hp h
def Ju (rs:List Bb):(Int×Int)×(Int×Int):=Lg (rs.flatten.headD (0,0)) rs.flatten
theorem dK (A:Option Addr)(cap:Nat)(rs:List Bb)(w:World)(hu:Ch w (.slice A rs.length cap) rs)(hn:rs.length<=1048576)(ht:Gj rs<=4096):
  Calls prog 75 #[.slice A rs.length cap] w fun e w'=>∃(B:Option Addr) (c:Nat),e= .returned (.slice B rs.flatten.length c)/\Bi w' w.heap.size 24 2 (.slice B rs.flatten.length c) rs.flatten.length (rs.flatten.flatMap Yl)/\Aa w w':=by
 have HU:=zH hu;have HT:=zH ht;have E7:=hn;clear hu ht hn;generalize hF_:rs.flatten=F
 have E1:=zH hF_;clear hF_;go_enter func75,ntmps75;have H0:=zH (Hp.start w);go_upto_region 0 with fail;apply wl;refine Cy Af _ ?_;go_upto_region 1 with fail;apply wl;apply zq (iV 0);go_upto_region 2 with fail;apply wl;refine Cn Af _ (iV ((rs.length:Nat):Int)) _ ?_;go_wp2_with fail;go_loopg [3,11] (rs.length) (fun cq v6 v7 wr=>∃(k:Nat),cq=rs.length-k/\v6= iV ((Gj (rs.take k):Nat):Int)/\v7= iV (k:Int)/\(k<=rs.length)/\Hp w wr []/\Ah w wr)
 case atStart=>exact⟨0,rfl,rfl,rfl,wM _,H0.1,Ah.refl _⟩
 obtain⟨k,rfl,rfl,rfl,A5,B2,B3⟩:=hrel;generalize wr=w8 at*;have E0:=zH A5;clear A5;have B7:=zH B2;have F0:=zH B3;clear B2 B3;rcases Ck (k<rs.length)with HLT|HLT
 ·have A3:=HLT.1
  obtain⟨r,A2⟩:∃r,rs[k]?=some r:=⟨_,wC A3⟩;have B6:=zH A2;obtain⟨g,A0,rfl,B1⟩:∃g A0,A=some ⟨g,A0,none⟩/\∀i r,rs[i]?=some r->∃B cb,World.cell? w ⟨g,A0+i,none⟩=some (.slice B r.length cb)/\Gs w (.slice B r.length cb) r:=by obtain⟨A_,D6,B8,C1⟩:=HU.1;injection B8 with e1_ e2_ e3_;subst e1_;obtain⟨g_,A7,e_,h_⟩:=C1 ω;exact⟨g_,A7,e_,h_⟩
  obtain⟨B,cb,A9,A8⟩:=B1 k r A2;have C2:=zH A9;have C8:=zH A8;clear A2 B1 A9 A8;have B5:=Fo B6.1;have C0:=Fe rs (k+1);have B9:=HT.1;go_upto_region 3 with fail
  apply wl;apply zp τ (by exact Dp (e:=(Aq ω)));go_upto_region 4 with fail;apply wl;apply zp (.pointer (some ⟨g,A0+k,none⟩)) (by exact Eh (k:=k) underlying22 (l:=A3) (f:=(show A0+k=A0+k*1 by omega)));refine ze g (A0+k) (.slice B r.length cb) (Dr (B7.1.ext.get C2.1)) ?_;refine Cy Af _ ?_;go_upto_region 5 with fail;apply wl;refine Cn Af (iV ((Gj (rs.take k):Nat):Int)) _ (iV ((r.length:Nat):Int)) ?_;apply zp (iV ((Gj (rs.take k)+r.length:Nat):Int)) (by exact Hr ω);apply zq (iV ((Gj (rs.take k)+r.length:Nat):Int));go_upto_region 6 with fail;apply wl;apply zq (iV ((Gj (rs.take k)+r.length:Nat):Int));apply zp φ (by exact Dp (e:=(Aj ω)));go_upto_region 8 with fail;apply wl;apply zp (iV ((k+1:Nat):Int)) (by exact Hr ω);apply zq (iV ((k+1:Nat):Int));go_wp2_with fail;go_roundg (rs.length-(k+1))
  case measure=>exact(ω)
  case rel=>exact⟨k+1,rfl,(by first|(rw[B5];done)|(rw[B5];go_num)),(by go_num),A3,B7.1,B7.1.dig0⟩
 have A3:=HLT.1;have E9:=E0.1;obtain rfl:k=rs.length:=ω
 have C0:=Fe rs rs.length;have B9:=HT.1;go_upto_region 3 with fail
 apply wl;apply zp φ (by exact Dp (e:=(Aj (Int.lt_irrefl _))));go_upto_region 9 with fail;apply wl;apply qV (iV ((Gj (rs.take rs.length):Nat):Int));refine zc (iS (Gj (rs.take rs.length)) _ ω) ?_;rintro e C5 ⟨Ag,cg,rfl,C6,hx⟩;have C9:=zH (show Hp w C5 [ro 24 2 Ag 0 cg Yl ([])]from B7.1.addRow hx C6);clear C6 hx;refine zn ?_;refine Cy Af _ ?_;go_upto_region 10 with fail
 apply wl;refine Cn Af _ (iV ((rs.length:Nat):Int)) _ ?_;go_wp2_with fail;go_loopg [6,27] (rs.length) (fun cq D2 D1 wr=>∃(i:Nat) (A1:Option Addr) (c1:Nat) (m:Nat) (es:List (Int×Int)),cq=rs.length-i/\D2= .slice A1 m c1/\D1= iV (i:Int)/\(i<=rs.length)/\(m=es.length)/\(es=(rs.take i).flatten)/\Hp w wr [.row 24 2 (.slice A1 m c1) (m) (List.flatMap Yl es)]/\Ah C5 wr)
 case atStart=>exact⟨0,Ag,cg,0,[],rfl,rfl,rfl,wM _,rfl,rfl,C9.1,Ah.refl _⟩
 obtain⟨i,A1,c1,m,es,rfl,rfl,rfl,A4,B0,A6,B2,B3⟩:=hrel;generalize wr=E6 at*;have D9:=zH A4;clear A4;have HM:=zH B0;clear B0;have C3:=zH A6;clear A6;have B4:=zH B2;have E4:=zH B3;clear B2 B3 C9;rcases Ck (i<rs.length)with HLU|HLU
 ·have A3:=HLU.1
  obtain⟨r,A2⟩:∃r,rs[i]?=some r:=⟨_,wC A3⟩;have B6:=zH A2;obtain⟨g,A0,rfl,B1⟩:∃g A0,A=some ⟨g,A0,none⟩/\∀i r,rs[i]?=some r->∃B cb,World.cell? w ⟨g,A0+i,none⟩=some (.slice B r.length cb)/\Gs w (.slice B r.length cb) r:=by obtain⟨A_,D6,B8,C1⟩:=HU.1;injection B8 with e1_ e2_ e3_;subst e1_;obtain⟨g_,A7,e_,h_⟩:=C1 ω;exact⟨g_,A7,e_,h_⟩
  obtain⟨B,cb,A9,A8⟩:=B1 i r A2;have C2:=zH A9;have C8:=zH A8;clear A2 B1 A9 A8;have D8:=zH (hU C8.1);have B5:=Fo B6.1;have C0:=Fe rs (i+1);have B9:=HT.1;have E8:m+r.length<=4096:=by rw[HM.1,C3.1,Lt];omega
  clear B5 C0 B9;go_upto_region 11 with fail;apply wl;apply zp τ (by exact Dp (e:=(Aq ω)));go_upto_region 12 with fail;apply wl;apply zp (.pointer (some ⟨g,A0+i,none⟩)) (by exact Eh (k:=i) underlying22 (l:=A3) (f:=(show A0+i=A0+i*1 by omega)));refine ze g (A0+i) (.slice B r.length cb) (Dr (B4.1.ext.get C2.1)) ?_;refine Cy Af _ ?_;go_upto_region 13 with fail;apply wl;refine Bq Af _ _ ?_;refine Pb rR _ _ _ rR fG rR B4.1 (ix:=0) rR B r.length cb (List.flatMap Yl r) rR (Dx Kp r) (fun h0_=>by obtain⟨D7,A9,A8⟩:=D8.1 h0_;exact⟨D7,A9,fun j_ u_ hj_=>B4.1.ext.get (A8 j_ u_ hj_)⟩) (oR r) (sE r) (by unfold maxLen;exact ω) ω ?_;intro D0 C7 E5 hh hd hg hf;clear hf;rw[show List.flatMap Yl es++List.flatMap Yl r=List.flatMap Yl (es++r)from List.flatMap_append.symm]at hh;have E2:=hN hh;have E3:=zH (hd);clear hh hd hg;try simp only[ζ]
  apply zq (.slice D0 (m+r.length) C7);go_upto_region 14 with fail;apply wl;apply zp (iV ((i+1:Nat):Int)) (by exact Hr ω);apply zq (iV ((i+1:Nat):Int));have C4:=tD E4 E3;go_wp2_with fail
  go_roundg (rs.length-(i+1))
  case measure=>exact(ω)
  case rel=>exact⟨i+1,D0,C7,m+r.length,es++r,rfl,rfl,(by go_num),A3,(by rw[wD,HM.1]),(by rw[C3.1,dA B6.1]),E2.1,C4.1⟩
 have A3:=HLU.1;have D4:=D9.1;obtain rfl:i=rs.length:=ω
 go_upto_region 11 with fail;apply wl;apply zp φ (by exact Dp (e:=(Aj (Int.lt_irrefl _))));go_upto_region 15 with fail;apply wl;refine Bq Af _ _ ?_;have D5:es=F:=by rw[C3.1,xK];exact E1.1
 have D3:=HM.1;subst D5;subst D3;go_wp2_with fail;go_ret;exact⟨A1,c1,rfl,B4.1.row (i:=0) (by rfl),B4.1.ext⟩
theorem Ub (A:Option Addr)(cap:Nat)(rs:List Bb)(w:World)(hu:Ch w (.slice A rs.length cap) rs)(hn:rs.length<=1048576)(hr:∀r,r∈rs->r.length<=1048576)(ho:Hh rs=true):
  Calls prog 39 #[.slice A rs.length cap] w fun e w'=>((rs.flatten=[]/\e= .returned (.tuple #[.agg #[iV 0,iV 0],.agg #[iV 0,iV 0],.bool false]))\/
   (rs.flatten≠ []/\e= .returned (.tuple #[.agg #[iV (Ju rs).1.1,iV (Ju rs).1.2],.agg #[iV (Ju rs).2.1,iV (Ju rs).2.2],.bool true])))/\Aa w w':=by
 have HU:=zH hu;have HN:=zH hn;have F8:=zH hr;clear hu hr;have HV:=zH ho;clear ho;generalize hF_:rs.flatten=F
 have C0:=zH hF_;clear hF_;go_enter func39,ntmps39;have H0:=zH (Hp.start w);go_upto_region 0 with fail;apply wl;apply Cd 24 [iV 0,iV 0] H0.1;intro B4 H4 G5 _;apply Cd 24 [iV 0,iV 0] G5.1;intro B3 H3 E1 _;apply zq φ;go_upto_region 1 with fail;apply wl;refine Cy Af _ ?_;refine zc (C0.1▸dK A cap rs _ (HU.1.ext E1.1.ext) HN.1 (Fc HV.1)) ?_;rintro e E4 ⟨Bf,cf,rfl,B7,hx⟩;obtain⟨G8,F2,E0,D8⟩:=B7.form;obtain⟨rfl,rfl⟩:Bf=G8/\cf=F2:=by injection E0 with e1_ _ e3_;exact⟨e1_,e3_⟩
 have HF:=zH D8;clear E0 D8;have C3:=zH (show Hp w E4 [.blk B4 24 [iV 0,iV 0],.blk B3 24 [iV 0,iV 0],ro 24 2 Bf F.length cf Yl F]from E1.1.addRow hx B7);clear B7 hx;refine zn ?_;refine Cy Af _ ?_;have H6:F.length<=4096:=by rw[<-C0.1,Lt];exact Fc HV.1
 rcases Ck (F=[])with HE|HE
 ·have he:=HE.1
  have H7:F.length=0:=by rw[he];rfl
  go_upto_region 2 with fail;apply wl;refine Bq Af _ (iV ((F.length:Nat):Int)) ?_;apply zp τ (by exact Kf (e:=(Aq ω)));refine Ql Af τ _ _ _ τ ?_;go_upto_region 3 with fail;apply wl;refine Bq Af _ _ ?_;apply Ca 0 [iV 0,iV 0] C3.1;intro H2 G4 _;apply Ca 1 [iV 0,iV 0] G4.1;intro H1 C2 _;apply zq φ;go_wp2_with fail;refine bodyPost_ret (v:= .tuple #[.agg #[iV 0,iV 0],.agg #[iV 0,iV 0],.bool false]) ?_ rfl ⟨.inl ⟨HE.1,rfl⟩,C2.1.ext⟩;exact Av rfl rfl rfl ((C2.1.blk (i:=0) rR).loadVar rfl rfl rR) ((C2.1.blk (i:=1) rR).loadVar rfl rfl rR) rfl
 have F0:=HE.1;have A2:0<F.length:=List.length_pos_iff.2 F0;obtain⟨gb,rfl⟩:=HF.1 A2;obtain⟨p,A7⟩:∃p,F[0]?=some p:=⟨_,wC A2⟩;have HP:=zH A7;have G0:=zH (show Ju rs=Lg p F from by unfold Ju;rw[C0.1,List.headD_eq_head?_getD,List.head?_eq_getElem?,HP.1];rfl);clear A7;go_upto_region 2 with fail
 apply wl;refine Bq Af _ (iV ((F.length:Nat):Int)) ?_;apply zp φ (by exact Kf (e:=(Aj ω)));refine Bq Af φ _ ?_;refine zc (Du _ rs _ (HU.1.ext C3.1.ext) HN.1 F8.1) ?_;rintro e D3 ⟨rfl,hx⟩;have C1:=zH (C3.1.step hx);clear hx;refine⟨.bool true,by rw[HV.1],?_⟩;try simp only[ζ]
 apply qV φ;apply zq φ;go_upto_region 4 with fail;refine zy ?_;have G3:=zH (C1.1.step (Aa.refl D3).drew);refine Rt Af zb (bs 10 1) 0 _ ?_;refine zo 1 (bs 10 3) (v:= .pointer (some ⟨gb,0*2,none⟩)) zb ?_ (hv:=by intro w F1;exact Eh (k:=0) underlying43 (l:=A2) (f:=(wH _).symm));refine zg 2 (bs 10 7) gb (0*2) [iV p.1,iV p.2] (C1.1.elem (f:=Yl) (i:=2) rR Kp HP.1) underlying24 zb ?_;refine Rt Af zb (bs 10 15) 3 _ ?_;refine zo 4 (bs 10 31) (v:= .pointer (some ⟨gb,0*2,none⟩)) zb ?_ (hv:=by intro w F1;exact Eh (k:=0) underlying43 (l:=A2) (f:=(wH _).symm));refine zg 5 (bs 10 63) gb (0*2) [iV p.1,iV p.2] (C1.1.elem (f:=Yl) (i:=2) rR Kp HP.1) underlying24 zb ?_;refine Mk (i:=6) (j:=7) (T:=24) (U:=24) (zs:=[iV 0,iV 0]) (us:=[iV 0,iV 0]) (li:=(bs 10 127)) (lj:=(bs 10 191)) (lij:=(bs 10 255)) rR rR kR kR kR kR kR kR kR rR rR dC (by intro r_ x_;go_simp) (by intro r_ x_;go_simp) (fun x y h1 h2=>h1.trans h2) zb G3.1 (by simp[Ar]) (by simp[Ar]) ?_;intro B9 B8 E3 hh hx D7 D6 hs;have G2:=hN hh;have F5:=zH (show Aa D3 E3 from hs);have G7:=zH (Aw zb.size D7);have G6:=zH (Aw zb.size D6);clear hh hx D7 D6 hs;try simp only[ζ]
 refine bS 3 8 (bs 10 511) [iV p.1,iV p.2] G2.1 F5.1 G7.1 ?_;intro G9 G1 _ F4;refine bS 4 9 (bs 10 1023) [iV p.1,iV p.2] G1.1 F4.1 G6.1 ?_;intro E2 B0 _ F6;refine wpAnyH_done kR ?_ _;go_upto_region 5 with fail;apply wl;refine Cn Af _ (iV ((F.length:Nat):Int)) _ ?_;go_wp2_with fail;go_loopg [30] (F.length) (fun cq B6 wr=>∃(k:Nat),cq=F.length-k/\B6= iV (k:Int)/\(k<=F.length)/\Hp w wr [.blk B4 24 [iV 0,iV 0],.blk B3 24 [iV 0,iV 0],.row 24 2 (.slice (π gb) F.length cf) (F.length) (List.flatMap Yl F),.blk B9 24 [iV ((Lg p (F.take k)).1.1),iV ((Lg p (F.take k)).1.2)],.blk B8 24 [iV ((Lg p (F.take k)).2.1),iV ((Lg p (F.take k)).2.2)]]/\Ah E2 wr)
 case atStart=>exact⟨0,rfl,rfl,wM _,B0.1,Ah.refl _⟩
 obtain⟨k,rfl,rfl,A3,D5,D9⟩:=hrel;generalize wr=A1 at*;have F9:=zH A3;clear A3;have A0:=zH D5;have D2:=zH D9;clear D5 D9 B0;rcases Ck (k<F.length)with HLT|HLT
 ·have B2:=HLT.1
  obtain⟨x,D4⟩:∃x,F[k]?=some x:=⟨_,wC B2⟩;have HX:=zH D4;have F7:=zH (show Lg p (F.take (k+1))=lR (Lg p (F.take k)) x from by rw[List.take_add_one,HX.1];exact bJ _ _ _);clear D4;go_upto_region 6 with fail
  apply wl;apply zp τ (by exact Dp (e:=(Aq ω)));go_upto_region 7 with fail;apply wl;apply zp (.pointer (some ⟨gb,k*2,none⟩)) (by exact Eh (k:=k) underlying43 (l:=B2) (f:=(wH _).symm));refine zd gb (k*2) [iV x.1,iV x.2] (A0.1.elem (f:=Yl) (i:=2) rR Kp HX.1) underlying24 ?_;apply Cd 24 [iV 0,iV 0] A0.1;intro F3 E9 C7 D1;apply Ca 5 [iV x.1,iV x.2] C7.1;intro E8 A6 D0;go_upto_region 8 with fail;apply wl;refine Hz A6.1 _ _ _ _ (iV (min ((Lg p (F.take k)).1.1) x.1)) _ _ _ ?_;refine Cn A6.1 _ (iV (min ((Lg p (F.take k)).1.2) x.2)) _ ?_;apply Ca 3 [iV (min ((Lg p (F.take k)).1.1) x.1),iV (min ((Lg p (F.take k)).1.2) x.2)] A6.1;intro E7 A5 C9;go_upto_region 9 with fail;apply wl;refine Hz A5.1 _ _ _ _ (iV (max ((Lg p (F.take k)).2.1) x.1)) _ _ _ ?_;refine Cn A5.1 _ (iV (max ((Lg p (F.take k)).2.2) x.2)) _ ?_;apply Ca 4 [iV (max ((Lg p (F.take k)).2.1) x.1),iV (max ((Lg p (F.take k)).2.2) x.2)] A5.1;intro E6 C6 C8;go_upto_region 10 with fail;apply wl;apply zp (iV ((k+1:Nat):Int)) (by exact Hr ω);apply zq (iV ((k+1:Nat):Int));have B1:=tD (tD (tD (tD D2 D1) D0) C9) C8;go_wp2_with fail
  go_roundg (F.length-(k+1))
  case measure=>exact(ω)
  case rel=>exact⟨k+1,rfl,(by go_num),B2,(by rw[F7.1];exact C6.1.take 5),B1.1⟩
 have B2:=HLT.1;have H5:=F9.1;obtain rfl:k=F.length:=ω
 go_upto_region 6 with fail;apply wl;apply zp φ (by exact Dp (e:=(Aj (Int.lt_irrefl _))));go_upto_region 11 with fail;refine wp_region_held_drew (S:=fun x=>Fr (fun kz=>kz=B4\/kz=B3) A1 x) kR (Fr.of_ext zb) (fun _=> ?_);have C5:=zH (A0.1.step (Aa.refl A1).drew);refine mR 0 (bs 5 1) B9 (0) [iV ((Lg p (F.take F.length)).1.1),iV ((Lg p (F.take F.length)).1.2)] (fun x hx=>Fr.range hx (show World.rangeAt A1 B9 (0) [iV ((Lg p (F.take F.length)).1.1),iV ((Lg p (F.take F.length)).1.2)]from(A0.1.range (i:=3) rR 0 2)) (fun hk=>hk.elim (A0.1.offBlk (i:=3) (j:=0) rR rR dC rR) (A0.1.offBlk (i:=3) (j:=1) rR rR dC rR))) underlying24 (Fr.of_ext zb) ?_;refine zr 1 (bs 5 3) B8 (0) [iV ((Lg p (F.take F.length)).2.1),iV ((Lg p (F.take F.length)).2.2)] (fun x hx=>Fr.range hx (show World.rangeAt A1 B8 (0) [iV ((Lg p (F.take F.length)).2.1),iV ((Lg p (F.take F.length)).2.2)]from(A0.1.range (i:=4) rR 0 2)) (fun hk=>hk.elim (A0.1.offBlk (i:=4) (j:=0) rR rR dC rR) (A0.1.offBlk (i:=4) (j:=1) rR rR dC rR))) underlying24 (Fr.of_ext zb) ?_;refine Dm (i:=2) (listed':=(bs 5 7)) rR kR rR kR _ _ _ rR C5.1 (ix:=0) rR 0 [iV ((Lg p (F.take F.length)).1.1),iV ((Lg p (F.take F.length)).1.2)] rR rR (by simp) kR (by simp[Value.oneCell']) (by simp[Ar]) ?_;intro B5 hh hd ho;have C4:=hN hh;have A9:=zH (show Fr (fun kz=>kz=B4\/kz=B3) A1 B5 from Fr.trans_new (Fr.of_ext zb) ho (fun j hj=> .inl (.inl (by injection hj with hj;exact hj.symm))));clear hh hd ho;refine⟨A9.1,?_⟩
 (try simp only[Act.put])
 refine Dm (i:=3) (listed':=(bs 5 15)) rR kR rR kR _ _ _ rR C4.1 (ix:=1) rR 0 [iV ((Lg p (F.take F.length)).2.1),iV ((Lg p (F.take F.length)).2.2)] rR rR (by simp) kR (by simp[Value.oneCell']) (by simp[Ar]) ?_;intro E5 hh hd ho;have A4:=hN hh;have A8:=zH (Fr.trans_new A9.1 ho (fun j hj=> .inl (.inr (by injection hj with hj;exact hj.symm))));clear hh hd ho;refine⟨A8.1,?_⟩
 (try simp only[Act.put])
 refine zx 4 (bs 5 31) τ A8.1 ?_;refine wpAnyH_done kR ?_ _;go_wp2_with fail;refine bodyPost_ret (v:= .tuple #[.agg #[iV ((Lg p (F.take F.length)).1.1),iV ((Lg p (F.take F.length)).1.2)],.agg #[iV ((Lg p (F.take F.length)).2.1),iV ((Lg p (F.take F.length)).2.2)],.bool true]) ?_ rfl ⟨.inr ⟨HE.1,by rw[G0.1,xK]⟩,A4.1.ext⟩;exact Av rfl rfl rfl ((A4.1.blk (i:=0) rR).loadVar rfl rfl rR) ((A4.1.blk (i:=1) rR).loadVar rfl rfl rR) rfl
theorem bH (A:Option Addr)(cap:Nat)(rs:List Bb)(w:World)(hu:Ch w (.slice A rs.length cap) rs)(hn:rs.length<=1048576)(hr:∀r,r∈rs->r.length<=1048576)(ho:Hh rs=true)(h0:rs.flatten=[]):
    Calls prog 39 #[.slice A rs.length cap] w fun e w'=>e= .returned (.tuple #[.agg #[iV 0,iV 0],.agg #[iV 0,iV 0],.bool false])/\Aa w w':=
  (Ub A cap rs w hu hn hr ho).mono fun _ _ h=>⟨h.1.elim (fun k=>k.2) (fun k=>absurd h0 k.1),h.2⟩
theorem bG (A:Option Addr)(cap:Nat)(rs:List Bb)(w:World)(hu:Ch w (.slice A rs.length cap) rs)(hn:rs.length<=1048576)(hr:∀r,r∈rs->r.length<=1048576)(ho:Hh rs=true)(h0:rs.flatten≠ []):
    Calls prog 39 #[.slice A rs.length cap] w fun e w'=>e= .returned (.tuple #[.agg #[iV (Ju rs).1.1,iV (Ju rs).1.2],.agg #[iV (Ju rs).2.1,iV (Ju rs).2.2],.bool true])/\Aa w w':=
  (Ub A cap rs w hu hn hr ho).mono fun _ _ h=>⟨h.1.elim (fun k=>absurd k.1 h0) (fun k=>k.2),h.2⟩
def Yu (rule:Int)(rs:List Bb):Rat:=if rs.flatten=[]then((0:Int):Rat)else En rule (Ju rs).1 (Ju rs).2 rs/((65536:Int):Rat)
theorem nH {rs:List Bb}(h:Hh rs=true)(hne:rs.flatten≠ []):Dy (Ju rs).1/\Dy (Ju rs).2:=by
  have A0:∀q,q∈rs.flatten->Dy q:=fun q hq=>by
    obtain⟨r,hr,hq⟩:=List.mem_flatten.1 hq;exact Ov h hr hq
  refine tR (p:=rs.flatten.headD (0,0)) (l:=rs.flatten) ?_ A0 rfl;cases e:rs.flatten with
  |nil=>exact absurd e hne
  |cons p l=>exact A0 p (by rw[e];simp)
theorem Us (A:Option Addr)(cap:Nat)(rs:List Bb)(rule:Int)(w:World)(hu:Ch w (.slice A rs.length cap) rs)(hn:rs.length<=1048576)(hr:∀r,r∈rs->r.length<=1048576)(hs:Gj rs<=24)(hru: -9223372036854775808<=rule/\rule<=9223372036854775807):
  Calls prog 14 #[.slice A rs.length cap,iV rule] w (Jt 50010 (Dj rule rs) (Yu rule rs) w):=by
 have HU:=zH hu;have HN:=zH hn;have A5:=zH hr;clear hu hr;have B7:=zH hs;have G6:=zH hru;clear hs hru;go_enter func14,ntmps14
 have H0:=zH (Hp.start w);go_upto_region 0 with fail;apply wl;refine Cd 31 rz H0.1 ?_;intro G5 F9 A2 _;apply zq (iV 0);rcases Ck (Hh rs=true)with HV|HV
 ·rcases Ck (rule=1\/rule=2)with HRL|HRL
  ·have B2:=zH (show Dj rule rs=0 from(if_pos HV.1).trans (if_pos HRL.1))
   go_upto_region 1 with fail;apply wl;refine Bq Af _ (iV rule) ?_;refine aC A2.1 (Ke A cap rs rule 0 _ (HU.1.ext A2.1.ext) HN.1 A5.1 ((if_pos HV.1).trans (if_pos HRL.1))) ?_;intro F8 A3 _;apply zq (iV 0);go_upto_region 2 with fail;apply wl;apply zq (iV 0);apply zp φ (by exact Kg (e:=(Aj ω)));rcases Ck (rs.flatten=[])with HE|HE
   ·go_upto_region 4 with fail
    apply wl;refine Cy Af _ ?_;refine aC A3.1 (bH A cap rs _ (HU.1.ext A3.1.ext) HN.1 A5.1 HV.1 HE.1) ?_;intro F7 D1 _;refine Ek Af _ _ _ φ ?_;apply Cd 24 [iV 0,iV 0] D1.1;intro G4 F6 D0 _;apply Cd 24 [iV 0,iV 0] D0.1;intro G3 F5 C9 _;apply Ca 1 [iV 0,iV 0] C9.1;intro F4 C8 _;apply Ca 2 [iV 0,iV 0] C8.1;intro F3 C7 _;apply zq φ;go_upto_region 5 with fail;apply wl;refine Bq Af φ τ ?_;go_upto_region 6 with fail;apply wl;refine zc (Ff 0 _ ω ω) ?_;rintro e F2 ⟨c_,rfl,G0,hx⟩;have C6:=zH (C7.1.step hx);obtain⟨A1,rfl,D7⟩:=G0;have B6:=zH D7;have D6:=zH (Bm 0 ω ω);clear D7 hx;refine zn ?_;apply Ca 0 (rc A1) C6.1;intro F1 B1 D3;apply zq (iV 0);go_wp2_with fail
    refine bodyPost_ret (v:= .tuple #[(rg A1),iV 0]) ?_ rfl ⟨A1,by rw[B2.1],fun _=>by rw[show Yu rule rs=((0:Int):Rat)from if_pos HE.1];exact⟨(B6.1.dig D3.1),Aw D6.1 dC⟩,fun h_=>absurd B2.1 h_,B1.1.ext⟩;exact Ad rfl rfl ((B1.1.blk (i:=0) rR).loadVar rfl rfl rR) rfl
   go_upto_region 4 with fail;apply wl;refine Cy Af _ ?_;refine aC A3.1 (bG A cap rs _ (HU.1.ext A3.1.ext) HN.1 A5.1 HV.1 HE.1) ?_;intro F0 C5 _;refine Ek Af _ _ _ τ ?_;apply Cd 24 [iV 0,iV 0] C5.1;intro G2 E9 C4 _;apply Cd 24 [iV 0,iV 0] C4.1;intro G1 E8 C3 _;apply Ca 1 [iV ((Ju rs).1.1),iV ((Ju rs).1.2)] C3.1;intro E7 C2 _;apply Ca 2 [iV ((Ju rs).2.1),iV ((Ju rs).2.2)] C2.1;intro E6 A4 _;apply zq τ;go_upto_region 5 with fail;apply wl;refine Bq Af τ φ ?_;have D8:=zH (nH HV.1 HE.1);have G7:=zH (show Cp rule (Ju rs).1 (Ju rs).2 rs=0 from Il.2 ⟨HV.1,HRL.1,D8.1.1,D8.1.2⟩);go_upto_region 7 with fail
   apply wl;refine Ek A4.1 _ (iV rule) _ _ ?_;refine zc ((Ka A cap rs rule (Ju rs).1 (Ju rs).2 _ (HU.1.ext A4.1.ext) HN.1 A5.1 B7.1 G6.1).mono (fun _ _ h_=>Jt.ok h_ G7.1)) ?_;rintro e E5 ⟨B3,rfl,A7,A6,hx⟩;have C1:=zH (A4.1.step hx);have B5:=zH A7;have D5:=zH A6;clear A7 A6 hx;refine zn ?_;refine Bq Af _ _ ?_;refine zc ((Kq B3 0 (En rule (Ju rs).1 (Ju rs).2 rs) _ (fun _=>⟨B5.1,D5.1⟩) (fun h_=>absurd rfl h_)).mono (fun _ _ h_=>Jt.ok h_ rfl)) ?_;rintro e E4 ⟨A0,rfl,A7,A6,hx⟩;have C0:=zH (C1.1.step hx);have B4:=zH A7;have D4:=zH A6;clear A7 A6 hx;refine zn ?_;refine Bq Af _ _ ?_;apply Ca 0 (rc A0) C0.1;intro E3 B0 D2;apply zq (iV 0);go_wp2_with fail
   refine bodyPost_ret (v:= .tuple #[(rg A0),iV 0]) ?_ rfl ⟨A0,by rw[B2.1],fun _=>by rw[show Yu rule rs=((En rule (Ju rs).1 (Ju rs).2 rs)/((65536:Int):Rat))from if_neg HE.1];exact⟨(B4.1.dig D2.1),D4.1⟩,fun h_=>absurd B2.1 h_,B0.1.ext⟩;exact Ad rfl rfl ((B0.1.blk (i:=0) rR).loadVar rfl rfl rR) rfl
  go_upto_region 1 with fail;apply wl;refine Bq Af _ (iV rule) ?_;refine aC A2.1 (Ke A cap rs rule 2 _ (HU.1.ext A2.1.ext) HN.1 A5.1 ((if_pos HV.1).trans (if_neg HRL.1))) ?_;intro E2 B9 _;apply zq (iV 2);go_upto_region 2 with fail;apply wl;apply zq (iV 2);apply zp τ (by exact Kg (e:=(Aq ω)));go_upto_region 3 with fail;apply wl;refine Bq Af _ _ ?_;refine Ca 0 rz B9.1 ?_;intro E1 A9 _;apply zq (iV 2);go_wp2_with fail;refine bodyPost_ret (v:= .tuple #[.agg z4,iV 2]) ?_ rfl ⟨RV.zero,by rw[show Dj rule rs=2 from(if_pos HV.1).trans (if_neg HRL.1)];rfl,fun h_=>absurd h_ (by rw[show Dj rule rs=2 from(if_pos HV.1).trans (if_neg HRL.1)];decide),fun _=>rfl,A9.1.ext⟩;exact Ad rfl rfl ((A9.1.blk (i:=0) rR).loadVar rfl rfl rR) rfl
 go_upto_region 1 with fail;apply wl;refine Bq Af _ (iV rule) ?_;refine aC A2.1 (Ke A cap rs rule 12 _ (HU.1.ext A2.1.ext) HN.1 A5.1 (if_neg HV.1)) ?_;intro E0 B8 _;apply zq (iV 12);go_upto_region 2 with fail;apply wl;apply zq (iV 12);apply zp τ (by exact Kg (e:=(Aq ω)));go_upto_region 3 with fail;apply wl;refine Bq Af _ _ ?_;refine Ca 0 rz B8.1 ?_;intro D9 A8 _;apply zq (iV 12);go_wp2_with fail;refine bodyPost_ret (v:= .tuple #[.agg z4,iV 12]) ?_ rfl ⟨RV.zero,by rw[show Dj rule rs=12 from if_neg HV.1];rfl,fun h_=>absurd h_ (by rw[show Dj rule rs=12 from if_neg HV.1];decide),fun _=>rfl,A8.1.ext⟩;exact Ad rfl rfl ((A8.1.blk (i:=0) rR).loadVar rfl rfl rR) rfl
theorem Qp (n m:Bool)(u v:Value)(z:Int)(w:World)(hu:Bu w n u z)(hv:Bu w m v z)(hL:Nm.nl z.natAbs<=1000000):
    Calls prog 33 #[.agg #[.bool n,u],.agg #[.bool m,v]] w fun e w'=>e= .returned τ/\Aa w w':=by
  obtain⟨rfl,p,cp,rfl,_,_,h3⟩:=hu;obtain⟨rfl,q,cq,rfl,_,_,h4⟩:=hv;unfold Nm.nl at hL;generalize Nm.digs z.natAbs=xs at*;generalize decide (z<0)=s at*;have H3:=zH h3;have H4:=zH h4;clear h3 h4;have HG:=zH (show∀x,Aa ((w.alloc (.cells #[.bool s,.slice p xs.length cp] 29)).alloc (.cells #[.bool s,.slice q xs.length cq] 29)) x->
      x.cell? ⟨w.heap.size,0,none⟩=some (.bool s)/\x.cell? ⟨w.heap.size,1,none⟩=some (.slice p xs.length cp)/\x.cell? ⟨w.heap.size+1,0,none⟩=some (.bool s)/\x.cell? ⟨w.heap.size+1,1,none⟩=some (.slice q xs.length cq)from fun x h=>
    ⟨h.get (by simp),h.get (by simp),h.get (by simp),h.get (by simp)⟩)
  have HW:=zH (show Aa w ((w.alloc (.cells #[.bool s,.slice p xs.length cp] 29)).alloc (.cells #[.bool s,.slice q xs.length cq] 29))from(Ak.alloc _).alloc _);have A1:(s != s)=false:=by cases s<;>rfl
  go_enter func33,ntmps33;go_wp2_with fail;generalize ((w.alloc (.cells #[.bool s,.slice p xs.length cp] 29)).alloc (.cells #[.bool s,.slice q xs.length cq] 29))=wa at*;go_loopw [5] (fun i wr=>∃k:Nat,k<=xs.length/\i= iV k/\Aa wa wr) (fun i _=>xs.length-(intOf i).toNat)
  case atStart=>exact⟨0,wM _,rfl,Aa.refl _⟩
  obtain⟨k,hk,rfl,he⟩:=hrel;have gl:=HG.1 _ he;have HE:=zH he;clear he;by_cases hlt:k<xs.length
  · obtain⟨b,o,rfl,hb⟩:=H3.1 (ω)
    obtain⟨b2,o2,rfl,A0⟩:=H4.1 ω;have c0:=(HW.1.trans HE.1).get (hb k hlt);have c1:=(HW.1.trans HE.1).get (A0 k hlt);clear hb A0;generalize (xs.getD k 0:Nat)=d at c0 c1
    go_wp2_with fail;go_quiet (fail)
    go_wp2_with fail;go_roundw
    case rel=>exact⟨k+1,hlt,by go_num,HE.1.drewN _⟩
    case measure=>simp[intOf];omega
  go_wp2_with fail;go_ret;exact⟨rfl,HW.1.trans HE.1⟩
theorem Qq (a b:RV)(z1 z2:Int)(w:World)(ha1:Bu w a.n (.slice a.p a.l a.c) z1)(ha2:Bu w a.m (.slice a.p2 a.l2 a.c2) z2)(hb1:Bu w b.n (.slice b.p b.l b.c) z1)(hb2:Bu w b.m (.slice b.p2 b.l2 b.c2) z2)(hl1:Nm.nl z1.natAbs<=1000000)(hl2:Nm.nl z2.natAbs<=1000000):
    Calls prog 9 #[(rg a),(rg b)] w fun e w'=>e= .returned τ/\Aa w w':=by
  have H1:=zH (fun W (x:Aa w W)=>Qp a.n b.n _ _ z1 W (ha1.ext x) (hb1.ext x) hl1);have H2:=zH (fun W (x:Aa w W)=>Qp a.m b.m _ _ z2 W (ha2.ext x) (hb2.ext x) hl2);have HG:=zH (show∀x,Aa ((w.alloc (.cells #[.bool a.n,.slice a.p a.l a.c,.bool a.m,.slice a.p2 a.l2 a.c2] 31)).alloc (.cells #[.bool b.n,.slice b.p b.l b.c,.bool b.m,.slice b.p2 b.l2 b.c2] 31)) x->
      x.cell? ⟨w.heap.size,0,none⟩=some (.bool a.n)/\x.cell? ⟨w.heap.size,1,none⟩=some (.slice a.p a.l a.c)/\x.cell? ⟨w.heap.size,2,none⟩=some (.bool a.m)/\x.cell? ⟨w.heap.size,3,none⟩=some (.slice a.p2 a.l2 a.c2)/\
      x.cell? ⟨w.heap.size+1,0,none⟩=some (.bool b.n)/\x.cell? ⟨w.heap.size+1,1,none⟩=some (.slice b.p b.l b.c)/\x.cell? ⟨w.heap.size+1,2,none⟩=some (.bool b.m)/\x.cell? ⟨w.heap.size+1,3,none⟩=some (.slice b.p2 b.l2 b.c2)from fun x h=>
    ⟨h.get (by simp),h.get (by simp),h.get (by simp),h.get (by simp),h.get (by simp),h.get (by simp),h.get (by simp),h.get (by simp)⟩)
  have HW:=zH (show Aa w ((w.alloc (.cells #[.bool a.n,.slice a.p a.l a.c,.bool a.m,.slice a.p2 a.l2 a.c2] 31)).alloc (.cells #[.bool b.n,.slice b.p b.l b.c,.bool b.m,.slice b.p2 b.l2 b.c2] 31))from(Ak.alloc _).alloc _);clear ha1 ha2 hb1 hb2;go_enter func9,ntmps9;go_wp2_with fail;generalize ((w.alloc (.cells #[.bool a.n,.slice a.p a.l a.c,.bool a.m,.slice a.p2 a.l2 a.c2] 31)).alloc (.cells #[.bool b.n,.slice b.p b.l b.c,.bool b.m,.slice b.p2 b.l2 b.c2] 31))=wa at*;have gl:=HG.1 _ Ak;go_wp2_with fail;refine(H1.1 _ HW.1).mono ?_;rintro e wx ⟨rfl,A0⟩;clear gl;have gl:=HG.1 _ A0;go_wp2_with fail
  refine(H2.1 _ (HW.1.trans A0)).mono ?_;rintro e wy ⟨rfl,A1⟩;go_wp2_with fail;go_ret;exact⟨rfl,HW.1.trans (A0.trans A1)⟩
theorem Ng (a b:RV)(q:Rat)(L:Nat)(w:World)(ha:a.Is w q)(hb:b.Is w q)(hq:Nm.rl q<=L)(hL:L<=1000000):
    Calls prog 9 #[(rg a),(rg b)] w fun e w'=>e= .returned τ/\Aa w w':=
  Qq a b q.num (q.den:Int) w ha.1 ha.2 hb.1 hb.2 (by have:=Nat.le_max_left (Nm.nl q.num.natAbs) (Nm.nl q.den);unfold Nm.rl at hq;omega) (by have:=Nat.le_max_right (Nm.nl q.num.natAbs) (Nm.nl q.den);unfold Nm.rl at hq;simp only[xM];omega)
theorem Bu.zero (w:World):Bu w false (.slice none 0 0) 0:=by
  refine⟨by decide,none,0,?_⟩;simp[Nm.digs];exact Nm.Dg.nil
theorem Za (w:World):Calls prog 9 #[.agg #[.bool false,.slice none 0 0,.bool false,.slice none 0 0],.agg #[.bool false,.slice none 0 0,.bool false,.slice none 0 0]] w fun e w'=>e= .returned τ/\Aa w w':=
  Qq ⟨false,none,0,0,false,none,0,0⟩ ⟨false,none,0,0,false,none,0,0⟩ 0 0 w (Bu.zero w) (Bu.zero w) (Bu.zero w) (Bu.zero w) (by simp[Nm.nl,Nm.digs]) (by simp[Nm.nl,Nm.digs])
theorem kU {w0 w:World}{m:List Dl}{i j X1 X2:Nat}(h:Hp w0 w m)(ps:List (Int×Int))(h1:m[i]?=some (.blk X1 24 (ps.flatMap fun p=>[iV p.1,iV p.2])))
  (h2:m[j]?=some (.blk X2 43 [.slice (π X1) ps.length ps.length])):Ch w (.slice (π X2) 1 1) [ps]:=by
 refine⟨_,1,rfl,fun _=>⟨X2,0,rfl,fun i r hr=> ?_⟩⟩;have hi:i=0:=by have:=(List.getElem?_eq_some_iff.1 hr).1;simp at this;omega
 subst hi;have A0:r=ps:=by simpa using hr.symm
 subst A0;refine⟨_,r.length,h.cell h2 0 rfl,⟨_,r.length,rfl,fun _=>⟨X1,0,rfl,fun i hi=> ?_⟩⟩⟩;have hp:r[i]?=some r[i]:=wC hi;have hg:r.getD i (0,0)=r[i]:=by simp[hi]
 rw[hg];have h3:=h.cell h1 (i*2+0) (Hw (f:=fun p:Int×Int=>([iV p.1,iV p.2]:List Value)) (fun _=>rfl) r i r[i] hp 0 _ rfl);have h4:=h.cell h1 (i*2+1) (Hw (f:=fun p:Int×Int=>([iV p.1,iV p.2]:List Value)) (fun _=>rfl) r i r[i] hp 1 _ rfl);rw[xO]at h3;rw[wH];exact⟨h3,h4⟩
theorem Zq (a b:Int)(w:World)(h1: -9223372036854775808<=a)(h2:a<=9223372036854775807)(h3: -9223372036854775808<=b)(h4:b<=9223372036854775807)(hb:b≠0):
    Calls prog 17 #[iV a,iV b] w fun e w'=>∃c,e= .returned (.tuple #[.agg c,iV 0])/\Mt w' c ((a:Rat)/(b:Rat))/\Aa w w':=by
  refine(Lm a b w h1 h2 h3 h4 hb).mono fun e w' h=> ?_
  obtain⟨c,rfl,h3,h4⟩:=Kj.v h;exact⟨_,rfl,⟨c,rfl,by rw[<-Rat.divInt_eq_div];exact h3⟩,h4⟩
def iW:List Bb:=[[(0,0),(256,0),(0,256)]]
theorem Yb:Gj iW<=24:=by decide
theorem qD:En 1 (An 0 0) (Hm 0 0) iW/((65536:Int):Rat)=((1:Int):Rat)/((2:Int):Rat):=by decide+kernel
theorem mJ:Yu 2 iW=((1:Int):Rat)/((2:Int):Rat):=by decide+kernel
theorem Ti (w:World):Calls prog 16 #[] w fun e w'=>∃g,e= .returned (.slice (π g) iW.length 1)/\Ch w' (.slice (π g) iW.length 1) iW/\Aa w w':=by
 go_enter func16,ntmps16;have H0:=zH (Hp.start w);go_upto_region 0 with fail;apply wl;refine Cy Af _ ?_;go_upto_region 1 with fail;apply wl;refine Cn Af _ _ _ ?_;apply fL 3 24 [iV 0,iV 0,iV 256,iV 0,iV 0,iV 256] H0.1;intro X5 w6 H7 _;apply fL 1 43 [.slice (π X5) 3 3] H7.1;intro X9 A1 A0 _;refine Cy Af _ ?_;go_wp2_with fail;go_ret;exact⟨_,rfl,kU A0.1 [(0,0),(256,0),(0,256)] (i:=0) (j:=1) (by rfl) (by rfl),A0.1.ext⟩
theorem Nf (w:World):Calls prog 6 #[] w fun e w'=>e= .returned τ/\Aa w w':=by
 go_enter func6,ntmps6;have H0:=zH (Hp.start w);go_upto_region 0 with fail;apply wl;apply zq φ;go_upto_region 1 with fail;apply wl;refine zc (Ti _) ?_;rintro e G8 ⟨D2,rfl,A0,hx⟩;have E8:=zH (H0.1.step hx);have A9:=zH A0;clear A0 hx;refine zn ?_;refine zc ((Vn (π D2) 1 iW 1 0 0 _ A9.1 dC (by intro r_ A0;simp[iW]at A0;subst A0;decide) Yb dC).mono (fun _ _ h_=>Jt.ok h_ dC)) ?_;rintro e G7 ⟨B9,rfl,A1,A6,hx⟩;have E7:=zH (E8.1.step hx);have D4:=zH (qD▸A1);clear A1 A6 hx;refine zn ?_;refine Cn Af _ _ _ ?_;refine Cd 31 rz E7.1 ?_;intro H3 G6 E6 F2;apply Ca 0 (rc B9) E6.1;intro G5 E5 F1;apply zq (iV 0);go_upto_region 2 with fail
 apply wl;refine zc (Ti _) ?_;rintro e G4 ⟨D1,rfl,A0,hx⟩;have E4:=zH (E5.1.step hx);have F0:=zH (Ah.of_ext hx);have A8:=zH A0;clear A0 hx;refine zn ?_;refine zc ((Us (π D1) 1 iW 2 _ A8.1 dC (by intro r_ A0;simp[iW]at A0;subst A0;decide) Yb dC).mono (fun _ _ h_=>Jt.ok h_ dC)) ?_;rintro e G3 ⟨B8,rfl,A1,A6,hx⟩;have E3:=zH (E4.1.step hx);have E9:=zH (Ah.of_ext hx);have D3:=zH (mJ▸A1);clear A1 A6 hx;refine zn ?_;refine Cn Af _ _ _ ?_;refine Cd 31 rz E3.1 ?_;intro H2 G2 E2 C6;apply Ca 1 (rc B8) E2.1;intro G1 E1 C5;apply zq (iV 0);go_upto_region 3 with fail
 apply wl;refine zc (Zq 1 2 _ dC dC dC dC dC) ?_;rintro e G0 ⟨c_,rfl,C9,hx⟩;have E0:=zH (E1.1.step hx);have C4:=zH (Ah.of_ext hx);obtain⟨A5,rfl,A0⟩:=C9;have C0:=zH A0;have C7:=zH (show Nm.rl (((1:Int):Rat)/((2:Int):Rat))<=8 from by decide+kernel);clear A0 hx;refine zn ?_;refine Cn Af _ _ _ ?_;refine Cd 31 rz E0.1 ?_;intro H1 F9 D9 B7;apply Ca 2 (rc A5) D9.1;intro F8 D8 B6;apply zq (iV 0);go_upto_region 4 with fail
 apply wl;refine zc (Ti _) ?_;rintro e F7 ⟨D0,rfl,A0,hx⟩;have D7:=zH (D8.1.step hx);have B5:=zH (Ah.of_ext hx);have A7:=zH A0;clear A0 hx;refine zn ?_;refine Bq Af _ _ ?_;refine zc ((Ka (π D0) 1 iW 3 (0,0) (0,0) _ A7.1 dC (by intro r_ A0;simp[iW]at A0;subst A0;decide) Yb dC).mono (fun _ _ h_=>Jt.bad h_ dC)) ?_;rintro e F6 ⟨rfl,hx⟩;have D6:=zH (D7.1.step hx);have B4:=zH (Ah.of_ext hx);clear hx;refine⟨.tuple #[.agg z4,iV 2],by rw[show Cp 3 (0,0) (0,0) iW=2 by decide],?_⟩;try simp only[ζ]
 refine Cn Af _ _ _ ?_;refine Cd 31 rz D6.1 ?_;intro G9 F5 D5 B3;refine Ca 3 rz D5.1 ?_;intro F4 C2 B2;apply zq (iV 2);go_upto_region 5 with fail;apply wl;apply zq (iV 0);apply zp τ (by exact Kf (e:=(Aq ω)));refine Cn C2.1 τ _ _ ?_;have B1:=tD (tD (tD (tD (tD (tD (tD (tD (tD (tD (tD (tD F2 F1) F0) E9) C6) C5) C4) B7) B6) B5) B4) B3) B2;have A2:=tD (tD (tD (tD (tD B7 B6) B5) B4) B3) B2;refine aC C2.1 (Ng B9 A5 (((1:Int):Rat)/((2:Int):Rat)) 60000 _ (D4.1.dig B1.1) (C0.1.dig A2.1) (Aw C7.1 ω) dC) ?_;intro F3 C1 C3;refine Cn Af τ τ _ ?_;apply zp τ (by exact Kf (e:=(Aq ω)));refine Ek C1.1 τ τ _ _ ?_;have A4:=tD (tD (tD (tD (tD (tD (tD (tD (tD C6 C5) C4) B7) B6) B5) B4) B3) B2) C3;have A3:=tD A2 C3;refine aC C1.1 (Ng B8 A5 (((1:Int):Rat)/((2:Int):Rat)) 60000 _ (D3.1.dig A4.1) (C0.1.dig A3.1) (Aw C7.1 ω) dC) ?_;intro C8 B0 _;refine Cn Af τ τ _ ?_;apply zp τ (by exact Kf (e:=(Aq ω)));apply qV τ;apply zq τ;go_wp2_with fail
 go_ret;exact⟨rfl,B0.1.ext⟩
def Gh (rs:List Bb):Bool:=decide (rs.length<=5)&&decide (Gj rs<=24)
def Yo (rs:List Bb)(k:Nat):Nat:=((rs.take k).map fun r=>min r.length 25).sum
theorem lW {rs:List Bb}{k:Nat}{r:Bb}(h:rs[k]?=some r):Yo rs (k+1)=Yo rs k+min r.length 25:=by
  unfold Yo;rw[List.take_add_one,h,xI,List.sum_append];simp
theorem lX (rs:List Bb)(k:Nat):Yo rs k<=Gj (rs.take k):=by
  unfold Yo;generalize rs.take k=l;rw[<-Lt,List.length_flatten];induction l with
  |nil=>simp
  |cons r l ih=>rw[List.map_cons,List.map_cons,List.sum_cons,List.sum_cons];omega
theorem pK {rs:List Bb}(h:Yo rs rs.length<=24):Gj rs<=24:=by
  unfold Yo at h;rw[xK]at h;rw[<-Lt,List.length_flatten];have key:∀l:List Bb,(l.map fun r=>min r.length 25).sum<=24->(l.map List.length).sum=(l.map fun r=>min r.length 25).sum:=by
    intro l;induction l with
    |nil=>intro _;rfl
    | cons r l ih=>
      intro h;rw[List.map_cons,List.sum_cons]at h;have:=ih ω;rw[List.map_cons,List.map_cons,List.sum_cons,List.sum_cons,this];omega
  rw[key rs h];exact h
theorem Qc {rs:List Bb}(h:Gh rs=true):rs.length<=5/\Gj rs<=24/\∀r,r∈rs->r.length<=24:=by
  unfold Gh at h;simp only[xA,decide_eq_true_eq]at h;refine⟨h.1,h.2,fun r hr=> ?_⟩;obtain⟨k,hk⟩:=List.mem_iff_getElem?.1 hr;have h1:=Fo hk;have h2:=Fe rs (k+1);omega
theorem Vy (A:Option Addr)(cap:Nat)(rs:List Bb)(b:Bool)(w:World)(hu:Ch w (.slice A rs.length cap) rs)(hn:rs.length<=maxLen)(hr:∀r,r∈rs->r.length<=maxLen)(hb:Gh rs=b):
  Calls prog 5 #[.slice A rs.length cap] w fun e w'=>e= .returned (.bool b)/\Aa w w':=by
 subst hb;have HU:=zH hu;have HR:=zH hr;have C5:rs.length<=9223372036854775807:=by unfold maxLen at hn;omega
 clear hu hr hn;go_enter func5,ntmps5;have H0:=zH (Hp.start w);go_upto_region 0 with fail;apply wl;apply zq φ;go_upto_region 1 with fail;apply wl;apply zq (iV 0);go_upto_region 2 with fail;apply wl;apply zq (iV 0);go_wp2_with fail;go_loopg [3,4] (rs.length) (fun cq B4 B3 wr=>∃(k:Nat),cq=rs.length-k/\B4= iV ((Yo rs k:Nat):Int)/\B3= iV (k:Int)/\(k<=rs.length)/\Hp w wr []/\Ah w wr)
 case atStart=>exact⟨0,rfl,rfl,rfl,wM _,H0.1,Ah.refl _⟩
 obtain⟨k,rfl,rfl,rfl,A1,A8,A9⟩:=hrel;generalize wr=C2 at*;have C1:=zH A1;clear A1;have A0:=zH A8;have C9:=zH A9;clear A8 A9;rcases Ck (k<rs.length)with HLT|HLT
 ·rcases Ck (Yo rs k<=24)with HSM|HSM
  ·have A4:=HLT.1
   have A5:=HSM.1;obtain⟨r,A3⟩:∃r,rs[k]?=some r:=⟨_,wC A4⟩;have B2:=zH A3;obtain⟨g,A2,rfl,A7⟩:∃g A2,A=some ⟨g,A2,none⟩/\∀i r,rs[i]?=some r->∃B cb,World.cell? w ⟨g,A2+i,none⟩=some (.slice B r.length cb)/\Gs w (.slice B r.length cb) r:=by obtain⟨A_,C7,B5,B9⟩:=HU.1;injection B5 with e1_ e2_ e3_;subst e1_;obtain⟨g_,A6,e_,h_⟩:=B9 ω;exact⟨g_,A6,e_,h_⟩
   obtain⟨B,cb,B1,B0⟩:=A7 k r A3;have C0:=zH B1;have C8:=zH B0;clear A3 A7 B1 B0;have B7:=lW B2.1;have C4:r.length<=9223372036854775807:=by have h_:=HR.1 r (wE B2.1);unfold maxLen at h_;omega
   go_upto_region 3 with fail;apply wl;refine Cn Af (iV (k:Int)) _ (iV ((rs.length:Nat):Int)) ?_;apply zp τ (by exact Dp (e:=(Aq ω)));refine Bq Af τ (iV ((Yo rs k:Nat):Int)) ?_;apply zp τ (by exact Yp (e:=(Aq ω)));apply zq τ;go_upto_region 5 with fail;apply wl;refine Cn Af (iV ((Yo rs k:Nat):Int)) _ (iV (k:Int)) ?_;apply zp (.pointer (some ⟨g,A2+k,none⟩)) (by exact Eh (k:=k) underlying22 (l:=A4) (f:=(show A2+k=A2+k*1 by omega)));refine ze g (A2+k) (.slice B r.length cb) (Dr (A0.1.ext.get C0.1)) ?_;refine Bq Af (iV ((r.length:Nat):Int)) (iV (min ((r.length:Nat):Int) 25)) ?_;apply zp (iV (((Yo rs k:Nat):Int)+(min ((r.length:Nat):Int) 25))) (by exact Hr ω);apply zq (iV (((Yo rs k:Nat):Int)+(min ((r.length:Nat):Int) 25)));go_upto_region 4 with fail;apply wl;apply zq (iV (k:Int));apply zp (iV ((k+1:Nat):Int)) (by exact Hr ω);apply zq (iV ((k+1:Nat):Int));go_wp2_with fail;go_roundg (rs.length-(k+1))
   case measure=>exact(ω)
   case rel=>exact⟨k+1,rfl,(by rw[B7];congr 1;omega),(by go_num),A4,A0.1,A0.1.dig0⟩
  have A4:=HLT.1;have A5:=HSM.1;have B8:=lX rs k;have B6:=Fe rs k;go_upto_region 3 with fail
  apply wl;refine Cn Af (iV (k:Int)) _ (iV ((rs.length:Nat):Int)) ?_;apply zp τ (by exact Dp (e:=(Aq ω)));refine Bq Af τ (iV ((Yo rs k:Nat):Int)) ?_;apply zp φ (by exact Yp (e:=(Aj ω)));apply zq φ;rcases Ck (rs.length<=5)with H5|H5
  ·have h5:=H5.1
   go_upto_region 6 with fail;apply wl;refine Bq Af _ (iV ((rs.length:Nat):Int)) ?_;apply zp τ (by exact Yp (e:=(Aq ω)));refine Bq Af τ (iV ((Yo rs k:Nat):Int)) ?_;apply zp φ (by exact Yp (e:=(Aj ω)));refine Bq Af φ φ ?_;go_wp2_with fail;go_ret;exact⟨by rw[show Gh rs=false from by unfold Gh;simp;omega]<;>rfl,A0.1.ext⟩
  have h5:=H5.1;go_upto_region 6 with fail;apply wl;refine Bq Af _ (iV ((rs.length:Nat):Int)) ?_;apply zp φ (by exact Yp (e:=(Aj ω)));refine Ql Af φ _ _ φ φ ?_;go_wp2_with fail;go_ret;exact⟨by rw[show Gh rs=false from by unfold Gh;simp;omega]<;>rfl,A0.1.ext⟩
 have A4:=HLT.1;have C6:=C1.1;obtain rfl:k=rs.length:=ω
 go_upto_region 3 with fail;apply wl;refine Cn Af (iV ((rs.length:Nat):Int)) _ (iV ((rs.length:Nat):Int)) ?_;apply zp φ (by exact Dp (e:=(Aj (Int.lt_irrefl _))));refine Ek Af φ _ _ φ ?_;rcases Ck (Yo rs rs.length<=24)with HSM|HSM
 ·have A5:=HSM.1
  have C3:=pK A5;rcases Ck (rs.length<=5)with H5|H5
  ·have h5:=H5.1
   go_upto_region 6 with fail;apply wl;refine Bq Af _ (iV ((rs.length:Nat):Int)) ?_;apply zp τ (by exact Yp (e:=(Aq ω)));refine Bq Af τ (iV ((Yo rs rs.length:Nat):Int)) ?_;apply zp τ (by exact Yp (e:=(Aq ω)));refine Bq Af τ τ ?_;go_wp2_with fail;go_ret;exact⟨by rw[show Gh rs=true from by unfold Gh;simp;omega]<;>rfl,A0.1.ext⟩
  have h5:=H5.1;go_upto_region 6 with fail;apply wl;refine Bq Af _ (iV ((rs.length:Nat):Int)) ?_;apply zp φ (by exact Yp (e:=(Aj ω)));refine Ql Af φ _ _ φ φ ?_;go_wp2_with fail;go_ret;exact⟨by rw[show Gh rs=false from by unfold Gh;simp;omega]<;>rfl,A0.1.ext⟩
 have A5:=HSM.1;have B8:=lX rs rs.length;have B6:=Fe rs rs.length;rcases Ck (rs.length<=5)with H5|H5
 ·have h5:=H5.1
  go_upto_region 6 with fail;apply wl;refine Bq Af _ (iV ((rs.length:Nat):Int)) ?_;apply zp τ (by exact Yp (e:=(Aq ω)));refine Bq Af τ (iV ((Yo rs rs.length:Nat):Int)) ?_;apply zp φ (by exact Yp (e:=(Aj ω)));refine Bq Af φ φ ?_;go_wp2_with fail;go_ret;exact⟨by rw[show Gh rs=false from by unfold Gh;simp;omega]<;>rfl,A0.1.ext⟩
 have h5:=H5.1;go_upto_region 6 with fail;apply wl;refine Bq Af _ (iV ((rs.length:Nat):Int)) ?_;apply zp φ (by exact Yp (e:=(Aj ω)));refine Ql Af φ _ _ φ φ ?_;go_wp2_with fail;go_ret;exact⟨by rw[show Gh rs=false from by unfold Gh;simp;omega]<;>rfl,A0.1.ext⟩
end
section
open Go.ChangeShapes Go.WideShapes Go.ChangeAt Go.RowKit
theorem own:ownKnob prog.godebug=none:=by kernel_rfl
theorem eY:laidOutB prog=true:=by kernel_rfl
theorem Wq:prog.cellsOf 3=1:=by kernel_rfl
theorem Ua:prog.cellsOf 24=2:=by kernel_rfl
section
variable {H:Type} {enc:TypeId×Value->H} {w:World} {base:Nat} {spare:Nat->Bool} {held:Bool}
theorem oQ {fuel:Nat}{cs:List Value}{x:DataW H×List MemPlace}(h:DataW.trod enc prog w base spare held fuel 24 cs=some x):∃a:Int×Int,cs=[.int .i64 a.1,.int .i64 a.2]:=by
  obtain⟨y0,y1,n,_,hl,h0,h1⟩:=trod_struct2 underlying24 h;rw[Ua]at hl;rw[Wq]at h0 h1;obtain⟨a,e0,_,_⟩:=DataW.trod_int underlying3 h0;obtain⟨b,e1,_,_⟩:=DataW.trod_int underlying3 h1;match cs,hl with
  | [u,v],_=>
    simp at e0 e1;exact⟨(a,b),by rw[e0,e1]⟩
end
section
variable {H:Type} {enc:TypeId×Value->H} {P:Program} {w:World} {base:Nat} {spare:Nat->Bool} {held:Bool}
theorem Sc {t e:TypeId}{fuel:Nat}{cs:List Value}{x:DataW H×List MemPlace}(ht:P.underlying t=some (.slice e))(hs:0<P.cellsOf e)(h:DataW.trod enc P w base spare held fuel t cs=some x):
    ∃ A len cap,cs=[.slice A len cap]/\len<=cap/\cap<=maxLen/\(0<len->∃g off,A=some ⟨g,off,none⟩/\∀i,i<len->∃(cs':List Value) (n:Nat) (y:DataW H×List MemPlace),cs'.length=P.cellsOf e/\
      (∀j u,cs'[j]?=some u->w.cell? ⟨g,off+i*P.cellsOf e+j,none⟩=some u)/\DataW.trod enc P w base spare held n e cs'=some y):=by
  rcases Deep.open_slice ht h with⟨rfl,_⟩|⟨a,len,cap,m,n,D,Pl,rfl,hb,hl,hm,hmm,_,hx⟩
  · exact⟨none,0,0,rfl,Bz _,wM _,fun h0=>absurd h0 ω⟩
  refine⟨some a,len,cap,rfl,hl,hm,fun h0=> ?_⟩;have A5:len<=m:=by rw[hmm];split<;>omega
  have A2:a.spot=none:=by
    obtain⟨cs',h1,h2⟩:=hx 0 ω;obtain⟨_,A1,A0⟩:=World.cells?_some h1;have g0:=A0 0 hs;cases hq:a.spot with
    |none=>rfl
    | some s=>
      exfalso;obtain⟨c0,A4⟩:∃c0,cs'[0]?=some c0:=by
        cases cs' with
        |nil=>simp at A1;omega
        |cons c _=>exact⟨c,rfl⟩
      rw[A4]at g0;have e:((a.add (0*P.cellsOf e)).add 0).spot=some s:=by simp[Addr.add,hq]
      unfold World.cell? at g0;rw[e]at g0;revert g0
      split<;>simp
  obtain⟨g,off,sp⟩:=a;obtain rfl:sp=none:=A2;refine⟨g,off,rfl,fun i hi=> ?_⟩;obtain⟨cs',h1,h2⟩:=hx i ω;obtain⟨_,A1,A0⟩:=World.cells?_some h1;refine⟨cs',n,_,A1,fun j u hj=> ?_,h2⟩;have A3:j<P.cellsOf e:=by
    have:=(List.getElem?_eq_some_iff.1 hj).1;omega
  have g1:=A0 j A3;rw[hj]at g1;have e:((⟨g,off,none⟩:Addr).add (i*P.cellsOf e)).add j=⟨g,off+i*P.cellsOf e+j,none⟩:=by
    rw[Deep.add_add];unfold Addr.add;by_cases hz:i*P.cellsOf e+j=0
    · rw[if_pos hz]
      congr 1;omega
    rw[if_neg hz];congr 1;show off+(i*P.cellsOf e+j)=off+i*P.cellsOf e+j;omega
  rw[e]at g1;exact g1
end
theorem eT {α:Type}[Inhabited α](n:Nat)(p:Nat->α->Prop)(h:∀i,i<n->∃x,p i x):∃l:List α,l.length=n/\∀i (d:α),i<n->p i (l.getD i d):=by
  obtain⟨f,hf⟩:=Deep.choose_lt (p:=p) h;refine⟨(List.range n).map f,by simp,fun i d hi=> ?_⟩;have e:((List.range n).map f).getD i d=f i:=by simp[List.getD,hi]
  rw[e];exact hf i hi
section
variable {H:Type} {enc:TypeId×Value->H} {w:World} {base:Nat} {held:Bool}
end
theorem Sx {P:Program}{w:World}{r:Reach}{base:Nat}{t:TypeId}{fs:Array Field}{v:Value}(ht:P.underlying t=some (.struct fs))(h:Value.okWide P w r base t v):∃cs,v= .agg cs/\cs.size=P.cellsOf t:=by
  simp only[Value.okWide,ht]at h;obtain⟨cs,h1,h2,_⟩:=h;exact⟨cs,h1,h2⟩
theorem Qz:prog.cellsOf 43=1:=by kernel_rfl
instance:Inhabited RV:=⟨⟨false,none,0,0,false,none,0,0⟩⟩
section
variable {H:Type} {enc:TypeId×Value->H} {w:World} {base:Nat} {held:Bool}
theorem cI {fuel:Nat}{cs:List Value}{x:DataW H×List MemPlace}(h:DataW.trod enc prog w base (fun _=>true) held fuel 43 cs=some x):
  ∃(A:Option Addr) (l:Bb) (cap:Nat),cs=[.slice A l.length cap]/\l.length<=maxLen/\Gs w (.slice A l.length cap) l:=by
 obtain⟨A,A0,cap,rfl,hl,hm,hx⟩:=Sc underlying43 (by rw[Ua];decide) h;by_cases h0:0<A0
 ·obtain⟨g,A1,rfl,A2⟩:=hx h0
  rw[Ua]at A2;obtain⟨l,rfl,A3⟩:=eT (α:=Int×Int) A0 (fun i s=>∀j u,[Value.int .i64 s.1,.int .i64 s.2][j]?=some u->w.cell? ⟨g,A1+i*2+j,none⟩=some u) (fun i hi=>by
   obtain⟨A4,n,y,_,h2,h3⟩:=A2 i hi;obtain⟨s,rfl⟩:=oQ h3;exact⟨s,h2⟩)
  refine⟨_,l,cap,rfl,ω,_,cap,rfl,fun _=>⟨g,A1,rfl,fun i hi=> ?_⟩⟩;have h:=A3 i (0,0) hi;exact⟨h 0 _ rfl,h 1 _ rfl⟩
 obtain rfl:A0=0:=ω;exact⟨A,[],cap,rfl,wM _,A,cap,rfl,fun hn=>absurd rfl hn⟩
theorem Zi {fuel:Nat}{cs:List Value}{x:DataW H×List MemPlace}(h:DataW.trod enc prog w base (fun _=>true) held fuel 22 cs=some x):
  ∃(A:Option Addr) (l:List Bb) (cap:Nat),cs=[.slice A l.length cap]/\l.length<=maxLen/\Ch w (.slice A l.length cap) l/\∀r,r∈l->r.length<=maxLen:=by
 obtain⟨A,A0,cap,rfl,hl,hm,hx⟩:=Sc underlying22 (by rw[Qz];decide) h;by_cases h0:0<A0
 ·obtain⟨g,A1,rfl,A2⟩:=hx h0
  rw[Qz]at A2;obtain⟨l,rfl,A3⟩:=eT (α:=Bb) A0 (fun i r=>(∃B cb,w.cell? ⟨g,A1+i,none⟩=some (.slice B r.length cb)/\Gs w (.slice B r.length cb) r)/\r.length<=maxLen) (fun i hi=>by
   obtain⟨A4,n,y,_,h2,h3⟩:=A2 i hi;obtain⟨B,r,cb,rfl,hr,hp⟩:=cI h3;have:=h2 0 _ rfl;simp only[xR,xO]at this;exact⟨r,⟨B,cb,this,hp⟩,hr⟩)
  refine⟨_,l,cap,rfl,ω,⟨_,cap,rfl,fun _=>⟨g,A1,rfl,fun i x hx=> ?_⟩⟩,fun x hx=> ?_⟩
  ·have h:=(A3 i [] (List.getElem?_eq_some_iff.1 hx).1).1
   rw[wF,hx]at h;exact h
  obtain⟨i,hi⟩:=List.mem_iff_getElem?.1 hx;have h:=(A3 i [] (List.getElem?_eq_some_iff.1 hi).1).2;rw[wF,hi]at h;exact h
 obtain rfl:A0=0:=ω;exact⟨A,[],cap,rfl,wM _,⟨A,cap,rfl,fun hn=>absurd hn (by simp)⟩,fun x hx=>by simp at hx⟩
end
end
section
attribute [local go_sem ↓] Go.wp_at_zero Go.wp_at_succ Az Ay
theorem uU:Stb.Wk Rd:=uC fun e:Cg=>e.vl
theorem rV {es:List Cg}(h:Stb.Srt Ym (es.map Cg.vl)):Stb.Srt Rd es:=by
  unfold Stb.Srt at h⊢;rw[List.pairwise_map]at h;exact h
theorem aX (rs:List Bb):(Ab rs).length<=4096:=by
  unfold Ab;refine Aw (Es _) ?_;split
  · rename_i h;exact Fc h
  decide
theorem dE (rs:List Bb):∀e,e∈Ab rs->vG e:=by
  unfold Ab;split
  · rename_i h;exact Ts h
  intro e he;simp[Cc]at he
theorem Vw (y:Rat)(rs:List Bb):Fu y rs=Stb.stab Ym ((Ab rs).filterMap (Ei y)):=rfl
theorem mY {y:Rat}{l:List Df}{i:Nat}{e:Df}{z:QI}(h:l[i]?=some e)(hc:Ei y e=some z):Stb.stab Ym ((l.take (i+1)).filterMap (Ei y))=Stb.ins Ym (Stb.stab Ym ((l.take i).filterMap (Ei y))) z:=by
  rw[List.take_add_one,h,List.filterMap_append,show(some e).toList=[e]from rfl,List.filterMap_cons,hc,List.filterMap_nil,Stb.stab_snoc]
theorem mZ {y:Rat}{l:List Df}{i:Nat}{e:Df}(h:l[i]?=some e)(hc:Ei y e=none):Stb.stab Ym ((l.take (i+1)).filterMap (Ei y))=Stb.stab Ym ((l.take i).filterMap (Ei y)):=by
  rw[List.take_add_one,h,List.filterMap_append,show(some e).toList=[e]from rfl,List.filterMap_cons,hc,List.filterMap_nil,xD]
theorem sS {α:Type}{es:List α}{y:α}{q:Nat}(hq:q<es.length):(es.take (q+1)++y::es.drop (q+1))[q]?=some es[q]/\(es.take (q+1)++y::es.drop (q+1))[q+1]?=some y/\
  ((es.take (q+1)++y::es.drop (q+1)).set (q+1) es[q]).set q y=es.take q++y::es.drop q/\∀z,z∈es.drop q->z=es[q]\/z∈es.drop (q+1):=by
 have g1:(es.take (q+1)++y::es.drop (q+1))[q]?=some es[q]:=by
  rw[wQ (by rw[wK];omega),List.getElem?_take,if_pos ω];exact wC hq
 have g2:(es.take (q+1)++y::es.drop (q+1))[q+1]?=some y:=by
  rw[wJ (by rw[wK];omega),wK,show q+1-min (q+1) es.length=0 by omega];rfl
 refine⟨g1,g2,?_,fun z hz=> ?_⟩
 ·rw[<-Lh g2 g1]
  have h:=Me [] es [] y q hq;simp only[wT,xD,List.length_nil,wH]at h;exact h
 rw[List.drop_eq_getElem_cons hq]at hz;exact List.mem_cons.1 hz
def tY (y:Rat)(ax ay bx bY:Int)(w:Int):Prop:=(w=0/\Ei y ((ax,ay),(bx,bY))=none)\/((w=1\/w= -1)/\Ei y ((ax,ay),(bx,bY))=some (Ia ax ay bx bY y,w)/\((((ay:Int):Rat)<y/\y<((bY:Int):Rat))\/(((bY:Int):Rat)<y/\y<((ay:Int):Rat))))
theorem rO {y:Rat}{ax ay bx bY w:Int}(h:tY y ax ay bx bY w): -1<=w/\w<=1:=by
  rcases h with h|h
  · have:=h.1;omega
  have:=h.1;omega
theorem rM {y:Rat}{ax ay bx bY w:Int}(h:tY y ax ay bx bY w)(h0:w=0):Ei y ((ax,ay),(bx,bY))=none:=by
  rcases h with h|h
  · exact h.2
  have:=h.1;omega
theorem jR {y:Rat}{ax ay bx bY w:Int}(h:tY y ax ay bx bY w)(h0:¬w=0):Ei y ((ax,ay),(bx,bY))=some (Ia ax ay bx bY y,w)/\((((ay:Int):Rat)<y/\y<((bY:Int):Rat))\/(((bY:Int):Rat)<y/\y<((ay:Int):Rat))):=by
  rcases h with h|h
  · exact absurd h.1 h0
  exact h.2
theorem rN {y:Rat}{ax ay bx bY:Int}(h:true=decide (((bY:Int):Rat)<y/\y<((ay:Int):Rat))):tY y ax ay bx bY (-1):=by
  have k:=of_decide_eq_true h.symm;exact .inr ⟨.inr rfl,Tw (a:=(ax,ay)) (b:=(bx,bY)) k,.inr k⟩
theorem rL {y:Rat}{ax ay bx bY w:Int}{b:Bool}(h:w=if b=true then 1 else 0)(h1:b=decide (((ay:Int):Rat)<y/\y<((bY:Int):Rat)))(h2:false=decide (((bY:Int):Rat)<y/\y<((ay:Int):Rat))):tY y ax ay bx bY w:=by
  have k:=of_decide_eq_false h2.symm;cases b
  · have k1:=of_decide_eq_false h1.symm
    exact .inl ⟨h,bC (a:=(ax,ay)) (b:=(bx,bY)) k1 k⟩
  have k1:=of_decide_eq_true h1.symm;have h3:w=1:=h;subst h3;exact .inr ⟨.inl rfl,bB (a:=(ax,ay)) (b:=(bx,bY)) k1,.inl k1⟩
theorem Sr (L:Nat)(u:Value)(rs:List Bb)(ry:RV)(y:Rat)(w:World)(hu:Ch w u rs)(hy:ry.In L w y)(h1L:1<=L)(hL:L<=2000)(hn:rs.length<=1048576)(hr:∀r,r∈rs->r.length<=1048576):
  Calls prog 117 #[u,(rg ry)] w (Uh L rs y w):=by
 have HU:=zH hu;have HN:=zH hn;have HR:=zH hr;have RY:=zH hy;clear hu hn hr hy;go_enter func117,ntmps117
 have H0:=zH (Hp.start w);go_upto_region 0 with fail;apply wl;apply Cd 31 (rc ry) H0.1;intro X1 w2 H3 _;refine Bq Af _ _ ?_;go_upto_region 1 with fail;apply wl;refine zp (w':=w2.alloc (.cells #[] 31)) (.slice (π w2.heap.size) 0 0) (by go_simp) ?_;have hh:=H3.1.addEmpty 31 4;have hd:=Ah.of_ext ((Aa.refl w2).alloc (.cells #[] 31));generalize w2.alloc (.cells #[] 31)=w8 at hh hd⊢
 generalize w2.heap.size=X9 at hh⊢;have b6:=hN hh;clear hh hd;refine Cy Af _ ?_;go_upto_region 2 with fail;apply wl;refine zp (w':=w8.alloc (.cells #[] 3)) (.slice (π w8.heap.size) 0 0) (by go_simp) ?_;have hh:=b6.1.addEmpty 3 1;have hd:=Ah.of_ext ((Aa.refl w8).alloc (.cells #[] 3));generalize w8.alloc (.cells #[] 3)=c7 at hh hd⊢
 generalize w8.heap.size=P9 at hh⊢;have O2:=hN hh;clear hh hd;refine Cy Af _ ?_;rcases Ck (Hh rs=true)with HV|HV
 ·go_upto_region 3 with fail
  apply wl;refine qV (u) ?_;refine zc (Ct _ rs _ (HU.1.ext O2.1.ext) HN.1 HR.1) ?_;rintro e c6 ⟨rfl,hx⟩;have V6:=zH (O2.1.step hx);clear hx;refine⟨.bool true,by rw[HV.1],?_⟩;try simp only[ζ]
  apply zq φ;go_upto_region 5 with fail;apply wl;refine qV (u) ?_;refine zc (Sp u rs _ (HU.1.ext V6.1.ext) HN.1 HR.1) ?_;rintro e U0 ⟨Ae,c9,ce,rfl,rfl,C5,hx⟩;obtain⟨T8,Z1,U1,U8⟩:=Bi.form C5;obtain rfl:Ae=T8:=by injection U1
  have a5:=zH U8;clear U8 U1;have V5:=zH (show Hp w U0 [.blk X1 31 (rc ry),ro 31 4 (π X9) 0 0 Cg.cx ([]),ro 3 1 (π P9) 0 0 Cg.cu ([]),ro 92 4 Ae ((Ab rs).length) ce Jb (Ab rs)]from V6.1.addRow hx C5);clear C5 hx;refine zn ?_;refine Cy Af _ ?_;have Q5:=zH (aX rs);go_upto_region 6 with fail
  apply wl;apply zq (iV 0);go_wp2_with fail;go_loopg [6,7,9] ((Ab rs).length) (fun cq Y6 Y5 Y4 wr=>∃(i:Nat) (m:Nat) (es:List Cg) (A1:Option Addr) (c1:Nat) (A2:Option Addr) (c2:Nat),cq=((Ab rs).length)-i/\Y6= .slice A1 m c1/\Y5= .slice A2 m c2/\Y4= iV (i:Int)/\(i<=(Ab rs).length)/\(m=es.length/\m<=i)/\(es.map Cg.vl=Stb.stab Ym (((Ab rs).take i).filterMap (Ei y)))/\(∀e,e∈es->e.Ok (L+8) wr)/\Hp w wr [.blk X1 31 (rc ry),.row 31 4 (.slice A1 m c1) (m) (List.flatMap Cg.cx es),.row 3 1 (.slice A2 m c2) (m) (List.flatMap Cg.cu es),.row 92 4 (.slice Ae ((Ab rs).length) ce) ((Ab rs).length) (List.flatMap Jb (Ab rs))]/\Ah U0 wr)
  case atStart=>exact⟨0,0,[],some ⟨X9,0,none⟩,0,some ⟨P9,0,none⟩,0,rfl,rfl,rfl,rfl,wM _,⟨rfl,Bz _⟩,rfl,(by simp),V5.1,Ah.refl _⟩
  obtain⟨i,m,es,A1,c1,A2,c2,rfl,rfl,rfl,rfl,F3,H2,F0,F2,B5,B6⟩:=hrel;generalize wr=N5 at*;have a4:=zH F3;clear F3;have HM:=zH H2;clear H2;have N8:=zH F0;clear F0;have Q4:=zH F2;clear F2;have G7:=zH B5;have T0:=zH B6;clear B5 B6 V5;rcases Ck (i<(Ab rs).length)with HLT|HLT
  ·have F8:=HLT.1
   have Z0:(i:Int)<((Ab rs).length:Int):=ω;have d3:i<4096:=by have h_:=Q5.1;omega
   obtain⟨ge,rfl⟩:=a5.1 ω;obtain⟨⟨⟨ax,ay⟩,⟨bx,bY⟩⟩,P4⟩:∃e,(Ab rs)[i]?=some e:=⟨_,wC F8⟩;have HE:=zH P4;have V4:=zH (dE rs _ (wE P4));have O1:=zH V4.1.1;have O0:=zH V4.1.2;clear P4;dsimp only at O1 O0
   have a2:=zH (show(-1048576<=ay/\ay<=1048576)/\(-1048576<=bY/\bY<=1048576)by have h1:=O1.1;have h2:=O0.1;unfold Cm at h1 h2;simp only[xA,decide_eq_true_eq]at h1 h2;omega);have Y9:=a2.1;have Y8:=Q5.1;have Y7:=HM.1.2;go_upto_region 9 with fail
   refine zy ?_;have b5:=zH (G7.1.step (Aa.refl N5).drew);have L8:=zH (Ah.of_ext (w:=N5) zb);refine Jv Af zb (bs 14 3) 0 1 _ (iV (i:Int)) ?_;refine zu 2 (bs 14 7) (v:= .pointer (some ⟨ge,i*4,none⟩)) zb ?_ (hv:=by intro w B4;exact Eh (k:=i) underlying85 (l:=F8) (f:=(wH _).symm));refine Rt Af zb (bs 14 15) 3 _ ?_;refine zg 4 (bs 14 31) ge (i*4) [iV ax,iV ay] (Dc (G7.1.elem (f:=Jb) (i:=3) rR Hb HE.1) 0 2) underlying24 zb ?_;refine Jv Af zb (bs 14 127) 5 6 _ (iV (i:Int)) ?_;refine zu 7 (bs 14 255) (v:= .pointer (some ⟨ge,i*4,none⟩)) zb ?_ (hv:=by intro w B4;exact Eh (k:=i) underlying85 (l:=F8) (f:=(wH _).symm));refine mX 8 (bs 14 511) (.pointer (some ⟨ge,i*4+2,none⟩)) zb ?_;refine zg 9 (bs 14 1023) ge (i*4+2) [iV bx,iV bY] (Dc (G7.1.elem (f:=Jb) (i:=3) rR Hb HE.1) 2 2) underlying24 zb ?_;refine Mk (i:=10) (j:=11) (T:=24) (U:=24) (zs:=[iV 0,iV 0]) (us:=[iV 0,iV 0]) (li:=(bs 14 2047)) (lj:=(bs 14 3071)) (lij:=(bs 14 4095)) rR rR kR kR kR kR kR kR kR rR rR dC (by intro r_ x_;go_simp) (by intro r_ x_;go_simp) (fun x y h1 h2=>h1.trans h2) zb b5.1 (by simp[Ar]) (by simp[Ar]) ?_;intro D3 D2 T9 hh hx H4 U6 hs;have b4:=hN hh;have L7:=zH (show Ah N5.drew T9 from Ah.of_ext hx);have Z6:=zH (show Aa N5 T9 from hs);have c0:=zH (Aw zb.size H4);have b9:=zH (Aw zb.size U6);clear hh hx H4 U6 hs;try simp only[ζ]
   refine bS 4 12 (bs 14 8191) [iV ax,iV ay] b4.1 Z6.1 c0.1 ?_;intro c5 b3 L6 Z5;refine bS 5 13 (bs 14 16383) [iV bx,iV bY] b3.1 Z5.1 b9.1 ?_;intro F5 Q6 L5 d5;refine wpAnyH_done kR ?_ _;go_upto_region 10 with fail;refine zy ?_;have b0:=zH (Q6.1.step (Aa.refl F5).drew);have L4:=zH (Ah.of_ext (w:=F5) zb);refine qT Q6.1 zb (bs 10 27) 0 1 3 4 _ _ _ _ ?_;refine FN.go2 (j1:=⟨6,some 12,31,[.bool false,.slice none 0 0,.bool false,.slice none 0 0]⟩) (j2:=⟨7,some 13,31,[.bool false,.slice none 0 0,.bool false,.slice none 0 0]⟩) (b:=F5) ?_ zb;refine gN 2 (bs 10 31) (fk (fk trivial)) zb.size (fun xq F7=>Cw ay _ ω ω) (by rintro x_ e V9 ⟨c_,rfl,H5,hx⟩;exact hx) ?_;rintro xq e W2 F7 ⟨c_,rfl,H5,hx⟩;replace hx:=F7.trans hx;clear F7;have a9:=zH (b0.1.step hx);have L3:=zH (show Ah F5.drew W2 from Ah.of_ext hx);have U9:=zH (zb.trans hx);obtain⟨A8,rfl,F4⟩:=H5;have I0:=zH F4;have N4:=zH (Bm ay ω ω);clear F4 hx;refine⟨_,rfl,?_⟩;try simp only[ζ]
   refine gN 5 (bs 10 63) (fk (fk trivial)) U9.1.size (fun xq F7=>Cw bY _ ω ω) (by rintro x_ e V9 ⟨c_,rfl,H5,hx⟩;exact hx) ?_;rintro xq e c4 F7 ⟨c_,rfl,H5,hx⟩;replace hx:=F7.trans hx;clear F7;have a8:=zH (a9.1.step hx);have D4:=zH (Ah.of_ext hx);have Z4:=zH (U9.1.trans hx);obtain⟨A7,rfl,F4⟩:=H5;have H9:=zH F4;have N3:=zH (Bm bY ω ω);clear F4 hx;refine⟨_,rfl,?_⟩;try simp only[ζ]
   refine pU (bs 10 255) (fk (fk trivial)) Z4.1.size Q6.1 a8.1 ?_;intro C2 C0 W1 hx hh U7 H4 hs;have a7:=hN hh;have B9:=zH (Ah.of_ext hx);have Z3:=zH (show Aa F5 W1 from hs);have b8:=zH (show F5.heap.size<=C2 from U7);have b7:=zH (show F5.heap.size<=C0 from H4);clear hh hx hs U7 H4;try simp only[ζ]
   refine bS 6 8 (bs 10 511) (rc A8) a7.1 Z3.1 b8.1 ?_;intro c3 a6 B8 Z2;refine bS 7 9 (bs 10 1023) (rc A7) a6.1 Z2.1 b7.1 ?_;intro W0 D7 B7 d4;refine wpAnyH_done kR ?_ _;go_upto_region 11 with fail;apply wl;apply zq (iV 0);go_upto_region 12 with fail;go_cut [58] (fun Y3 wx=>∃(b1:Bool),Y3= .bool b1/\(b1=decide (((ay:Int):Rat)<y/\y<((bY:Int):Rat)))/\Hp w wx [.blk X1 31 (rc ry),.row 31 4 (.slice A1 m c1) (m) (List.flatMap Cg.cx es),.row 3 1 (.slice A2 m c2) (m) (List.flatMap Cg.cu es),.row 92 4 (.slice (π ge) ((Ab rs).length) ce) ((Ab rs).length) (List.flatMap Jb (Ab rs)),.blk D3 24 [iV ax,iV ay],.blk D2 24 [iV bx,iV bY],.blk C2 31 (rc A8),.blk C0 31 (rc A7)]/\Ah W0 wx)
   case first=>
    rcases Ck (((ay:Int):Rat)<y)with K1|K1
    ·rcases Ck (y<((bY:Int):Rat))with K2|K2
     ·apply wl
      refine Bq D7.1 _ _ ?_;have L2:=tD (tD (tD D4 B9) B8) B7;refine zc (Dn 60000 _ _ (((ay):Int):Rat) y _ (RV.Is.nin (I0.1.dig L2.1) (Aw N4.1 ω)) (RV.In.nin (RV.In.mono (RY.1.dig D7.1.dig0) ω)) ω) ?_;rintro e Y2 ⟨rfl,hx⟩;have G3:=zH (D7.1.step hx);have N2:=zH (Ah.of_ext hx);clear hx;refine⟨.bool true,by rw[Aq K1.1],?_⟩;try simp only[ζ]
      refine Cn G3.1 τ _ _ ?_;have L1:=tD (tD (tD B9 B8) B7) N2;refine zc (Dn 60000 _ _ y (((bY):Int):Rat) _ (RV.In.nin (RV.In.mono (RY.1.dig G3.1.dig0) ω)) (RV.Is.nin (H9.1.dig L1.1) (Aw N3.1 ω)) ω) ?_;rintro e Y1 ⟨rfl,hx⟩;have S8:=zH (G3.1.step hx);have T6:=zH (Ah.of_ext hx);clear hx;refine⟨.bool true,by rw[Aq K2.1],?_⟩;try simp only[ζ]
      apply zq τ;have L0:=tD N2 T6;go_wp2_with fail
      go_meet
      exact⟨true,rfl,(Aq ⟨K1.1,K2.1⟩).symm,S8.1,L0.1⟩
     apply wl;refine Bq D7.1 _ _ ?_;have K9:=tD (tD (tD D4 B9) B8) B7;refine zc (Dn 60000 _ _ (((ay):Int):Rat) y _ (RV.Is.nin (I0.1.dig K9.1) (Aw N4.1 ω)) (RV.In.nin (RV.In.mono (RY.1.dig D7.1.dig0) ω)) ω) ?_;rintro e Y0 ⟨rfl,hx⟩;have G2:=zH (D7.1.step hx);have N1:=zH (Ah.of_ext hx);clear hx;refine⟨.bool true,by rw[Aq K1.1],?_⟩;try simp only[ζ]
     refine Cn G2.1 τ _ _ ?_;have K8:=tD (tD (tD B9 B8) B7) N1;refine zc (Dn 60000 _ _ y (((bY):Int):Rat) _ (RV.In.nin (RV.In.mono (RY.1.dig G2.1.dig0) ω)) (RV.Is.nin (H9.1.dig K8.1) (Aw N3.1 ω)) ω) ?_;rintro e X8 ⟨rfl,hx⟩;have S7:=zH (G2.1.step hx);have T5:=zH (Ah.of_ext hx);clear hx;refine⟨.bool false,by rw[Aj K2.1],?_⟩;try simp only[ζ]
     apply zq φ;have K7:=tD N1 T5;go_wp2_with fail
     go_meet
     exact⟨false,rfl,(Aj (fun h_=>K2.1 h_.2)).symm,S7.1,K7.1⟩
    apply wl;refine Bq D7.1 _ _ ?_;have K6:=tD (tD (tD D4 B9) B8) B7;refine zc (Dn 60000 _ _ (((ay):Int):Rat) y _ (RV.Is.nin (I0.1.dig K6.1) (Aw N4.1 ω)) (RV.In.nin (RV.In.mono (RY.1.dig D7.1.dig0) ω)) ω) ?_;rintro e X7 ⟨rfl,hx⟩;have S6:=zH (D7.1.step hx);have T4:=zH (Ah.of_ext hx);clear hx;refine⟨.bool false,by rw[Aj K1.1],?_⟩;try simp only[ζ]
    refine Ql Af φ _ _ _ φ ?_;go_wp2_with fail;go_meet
    exact⟨false,rfl,(Aj (fun h_=>K1.1 h_.1)).symm,S6.1,T4.1⟩
   obtain⟨b1,rfl,E7,B5,B6⟩:=hcut;generalize wc=O7 at*;have Z7:=zH E7;clear E7;have I8:=zH B5;have B2:=zH B6;clear B5 B6;go_upto_if 58 with fail
   go_cut [14] (fun P1 wx=>∃(w1:Int),P1= iV w1/\(w1=if b1=true then 1 else 0)/\Hp w wx [.blk X1 31 (rc ry),.row 31 4 (.slice A1 m c1) (m) (List.flatMap Cg.cx es),.row 3 1 (.slice A2 m c2) (m) (List.flatMap Cg.cu es),.row 92 4 (.slice (π ge) ((Ab rs).length) ce) ((Ab rs).length) (List.flatMap Jb (Ab rs)),.blk D3 24 [iV ax,iV ay],.blk D2 24 [iV bx,iV bY],.blk C2 31 (rc A8),.blk C0 31 (rc A7)]/\Ah O7 wx)
   case first=>
    cases b1
    ·go_wp2_with fail
     go_meet
     exact⟨0,rfl,rfl,I8.1,(Ah.refl _)⟩
    go_upto_region 13 with fail;apply wl;apply zq (iV 1);go_wp2_with fail;go_meet
    exact⟨1,rfl,rfl,I8.1,(Ah.refl _)⟩
   obtain⟨w1,rfl,E9,B5,B6⟩:=hcut;generalize wc=O6 at*;have a0:=zH E9;clear E9;have A9:=zH B5;have B1:=zH B6;clear B5 B6;go_upto_region 14 with fail
   go_cut [66] (fun P0 wx=>∃(b2:Bool),P0= .bool b2/\(b2=decide (((bY:Int):Rat)<y/\y<((ay:Int):Rat)))/\Hp w wx [.blk X1 31 (rc ry),.row 31 4 (.slice A1 m c1) (m) (List.flatMap Cg.cx es),.row 3 1 (.slice A2 m c2) (m) (List.flatMap Cg.cu es),.row 92 4 (.slice (π ge) ((Ab rs).length) ce) ((Ab rs).length) (List.flatMap Jb (Ab rs)),.blk D3 24 [iV ax,iV ay],.blk D2 24 [iV bx,iV bY],.blk C2 31 (rc A8),.blk C0 31 (rc A7)]/\Ah O6 wx)
   case first=>
    rcases Ck (((bY:Int):Rat)<y)with K1|K1
    ·rcases Ck (y<((ay:Int):Rat))with K2|K2
     ·apply wl
      refine zd C0 (0) (rc A7) (A9.1.range (i:=7) rR 0 4) underlying31 ?_;refine zd X1 (0) (rc ry) (A9.1.range (i:=0) rR 0 4) underlying31 ?_;have K5:=tD (tD (tD (tD B9 B8) B7) B2) B1;refine zc (Dn 60000 _ _ (((bY):Int):Rat) y _ (RV.Is.nin (H9.1.dig K5.1) (Aw N3.1 ω)) (RV.In.nin (RV.In.mono (RY.1.dig A9.1.dig0) ω)) ω) ?_;rintro e X6 ⟨rfl,hx⟩;have D9:=zH (A9.1.step hx);have N0:=zH (Ah.of_ext hx);clear hx;refine⟨.bool true,by rw[Aq K1.1],?_⟩;try simp only[ζ]
      apply qV τ;refine zd X1 (0) (rc ry) (D9.1.range (i:=0) rR 0 4) underlying31 ?_;refine zd C2 (0) (rc A8) (D9.1.range (i:=6) rR 0 4) underlying31 ?_;have K4:=tD (tD (tD (tD (tD (tD D4 B9) B8) B7) B2) B1) N0;refine zc (Dn 60000 _ _ y (((ay):Int):Rat) _ (RV.In.nin (RV.In.mono (RY.1.dig D9.1.dig0) ω)) (RV.Is.nin (I0.1.dig K4.1) (Aw N4.1 ω)) ω) ?_;rintro e X5 ⟨rfl,hx⟩;have S5:=zH (D9.1.step hx);have T3:=zH (Ah.of_ext hx);clear hx;refine⟨.bool true,by rw[Aq K2.1],?_⟩;try simp only[ζ]
      apply zq τ;have K3:=tD N0 T3;go_wp2_with fail
      go_meet
      exact⟨true,rfl,(Aq ⟨K1.1,K2.1⟩).symm,S5.1,K3.1⟩
     apply wl;refine zd C0 (0) (rc A7) (A9.1.range (i:=7) rR 0 4) underlying31 ?_;refine zd X1 (0) (rc ry) (A9.1.range (i:=0) rR 0 4) underlying31 ?_;have K0:=tD (tD (tD (tD B9 B8) B7) B2) B1;refine zc (Dn 60000 _ _ (((bY):Int):Rat) y _ (RV.Is.nin (H9.1.dig K0.1) (Aw N3.1 ω)) (RV.In.nin (RV.In.mono (RY.1.dig A9.1.dig0) ω)) ω) ?_;rintro e X4 ⟨rfl,hx⟩;have D8:=zH (A9.1.step hx);have M9:=zH (Ah.of_ext hx);clear hx;refine⟨.bool true,by rw[Aq K1.1],?_⟩;try simp only[ζ]
     apply qV τ;refine zd X1 (0) (rc ry) (D8.1.range (i:=0) rR 0 4) underlying31 ?_;refine zd C2 (0) (rc A8) (D8.1.range (i:=6) rR 0 4) underlying31 ?_;have J9:=tD (tD (tD (tD (tD (tD D4 B9) B8) B7) B2) B1) M9;refine zc (Dn 60000 _ _ y (((ay):Int):Rat) _ (RV.In.nin (RV.In.mono (RY.1.dig D8.1.dig0) ω)) (RV.Is.nin (I0.1.dig J9.1) (Aw N4.1 ω)) ω) ?_;rintro e X3 ⟨rfl,hx⟩;have S4:=zH (D8.1.step hx);have T2:=zH (Ah.of_ext hx);clear hx;refine⟨.bool false,by rw[Aj K2.1],?_⟩;try simp only[ζ]
     apply zq φ;have J8:=tD M9 T2;go_wp2_with fail
     go_meet
     exact⟨false,rfl,(Aj (fun h_=>K2.1 h_.2)).symm,S4.1,J8.1⟩
    apply wl;refine zd C0 (0) (rc A7) (A9.1.range (i:=7) rR 0 4) underlying31 ?_;refine zd X1 (0) (rc ry) (A9.1.range (i:=0) rR 0 4) underlying31 ?_;have J7:=tD (tD (tD (tD B9 B8) B7) B2) B1;refine zc (Dn 60000 _ _ (((bY):Int):Rat) y _ (RV.Is.nin (H9.1.dig J7.1) (Aw N3.1 ω)) (RV.In.nin (RV.In.mono (RY.1.dig A9.1.dig0) ω)) ω) ?_;rintro e X2 ⟨rfl,hx⟩;have S3:=zH (A9.1.step hx);have T1:=zH (Ah.of_ext hx);clear hx;refine⟨.bool false,by rw[Aj K1.1],?_⟩;try simp only[ζ]
    refine Ql Af φ _ _ _ φ ?_;go_wp2_with fail;go_meet
    exact⟨false,rfl,(Aj (fun h_=>K1.1 h_.1)).symm,S3.1,T1.1⟩
   obtain⟨b2,rfl,E6,B5,B6⟩:=hcut;generalize wc=O5 at*;have Q2:=zH E6;clear E6;have I7:=zH B5;have D1:=zH B6;clear B5 B6;go_upto_if 66 with fail
   go_cut [14] (fun O9 wx=>∃(wy:Int),O9= iV wy/\(tY y ax ay bx bY wy)/\Hp w wx [.blk X1 31 (rc ry),.row 31 4 (.slice A1 m c1) (m) (List.flatMap Cg.cx es),.row 3 1 (.slice A2 m c2) (m) (List.flatMap Cg.cu es),.row 92 4 (.slice (π ge) ((Ab rs).length) ce) ((Ab rs).length) (List.flatMap Jb (Ab rs)),.blk D3 24 [iV ax,iV ay],.blk D2 24 [iV bx,iV bY],.blk C2 31 (rc A8),.blk C0 31 (rc A7)]/\Ah O5 wx)
   case first=>
    cases b2
    ·have d6:=zH Q2.1
     go_wp2_with fail;go_meet
     exact⟨w1,rfl,(rL a0.1 Z7.1 Q2.1),I7.1,(Ah.refl _)⟩
    go_upto_region 15 with fail;apply wl;apply zq (iV (-1));go_wp2_with fail;go_meet
    exact⟨(-1),rfl,(rN Q2.1),I7.1,(Ah.refl _)⟩
   obtain⟨wy,rfl,E8,B5,B6⟩:=hcut;generalize wc=X0 at*;have Q3:=zH E8;clear E8;have C1:=zH B5;have D0:=zH B6;clear B5 B6;have V1:=zH (rO Q3.1);rcases Ck (wy=0)with HZ|HZ
   ·go_upto_region 16 with fail
    apply wl;apply zq (iV wy);apply zp τ (by exact Kf (e:=(Aq HZ.1)));have J6:=tD (tD (tD (tD (tD (tD (tD (tD (tD (tD (tD (tD (tD L8 L7) L6) L5) L4) L3) D4) B9) B8) B7) B2) B1) D1) D0;have J5:=tD (tD (tD (tD (tD (tD (tD (tD (tD (tD (tD (tD (tD (tD T0 L8) L7) L6) L5) L4) L3) D4) B9) B8) B7) B2) B1) D1) D0;go_wp2_with fail
    go_roundg ((Ab rs).length-(i+1))
    case measure=>exact(ω)
    case rel=>exact⟨i+1,m,es,A1,c1,A2,c2,rfl,rfl,rfl,(by go_num),F8,⟨HM.1.1,by have:=HM.1.2;omega⟩,(by rw[N8.1,mZ HE.1 (rM Q3.1 HZ.1)]),(fun g_ hg_=>(Q4.1 g_ hg_).dig J6.1),C1.1.take 4,J5.1⟩
   have N7:=zH (jR Q3.1 HZ.1);go_upto_region 16 with fail;apply wl;apply zq (iV wy);apply zp φ (by exact Kf (e:=(Aj HZ.1)));go_upto_region 17 with fail;apply wl;refine zd D3 (0) [iV ax,iV ay] (C1.1.range (i:=4) rR 0 2) underlying24 ?_;refine zd D2 (0) [iV bx,iV bY] (C1.1.range (i:=5) rR 0 2) underlying24 ?_;refine zd X1 (0) (rc ry) (C1.1.range (i:=0) rR 0 4) underlying31 ?_;refine zc (kJ L ax ay bx bY ry y _ (RY.1.dig C1.1.dig0) h1L hL O1.1 O0.1 (Ny N7.1.2).1 (Ny N7.1.2).2.1 (Ny N7.1.2).2.2) ?_;rintro e W9 ⟨A0,rfl,F4,hx⟩;have S2:=zH (C1.1.step hx);have G5:=zH (Ah.of_ext hx);have Q1:=zH F4;have T7:=zH (cG (ax:=ax) (bx:=bx) O1.1 O0.1 RY.1.rl);clear F4 hx;refine zn ?_;refine Cn Af _ _ τ ?_;refine Cd 31 rz S2.1 ?_;intro C6 W8 S1 E5;apply Ca 8 (rc A0) S1.1;intro H1 I6 E4;apply zq τ;go_upto_region 18 with fail
   apply wl;refine Bq I6.1 _ _ ?_;refine zp (w':=(H1.alloc (.cells ((rc A0):List Value).toArray 31))) (.slice (π H1.heap.size) 1 1) (by go_simp) ?_;refine Hn rR _ _ _ rR Ld rR I6.1 (ix:=1) rR 1 1 (rc A0) rR rfl (by simp[Value.oneCell']) (by simp[Ar]) dC (by unfold maxLen;exact ω) ω ?_;intro A3 A5 G9 hf hh hd hg;have V8:=zH hf;clear hf;rw[show List.flatMap Cg.cx es++(rc A0)=_ from Ds Cg.cx _ (⟨A0,(Ia ax ay bx bY y),wy⟩:Cg)]at hh;have S0:=hN hh;have E3:=zH (hd);clear hh hd hg;try simp only[ζ]
   apply zq (.slice (π A3) (m+1) A5);go_upto_region 19 with fail;apply wl;refine Bq Af _ (iV wy) ?_;refine zp (w':=(G9.alloc (.cells ([iV wy]:List Value).toArray 3))) (.slice (π G9.heap.size) 1 1) (by go_simp) ?_;refine Hn rR _ _ _ rR uJ rR S0.1 (ix:=2) rR 1 1 [iV wy] rR rfl (by simp[Value.oneCell']) (by simp[Ar]) dC (by unfold maxLen;exact ω) ω ?_;intro A4 A6 F6 hf hh hd hg;have V7:=zH hf;clear hf;rw[show List.flatMap Cg.cu es++[iV wy]=_ from Ds Cg.cu _ (⟨A0,(Ia ax ay bx bY y),wy⟩:Cg)]at hh;have R9:=hN hh;have E2:=zH (hd);clear hh hd hg;try simp only[ζ]
   apply zq (.slice (π A4) (m+1) A6);obtain⟨ey,P3⟩:∃ey:Cg,ey=(⟨A0,(Ia ax ay bx bY y),wy⟩:Cg):=⟨_,rfl⟩;have HZ:=zH P3;have I5:=zH (show Hp w F6 [.blk X1 31 (rc ry),ro 31 4 (π A3) (m+1) A5 Cg.cx (es.take m++ey::es.drop m),ro 3 1 (π A4) (m+1) A6 Cg.cu (es.take m++ey::es.drop m),ro 92 4 (π ge) ((Ab rs).length) ce Jb (Ab rs),.blk D3 24 [iV ax,iV ay],.blk D2 24 [iV bx,iV bY],.blk C2 31 (rc A8),.blk C0 31 (rc A7),.blk C6 31 (rc A0)]from by rw[show es.take m++ey::es.drop m=es++[(⟨A0,(Ia ax ay bx bY y),wy⟩:Cg)]by rw[wI (by have:=HM.1.1;omega),List.drop_of_length_le (by have:=HM.1.1;omega),HZ.1]];exact R9.1);have J4:=tD (tD (tD E5 E4) E3) E2;have a3:=zH (show ey.Ok (L+8) F6 from by rw[HZ.1];exact⟨(Q1.1.dig J4.1),(show Nm.rl (Ia ax ay bx bY y)<=L+8 by have q_:=T7.1;omega),(show(-1:Int)<=wy from V1.1.1),(show wy<=(1:Int)from V1.1.2)⟩);have a1:=zH (show ey.vl=(Ia ax ay bx bY y,wy)from by rw[HZ.1];rfl);have I1:=zH (show(Stb.ins Rd es ey).map Cg.vl=Stb.stab Ym (((Ab rs).take (i+1)).filterMap (Ei y))by rw[mY HE.1 N7.1.1,<-N8.1,<-a1.1];exact Xz Cg.vl (fun _ _=>rfl) es ey);have D6:=zH (show Stb.Srt Rd es from rV (by rw[N8.1];exact Stb.stab_srt vB _));go_upto_region 20 with fail
   apply wl;refine Bq Af (.slice (π A3) (m+1) A5) (iV ((m+1:Nat):Int)) ?_;apply zp (iV (m:Int)) (by exact Nx ω);apply zq (iV (m:Int));have J3:=tD (tD (tD (tD (tD (tD (tD (tD (tD (tD (tD (tD (tD (tD (tD (tD (tD (tD L8 L7) L6) L5) L4) L3) D4) B9) B8) B7) B2) B1) D1) D0) G5) E5) E4) E3) E2;go_wp2_with fail
   go_loopg [17] (m+1) (fun cq O8 wr=>∃(t:Nat) (u:Nat),cq=(m+1)-t/\O8= iV (u:Int)/\(t+u=m)/\(∀z,z∈es.drop u->Rd ey z=true)/\(∀e,e∈es.take u++ey::es.drop u->e.Ok (L+8) wr)/\Hp w wr [.blk X1 31 (rc ry),.row 31 4 (.slice (π A3) (m+1) A5) (m+1) (List.flatMap Cg.cx (es.take u++ey::es.drop u)),.row 3 1 (.slice (π A4) (m+1) A6) (m+1) (List.flatMap Cg.cu (es.take u++ey::es.drop u)),.row 92 4 (.slice (π ge) ((Ab rs).length) ce) ((Ab rs).length) (List.flatMap Jb (Ab rs)),.blk D3 24 [iV ax,iV ay],.blk D2 24 [iV bx,iV bY],.blk C2 31 (rc A8),.blk C0 31 (rc A7),.blk C6 31 (rc A0)]/\Ah F6 wr)
   case atStart=>exact⟨0,m,rfl,rfl,wH _,(fun z_ hz_=>by rw[List.drop_of_length_le (by have:=HM.1.1;omega)]at hz_;simp at hz_),(fun g_ hg_=>by rw[wI (by have:=HM.1.1;omega),List.drop_of_length_le (by have:=HM.1.1;omega)]at hg_;exact(List.mem_append.1 hg_).elim (fun hg_=>(Q4.1 g_ hg_).dig J3.1) (fun hg_=>by rw[List.mem_singleton.1 hg_];exact a3.1)),I5.1,Ah.refl _⟩
   obtain⟨t,u,rfl,rfl,F1,C4,C3,B5,B6⟩:=hrel;generalize wr=B3 at*;have N9:=zH F1;clear F1;have C8:=zH C4;clear C4;have C7:=zH C3;clear C3;have B0:=zH B5;have G4:=zH B6;clear B5 B6 I5;rcases Ck (0<u)with HU0|HU0
   ·have d0:=HU0.1
    obtain⟨q,rfl⟩:∃q,u=q+1:=⟨u-1,ω⟩;have G6:=zH (show q<es.length by have h1:=N9.1;have h2:=HM.1.1;omega);have d1:q<m:=by have h1:=N9.1;omega
    obtain⟨N6,P6,P7,P5⟩:=sS (y:=ey) G6.1;obtain⟨ex,F9⟩:∃ex,ex=es[q]'(G6.1):=⟨_,rfl⟩;rw[<-F9]at N6 P7 P5;have V0:=zH F9;have GX:=zH N6;have GY:=zH P6;have GS:=zH P7;have GZ:=zH P5;have V3:=zH (List.getElem?_eq_some_iff.1 N6).1;have V2:=zH (List.getElem?_eq_some_iff.1 P6).1;clear N6 P6 P7 P5 F9;have OX:=zH (C7.1 ex (wE GX.1));have OY:=zH (C7.1 ey (wE GY.1));have RX:=zH OX.1.1;have RZ:=zH OY.1.1;have BX:=zH OX.1.2.1;have BZ:=zH OY.1.2.1;have Z9:=zH OX.1.2.2;have Z8:=zH OY.1.2.2;have U5:=Q5.1;have U4:=HM.1.2;have U3:=Z9.1;have U2:=Z8.1;rcases hcb_:Rd ey ex with _|_
    ·have CB:=zH hcb_
     clear hcb_;go_upto_region 21 with fail;refine zy ?_;have R8:=zH (B0.1.step (Aa.refl B3).drew);have E1:=zH (Ah.of_ext (w:=B3) zb);refine zx 0 (bs 23 1) (iV ((q+1:Nat):Int)) zb ?_;refine zu 1 (bs 23 3) (v:= .bool true) zb ?_ (hv:=by intro w B4;exact Ph (e:=(Aq ω)));refine Rg Af zb (bs 23 31) 2 3 4 τ (.slice (π A3) (m+1) A5) (iV ((q+1:Nat):Int)) ?_;refine zo 5 (bs 23 63) (v:= .pointer (some ⟨A3,(q+1)*4,none⟩)) zb ?_ (hv:=by intro w B4;exact Eh (k:=q+1) underlying54 (l:=(show q+1<m+1 by omega)) (f:=(wH _).symm));refine zg 6 (bs 23 127) A3 ((q+1)*4) (rc ey.a) (B0.1.elem (f:=Cg.cx) (i:=1) rR Cg.cx_len GY.1) underlying31 zb ?_;refine Jv Af zb (bs 23 511) 7 8 (.slice (π A4) (m+1) A6) (iV ((q+1:Nat):Int)) ?_;refine zu 9 (bs 23 1023) (v:= .pointer (some ⟨A4,(q+1)*1,none⟩)) zb ?_ (hv:=by intro w B4;exact Eh (k:=q+1) underlying89 (l:=(show q+1<m+1 by omega)) (f:=(wH _).symm));refine zf 10 (bs 23 2047) A4 ((q+1)*1) (iV ey.up) (B0.1.elem (f:=Cg.cu) (i:=2) rR Cg.cu_len GY.1) zb ?_;refine Jv Af zb (bs 23 8191) 11 12 (.slice (π A3) (m+1) A5) (iV ((q+1:Nat):Int)) ?_;refine zu 13 (bs 23 16383) (v:= iV (q:Int)) zb ?_ (hv:=by intro w B4;exact Nx ω);refine zo 14 (bs 23 32767) (v:= .pointer (some ⟨A3,q*4,none⟩)) zb ?_ (hv:=by intro w B4;exact Eh (k:=q) underlying54 (l:=(show q<m+1 by omega)) (f:=(wH _).symm));refine zg 15 (bs 23 65535) A3 (q*4) (rc ex.a) (B0.1.elem (f:=Cg.cx) (i:=1) rR Cg.cx_len GX.1) underlying31 zb ?_;refine Jv Af zb (bs 23 262143) 16 17 (.slice (π A4) (m+1) A6) (iV ((q+1:Nat):Int)) ?_;refine zu 18 (bs 23 524287) (v:= iV (q:Int)) zb ?_ (hv:=by intro w B4;exact Nx ω);refine zu 19 (bs 23 1048575) (v:= .pointer (some ⟨A4,q*1,none⟩)) zb ?_ (hv:=by intro w B4;exact Eh (k:=q) underlying89 (l:=(show q<m+1 by omega)) (f:=(wH _).symm));refine zf 20 (bs 23 2097151) A4 (q*1) (iV ex.up) (B0.1.elem (f:=Cg.cu) (i:=2) rR Cg.cu_len GX.1) zb ?_;refine mC 21 (bs 23 4194303) (Ud 60000 _ _ ey.q ex.q ey.up ex.up _ (RV.Is.nin (RZ.1.dig E1.1) (Aw BZ.1 ω)) (RV.Is.nin (RX.1.dig E1.1) (Aw BX.1 ω)) dC) ?_;rintro e G8 ⟨rfl,hx⟩;have R7:=zH (R8.1.step hx);have M8:=zH (show Ah B3.drew G8 from Ah.of_ext hx);have H8:=zH (zb.trans hx);clear hx;refine⟨.bool false,by rw[show Et ey.q ey.up ex.q ex.up=false from CB.1],H8.1,?_⟩;try simp only[ζ]
     refine zx 22 (bs 23 8388607) φ H8.1 ?_;refine wpAnyH_done kR ?_ _;have R6:=zH (show Hp w G8 [.blk X1 31 (rc ry),ro 31 4 (π A3) (m+1) A5 Cg.cx (Stb.ins Rd es ey),ro 3 1 (π A4) (m+1) A6 Cg.cu (Stb.ins Rd es ey),ro 92 4 (π ge) ((Ab rs).length) ce Jb (Ab rs),.blk D3 24 [iV ax,iV ay],.blk D2 24 [iV bx,iV bY],.blk C2 31 (rc A8),.blk C0 31 (rc A7),.blk C6 31 (rc A0)]from by rw[Stb.ins_stop uU D6.1 C8.1 (by have h1:=G6.1;omega) (Or.inr ⟨q,rfl,G6.1,by rw[<-V0.1];exact CB.1⟩)];exact R7.1);have J2:=tD E1 M8;have J1:=tD (tD (tD (tD (tD (tD (tD (tD (tD (tD (tD (tD (tD (tD (tD (tD (tD (tD (tD (tD (tD (tD T0 L8) L7) L6) L5) L4) L3) D4) B9) B8) B7) B2) B1) D1) D0) G5) E5) E4) E3) E2) G4) E1) M8;go_wp2_with fail
     go_roundg ((Ab rs).length-(i+1))
     case measure=>exact(ω)
     case rel=>exact⟨i+1,m+1,Stb.ins Rd es ey,some ⟨A3,0,none⟩,A5,some ⟨A4,0,none⟩,A6,rfl,rfl,rfl,(by go_num),F8,⟨by rw[Stb.ins_len,HM.1.1],by have:=HM.1.2;omega⟩,I1.1,(fun g_ hg_=>by rw[Stb.ins_stop uU D6.1 C8.1 (by have h1:=G6.1;omega) (Or.inr ⟨q,rfl,G6.1,by rw[<-V0.1];exact CB.1⟩)]at hg_;exact((C7.1 g_ hg_).dig J2.1)),R6.1.take 4,J1.1⟩
    have CB:=zH hcb_;clear hcb_;go_upto_region 21 with fail;refine zy ?_;have R5:=zH (B0.1.step (Aa.refl B3).drew);have E0:=zH (Ah.of_ext (w:=B3) zb);refine zx 0 (bs 23 1) (iV ((q+1:Nat):Int)) zb ?_;refine zu 1 (bs 23 3) (v:= .bool true) zb ?_ (hv:=by intro w B4;exact Ph (e:=(Aq ω)));refine Rg Af zb (bs 23 31) 2 3 4 τ (.slice (π A3) (m+1) A5) (iV ((q+1:Nat):Int)) ?_;refine zo 5 (bs 23 63) (v:= .pointer (some ⟨A3,(q+1)*4,none⟩)) zb ?_ (hv:=by intro w B4;exact Eh (k:=q+1) underlying54 (l:=(show q+1<m+1 by omega)) (f:=(wH _).symm));refine zg 6 (bs 23 127) A3 ((q+1)*4) (rc ey.a) (B0.1.elem (f:=Cg.cx) (i:=1) rR Cg.cx_len GY.1) underlying31 zb ?_;refine Jv Af zb (bs 23 511) 7 8 (.slice (π A4) (m+1) A6) (iV ((q+1:Nat):Int)) ?_;refine zu 9 (bs 23 1023) (v:= .pointer (some ⟨A4,(q+1)*1,none⟩)) zb ?_ (hv:=by intro w B4;exact Eh (k:=q+1) underlying89 (l:=(show q+1<m+1 by omega)) (f:=(wH _).symm));refine zf 10 (bs 23 2047) A4 ((q+1)*1) (iV ey.up) (B0.1.elem (f:=Cg.cu) (i:=2) rR Cg.cu_len GY.1) zb ?_;refine Jv Af zb (bs 23 8191) 11 12 (.slice (π A3) (m+1) A5) (iV ((q+1:Nat):Int)) ?_;refine zu 13 (bs 23 16383) (v:= iV (q:Int)) zb ?_ (hv:=by intro w B4;exact Nx ω);refine zo 14 (bs 23 32767) (v:= .pointer (some ⟨A3,q*4,none⟩)) zb ?_ (hv:=by intro w B4;exact Eh (k:=q) underlying54 (l:=(show q<m+1 by omega)) (f:=(wH _).symm));refine zg 15 (bs 23 65535) A3 (q*4) (rc ex.a) (B0.1.elem (f:=Cg.cx) (i:=1) rR Cg.cx_len GX.1) underlying31 zb ?_;refine Jv Af zb (bs 23 262143) 16 17 (.slice (π A4) (m+1) A6) (iV ((q+1:Nat):Int)) ?_;refine zu 18 (bs 23 524287) (v:= iV (q:Int)) zb ?_ (hv:=by intro w B4;exact Nx ω);refine zu 19 (bs 23 1048575) (v:= .pointer (some ⟨A4,q*1,none⟩)) zb ?_ (hv:=by intro w B4;exact Eh (k:=q) underlying89 (l:=(show q<m+1 by omega)) (f:=(wH _).symm));refine zf 20 (bs 23 2097151) A4 (q*1) (iV ex.up) (B0.1.elem (f:=Cg.cu) (i:=2) rR Cg.cu_len GX.1) zb ?_;refine mC 21 (bs 23 4194303) (Ud 60000 _ _ ey.q ex.q ey.up ex.up _ (RV.Is.nin (RZ.1.dig E0.1) (Aw BZ.1 ω)) (RV.Is.nin (RX.1.dig E0.1) (Aw BX.1 ω)) dC) ?_;rintro e D5 ⟨rfl,hx⟩;have G1:=zH (R5.1.step hx);have M7:=zH (show Ah B3.drew D5 from Ah.of_ext hx);have H7:=zH (zb.trans hx);clear hx;refine⟨.bool true,by rw[show Et ey.q ey.up ex.q ex.up=true from CB.1],H7.1,?_⟩;try simp only[ζ]
    refine zx 22 (bs 23 8388607) τ H7.1 ?_;refine wpAnyH_done kR ?_ _;go_upto_region 23 with fail;refine zy ?_;have R3:=zH (G1.1.step (Aa.refl D5).drew);have M6:=zH (Ah.of_ext (w:=D5) zb);refine Jv Af zb (bs 11 3) 0 1 (.slice (π A3) (m+1) A5) (iV ((q+1:Nat):Int)) ?_;refine zo 2 (bs 11 7) (v:= .pointer (some ⟨A3,(q+1)*4,none⟩)) zb ?_ (hv:=by intro w B4;exact Eh (k:=q+1) underlying54 (l:=(show q+1<m+1 by omega)) (f:=(wH _).symm));refine zg 3 (bs 11 15) A3 ((q+1)*4) (rc ey.a) (G1.1.elem (f:=Cg.cx) (i:=1) rR Cg.cx_len GY.1) underlying31 zb ?_;refine Jv Af zb (bs 11 63) 4 5 (.slice (π A4) (m+1) A6) (iV ((q+1:Nat):Int)) ?_;refine zu 6 (bs 11 127) (v:= .pointer (some ⟨A4,(q+1)*1,none⟩)) zb ?_ (hv:=by intro w B4;exact Eh (k:=q+1) underlying89 (l:=(show q+1<m+1 by omega)) (f:=(wH _).symm));refine zf 7 (bs 11 255) A4 ((q+1)*1) (iV ey.up) (G1.1.elem (f:=Cg.cu) (i:=2) rR Cg.cu_len GY.1) zb ?_;refine aK (T:=31) (zs:=[.bool false,.slice none 0 0,.bool false,.slice none 0 0]) (i:=8) (listed':=(bs 11 511)) rR kR rR (by go_simp) kR R3.1 (by simp[Ar]) ?_;intro P8 O4 hh hx P2;have R2:=hN hh;have M5:=zH (show Ah D5.drew O4 from Ah.of_ext hx);have H6:=zH (zb.trans hx);have S9:=zH (Aw zb.size P2);clear hh hx P2;refine⟨H6.1,?_⟩;try simp only[ζ]
    refine bS 9 9 (bs 11 1023) (rc ey.a) R2.1 H6.1 S9.1 ?_;intro W7 I4 M4 Q0;refine zx 10 (bs 11 2047) (iV ey.up) Q0.1 ?_;refine wpAnyH_done kR ?_ _;go_upto_region 24 with fail;apply wl;refine Ek Af (.slice (π A3) (m+1) A5) (iV ((q+1:Nat):Int)) (.slice (π A3) (m+1) A5) (iV ((q+1:Nat):Int)) ?_;apply zp (iV (q:Int)) (by exact Nx ω);apply zp (.pointer (some ⟨A3,q*4,none⟩)) (by exact Eh (k:=q) underlying54 (l:=(show q<m+1 by omega)) (f:=(wH _).symm));refine zd A3 (q*4) (rc ex.a) (I4.1.elem (f:=Cg.cx) (i:=1) rR Cg.cx_len GX.1) underlying31 ?_;apply zp (.pointer (some ⟨A3,(q+1)*4,none⟩)) (by exact Eh (k:=q+1) underlying54 (l:=(show q+1<m+1 by omega)) (f:=(wH _).symm));refine Qa (f:=Cg.cx) rR _ _ _ rR I4.1 (ix:=1) rR Cg.cx_len (q+1) ex V2.1 (rc ex.a) rR ((q+1)*4) rR rR rR kR (by simp[Value.oneCell']) (by simp[Ar]) ?_;intro W6 hh hd ho;have I3:=hN hh;have M3:=zH (hd);clear hh hd ho
    (try simp only[Act.put])
    go_upto_region 25 with fail;apply wl;refine Bq Af (.slice (π A3) (m+1) A5) (iV ((q+1:Nat):Int)) ?_;apply zp (iV (q:Int)) (by exact Nx ω);refine Cy I3.1 _ ?_;apply zp (.pointer (some ⟨A3,q*4,none⟩)) (by exact Eh (k:=q) underlying54 (l:=(show q<m+1 by omega)) (f:=(wH _).symm));refine Qa (f:=Cg.cx) rR _ _ _ rR I3.1 (ix:=1) rR Cg.cx_len q ey (by rw[wO];exact V3.1) (rc ey.a) rR (q*4) rR rR rR kR (by simp[Value.oneCell']) (by simp[Ar]) ?_;intro W5 hh hd ho;have I2:=hN hh;have M2:=zH (hd);clear hh hd ho
    (try simp only[Act.put])
    go_upto_region 26 with fail;apply wl;refine Ek Af (.slice (π A4) (m+1) A6) (iV ((q+1:Nat):Int)) (.slice (π A4) (m+1) A6) (iV ((q+1:Nat):Int)) ?_;apply zp (iV (q:Int)) (by exact Nx ω);apply zp (.pointer (some ⟨A4,q*1,none⟩)) (by exact Eh (k:=q) underlying89 (l:=(show q<m+1 by omega)) (f:=(wH _).symm));refine ze A4 (q*1) (iV ex.up) (I2.1.elem (f:=Cg.cu) (i:=2) rR Cg.cu_len GX.1) ?_;apply zp (.pointer (some ⟨A4,(q+1)*1,none⟩)) (by exact Eh (k:=q+1) underlying89 (l:=(show q+1<m+1 by omega)) (f:=(wH _).symm));refine Tc (f:=Cg.cu) rR _ _ _ rR I2.1 (ix:=2) rR Cg.cu_len (q+1) ex V2.1 (iV ex.up) rR ((q+1)*1) rR rR rR kR (by simp[Value.cells]) (by simp[Value.oneCell']) (by simp[Ar]) ?_;intro W4 hh hd ho;have R1:=hN hh;have M1:=zH (hd);clear hh hd ho
    (try simp only[Act.put])
    go_upto_region 27 with fail;apply wl;refine Bq Af (.slice (π A4) (m+1) A6) (iV ((q+1:Nat):Int)) ?_;apply zp (iV (q:Int)) (by exact Nx ω);apply zq (iV ey.up);apply zp (.pointer (some ⟨A4,q*1,none⟩)) (by exact Eh (k:=q) underlying89 (l:=(show q<m+1 by omega)) (f:=(wH _).symm));refine Tc (f:=Cg.cu) rR _ _ _ rR R1.1 (ix:=2) rR Cg.cu_len q ey (by rw[wO];exact V3.1) (iV ey.up) rR (q*1) rR rR rR kR (by simp[Value.cells]) (by simp[Value.oneCell']) (by simp[Ar]) ?_;intro O3 hh hd ho;have R0:=hN hh;have M0:=zH (hd);clear hh hd ho
    (try simp only[Act.put])
    go_upto_region 22 with fail;apply wl;apply zq (iV ((q+1:Nat):Int));apply zp (iV (q:Int)) (by exact Nx ω);apply zq (iV (q:Int));have Q9:=zH (show Hp w O3 [.blk X1 31 (rc ry),ro 31 4 (π A3) (m+1) A5 Cg.cx (es.take q++ey::es.drop q),ro 3 1 (π A4) (m+1) A6 Cg.cu (es.take q++ey::es.drop q),ro 92 4 (π ge) ((Ab rs).length) ce Jb (Ab rs),.blk D3 24 [iV ax,iV ay],.blk D2 24 [iV bx,iV bY],.blk C2 31 (rc A8),.blk C0 31 (rc A7),.blk C6 31 (rc A0),.blk P8 31 (rc ey.a)]from by rw[<-GS.1];exact R0.1);have C9:=tD (tD (tD (tD (tD (tD (tD (tD E0 M7) M6) M5) M4) M3) M2) M1) M0;have J0:=tD (tD (tD (tD (tD (tD (tD (tD (tD G4 E0) M7) M6) M5) M4) M3) M2) M1) M0;go_wp2_with fail
    go_roundg (m+1-(t+1))
    case measure=>exact(by have c8:=(show t<m+1 by have h1:=N9.1;omega);omega)
    case rel=>exact⟨t+1,q,rfl,(by go_num),(by have h1:=N9.1;omega),(fun z_ hz_=>(GZ.1 z_ hz_).elim (fun h_=>by rw[h_];exact CB.1) (C8.1 z_)),(fun g_ hg_=>by rw[<-GS.1]at hg_;exact(List.mem_or_eq_of_mem_set hg_).elim (fun h_=>(List.mem_or_eq_of_mem_set h_).elim (fun h_=>(C7.1 g_ h_).dig C9.1) (fun h_=>by rw[h_];exact OX.1.dig C9.1)) (fun h_=>by rw[h_];exact OY.1.dig C9.1)),Q9.1.take 9,J0.1⟩
   obtain rfl:u=0:=by have h:=HU0.1;omega
   go_upto_region 21 with fail;refine zy ?_;have Q8:=zH (B0.1.step (Aa.refl B3).drew);have L9:=zH (Ah.of_ext (w:=B3) zb);refine zx 0 (bs 23 1) (iV 0) zb ?_;refine zu 1 (bs 23 3) (v:= .bool false) zb ?_ (hv:=by intro w B4;exact Ph (e:=(Aj ω)));refine qS Af zb (bs 23 1023) 2 3 4 5 6 7 8 9 φ _ _ _ _ _ _ _ ?_;refine qS Af zb (bs 23 262143) 10 11 12 13 14 15 16 17 _ _ _ _ _ _ _ _ ?_;refine vO Af zb (bs 23 8388607) 18 19 20 21 22 _ _ _ _ φ ?_;refine wpAnyH_done kR ?_ _;have Q7:=zH (show Hp w B3.drew [.blk X1 31 (rc ry),ro 31 4 (π A3) (m+1) A5 Cg.cx (Stb.ins Rd es ey),ro 3 1 (π A4) (m+1) A6 Cg.cu (Stb.ins Rd es ey),ro 92 4 (π ge) ((Ab rs).length) ce Jb (Ab rs),.blk D3 24 [iV ax,iV ay],.blk D2 24 [iV bx,iV bY],.blk C2 31 (rc A8),.blk C0 31 (rc A7),.blk C6 31 (rc A0)]from by rw[Stb.ins_stop uU D6.1 C8.1 (wM _) (Or.inl rfl)];exact Q8.1);have I9:=tD (tD (tD (tD (tD (tD (tD (tD (tD (tD (tD (tD (tD (tD (tD (tD (tD (tD (tD (tD (tD T0 L8) L7) L6) L5) L4) L3) D4) B9) B8) B7) B2) B1) D1) D0) G5) E5) E4) E3) E2) G4) L9;go_wp2_with fail
   go_roundg ((Ab rs).length-(i+1))
   case measure=>exact(ω)
   case rel=>exact⟨i+1,m+1,Stb.ins Rd es ey,some ⟨A3,0,none⟩,A5,some ⟨A4,0,none⟩,A6,rfl,rfl,rfl,(by go_num),F8,⟨by rw[Stb.ins_len,HM.1.1],by have:=HM.1.2;omega⟩,I1.1,(fun g_ hg_=>by rw[Stb.ins_stop uU D6.1 C8.1 (wM _) (Or.inl rfl)]at hg_;exact((C7.1 g_ hg_).dig L9.1)),Q7.1.take 4,I9.1⟩
  have F8:=HLT.1;have d2:=a4.1;obtain rfl:i=(Ab rs).length:=ω
  have P2:¬((Ab rs).length:Int)<((Ab rs).length:Int):=ω;go_upto_region 28 with fail;apply wl;refine Ek Af _ _ _ _ ?_;go_wp2_with fail;go_ret2;unfold Uh;exact⟨A1,c1,A2,c2,m,es,rfl,HM.1.1,G7.1.row (i:=1) (by rfl),G7.1.row (i:=2) (by rfl),Q4.1,(by rw[N8.1,xK,Vw]),G7.1.ext⟩
 go_upto_region 3 with fail;apply wl;refine qV (u) ?_;refine zc (Ct _ rs _ (HU.1.ext O2.1.ext) HN.1 HR.1) ?_;rintro e W3 ⟨rfl,hx⟩;have G0:=zH (O2.1.step hx);clear hx;refine⟨.bool false,by rw[Bool.eq_false_iff.2 HV.1],?_⟩;try simp only[ζ]
 apply zq τ;go_upto_region 4 with fail;apply wl;refine Ek Af _ _ _ _ ?_;go_wp2_with fail;go_ret2;unfold Uh;exact⟨some ⟨X9,0,none⟩,0,some ⟨P9,0,none⟩,0,0,[],rfl,rfl,G0.1.row (i:=1) (by rfl),G0.1.row (i:=2) (by rfl),(by simp),(by rw[Vw,Qh HV.1];rfl),G0.1.ext⟩
end
section
theorem Hp.addRow2 {w0 w w':World}{m:List Dl}{t t2:TypeId}{size size2:Nat}{v v2:Value}{n n2:Nat}{xs xs2:List Value}(h:Hp w0 w m)(x:Aa w w')(r:Bi w' w.heap.size t size v n xs)(r2:Bi w' w.heap.size t2 size2 v2 n2 xs2)(hne:t≠t2):
  Hp w0 w' (m++[.row t size v n xs]++[.row t2 size2 v2 n2 xs2]):=by
 have h1:=h.addRow x r;have A1:Bi w' w0.heap.size t2 size2 v2 n2 xs2:=by
  obtain⟨q1,q2|⟨g,A4,rest,a,b,c⟩⟩:=r2
  ·exact⟨q1,.inl q2⟩
  exact⟨q1,.inr ⟨g,A4,rest,a,Aw h.ext.size b,c⟩⟩
 refine h1.add A1 (fun i f hf k hk e=> ?_);rcases List.mem_append.1 (wE hf)with hm|hm
 ·obtain⟨j,hj⟩:=List.mem_iff_getElem?.1 hm
  have q1:=h.lt hj hk;have q2:=Bi.block r2 k e;omega
 simp at hm;subst hm;obtain⟨_,⟨rfl,_⟩|⟨g2,c2,A0,rfl,_,A3,_⟩⟩:=r2
 ·simp[Dl.own,Value.ownBlock]at e
 have A2:g2=k:=by simpa[Dl.own,Value.ownBlock]using e
 subst A2;exact hne (h1.typ hf A3 hk)
end
section
attribute [local go_sem ↓] Go.wp_at_zero Go.wp_at_succ Az Ay
theorem cC (L:Nat)(u:Value)(rs:List Bb)(rule:Int)(ry:RV)(y:Rat)(w:World)(hu:Ch w u rs)(hy:ry.In L w y)(h1L:1<=L)(hL:L<=2000)(hn:rs.length<=1048576)(hr:∀r,r∈rs->r.length<=1048576):
  Calls prog 65 #[u,iV rule,(rg ry)] w fun e w'=>∃v es,e= .returned v/\Hf (L+8) w' w.heap.size v es/\es.map Bv.vl=Jl rule (Fu y rs)/\es.length<=4096/\Aa w w':=by
 have HU:=zH hu;have HN:=zH hn;have HR:=zH hr;have RY:=zH hy;clear hu hn hr hy;go_enter func65,ntmps65
 have H0:=zH (Hp.start w);go_upto_region 0 with fail;apply wl;apply Cd 31 (rc ry) H0.1;intro X1 w2 H3 _;refine Cy Af _ ?_;go_upto_region 1 with fail;apply wl;refine Bq H3.1 (u) _ ?_;refine zc (Sr L (u) rs ry y _ (HU.1.ext H3.1.ext) (RY.1.dig H3.1.dig0) h1L ω HN.1 HR.1) ?_;rintro e w8 ⟨D9,C7,D8,E5,n_,A0,rfl,rfl,B5,B4,C3,C5,hx⟩;have B7:=zH C5;have D1:=zH C3;obtain⟨J9,K5,C0,B1⟩:=Bi.form B5;obtain rfl:D9=J9:=by injection C0
 have E6:=zH B1;clear C0 B1 C5 C3;obtain⟨J8,K4,C0,B1⟩:=Bi.form B4;obtain rfl:D8=J8:=by injection C0
 have E7:=zH B1;clear C0 B1;have J3:=zH (show Hp w w8 [.blk X1 31 (rc ry),ro 31 4 D9 A0.length C7 Cg.cx A0,ro 3 1 D8 A0.length E5 Cg.cu A0]from H3.1.addRow2 hx B5 B4 (by decide));clear B5 B4;have D2:=zH (show A0.length<=4096 by have h_:=Tg y rs;rw[<-B7.1,wU]at h_;exact h_);clear hx;refine zn ?_;refine Ql Af _ _ _ _ _ ?_;go_upto_region 2 with fail
 apply wl;refine zp (w':=w8.alloc (.cells #[] 73)) (.slice (π w8.heap.size) 0 0) (by go_simp) ?_;have hh:=J3.1.addEmpty 73 8;have hd:=Ah.of_ext ((Aa.refl w8).alloc (.cells #[] 73));generalize w8.alloc (.cells #[] 73)=H7 at hh hd⊢
 generalize w8.heap.size=I3 at hh⊢;have H4:=hN hh;have J5:=zH (hd);clear hh hd;refine Cy Af _ ?_;go_upto_region 3 with fail
 apply wl;apply zq (iV 0);go_upto_region 4 with fail;apply wl;apply zq (iV 0);obtain⟨qs,E1⟩:∃qs,qs=A0.map Cg.vl:=⟨_,rfl⟩;have D6:=zH E1;have G1:qs.length=A0.length:=by rw[E1,wU]
 have H1:=zH G1;clear E1 G1;go_wp2_with fail;go_loopg [9,10,11] (A0.length) (fun cq H9 v25 H8 wr=>∃(k:Nat) (m:Nat) (es:List Bv) (A1:Option Addr) (c1:Nat) (s:Int),cq=A0.length-k/\H9= .slice A1 m c1/\v25= iV s/\H8= iV (k:Int)/\(k<=A0.length)/\(Oq qs k=s)/\(-(k:Int)<=s/\s<=k)/\(m=es.length/\m<=k)/\(es.map Bv.vl=eF rule ((Nh 0 qs).take k))/\(∀e,e∈es->e.Ok (L+8) wr)/\Hp w wr [.blk X1 31 (rc ry),.row 31 4 (.slice D9 A0.length C7) (A0.length) (List.flatMap Cg.cx A0),.row 3 1 (.slice D8 A0.length E5) (A0.length) (List.flatMap Cg.cu A0),.row 73 8 (.slice A1 m c1) (m) (List.flatMap Bv.cells es)]/\Ah H7 wr)
 case atStart=>exact⟨0,0,[],some ⟨I3,0,none⟩,0,0,rfl,rfl,rfl,rfl,wM _,rfl,⟨by decide,by decide⟩,⟨rfl,Bz _⟩,rfl,(by simp),H4.1,Ah.refl _⟩
 obtain⟨k,m,es,A1,c1,s,rfl,rfl,rfl,rfl,B9,A9,A8,B8,A3,B0,G2,G3⟩:=hrel;generalize wr=K2 at*;have HK:=zH B9;clear B9;have I8:=zH A9;clear A9;have I7:=zH A8;clear A8;have HM:=zH B8;clear B8;have A7:=zH A3;clear A3;have F2:=zH B0;clear B0;have D4:=zH G2;have G0:=zH G3;clear G2 G3 H4;rcases Ck (k+1<A0.length)with HLT|HLT
 ·have E4:=HLT.1
  have I0:A0.length<=4096:=D2.1;have C4:k<A0.length:=ω
  have E3:m<=4096:=by have:=HM.1.2;omega
  obtain⟨B2,rfl⟩:=E6.1 ω;obtain⟨G5,rfl⟩:=E7.1 ω;obtain⟨e,B6⟩:∃e,A0[k]?=some e:=⟨_,wC C4⟩;have F3:=zH B6;have F0:=zH (D1.1 e (wE B6));have I5:=zH F0.1.1;have J7:=zH F0.1.2.1;have I6:=zH F0.1.2.2;clear B6;obtain⟨f,B6⟩:∃f,A0[k+1]?=some f:=⟨_,wC E4⟩;have H2:=zH B6;have E9:=zH (D1.1 f (wE B6));have I4:=zH E9.1.1;have J6:=zH E9.1.2.1;have K6:=zH E9.1.2.2;clear B6;have E2:qs[k]?=some e.vl:=by rw[D6.1,xJ,F3.1];rfl
  have E8:=zH (show Oq qs (k+1)=s+e.up from by rw[Vm E2,I8.1];rfl);have G9:=zH (Si qs 0 k e.vl f.vl E2 (by rw[D6.1,xJ,H2.1];rfl));have G8:=zH (show 0+Oq qs (k+1)=s+e.up by rw[E8.1];omega);have A2:=zH (show-(k+1:Int)<=s+e.up/\s+e.up<=k+1 by have h1:=I7.1;have h2:=I6.1;omega);clear E2;go_upto_region 5 with fail
  apply wl;apply zq (iV (k:Int));apply zp (iV ((k+1:Nat):Int)) (by exact Hr (by have B3:=A2.1;omega));refine Bq Af _ (iV ((A0.length:Nat):Int)) ?_;apply zp τ (by exact Dp (e:=(Aq (by have B3:=A2.1;omega))));go_upto_region 7 with fail;apply wl;refine Cn Af (iV s) _ (iV (k:Int)) ?_;apply zp (.pointer (some ⟨G5,k*1,none⟩)) (by exact Eh (k:=k) underlying89 (l:=C4) (f:=(wH _).symm));refine ze G5 (k*1) (iV e.up) (D4.1.elem (f:=Cg.cu) (i:=2) rR Cg.cu_len F3.1) ?_;apply zp (iV (s+e.up)) (by exact Hr (by have B3:=A2.1;omega));apply zq (iV (s+e.up));rcases hcf:Gr (s+e.up) rule with _|_
  ·have CF:=zH hcf
   clear hcf;go_upto_region 8 with fail;apply wl;refine Bq Af (iV (s+e.up)) (iV rule) ?_;refine aC D4.1 (Ve (s+e.up) rule false _ CF.1 (by have h_:=A2.1;constructor<;>omega)) ?_;intro K1 J2 H5;have F6:=tD G0 H5;go_wp2_with fail
   go_roundg (A0.length-(k+1))
   case measure=>exact(by have B3:=A2.1;omega)
   case rel=>exact⟨k+1,m,es,A1,c1,s+e.up,rfl,rfl,rfl,(by go_num),C4,E8.1,(by have h_:=A2.1;constructor<;>omega),⟨HM.1.1,by have:=HM.1.2;omega⟩,(by rw[A7.1,Oh G9.1,if_neg (by rw[G8.1,CF.1];decide),xD]),(fun g_ hg_=>(F2.1 g_ hg_).dig H5.1),J2.1,F6.1⟩
  have CF:=zH hcf;clear hcf;go_upto_region 8 with fail;apply wl;refine Bq Af (iV (s+e.up)) (iV rule) ?_;refine aC D4.1 (Ve (s+e.up) rule true _ CF.1 (by have h_:=A2.1;constructor<;>omega)) ?_;intro A4 D3 F9;go_upto_region 9 with fail;refine wp_region_held_drew (S:=fun x=>Fr (fun kz=>Value.ownBlock (.slice A1 m c1)=some kz) A4 x) kR (Fr.of_ext zb) (fun _=> ?_);have J1:=zH (D3.1.step (Aa.refl A4).drew);have F8:=zH (Ah.of_ext (w:=A4) zb);refine zx 0 (bs 14 1) (.slice A1 m c1) (Fr.of_ext zb) ?_;refine zx 1 (bs 14 3) (.slice (π B2) A0.length C7) (Fr.of_ext zb) ?_;refine zx 2 (bs 14 7) (iV (k:Int)) (Fr.of_ext zb) ?_;refine zo 3 (bs 14 15) (v:= .pointer (some ⟨B2,k*4,none⟩)) (Fr.of_ext zb) ?_ (hv:=by intro w G4;exact Eh (k:=k) underlying54 (l:=C4) (f:=(wH _).symm));refine zr 4 (bs 14 31) B2 (k*4) (rc e.a) (fun x hx=>Fr.range hx (show World.rangeAt A4 B2 (k*4) (rc e.a)from(D3.1.elem (f:=Cg.cx) (i:=1) rR Cg.cx_len F3.1)) (D3.1.offRow (i:=1) (j:=3) rR rR dC rR)) underlying31 (Fr.of_ext zb) ?_;refine zx 5 (bs 14 63) (.slice (π B2) A0.length C7) (Fr.of_ext zb) ?_;refine zx 6 (bs 14 127) (iV (k:Int)) (Fr.of_ext zb) ?_;refine zu 7 (bs 14 255) (v:= iV ((k+1:Nat):Int)) (Fr.of_ext zb) ?_ (hv:=by intro w G4;exact Hr (by have B3:=A2.1;omega));refine zo 8 (bs 14 511) (v:= .pointer (some ⟨B2,(k+1)*4,none⟩)) (Fr.of_ext zb) ?_ (hv:=by intro w G4;exact Eh (k:=k+1) underlying54 (l:=E4) (f:=(wH _).symm));refine zr 9 (bs 14 1023) B2 ((k+1)*4) (rc f.a) (fun x hx=>Fr.range hx (show World.rangeAt A4 B2 ((k+1)*4) (rc f.a)from(D3.1.elem (f:=Cg.cx) (i:=1) rR Cg.cx_len H2.1)) (D3.1.offRow (i:=1) (j:=3) rR rR dC rR)) underlying31 (Fr.of_ext zb) ?_;refine zx 10 (bs 14 2047) (.agg #[.bool e.a.n,.slice e.a.p e.a.l e.a.c,.bool e.a.m,.slice e.a.p2 e.a.l2 e.a.c2,.bool f.a.n,.slice f.a.p f.a.l f.a.c,.bool f.a.m,.slice f.a.p2 f.a.l2 f.a.c2]) (Fr.of_ext zb) ?_;refine mU 11 (bs 14 4095) (v:= .slice (π A4.drew.heap.size) 1 1) (w':=(A4.drew.alloc (.cells ([.bool e.a.n,.slice e.a.p e.a.l e.a.c,.bool e.a.m,.slice e.a.p2 e.a.l2 e.a.c2,.bool f.a.n,.slice f.a.p f.a.l f.a.c,.bool f.a.m,.slice f.a.p2 f.a.l2 f.a.c2]:List Value).toArray 73))) ((Fr.of_ext zb).trans (Fr.of_ext ((Aa.refl A4.drew).alloc _))) ?_;try simp only[ζ]
  refine lU (j:=12) (listed':=(bs 14 8191)) rR kR rR _ _ _ rR mQ rR J1.1 (ix:=3) rR 1 1 [.bool e.a.n,.slice e.a.p e.a.l e.a.c,.bool e.a.m,.slice e.a.p2 e.a.l2 e.a.c2,.bool f.a.n,.slice f.a.p f.a.l f.a.c,.bool f.a.m,.slice f.a.p2 f.a.l2 f.a.c2] rR rfl (by simp[Value.oneCell']) (by simp[Ar]) dC (by unfold maxLen;exact(by have B3:=A2.1;omega)) (by have B3:=A2.1;omega) kR ?_;intro G6 C6 E0 hf hh hd hg;have J4:=zH hf;clear hf;rw[show List.flatMap Bv.cells es++[.bool e.a.n,.slice e.a.p e.a.l e.a.c,.bool e.a.m,.slice e.a.p2 e.a.l2 e.a.c2,.bool f.a.n,.slice f.a.p f.a.l f.a.c,.bool f.a.m,.slice f.a.p2 f.a.l2 f.a.c2]=_ from Ds Bv.cells _ (⟨e.a,f.a,e.q,f.q⟩:Bv)]at hh;have J0:=hN hh;have F7:=zH (show Ah A4.drew E0 from hd);have G7:=zH (show Fr (fun kz=>Value.ownBlock (.slice A1 m c1)=some kz) A4 E0 from Fr.trans_new ((Fr.of_ext zb).trans (Fr.of_ext (Ak.alloc _))) hg (fun j hj=> .inl hj));clear hh hd hg;refine⟨G7.1,?_⟩;try simp only[ζ]
  refine zx 13 (bs 14 16383) (.slice (π G6) (m+1) C6) G7.1 ?_;refine wpAnyH_done kR ?_ _;have F5:=tD (tD F9 F8) F7;have D5:=tD (tD (tD (tD J5 G0) F9) F8) F7;have F1:=zH (show Bv.Ok (L+8) E0 (⟨e.a,f.a,e.q,f.q⟩:Bv)from⟨(I5.1.dig D5.1),(I4.1.dig D5.1),J7.1,J6.1⟩);have F4:=tD (tD (tD G0 F9) F8) F7;go_wp2_with fail
  go_roundg (A0.length-(k+1))
  case measure=>exact(by have B3:=A2.1;omega)
  case rel=>exact⟨k+1,m+1,es++[(⟨e.a,f.a,e.q,f.q⟩:Bv)],some ⟨G6,0,none⟩,C6,s+e.up,rfl,rfl,rfl,(by go_num),C4,E8.1,(by have h_:=A2.1;constructor<;>omega),⟨by rw[wD,<-HM.1.1];rfl,by have:=HM.1.2;omega⟩,(by rw[xI,A7.1,Oh G9.1,if_pos (by rw[G8.1];exact CF.1)];rfl),(fun g_ hg_=>(List.mem_append.1 hg_).elim (fun hg_=>(F2.1 g_ hg_).dig F5.1) (fun hg_=>by rw[List.mem_singleton.1 hg_];exact F1.1)),J0.1,F4.1⟩
 have E4:=HLT.1;have I0:A0.length<=4096:=D2.1;have K3:=HK.1;have E3:m<=4096:=by have:=HM.1.2;omega
 have I1:=HM.1.1;subst I1;go_upto_region 5 with fail;apply wl;apply zq (iV (k:Int));apply zp (iV ((k+1:Nat):Int)) (by exact Hr ω);refine Bq Af _ (iV ((A0.length:Nat):Int)) ?_;apply zp φ (by exact Dp (e:=(Aj (by have h_:=HLT.1;omega))));go_upto_region 10 with fail;apply wl;refine Cy Af _ ?_;refine zc (Sn (L+8) (.slice A1 es.length c1) (List.map Bv.vl es) _ (Hf.reads ⟨D4.1.row (i:=3) rR,F2.1⟩) ω ω (by rw[wU];omega)) ?_;rintro e H6 ⟨v_,A6,rfl,A5,C2,C1,hx⟩;have C8:=zH C2;have D0:=zH C1;have C9:=zH A5.2;obtain⟨K0,I2,rfl,B1⟩:=Bi.form A5.1;have I9:=zH B1;clear C2 C1 B1;have D7:=zH (show Hp w H6 [.blk X1 31 (rc ry),ro 31 4 D9 A0.length C7 Cg.cx A0,ro 3 1 D8 A0.length E5 Cg.cu A0,ro 73 8 A1 es.length c1 Bv.cells es,ro 73 8 K0 A6.length I2 Bv.cells A6]from D4.1.addRow hx A5.1);clear A5 hx;refine zn ?_;refine Cy Af _ ?_;go_wp2_with fail
 go_ret;first|exact⟨_,A6,rfl,Hf.base ⟨D7.1.row (i:=4) (by rfl),C9.1⟩ (Bz _),(by rw[C8.1,A7.1,wI (by rw[Io];have h_:=H1.1;omega),D6.1,B7.1];rfl),(Aw D0.1 (by rw[wU];exact E3)),D7.1.ext⟩|exact⟨_,rfl,A6,Hf.base ⟨D7.1.row (i:=4) (by rfl),C9.1⟩ (Bz _),(by rw[C8.1,A7.1,wI (by rw[Io];have h_:=H1.1;omega),D6.1,B7.1];rfl),(Aw D0.1 (by rw[wU];exact E3)),D7.1.ext⟩
end
section
section
variable {P:Program} {ρ:Operand->Value} {o:Oper} {w:World} {g n c k size:Nat} {z:Int} {t e:TypeId} {x y:Operand}
theorem Wj (ho:o.op= .slice t x none (some y) none)(ht:P.underlying t=some (.slice e))(hs:(P.info? e).map (·.size)=some size)(hx:ρ x= .slice (π g) n c)(hy:ρ y= iV z)(hz:z=(k:Int))(hk:k<=c):
  (execOp ρ o).run P w= .ok (.value (.slice (π g) k c)) w:=by
 subst hz;have A0:P.elem t=e:=by simp[Program.elem,ht]
 have h1:P.underlying t=some (.slice (P.elem t)):=by rw[A0];exact ht
 unfold execOp;simp only[ho,hx,hy,Option.map_some,Option.map_none,Sem.run_bind,run_sliceAt_slice _ _ _ _ _ _ h1,run_slice_h w t _ _ _ h1 .i64 (k:Int) ω (by omega:(k:Int)<=(c:Int)),A0];cases hq:P.info? e with
 |none=>simp[hq]at hs
 |some i=>
  have h2:i.size=size:=by simpa[hq]using hs
  simp[sizeOf,typeInfo,hq,h2,sliced,Addr.add]
def Jh (g c k size:Nat):Option Addr:=if c=k then some ⟨g,0,none⟩else some ⟨g,k*size,none⟩
theorem Wl (ho:o.op= .slice t x (some y) none none)(ht:P.underlying t=some (.slice e))(hs:(P.info? e).map (·.size)=some size)(hx:ρ x= .slice (π g) n c)(hy:ρ y= iV z)(hz:z=(k:Int))(hk:k<=n):
  (execOp ρ o).run P w= .ok (.value (.slice (Jh g c k size) (n-k) (c-k))) w:=by
 subst hz;have A0:P.elem t=e:=by simp[Program.elem,ht]
 have h1:P.underlying t=some (.slice (P.elem t)):=by rw[A0];exact ht
 unfold execOp;simp only[ho,hx,hy,Option.map_some,Option.map_none,Sem.run_bind,run_sliceAt_slice _ _ _ _ _ _ h1,run_slice_l w t _ _ _ h1 .i64 (k:Int) ω (by omega:(k:Int)<=(n:Int)),A0];cases hq:P.info? e with
 |none=>simp[hq]at hs
 |some i=>
  have h2:i.size=size:=by simpa[hq]using hs
  by_cases q:c=k
  ·simp[sizeOf,typeInfo,hq,h2,sliced,Jh,q]
  have q2:(⟨g,0,none⟩:Addr).add (k*size)=⟨g,k*size,none⟩:=by unfold Addr.add;split<;>simp_all
  simp[sizeOf,typeInfo,hq,h2,sliced,Jh,q,q2]
end
section
variable {w:World} {b g n c:Nat} {T:TypeId} {es:List Bd}
theorem Bi.elem1 (h:Bi w b T 4 (.slice (π g) n c) n (es.flatMap Bd.cells)){k:Nat}{e:Bd}(he:es[k]?=some e):w.rangeAt g (k*4) e.cells:=
  h.rangeAt _ _ (fun j v hj=>Hw Bd.len es k e he j v hj)
theorem Bi.capLe (h:Bi w b T 4 (.slice (π g) n c) n (es.flatMap Bd.cells)):n<=c:=by
  obtain⟨_,⟨h2,_⟩|⟨g',c',r,h2,_,_,h3,_⟩⟩:=h
  · cases h2
  injection h2 with _ _ e;rw[e];exact h3
theorem eL (es:List Bd):∀u,u∈es.flatMap Bd.cells->u.oneCell'=true:=by
  intro u hu;obtain⟨e,_,h⟩:=List.mem_flatMap.1 hu;exact Bd.one e u h
theorem oW (es:List Bd):Ar (es.flatMap Bd.cells):=by
  intro u hu;obtain⟨e,_,h⟩:=List.mem_flatMap.1 hu;exact fM e u h
theorem rJ (g o j:Nat):(⟨g,o,none⟩:Addr).add j=⟨g,o+j,none⟩:=by unfold Addr.add;split<;>simp_all
theorem Bi.srcTake (h:Bi w b T 4 (.slice (π g) n c) n (es.flatMap Bd.cells))(k:Nat):0<k->∃ad,some (⟨g,0,none⟩:Addr)=some ad/\∀(j:Nat) (u:Value),((es.take k).flatMap Bd.cells)[j]?=some u->w.cell? (ad.add j)=some u:=by
 intro _;refine⟨_,rfl,fun j u hu=> ?_⟩;rw[<-Mn Bd.len]at hu;have hj:j<k*4:=by have:=(List.getElem?_eq_some_iff.1 hu).1;rw[wK]at this;omega
 rw[List.getElem?_take_of_lt hj]at hu;have hr:=h.rangeAt 0 (es.flatMap Bd.cells) (fun i v hv=>by rw[wH];exact hv) j u hu;rw[rJ];exact hr
theorem Bi.srcDrop (h:Bi w b T 4 (.slice (π g) n c) n (es.flatMap Bd.cells))(k:Nat):0<n-k->∃ad,Jh g c k 4=some ad/\∀(j:Nat) (u:Value),((es.drop k).flatMap Bd.cells)[j]?=some u->w.cell? (ad.add j)=some u:=by
  intro hk;have hc:=h.capLe;refine⟨⟨g,k*4,none⟩,if_neg ω,fun j u hu=> ?_⟩;rw[<-Qf Bd.len,List.getElem?_drop]at hu;have hr:=h.rangeAt 0 (es.flatMap Bd.cells) (fun i v hv=>by rw[wH];exact hv) (k*4+j) u hu;rw[rJ];simpa using hr
end
theorem mT (rs:List Bb):(Ab rs).length<=4096:=by
  unfold Ab;refine Aw (Es _) ?_;split
  · rename_i h;exact Fc h
  decide
theorem fH (rs:List Bb):∀e,e∈Ab rs->Dy e.1/\Dy e.2:=by
  unfold Ab;split
  · rename_i h;exact fun e he=>Ts h e he
  intro e he;simp[Cc]at he
theorem Zt {y:Rat}:∀{l:List Rat},l.length<=(Hj l y).length/\(Hj l y).length<=l.length+1
  | []=>by simp[Hj]
  | x::l=>by
    have ih:=Zt (y:=y) (l:=l);unfold Hj;split
    · simp only[xB];omega
    split<;>simp
theorem gS {rs:List Bb}{i:Nat}{r:Bb}(h:rs[i]?=some r):Nk (rs.take (i+1))=Nk (rs.take i)++r.map fun p=>(p.2:Rat):=by
  unfold Nk;rw[List.take_add_one,h,List.flatMap_append];simp
theorem gR {r:Bb}{k:Nat}{p:Int×Int}(h:r[k]?=some p):((r.take (k+1)).map fun p=>(p.2:Rat))=((r.take k).map fun p=>(p.2:Rat))++[(p.2:Rat)]:=by
  rw[List.take_add_one,h,xI];rfl
theorem Va {x o:Df}{l:List Df}{k:Nat}(h:l[k]?=some o):((l.take (k+1)).flatMap fun o=>Km x o)=((l.take k).flatMap fun o=>Km x o)++Km x o:=by
  rw[List.take_add_one,h,List.flatMap_append];simp
theorem Vf {a b:Int×Int}{l:List Df}{i:Nat}{x:Df}(h:l[i]?=some x):Kn a b [] (l.take (i+1))=Kn a b [] (l.take i)++Ie a b (l.take i) x:=by
  rw[List.take_add_one,h];have:=Vg a b x (l.take i) [];rw[wT]at this;exact this
theorem rX {x o:Df}(h:Db x.1 x.2 o.1 o.2=1):Km x o=[Jm x.1 x.2 o.1 o.2]:=if_pos h
theorem rY {x o:Df}(h:¬Db x.1 x.2 o.1 o.2=1):Km x o=[]:=if_neg h
theorem jN {x:Df}{z:Int}(h:Ru x.1 x.2 z):Mv x z=[Mu x.1 x.2 z]:=if_pos h
theorem jO {x:Df}{z:Int}(h:¬Ru x.1 x.2 z):Mv x z=[]:=if_neg h
theorem lD {lo hi:Rat}{all:List Rat}{es:List Bd}{p:Nat}(h:lo<hi)(hq:es.map Bd.q=Jp lo hi [lo,hi] all)(hl:es.length=p+2):(∃e,es[0]?=some e/\e.q=lo)/\∃e,es[p+1]?=some e/\e.q=hi:=by
 obtain⟨h1,h2⟩:=cP h all;rw[<-hq]at h1 h2;constructor
 ·refine⟨_,wC ω,?_⟩
  rw[List.head?_eq_getElem?,xJ,wC ω]at h1;exact Option.some.inj h1
 refine⟨_,wC ω,?_⟩;rw[List.getLast?_eq_getElem?,wU,hl,xJ,show p+2-1=p+1 by omega,wC ω]at h2;exact Option.some.inj h2
section
variable {w0 w w':World} {m:List Dl}
theorem Hp.orRow {i:Nat}{t:TypeId}{size n n':Nat}{v v':Value}{xs xs':List Value}(h:Hp w0 w m)(hi:m[i]?=some (.row t size v n xs))(x:Aa w w')
  (hor:(v'=v/\n'=n/\xs'=xs)\/Bi w' w.heap.size t size v' n' xs'):Hp w0 w' (m.set i (.row t size v' n' xs')):=by
 rcases hor with⟨rfl,rfl,rfl⟩|hr
 ·have e:m.set i (.row t size v' n' xs')=m:=by
   obtain⟨hl,he⟩:=List.getElem?_eq_some_iff.1 hi;rw[<-he];exact List.set_getElem_self hl
  rw[e];exact h.step x
 refine h.turn (r:=none) hi (fun k hk=>by cases hk) ⟨x.os,x.tape,x.output,x.size,fun k hk _=>x.block k hk⟩ ?_ (fun k hk=> .inr (Bi.block hr k hk));obtain⟨h1,h2|⟨g,A0,rest,a,b,c⟩⟩:=hr
 ·exact⟨h1,.inl h2⟩
 exact⟨h1,.inr ⟨g,A0,rest,a,Aw h.ext.size b,c⟩⟩
end
end
section
attribute [local go_sem ↓] Go.wp_at_zero Go.wp_at_succ Az Ay
theorem cD (L:Nat)(hL:L<=60000)(ry:RV)(y:Rat)(g n c b:Nat)(es:List Bd)(w:World)(hrow:Bi w b 31 4 (.slice (π g) n c) n (List.flatMap Bd.cells es))(hn:n=es.length)(hn2:n<=90000000)(hok:∀e,e∈es->e.Ok L w)(hy:ry.Is w y)(hyl:Nm.rl y<=L):
  Calls prog 116 #[.slice (π g) n c,(rg ry)] w fun e w'=>∃(A':Option Addr) (n' c':Nat) (es':List Bd),e= .returned (.slice A' n' c')/\n'=es'.length/\
   ((Value.slice A' n' c'= .slice (π g) n c/\n'=n/\List.flatMap Bd.cells es'=List.flatMap Bd.cells es)\/Bi w' w.heap.size 31 4 (.slice A' n' c') n' (List.flatMap Bd.cells es'))/\es'.map Bd.q=Hj (es.map Bd.q) y/\(∀e,e∈es'->e.Ok L w')/\Aa w w':=by
 have A0:=zH hrow;have B5:=zH hok;have RY:=zH hy;have BY:=zH hyl;have G4:=hrow.capLe;have HN:=zH hn;clear hrow hok hy hyl hn;go_enter func116,ntmps116
 have H0:=zH (Hp.start w);go_upto_region 0 with fail;apply wl;apply Cd 31 (rc ry) H0.1;intro X1 w2 H3 _;refine Cy Af _ ?_;go_upto_region 1 with fail;apply wl;apply zq (iV 0);go_wp2_with fail;go_loopg [5] (n) (fun cq v8 wr=>∃(i:Nat),cq=n-i/\v8= iV (i:Int)/\(i<=n)/\(∀(j:Nat) (x:Rat),j<i->(es.map Bd.q)[j]?=some x->x<y)/\Hp w wr [.blk X1 31 (rc ry)]/\Ah w2 wr)
 case atStart=>exact⟨0,rfl,rfl,wM _,(fun j_ x_ h_ _=>absurd h_ (Nat.not_lt_zero _)),H3.1,Ah.refl _⟩
 obtain⟨i,rfl,rfl,A7,A2,E9,F0⟩:=hrel;generalize wr=w9 at*;have G5:=zH A7;clear A7;have A6:=zH A2;clear A2;have B4:=zH E9;have H2:=zH F0;clear E9 F0 H3;have B8:=G5.1;rcases Ck (i<n)with HLT|HLT
 ·have B0:=HLT.1
  obtain⟨e,A5⟩:∃e,es[i]?=some e:=⟨_,wC (HN.1▸B0)⟩;have HE:=zH A5;have F3:=zH (B5.1 e (wE A5));have D1:=zH F3.1.1;have D2:=zH F3.1.2;have C3:=zH (show(es.map Bd.q)[i]?=some e.q from by rw[xJ,A5];rfl);clear A5;rcases Ck (e.q<y)with CLT|CLT
  ·go_upto_region 2 with fail
   refine zy ?_;have E3:=zH (B4.1.step (Aa.refl w9).drew);have H1:=zH (Ah.of_ext (w:=w9) zb);refine Rg Af zb (bs 13 7) 0 1 2 (iV (i:Int)) _ (iV (n:Int)) ?_;refine zu 3 (bs 13 15) (v:= .bool true) zb ?_ (hv:=by intro w A1;exact Dp (e:=(Aq ω)));refine Rg Af zb (bs 13 127) 4 5 6 τ _ (iV (i:Int)) ?_;refine zo 7 (bs 13 255) (v:= .pointer (some ⟨g,i*4,none⟩)) zb ?_ (hv:=by intro w A1;exact Eh (k:=i) underlying54 (l:=B0) (f:=(wH _).symm));refine zg 8 (bs 13 511) g (i*4) (rc e.a) ((Bi.ext A0.1 B4.1.ext).elem1 HE.1) underlying31 zb ?_;refine zg 9 (bs 13 1023) X1 (0) (rc ry) (B4.1.range (i:=0) rR 0 4) underlying31 zb ?_;refine mC 10 (bs 13 2047) (Gg (L:=60000) (RV.Is.nin (D1.1.dig E3.1.dig0) (Aw D2.1 ω)) (RV.Is.nin (RY.1.dig E3.1.dig0) (Aw BY.1 ω)) ω) ?_;rintro e G0 ⟨rfl,hx⟩;have G7:=zH (E3.1.step hx);have G9:=zH (show Ah w9.drew G0 from Ah.of_ext hx);have D6:=zH (zb.trans hx);clear hx;apply zm D6.1;refine zu 11 (bs 13 4095) (v:= .bool true) D6.1 ?_ (hv:=by intro w A1;exact Dp (e:=(Aq (rcmp_lt.2 CLT.1))));refine zx 12 (bs 13 8191) τ D6.1 ?_;refine wpAnyH_done kR ?_ _;go_upto_region 3 with fail
   apply wl;apply zq (iV (i:Int));apply zp (iV ((i+1:Nat):Int)) (by exact Hr ω);apply zq (iV ((i+1:Nat):Int));have E6:=tD (tD H2 H1) G9;go_wp2_with fail
   go_roundg (n-(i+1))
   case measure=>exact(ω)
   case rel=>exact⟨i+1,rfl,(by go_num),B0,(fun j_ x_ hj_ hx_=>by rcases Nat.lt_or_ge j_ i with q_|q_;exact A6.1 j_ x_ q_ hx_;obtain rfl:j_=i:=ω;rw[C3.1]at hx_;injection hx_ with hx_;rw[<-hx_];exact CLT.1),G7.1,E6.1⟩
  go_upto_region 2 with fail;refine zy ?_;have E2:=zH (B4.1.step (Aa.refl w9).drew);refine Rg Af zb (bs 13 7) 0 1 2 (iV (i:Int)) _ (iV (n:Int)) ?_;refine zu 3 (bs 13 15) (v:= .bool true) zb ?_ (hv:=by intro w A1;exact Dp (e:=(Aq ω)));refine Rg Af zb (bs 13 127) 4 5 6 τ _ (iV (i:Int)) ?_;refine zo 7 (bs 13 255) (v:= .pointer (some ⟨g,i*4,none⟩)) zb ?_ (hv:=by intro w A1;exact Eh (k:=i) underlying54 (l:=B0) (f:=(wH _).symm));refine zg 8 (bs 13 511) g (i*4) (rc e.a) ((Bi.ext A0.1 B4.1.ext).elem1 HE.1) underlying31 zb ?_;refine zg 9 (bs 13 1023) X1 (0) (rc ry) (B4.1.range (i:=0) rR 0 4) underlying31 zb ?_;refine mC 10 (bs 13 2047) (Gg (L:=60000) (RV.Is.nin (D1.1.dig E2.1.dig0) (Aw D2.1 ω)) (RV.Is.nin (RY.1.dig E2.1.dig0) (Aw BY.1 ω)) ω) ?_;rintro e E8 ⟨rfl,hx⟩;have B6:=zH (E2.1.step hx);have D5:=zH (zb.trans hx);clear hx;apply zm D5.1;refine zu 11 (bs 13 4095) (v:= .bool false) D5.1 ?_ (hv:=by intro w A1;exact Dp (e:=(Aj (fun hh=>CLT.1 (rcmp_lt.1 hh)))));refine zx 12 (bs 13 8191) φ D5.1 ?_;refine wpAnyH_done kR ?_ _;rcases Ck (e.q=y)with CEQ|CEQ
  ·go_upto_region 4 with fail
   refine zy ?_;have E1:=zH (B6.1.step (Aa.refl E8).drew);refine Rg Af zb (bs 13 7) 0 1 2 (iV (i:Int)) _ (iV (n:Int)) ?_;refine zu 3 (bs 13 15) (v:= .bool true) zb ?_ (hv:=by intro w A1;exact Dp (e:=(Aq ω)));refine Rg Af zb (bs 13 127) 4 5 6 τ _ (iV (i:Int)) ?_;refine zo 7 (bs 13 255) (v:= .pointer (some ⟨g,i*4,none⟩)) zb ?_ (hv:=by intro w A1;exact Eh (k:=i) underlying54 (l:=B0) (f:=(wH _).symm));refine zg 8 (bs 13 511) g (i*4) (rc e.a) ((Bi.ext A0.1 B6.1.ext).elem1 HE.1) underlying31 zb ?_;refine zg 9 (bs 13 1023) X1 (0) (rc ry) (B6.1.range (i:=0) rR 0 4) underlying31 zb ?_;refine mC 10 (bs 13 2047) (Gg (L:=60000) (RV.Is.nin (D1.1.dig E1.1.dig0) (Aw D2.1 ω)) (RV.Is.nin (RY.1.dig E1.1.dig0) (Aw BY.1 ω)) ω) ?_;rintro e H5 ⟨rfl,hx⟩;have F6:=zH (E1.1.step hx);have D4:=zH (zb.trans hx);clear hx;apply zm D4.1;refine zu 11 (bs 13 4095) (v:= .bool true) D4.1 ?_ (hv:=by intro w A1;exact Kf (e:=(Aq (Mh.2 CEQ.1))));refine zx 12 (bs 13 8191) τ D4.1 ?_;refine wpAnyH_done kR ?_ _;go_upto_region 5 with fail
   apply wl;refine Bq Af _ _ ?_;go_wp2_with fail;go_ret;exact⟨some ⟨g,0,none⟩,n,c,es,rfl,HN.1,.inl ⟨rfl,rfl,rfl⟩,(by rw[Rk A6.1 (fun x_ hx_=>by rw[C3.1]at hx_;injection hx_ with hx_;rw[<-hx_];exact CLT.1) (by rw[wU,<-HN.1];exact B8),if_pos (by rw[C3.1,CEQ.1])]),(fun e_ A5=>(B5.1 e_ A5).dig F6.1.dig0),F6.1.ext⟩
  go_upto_region 4 with fail;refine zy ?_;have E0:=zH (B6.1.step (Aa.refl E8).drew);refine Rg Af zb (bs 13 7) 0 1 2 (iV (i:Int)) _ (iV (n:Int)) ?_;refine zu 3 (bs 13 15) (v:= .bool true) zb ?_ (hv:=by intro w A1;exact Dp (e:=(Aq ω)));refine Rg Af zb (bs 13 127) 4 5 6 τ _ (iV (i:Int)) ?_;refine zo 7 (bs 13 255) (v:= .pointer (some ⟨g,i*4,none⟩)) zb ?_ (hv:=by intro w A1;exact Eh (k:=i) underlying54 (l:=B0) (f:=(wH _).symm));refine zg 8 (bs 13 511) g (i*4) (rc e.a) ((Bi.ext A0.1 B6.1.ext).elem1 HE.1) underlying31 zb ?_;refine zg 9 (bs 13 1023) X1 (0) (rc ry) (B6.1.range (i:=0) rR 0 4) underlying31 zb ?_;refine mC 10 (bs 13 2047) (Gg (L:=60000) (RV.Is.nin (D1.1.dig E0.1.dig0) (Aw D2.1 ω)) (RV.Is.nin (RY.1.dig E0.1.dig0) (Aw BY.1 ω)) ω) ?_;rintro e F9 ⟨rfl,hx⟩;have G6:=zH (E0.1.step hx);have D3:=zH (zb.trans hx);clear hx;apply zm D3.1;refine zu 11 (bs 13 4095) (v:= .bool false) D3.1 ?_ (hv:=by intro w A1;exact Kf (e:=(Aj (fun hh=>CEQ.1 (Mh.1 hh)))));refine zx 12 (bs 13 8191) φ D3.1 ?_;refine wpAnyH_done kR ?_ _;go_upto_region 6 with fail
  apply wl;refine Cy Af _ ?_;have F5:=zH (show Hp w F9 [.blk X1 31 (rc ry),ro 31 4 none 0 0 Bd.cells ([])]from G6.1.addNil 31 4);have D7:=zH (A0.1.srcTake i);have D9:=zH (A0.1.srcDrop i);go_upto_region 7 with fail
  apply wl;refine Cn Af _ _ (iV (i:Int)) ?_;apply zp (.slice (π g) i c) (by exact Wj (size:=4) rR underlying54 kR rR rR rfl ω);refine Pb rR _ _ _ rR Ld rR F5.1 (ix:=1) rR (π g) i c (List.flatMap Bd.cells (es.take i)) rR (by rw[Kc Bd.len,wK,<-HN.1,Nat.min_eq_left B8]) (fun h0_=>by obtain⟨B3,B2,B1⟩:=D7.1 h0_;exact⟨B3,B2,fun j_ u_ hj_=>F5.1.ext.get (B1 j_ u_ hj_)⟩) (eL _) (oW _) (by unfold maxLen;exact ω) ω ?_;intro F8 F2 E7 hh hd hg hf;clear hf;rw[show List.flatMap Bd.cells ([])++List.flatMap Bd.cells (es.take i)=List.flatMap Bd.cells ((es.take i))from(wT _)]at hh;have F4:=hN hh;clear hh hd hg;try simp only[ζ]
  apply zq (.slice F8 (0+i) F2);go_upto_region 8 with fail;apply wl;refine Bq F4.1 (.slice F8 (0+i) F2) _ ?_;refine zp (w':=(E7.alloc (.cells ((rc ry):List Value).toArray 31))) (.slice (π E7.heap.size) 1 1) (by go_simp) ?_;refine Hn rR _ _ _ rR Ld rR F4.1 (ix:=1) rR 1 1 (rc ry) rR rfl (by simp[Value.oneCell']) (by simp[Ar]) dC (by unfold maxLen;exact ω) ω ?_;intro F1 A9 H4 hf hh hd hg;have G8:=zH hf;clear hf;rw[show List.flatMap Bd.cells (es.take i)++(rc ry)=_ from Ds Bd.cells _ (⟨ry,y⟩:Bd)]at hh;have C7:=hN hh;clear hh hd hg;try simp only[ζ]
  apply zq (.slice (π F1) (0+i+1) A9);go_upto_region 9 with fail;apply wl;refine Cn Af (.slice (π F1) (0+i+1) A9) _ (iV (i:Int)) ?_;apply zp (.slice (Jh g c i 4) (n-i) (c-i)) (by exact Wl (size:=4) rR underlying54 kR rR rR rfl ω);refine Pb rR _ _ _ rR Ld rR C7.1 (ix:=1) rR (Jh g c i 4) (n-i) (c-i) (List.flatMap Bd.cells (es.drop i)) rR (by rw[Kc Bd.len,List.length_drop,<-HN.1]) (fun h0_=>by obtain⟨B3,B2,B1⟩:=D9.1 h0_;exact⟨B3,B2,fun j_ u_ hj_=>C7.1.ext.get (B1 j_ u_ hj_)⟩) (eL _) (oW _) (by unfold maxLen;exact ω) ω ?_;intro D0 C2 G3 hh hd hg hf;clear hf;rw[show List.flatMap Bd.cells ((es.take i)++[(⟨ry,y⟩:Bd)])++List.flatMap Bd.cells (es.drop i)=List.flatMap Bd.cells (((es.take i)++[(⟨ry,y⟩:Bd)])++(es.drop i))from List.flatMap_append.symm]at hh;have A4:=hN hh;clear hh hd hg;try simp only[ζ]
  apply zq (.slice D0 (0+i+1+(n-i)) C2);have D8:=zH (show Hj (es.map Bd.q) y=(es.map Bd.q).take i++y::(es.map Bd.q).drop i from by rw[Rk A6.1 (fun x_ hx_=>by rw[C3.1]at hx_;injection hx_ with hx_;rw[<-hx_];exact CLT.1) (by rw[wU,<-HN.1];exact B8),if_neg (fun h_=>by rw[C3.1]at h_;injection h_ with h_;exact CEQ.1 h_)]);go_wp2_with fail
  go_ret;exact⟨D0,_,C2,((es.take i)++[(⟨ry,y⟩:Bd)])++(es.drop i),rfl,(by have h_:=HN.1;simp only[wD,wK,List.length_drop,xB,List.length_nil];omega),.inr (A4.1.row (i:=1) (by rfl)),(by rw[D8.1];simp[List.map_take,List.map_drop]),(fun e_ A5=>by rcases List.mem_append.1 A5 with h_|h_;rcases List.mem_append.1 h_ with h_|h_;exact(B5.1 e_ (List.mem_of_mem_take h_)).dig A4.1.dig0;(rw[xH]at h_;rw[h_];exact⟨RY.1.dig A4.1.dig0,BY.1⟩);exact(B5.1 e_ (List.mem_of_mem_drop h_)).dig A4.1.dig0),A4.1.ext⟩
 have B0:=HLT.1;obtain rfl:n=i:=ω;go_upto_region 2 with fail;refine zy ?_;have E5:=zH (B4.1.step (Aa.refl w9).drew);refine Rg Af zb (bs 13 7) 0 1 2 (iV (n:Int)) _ (iV (n:Int)) ?_;refine zu 3 (bs 13 15) (v:= .bool false) zb ?_ (hv:=by intro w A1;exact Dp (e:=(Aj ω)));refine qS Af zb (bs 13 4095) 4 5 6 7 8 9 10 11 φ _ _ _ _ _ _ _ ?_;refine zx 12 (bs 13 8191) φ zb ?_;refine wpAnyH_done kR ?_ _;go_upto_region 4 with fail
 refine wp_region_held_drew (S:=fun x=>Aa w9.drew x) kR zb (fun _=> ?_);have E4:=zH (E5.1.step (Aa.refl w9.drew).drew);refine Rg Af zb (bs 13 7) 0 1 2 (iV (n:Int)) _ (iV (n:Int)) ?_;refine zu 3 (bs 13 15) (v:= .bool false) zb ?_ (hv:=by intro w A1;exact Dp (e:=(Aj ω)));refine qS Af zb (bs 13 4095) 4 5 6 7 8 9 10 11 φ _ _ _ _ _ _ _ ?_;refine zx 12 (bs 13 8191) φ zb ?_;refine wpAnyH_done kR ?_ _;go_upto_region 6 with fail
 apply wl;refine zp (w':=w9.drew.drew) (.slice none 0 0) (by go_simp<;>with_reducible rfl) ?_;have C6:=zH (show Hp w w9.drew.drew [.blk X1 31 (rc ry),ro 31 4 none 0 0 Bd.cells ([])]from E4.1.addNil 31 4);have D7:=zH (A0.1.srcTake n);have D9:=zH (A0.1.srcDrop n);go_upto_region 7 with fail
 apply wl;refine zp (w':=w9.drew.drew) (.slice none 0 0) (by go_simp<;>with_reducible rfl) ?_;refine zp (w':=w9.drew.drew) (.slice (π g) n c) (by go_simp<;>with_reducible rfl) ?_;refine zp (w':=w9.drew.drew) (iV (n:Int)) (by go_simp<;>with_reducible rfl) ?_;refine zp (w':=w9.drew.drew) (.slice (π g) n c) (by exact Wj (size:=4) rR underlying54 kR rR rR rfl ω) ?_;refine Pb rR _ _ _ rR Ld rR C6.1 (ix:=1) rR (π g) n c (List.flatMap Bd.cells (es.take n)) rR (by rw[Kc Bd.len,wK,<-HN.1,Nat.min_eq_left B8]) (fun h0_=>by obtain⟨B3,B2,B1⟩:=D7.1 h0_;exact⟨B3,B2,fun j_ u_ hj_=>C6.1.ext.get (B1 j_ u_ hj_)⟩) (eL _) (oW _) (by unfold maxLen;exact ω) ω ?_;intro C9 C1 B7 hh hd hg hf;clear hf;rw[show List.flatMap Bd.cells ([])++List.flatMap Bd.cells (es.take n)=List.flatMap Bd.cells ((es.take n))from(wT _)]at hh;have C5:=hN hh;clear hh hd hg;try simp only[ζ]
 apply zq (.slice C9 (0+n) C1);go_upto_region 8 with fail;apply wl;refine Bq C5.1 (.slice C9 (0+n) C1) _ ?_;refine zp (w':=(B7.alloc (.cells ((rc ry):List Value).toArray 31))) (.slice (π B7.heap.size) 1 1) (by go_simp) ?_;refine Hn rR _ _ _ rR Ld rR C5.1 (ix:=1) rR 1 1 (rc ry) rR rfl (by simp[Value.oneCell']) (by simp[Ar]) dC (by unfold maxLen;exact ω) ω ?_;intro B9 A8 G2 hf hh hd hg;have F7:=zH hf;clear hf;rw[show List.flatMap Bd.cells (es.take n)++(rc ry)=_ from Ds Bd.cells _ (⟨ry,y⟩:Bd)]at hh;have C4:=hN hh;clear hh hd hg;try simp only[ζ]
 apply zq (.slice (π B9) (0+n+1) A8);go_upto_region 9 with fail;apply wl;refine Cn Af (.slice (π B9) (0+n+1) A8) _ (iV (n:Int)) ?_;apply zp (.slice (Jh g c n 4) (n-n) (c-n)) (by exact Wl (size:=4) rR underlying54 kR rR rR rfl ω);refine Pb rR _ _ _ rR Ld rR C4.1 (ix:=1) rR (Jh g c n 4) (n-n) (c-n) (List.flatMap Bd.cells (es.drop n)) rR (by rw[Kc Bd.len,List.length_drop,<-HN.1]) (fun h0_=>by obtain⟨B3,B2,B1⟩:=D9.1 h0_;exact⟨B3,B2,fun j_ u_ hj_=>C4.1.ext.get (B1 j_ u_ hj_)⟩) (eL _) (oW _) (by unfold maxLen;exact ω) ω ?_;intro C8 C0 G1 hh hd hg hf;clear hf;rw[show List.flatMap Bd.cells ((es.take n)++[(⟨ry,y⟩:Bd)])++List.flatMap Bd.cells (es.drop n)=List.flatMap Bd.cells (((es.take n)++[(⟨ry,y⟩:Bd)])++(es.drop n))from List.flatMap_append.symm]at hh;have A3:=hN hh;clear hh hd hg;try simp only[ζ]
 apply zq (.slice C8 (0+n+1+(n-n)) C0);have D8:=zH (show Hj (es.map Bd.q) y=(es.map Bd.q).take n++y::(es.map Bd.q).drop n from by rw[Rk A6.1 (fun x_ hx_=>by rw[xP (by rw[wU,<-HN.1];exact Bz _)]at hx_;cases hx_) (by rw[wU,<-HN.1];exact B8),if_neg (fun h_=>by rw[xP (by rw[wU,<-HN.1];exact Bz _)]at h_;cases h_)]);go_wp2_with fail
 go_ret;exact⟨C8,_,C0,((es.take n)++[(⟨ry,y⟩:Bd)])++(es.drop n),rfl,(by have h_:=HN.1;simp only[wD,wK,List.length_drop,xB,List.length_nil];omega),.inr (A3.1.row (i:=1) (by rfl)),(by rw[D8.1];simp[List.map_take,List.map_drop]),(fun e_ A5=>by rcases List.mem_append.1 A5 with h_|h_;rcases List.mem_append.1 h_ with h_|h_;exact(B5.1 e_ (List.mem_of_mem_take h_)).dig A3.1.dig0;(rw[xH]at h_;rw[h_];exact⟨RY.1.dig A3.1.dig0,BY.1⟩);exact(B5.1 e_ (List.mem_of_mem_drop h_)).dig A3.1.dig0),A3.1.ext⟩
theorem Tz (n lo hi:Int)(w:World)(h1:lo<=n)(h2:n<=hi):Calls prog 193 #[iV n,iV lo,iV hi] w fun e w'=>e= .returned (iV n)/\Aa w w':=by
 go_enter func193,ntmps193;have H0:=zH (Hp.start w);go_upto_region 0 with fail;apply wl;apply zq (iV 0);go_upto_region 1 with fail;apply wl;apply qV (iV n);apply zq (iV lo);apply zp φ (by exact Dp (e:=(Aj ω)));go_upto_region 3 with fail;apply wl;apply qV (iV n);apply zq (iV hi);apply zp φ (by exact Ph (e:=(Aj ω)));go_upto_region 5 with fail;apply wl;apply qV (iV n);apply zq (iV n);go_wp2_with fail;go_ret;exact⟨rfl,H0.1.ext⟩
theorem Ku (p:Int×Int)(w:World)(h:Dy p):Calls prog 178 #[.agg #[iV p.1,iV p.2]] w fun e w'=>e= .returned (.agg #[iV p.1,iV p.2])/\Aa w w':=by
 have op:=Bg h;go_enter func178,ntmps178;have H0:=zH (Hp.start w);go_upto_region 0 with fail;apply wl;apply Cd 24 [iV p.1,iV p.2] H0.1;intro A0 B5 B2 _;apply Cd 24 [iV 0,iV 0] B2.1;intro A4 A1 A2 _;go_upto_region 1 with fail;refine wp_region_held_drew (S:=fun x=>Fr (fun kz=>kz=A4) A1 x) kR (Fr.of_ext zb) (fun _=> ?_);have B1:=zH (A2.1.step (Aa.refl A1).drew);refine zx 0 (bs 8 1) (.pointer (π A0)) (Fr.of_ext zb) ?_;refine Cr (g:=A0) (o:=0) (v:= iV p.1) (i:=1) (listed':=(bs 8 3)) rR kR kR kR (by intro _ _ _ h;exact h) rR (fun x hx=>Fr.cell hx (show World.cell? A1 ⟨A0,0,none⟩=some (iV p.1)from At (A2.1.range (i:=0) rR 0 1)) (A2.1.offBlk (i:=0) (j:=1) rR rR dC rR)) (by intro x hq;go_simp<;>with_reducible rfl) (Fr.of_ext zb) kR ?_;try simp only[ζ]
 refine zx 3 (bs 8 11) (.pointer (some ⟨A0,1,none⟩)) (Fr.of_ext zb) ?_;refine Cr (g:=A0) (o:=1) (v:= iV p.2) (i:=4) (listed':=(bs 8 27)) rR kR kR kR (by intro _ _ _ h;exact h) rR (fun x hx=>Fr.cell hx (show World.cell? A1 ⟨A0,1,none⟩=some (iV p.2)from At (A2.1.range (i:=0) rR 1 1)) (A2.1.offBlk (i:=0) (j:=1) rR rR dC rR)) (by intro x hq;go_simp<;>with_reducible rfl) (Fr.of_ext zb) kR ?_;try simp only[ζ]
 refine mC 2 (bs 8 31) (Tz p.1 (-1048576) 1048576 _ ω ω) ?_;rintro e A7 ⟨rfl,hx⟩;have B0:=zH (B1.1.step hx);have A5:=zH (show Fr (fun kz=>kz=A4) A1 A7 from(Fr.of_ext zb).trans (Fr.of_ext hx));clear hx;apply zm A5.1;refine mC 5 (bs 8 63) (Tz p.2 (-1048576) 1048576 _ ω ω) ?_;rintro e B4 ⟨rfl,hx⟩;have A9:=zH (B0.1.step hx);have A3:=zH (A5.1.trans (Fr.of_ext hx));clear hx;apply zm A3.1;refine zx 6 (bs 8 127) (.agg #[iV p.1,iV p.2]) A3.1 ?_;refine Dm (i:=7) (listed':=(bs 8 255)) rR kR rR kR _ _ _ rR A9.1 (ix:=1) rR 0 [iV p.1,iV p.2] rR rR (by simp) kR (by simp[Value.oneCell']) (by simp[Ar]) ?_;intro B3 hh hd ho;have A6:=hN hh;have A8:=zH (Fr.trans_new A3.1 ho (fun j hj=> .inl (by simpa using hj.symm)));clear hh hd ho;refine⟨A8.1,?_⟩
 (try simp only[Act.put])
 refine wpAnyH_done kR ?_ _;go_wp2_with fail;refine bodyPost_ret (v:= .agg #[iV p.1,iV p.2]) ?_ rfl ⟨rfl,A6.1.ext⟩;exact By rfl rfl ((A6.1.blk (i:=1) rR).loadVar rfl rfl rR)
theorem Pr (p q:Int×Int)(w:World)(hp:Dy p)(hq:Dy q):
  Calls prog 152 #[.agg #[iV p.1,iV p.2],.agg #[iV q.1,iV q.2]] w fun e w'=>e= .returned (.agg #[iV (dv q p).1,iV (dv q p).2])/\Aa w w':=by
 have op:=Bg hp;have oq:=Bg hq;go_enter func152,ntmps152
 have H0:=zH (Hp.start w);go_upto_region 0 with fail;apply wl;apply Cd 24 [iV p.1,iV p.2] H0.1;intro D3 D0 C1 _;apply Cd 24 [iV q.1,iV q.2] C1.1;intro D2 C9 C0 _;apply Cd 24 [iV 0,iV 0] C0.1;intro D1 A1 A3 _;go_upto_region 1 with fail;refine zy ?_;have B9:=zH (A3.1.step (Aa.refl A1).drew);refine Jv A3.1 zb (bs 8 5) 0 2 _ _ ?_;refine FN.go2 (j1:=⟨4,some 5,24,[iV 0,iV 0]⟩) (j2:=⟨5,some 6,24,[iV 0,iV 0]⟩) (b:=A1) ?_ zb;refine gN 1 (bs 8 7) (fk (fk trivial)) zb.size (fun xq A0=>Ku p _ hp) (by rintro x_ e A8 ⟨rfl,hx⟩;exact hx) ?_;rintro xq e C8 A0 ⟨rfl,hx⟩;replace hx:=A0.trans hx;clear A0;have B8:=zH (B9.1.step hx);have A6:=zH (zb.trans hx);clear hx;refine⟨_,rfl,?_⟩;try simp only[ζ]
 refine gN 3 (bs 8 15) (fk (fk trivial)) A6.1.size (fun xq A0=>Ku q _ hq) (by rintro x_ e A8 ⟨rfl,hx⟩;exact hx) ?_;rintro xq e C7 A0 ⟨rfl,hx⟩;replace hx:=A0.trans hx;clear A0;have B7:=zH (B8.1.step hx);have B4:=zH (A6.1.trans hx);clear hx;refine⟨_,rfl,?_⟩;try simp only[ζ]
 refine pU (bs 8 63) (fk (fk trivial)) B4.1.size A3.1 B7.1 ?_;intro B1 B0 A9 hx hh A5 A4 hs;have B6:=hN hh;have B3:=zH (show Aa A1 A9 from hs);have C3:=zH (show A1.heap.size<=B1 from A5);have C2:=zH (show A1.heap.size<=B0 from A4);clear hh hx hs A5 A4;try simp only[ζ]
 refine bS 3 6 (bs 8 127) [iV p.1,iV p.2] B6.1 B3.1 C3.1 ?_;intro C6 B5 _ B2;refine bS 4 7 (bs 8 255) [iV q.1,iV q.2] B5.1 B2.1 C2.1 ?_;intro C5 A2 _ D4;refine wpAnyH_done kR ?_ _;go_upto_region 2 with fail;apply wl;refine Ek A2.1 _ _ _ _ ?_;apply zp (iV (p.1-q.1)) (by exact Nx ω);refine Ek A2.1 _ _ _ _ ?_;apply zp (iV (p.2-q.2)) (by exact Nx ω);apply zq (.agg #[iV (p.1-q.1),iV (p.2-q.2)]);apply Ca 2 [iV (p.1-q.1),iV (p.2-q.2)] A2.1;intro C4 A7 _;go_wp2_with fail;refine bodyPost_ret (v:= .agg #[iV (dv q p).1,iV (dv q p).2]) ?_ rfl ⟨rfl,A7.1.ext⟩;exact By rfl rfl ((A7.1.blk (i:=2) rR).loadVar rfl rfl rR)
theorem Ho (p q:Int×Int)(w:World)(hp:Dy p)(hq:Dy q):
  Calls prog 179 #[.agg #[iV p.1,iV p.2],.agg #[iV q.1,iV q.2]] w fun e w'=>e= .returned (.bool (Cu p q))/\Aa w w':=by
 have op:=Bg hp;have oq:=Bg hq;go_enter func179,ntmps179
 have H0:=zH (Hp.start w);go_upto_region 0 with fail;apply wl;apply Cd 24 [iV p.1,iV p.2] H0.1;intro D2 D0 C9 _;apply Cd 24 [iV q.1,iV q.2] C9.1;intro D1 A2 B0 _;apply zq φ;go_upto_region 1 with fail;refine zy ?_;have B5:=zH (B0.1.step (Aa.refl A2).drew);refine Jv B0.1 zb (bs 8 5) 0 2 _ _ ?_;refine FN.go2 (j1:=⟨4,some 5,24,[iV 0,iV 0]⟩) (j2:=⟨5,some 6,24,[iV 0,iV 0]⟩) (b:=A2) ?_ zb;refine gN 1 (bs 8 7) (fk (fk trivial)) zb.size (fun xq A1=>Ku p _ hp) (by rintro x_ e C0 ⟨rfl,hx⟩;exact hx) ?_;rintro xq e C7 A1 ⟨rfl,hx⟩;replace hx:=A1.trans hx;clear A1;have B4:=zH (B5.1.step hx);have A3:=zH (zb.trans hx);clear hx;refine⟨_,rfl,?_⟩;try simp only[ζ]
 refine gN 3 (bs 8 15) (fk (fk trivial)) A3.1.size (fun xq A1=>Ku q _ hq) (by rintro x_ e C0 ⟨rfl,hx⟩;exact hx) ?_;rintro xq e C6 A1 ⟨rfl,hx⟩;replace hx:=A1.trans hx;clear A1;have B3:=zH (B4.1.step hx);have A9:=zH (A3.1.trans hx);clear hx;refine⟨_,rfl,?_⟩;try simp only[ζ]
 refine pU (bs 8 63) (fk (fk trivial)) A9.1.size B0.1 B3.1 ?_;intro A6 A5 A4 hx hh B9 B8 hs;have B2:=hN hh;have A8:=zH (show Aa A2 A4 from hs);have B7:=zH (show A2.heap.size<=A6 from B9);have B6:=zH (show A2.heap.size<=A5 from B8);clear hh hx hs B9 B8;try simp only[ζ]
 refine bS 2 6 (bs 8 127) [iV p.1,iV p.2] B2.1 A8.1 B7.1 ?_;intro C5 B1 _ A7;refine bS 3 7 (bs 8 255) [iV q.1,iV q.2] B1.1 A7.1 B6.1 ?_;intro C4 A0 _ C8;refine wpAnyH_done kR ?_ _;rcases Ck (p.2<q.2)with C1|C1
 ·go_upto_region 2 with fail
  apply wl;refine Ek A0.1 _ _ _ _ ?_;apply zp τ (by exact Dp (e:=(Aq C1.1)));refine Hz Af τ _ _ _ _ _ _ _ ?_;refine dQ Af _ _ _ _ _ τ τ ?_;go_wp2_with fail;go_ret;exact⟨by rw[show Cu p q=true from by unfold Cu;simp[C1.1]];rfl,A0.1.ext⟩
 rcases Ck (p.2=q.2)with C2|C2
 ·rcases Ck (p.1<q.1)with C3|C3
  ·go_upto_region 2 with fail
   apply wl;refine Ek A0.1 _ _ _ _ ?_;apply zp φ (by exact Dp (e:=(Aj C1.1)));refine Ql A0.1 φ _ _ _ _ ?_;apply zp τ (by exact Kf (e:=(Aq C2.1)));refine Ql A0.1 τ _ _ _ _ ?_;apply zp τ (by exact Dp (e:=(Aq C3.1)));refine Cn Af τ τ τ ?_;go_wp2_with fail;go_ret;exact⟨by rw[show Cu p q=true from by unfold Cu;simp[C2.1,C3.1]];rfl,A0.1.ext⟩
  go_upto_region 2 with fail;apply wl;refine Ek A0.1 _ _ _ _ ?_;apply zp φ (by exact Dp (e:=(Aj C1.1)));refine Ql A0.1 φ _ _ _ _ ?_;apply zp τ (by exact Kf (e:=(Aq C2.1)));refine Ql A0.1 τ _ _ _ _ ?_;apply zp φ (by exact Dp (e:=(Aj C3.1)));refine Cn Af φ φ φ ?_;go_wp2_with fail;go_ret;exact⟨by rw[show Cu p q=false from by unfold Cu;simp[C2.1,C3.1]];rfl,A0.1.ext⟩
 go_upto_region 2 with fail;apply wl;refine Ek A0.1 _ _ _ _ ?_;apply zp φ (by exact Dp (e:=(Aj C1.1)));refine Ql A0.1 φ _ _ _ _ ?_;apply zp φ (by exact Kf (e:=(Aj C2.1)));refine Hz Af φ _ _ _ _ _ φ φ ?_;apply zq φ;go_wp2_with fail;go_ret;exact⟨by rw[show Cu p q=false from by unfold Cu;simp[C1.1,C2.1]];rfl,A0.1.ext⟩
theorem Ew (u v:Int×Int)(w:World)(hu:(-2097152<=u.1/\u.1<=2097152)/\(-2097152<=u.2/\u.2<=2097152))(hv:(-2097152<=v.1/\v.1<=2097152)/\(-2097152<=v.2/\v.2<=2097152)):
  Calls prog 153 #[.agg #[iV u.1,iV u.2],.agg #[iV v.1,iV v.2]] w fun e w'=>e= .returned (iV (cr u v))/\Aa w w':=by
 have m1:=Nq hu.1 hv.2;have m2:=Nq hu.2 hv.1;go_enter func153,ntmps153
 have H0:=zH (Hp.start w);go_upto_region 0 with fail;apply wl;apply Cd 24 [iV u.1,iV u.2] H0.1;intro A5 A3 A1 _;apply Cd 24 [iV v.1,iV v.2] A1.1;intro A4 A2 A0 _;apply zq (iV 0);go_upto_region 1 with fail;apply wl;refine Ek A0.1 _ _ _ _ ?_;apply zp (iV (u.1*v.2)) (by exact mH ω);refine Ek A0.1 _ _ _ _ ?_;apply zp (iV (u.2*v.1)) (by exact mH ω);apply zp (iV ((u.1*v.2)-(u.2*v.1))) (by exact Nx ω);apply zq (iV ((u.1*v.2)-(u.2*v.1)));go_wp2_with fail;go_ret;exact⟨rfl,A0.1.ext⟩
end
end Go.Proofs.YthlfilomhgeheaaGreat
