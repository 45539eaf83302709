import Derived.Laws.BytesArg
import Derived.Test.YtlipfipniibpoacGreatRows
import Derived.ProofKit
import Derived.OpenShut
import Derived.Below
import Derived.Deep.Slices
import Derived.Lib.SmallJoins
import Derived.ChangeSlices
import Derived.Test.YtlipfipniibpoacGreatM8
set_option maxRecDepth 100000
set_option maxHeartbeats 4000000
namespace Go.Proofs.YtlipfipniibpoacGreat
open Go.RowKit
open Go.Proofs.Tryz
section
open Go.RowKit Go.Shelf
attribute [local go_sem] Oper.semAt_some
attribute [local go_sem ↓] Go.wp_at_zero Go.wp_at_succ Aj Ai
def aFM (px py:Int)(Xp Xr Bs:Nat)(w W1:World)(pre:List Wt)(W:World):Prop:=
  ∃r:RV,Hp w W [.blk Xp 66 [iV px,iV py],.blk Xr 33 [.bool false,.slice none 0 0,.bool false,.slice none 0 0],.blk Bs 33 (rc r)]/\Af W1 W/\r.Is W (Nz (px,py) (pre.map Subtype.val))/\W1.heap.size<=W.heap.size
theorem wK (px py:Int)(Xp Xr Bs:Nat)(w W1:World)(hw:w.heap.size<=W1.heap.size):OwnFrom W1.heap.size (aFM px py Xp Xr Bs w W1):=by
  rintro s W W' row ⟨r,h1,h2,h3,h4⟩ hg hr;have d:Af W W':=Af.kept hg (fun k hk=>(hr k hk).2);exact⟨r,h1.kept hg (fun k hk=>⟨Av hw (hr k hk).1,(hr k hk).2⟩),h2.trans d,h3.dig d,Av h4 hg.size⟩
def aFD (Xp Xr Bs:Nat)(W1:World)(x:Wt)(a':Act)(W:World):Prop:=
  ∃(J:Nat->Value) (Xa Xb:Nat),Ad W Xa 41 ([iV x.1.1.1,iV x.1.1.2]:List Value).toArray/\Ad W Xb 41 ([iV x.1.2.1,iV x.1.2.2]:List Value).toArray/\Xa≠Xb/\W1.heap.size<=Xa/\W1.heap.size<=Xb/\a'={tmps:=#[J 0,J 1,.pointer (some ⟨Xp,0,none⟩),J 3,.pointer (some ⟨Xr,0,none⟩),.pointer (some ⟨Bs,0,none⟩),.pointer (some ⟨Xa,0,none⟩),.pointer (some ⟨Xb,0,none⟩),J 8,J 9,J 10,J 11,J 12,J 13,J 14,J 15,J 16,J 17,J 18,J 19,J 20,J 21,J 22,J 23,J 24,J 25,J 26,J 27,J 28,J 29,J 30,J 31,J 32,J 33,J 34,J 35,J 36,J 37,J 38,J 39,J 40,J 41,J 42,J 43,J 44,J 45],defers:=[]}
theorem wL (Xp Xr Bs:Nat)(W1:World)(x:Wt)(a':Act):OwnFrom W1.heap.size (fun(_:Unit) W=>aFD Xp Xr Bs W1 x a' W):=by
  rintro _ W W' row ⟨J,Xa,Xb,h1,h2,h3⟩ hg hr;exact⟨J,Xa,Xb,h1.kept hg (fun k hk=>(hr k hk).2),h2.kept hg (fun k hk=>(hr k hk).2),h3⟩
theorem aAV {Xp Xr Bs Xa Xb:Nat}{W1 W:World}{x:Wt}{a':Act}(h1:Ad W Xa 41 ([iV x.1.1.1,iV x.1.1.2]:List Value).toArray)(h2:Ad W Xb 41 ([iV x.1.2.1,iV x.1.2.2]:List Value).toArray)(h3:Xa≠Xb)(h4:W1.heap.size<=Xa)(h5:W1.heap.size<=Xb)
    (h6:a'={tmps:=#[a'.tmps.getD 0 undef,a'.tmps.getD 1 undef,.pointer (some ⟨Xp,0,none⟩),a'.tmps.getD 3 undef,.pointer (some ⟨Xr,0,none⟩),.pointer (some ⟨Bs,0,none⟩),.pointer (some ⟨Xa,0,none⟩),.pointer (some ⟨Xb,0,none⟩),a'.tmps.getD 8 undef,a'.tmps.getD 9 undef,a'.tmps.getD 10 undef,a'.tmps.getD 11 undef,a'.tmps.getD 12 undef,a'.tmps.getD 13 undef,a'.tmps.getD 14 undef,a'.tmps.getD 15 undef,a'.tmps.getD 16 undef,a'.tmps.getD 17 undef,a'.tmps.getD 18 undef,a'.tmps.getD 19 undef,a'.tmps.getD 20 undef,a'.tmps.getD 21 undef,a'.tmps.getD 22 undef,a'.tmps.getD 23 undef,a'.tmps.getD 24 undef,a'.tmps.getD 25 undef,a'.tmps.getD 26 undef,a'.tmps.getD 27 undef,a'.tmps.getD 28 undef,a'.tmps.getD 29 undef,a'.tmps.getD 30 undef,a'.tmps.getD 31 undef,a'.tmps.getD 32 undef,a'.tmps.getD 33 undef,a'.tmps.getD 34 undef,a'.tmps.getD 35 undef,a'.tmps.getD 36 undef,a'.tmps.getD 37 undef,a'.tmps.getD 38 undef,a'.tmps.getD 39 undef,a'.tmps.getD 40 undef,a'.tmps.getD 41 undef,a'.tmps.getD 42 undef,a'.tmps.getD 43 undef,a'.tmps.getD 44 undef,a'.tmps.getD 45 undef],defers:=[]}):aFD Xp Xr Bs W1 x a' W:=⟨fun q=>a'.tmps.getD q undef,Xa,Xb,h1,h2,h3,h4,h5,h6⟩
theorem Qs (p:Int×Int)(l:List Cx)(e:Cx):Nz p (l++[e])=Uo p (Nz p l) e:=by unfold Nz;rw[List.foldl_append];rfl
theorem rQ {p:Int×Int}(hp:(-1048576<=p.1/\p.1<=1048320)/\ -1048576<=p.2/\p.2<=1048320){l:List Wt}(h:l.length<=16):Nm.rl (Nz p (l.map Subtype.val))<=8018:=by
  have h1:=rG hp (l:=l.map Subtype.val) (s:=((0:Int):Rat)) (fun e he=>by obtain⟨x,_,rfl⟩:=List.mem_map.1 he;exact x.2);have h2:=Bu 0 ω ω;rw[dZZ]at h1;have h3:=iQQ 501 h;unfold Nz;omega
theorem cV (px py:Int)(u:Value)(rs:List Ac)(w:World)(hu:Cm w u rs)(hn:rs.length<=1048576)(hr:∀r,r∈rs->r.length<=1048576)(hok:En rs=true)(htot:Ga rs<=16)(hp:(-1048576<=px/\px<=1048320)/\ -1048576<=py/\py<=1048320):
  Calls prog 26 #[.agg #[iV px,iV py],u] w fun e w'=>∃r:RV,e= .returned (rg r)/\r.Is w' (Un rs (px,py))/\Nm.rl (Un rs (px,py))<=8030/\Aa w w':=by
 have HU:=zH hu;have HN:=zH hn;have HR:=zH hr;have HV:=zH hok;have N1:=zH htot;clear hu hr hok;refine(callsIn_wide (n:=4)).1 ?_;refine callsIn_of_wp_marks func26 rfl trivial ?_ rfl;simp only[ntmps26,List.size_toArray,hXX,List.length_nil,Nat.reduceAdd,Nat.reduceSub,Array.replicate_succ,Array.replicate_zero,List.push_toArray,List.append_toArray,fZZ,jQQ];refine wpIn_wide.2 ?_;refine Go.Code.wp_mono Ky.m ?_;have H0:=zH (Hp.start w);go_upto_region 0 with fail
 apply wl;apply Cn 66 [iV px,iV py] H0.1;intro X1 w2 H3 _;refine Cn 33 rz H3.1 ?_;intro X6 w7 H8 _;go_upto_region 1 with fail;apply wl;refine zc (Da 0 _ ω ω) ?_;rintro e Q3 ⟨c_,rfl,A3,hx⟩;have O8:=zH (H8.1.step hx);obtain⟨H9,rfl,A2⟩:=A3;have M3:=zH A2;clear A2 hx;refine zn ?_;refine Cn 33 rz O8.1 ?_;intro A0 Q2 O7 P2;apply Dc 2 (rc H9) O7.1;intro Q1 F8 P1;go_upto_region 2 with fail
 apply wl;refine qV (u) ?_;refine zc (Ru u rs _ (HU.1.ext F8.1.ext) HN.1 HR.1) ?_;rintro e A5 ⟨Bx,ve,rfl,I6,L5,B2,hR,hx⟩;have N7:=zH I6;have N6:=zH L5;have N5:=zH B2;rw[if_pos HV.1]at hR;have N2:=zH hR;clear I6 B2 hR;have J5:=zH (F8.1.step hx);have P0:=zH (Af.of_ext hx);clear hx;refine zn ?_;have Q6:=F8.1.lt (i:=2) (k:=A0) (by rfl) rfl;have N3:=zH (show Gi (fun k=>¬(fun k=>k=A0\/A5.heap.size<=k) k) A5 ve rs from N2.1.imp (fun k h hk=>by rcases hk with rfl|hk;omega;omega));have D4:=zH (show w.heap.size<=A5.heap.size from J5.1.ext.size);have L2:¬(fun k=>k=A0\/A5.heap.size<=k) Bx:=fun hk=>by have h1:=N7.1;have h9:=N6.1;rcases hk with hk|hk;omega;omega
 have J4:=zH (show(Ba rs).length<=16 from Av (Fm rs) N1.1);go_wp2_with fail;have G6:=tD (tD P2 P1) P0;refine wpIn_wide.1 (On (n:=4) ω (fun k=>k=A0\/A5.heap.size<=k) Bx ve rs rR N5.1 L2 N3.1 HN.1 HV.1 J4.1 (fun k h=> .inr h) (aFM px py X1 X6 A0 w A5) (wK px py X1 X6 A0 w A5 D4.1) ⟨H9,J5.1,Af.refl _,(M3.1.dig G6.1),Ck _⟩ (aFD X1 X6 A0 A5) (wL X1 X6 A0 A5) ?assign ?body ?done);case assign=>
  intro l pre x W K hi hK;obtain⟨r,hh,hd,B0,B5⟩:=hi;have B8:=zH B5;have H0:=zH hh;have HK:=zH hK;have B9:=zH B0;have HD:=zH hd;clear B5 hh hK B0 hd;unfold Ip;simp only[zA,zB,zC];refine wpIn_seq ?_;refine Ab kR (fun⟨_,_,h⟩=>h) ?_;apply aA 41 [iV 0,iV 0] H0.1;intro I7 K6 O6 hx B1;have J2:=zH (show W.heap.size<=I7 from Av (Fr.of_ext (G:=fun kz=>False) (Aa.refl W)).size B1);have K4:=zH (Af.of_ext hx);have N0:=zH (show Fr (fun kz=>False) W K6 from(Fr.of_ext (G:=fun kz=>False) (Aa.refl W)).trans (Fr.of_ext hx));clear hx B1;apply aS 3 [iV x.1.1.1,iV x.1.1.2] O6.1;intro Q0 O5 hd ho;have K3:=zH (hd);have J3:=zH (N0.1.trans_new ho (fun j hj=> .inr (by injection hj with hj;rw[<-hj];exact J2.1)));clear hd ho;refine Ab kR (fun⟨_,_,h⟩=>h) ?_;apply aA 41 [iV 0,iV 0] O5.1;intro Q8 P9 O4 hx B1;have J1:=zH (Av J3.1.size B1);have K2:=zH (Af.of_ext hx);have M9:=zH (J3.1.trans (Fr.of_ext hx));clear hx B1;apply aS 4 [iV x.1.2.1,iV x.1.2.2] O4.1;intro P8 D5 hd ho;have K1:=zH (hd);have E8:=zH (M9.1.trans_new ho (fun j hj=> .inr (by injection hj with hj;rw[<-hj];exact J1.1)));clear hd ho;refine HK.1 _ _ (KeepsFrom.of_fr E8.1 (fun _ h=>h.elim)) (E8.1.imp (fun _ h=>h.elim)) ⟨r,D5.1.take 3,HD.1.trans (((K4.1.trans K3.1).trans K2.1).trans K1.1),B9.1.dig (((K4.1.trans K3.1).trans K2.1).trans K1.1),Av B8.1 E8.1.size⟩ (aAV (D5.1.blk (i:=3) rR) (D5.1.blk (i:=4) rR) ?_ (Av B8.1 J2.1) (Av B8.1 J1.1) rR);exact fun e=>D5.1.apart 3 4 _ _ (by rfl) (by rfl) (by decide) I7 (by rfl) (by rw[e];rfl)
 case body=>
  intro l pre ed a' W hi L4 L1;obtain⟨r,hh,hd,B0,B5⟩:=hi;obtain⟨J,Xa,Xb,I5,I4,I1,I3,C2,rfl⟩:=L4;have B8:=zH B5;have HD:=zH hd;have B9:=zH B0;have B3:=zH ed.2;have C7:=zH (rQ (p:=(px,py)) hp (l:=pre) ω);have H0:=zH (show Hp w W [.blk X1 66 [iV px,iV py],.blk X6 33 rz,.blk A0 33 (rc r),.blk Xa 41 [iV ed.1.1.1,iV ed.1.1.2],.blk Xb 41 [iV ed.1.2.1,iV ed.1.2.2]]from hh.addTyp2 I5 I4 I1 (Av D4.1 I3) (Av D4.1 C2) (by simp[Aq]) (by simp[Aq]) (by simp[De.typ]));have B4:=zH (show Fr (fun kz=>kz=A0) W W from Fr.of_ext (Aa.refl W));clear hh hd B0 B5 I5 I4 I1 I3 C2;rcases Cy (ed.1.1.2<ed.1.2.2)with H1|H1
  ·gi_upto_region 5 with fail
   refine Ab kR (fun⟨_,_,h⟩=>h) ?_;refine Fg H0.1 _ _ _ _ ?_;apply zp (.bool true) (by exact Eg (e:=(Ar H1.1)));apply zq (.bool true);refine wpList_nil ?_;gi_upto_region 6 with fail
   refine Ej (S:=fun x=>Fr (fun kz=>kz=A0) W x) kR kR (fun⟨_,_,h⟩=>h) (Fr.of_ext zb) (fun _=> ?_);have O3:=zH (H0.1.step (Aa.refl W).drew);have K0:=zH (Af.of_ext (w:=W) zb);have M8:=zH (B4.1.trans (Fr.of_ext (Aa.refl W).drew));refine mR 1 (bs 7 2) X1 (0) [iV px,iV py] (fun x hx=>Fr.range hx (show World.rangeAt W X1 (0) [iV px,iV py]from(H0.1.range (i:=0) rR 0 2)) (H0.1.offBlk (i:=0) (j:=2) rR rR dC rR)) underlying66 (Fr.of_ext zb) ?_;refine mR 2 (bs 7 6) Xa (0) [iV ed.1.1.1,iV ed.1.1.2] (fun x hx=>Fr.range hx (show World.rangeAt W Xa (0) [iV ed.1.1.1,iV ed.1.1.2]from(H0.1.range (i:=3) rR 0 2)) (H0.1.offBlk (i:=3) (j:=2) rR rR dC rR)) underlying41 (Fr.of_ext zb) ?_;refine zr 3 (bs 7 14) Xb (0) [iV ed.1.2.1,iV ed.1.2.2] (fun x hx=>Fr.range hx (show World.rangeAt W Xb (0) [iV ed.1.2.1,iV ed.1.2.2]from(H0.1.range (i:=4) rR 0 2)) (H0.1.offBlk (i:=4) (j:=2) rR rR dC rR)) underlying41 (Fr.of_ext zb) ?_;refine Fd.go (j:=0) (dj:=some 21) (u:= (rg r)) ?_;refine Id (b:=W) (i:=4) (lj:=(bs 7 15)) (li:=(bs 7 30)) rR rR kR kR kR kR kR dC kR rR rR (fun x_ h_=>Fr.of_ext h_) (Aa.refl W).drew (fun x_ h_=>Kb _ _ rR A0 (0) (rc r) rR (Bg (show World.rangeAt W A0 (0) (rc r)from H0.1.range (i:=2) rR 0 4) h_) underlying33 rR kR) rR (by go_simp) kR (eP px py ed.1.1 ed.1.2 _ hp B3.1.1 B3.1.2) ?_;rintro e D7 ⟨Q5,rfl,A2,hx⟩;have O2:=zH (O3.1.step hx);have J9:=zH (show Af W.drew D7 from Af.of_ext hx);have M7:=zH (M8.1.trans (Fr.of_ext hx));have L7:=zH (show Aa W D7 from(Aa.refl W).drew.trans hx);have J0:=zH (show Fr (fun kz=>kz=A0) W D7 from(Fr.of_ext zb).trans (Fr.of_ext hx));have M2:=zH A2;have P4:=zH (bA (p:=(px,py)) B3.1.1 B3.1.2 hp);clear A2;have C1:=hx;clear hx;refine⟨_,rfl,C1,?_⟩;try simp only[ζ]
   clear C1;refine Om rR kR rR rR J0.1 (Kb _ _ rR A0 (0) (rc r) rR (Bg (show World.rangeAt W A0 (0) (rc r)from H0.1.range (i:=2) rR 0 4) L7.1) underlying33 rR kR) (show _=(bs 7 31)by kernel_rfl) ?_;try simp only[ζ]
   have G5:=tD K0 J9;refine mC 5 (bs 7 63) (oC (L:=60000) (RV.Is.nin (B9.1.dig G5.1) (Av C7.1 ω)) (RV.Is.nin M2.1 (Av P4.1 ω)) ω) ?_;rintro e P7 ⟨c_,rfl,A3,hx⟩;have O1:=zH (O2.1.step hx);have O9:=zH (Af.of_ext hx);have M6:=zH (M7.1.trans (Fr.of_ext hx));have I9:=zH (J0.1.trans (Fr.of_ext hx));obtain⟨A8,rfl,A2⟩:=A3;have M1:=zH A2;clear A2 hx;apply zm I9.1;refine Ei (i:=6) (listed':=(bs 7 127)) rR kR rR kR _ _ _ rR O1.1 (ix:=2) rR 0 (rc A8) rR rR (by simp) kR (by simp[Value.oneCell']) (by simp[Aq]) ?_;intro P6 hh hd ho;have O0:=hN hh;have J8:=zH (hd);have E7:=zH (M6.1.trans_new ho (fun j hj=> .inl (by injection hj with hj;exact hj.symm)));have L8:=zH (Fr.trans_new I9.1 ho (fun j hj=> .inl (by simpa using hj.symm)));clear hh hd ho;refine⟨L8.1,?_⟩
   (try simp only[Act.put])
   refine wpAnyH_done kR ?_ _;gi_wp2
   exact⟨(KeepsFrom.of_fr E7.1 (fun k hk o ho=>H0.1.cells (i:=2) (by rfl) (by rw[hk];rfl) o ho)),(E7.1.imp (fun k hk=> .inl hk)),A8,O0.1.take 3,HD.1.trans (((K0.1.trans J9.1).trans O9.1).trans J8.1),(by rw[fXX,show[ed].map Subtype.val=[ed.1]from rfl,Qs,show Uo (px,py) (Nz (px,py) (pre.map Subtype.val)) ed.1=(Nz (px,py) (pre.map Subtype.val))+Ij (px,py) ed.1.1 ed.1.2 from if_pos H1.1];exact(M1.1.dig J8.1)),Av B8.1 E7.1.size⟩
  gi_upto_region 5 with fail
  refine Ab kR (fun⟨_,_,h⟩=>h) ?_;refine Fg H0.1 _ _ _ _ ?_;apply zp (.bool false) (by exact Eg (e:=(Al H1.1)));apply zq (.bool false);refine wpList_nil ?_;rcases Cy (ed.1.2.2<ed.1.1.2)with H2|H2
  ·gi_upto_region 7 with fail
   refine Ab kR (fun⟨_,_,h⟩=>h) ?_;refine Fg H0.1 _ _ _ _ ?_;apply zp (.bool true) (by exact Rq (e:=(Ar H2.1)));apply zq (.bool true);refine wpList_nil ?_;gi_upto_region 8 with fail
   refine Ej (S:=fun x=>Fr (fun kz=>kz=A0) W x) kR kR (fun⟨_,_,h⟩=>h) (Fr.of_ext zb) (fun _=> ?_);have N9:=zH (H0.1.step (Aa.refl W).drew);have J7:=zH (Af.of_ext (w:=W) zb);have M5:=zH (B4.1.trans (Fr.of_ext (Aa.refl W).drew));refine mR 1 (bs 7 2) X1 (0) [iV px,iV py] (fun x hx=>Fr.range hx (show World.rangeAt W X1 (0) [iV px,iV py]from(H0.1.range (i:=0) rR 0 2)) (H0.1.offBlk (i:=0) (j:=2) rR rR dC rR)) underlying66 (Fr.of_ext zb) ?_;refine mR 2 (bs 7 6) Xa (0) [iV ed.1.1.1,iV ed.1.1.2] (fun x hx=>Fr.range hx (show World.rangeAt W Xa (0) [iV ed.1.1.1,iV ed.1.1.2]from(H0.1.range (i:=3) rR 0 2)) (H0.1.offBlk (i:=3) (j:=2) rR rR dC rR)) underlying41 (Fr.of_ext zb) ?_;refine zr 3 (bs 7 14) Xb (0) [iV ed.1.2.1,iV ed.1.2.2] (fun x hx=>Fr.range hx (show World.rangeAt W Xb (0) [iV ed.1.2.1,iV ed.1.2.2]from(H0.1.range (i:=4) rR 0 2)) (H0.1.offBlk (i:=4) (j:=2) rR rR dC rR)) underlying41 (Fr.of_ext zb) ?_;refine Fd.go (j:=0) (dj:=some 33) (u:= (rg r)) ?_;refine Id (b:=W) (i:=4) (lj:=(bs 7 15)) (li:=(bs 7 30)) rR rR kR kR kR kR kR dC kR rR rR (fun x_ h_=>Fr.of_ext h_) (Aa.refl W).drew (fun x_ h_=>Kb _ _ rR A0 (0) (rc r) rR (Bg (show World.rangeAt W A0 (0) (rc r)from H0.1.range (i:=2) rR 0 4) h_) underlying33 rR kR) rR (by go_simp) kR (eP px py ed.1.1 ed.1.2 _ hp B3.1.1 B3.1.2) ?_;rintro e D6 ⟨Q4,rfl,A2,hx⟩;have N8:=zH (N9.1.step hx);have J6:=zH (show Af W.drew D6 from Af.of_ext hx);have M4:=zH (M5.1.trans (Fr.of_ext hx));have L6:=zH (show Aa W D6 from(Aa.refl W).drew.trans hx);have I8:=zH (show Fr (fun kz=>kz=A0) W D6 from(Fr.of_ext zb).trans (Fr.of_ext hx));have M0:=zH A2;have P3:=zH (bA (p:=(px,py)) B3.1.1 B3.1.2 hp);clear A2;have C1:=hx;clear hx;refine⟨_,rfl,C1,?_⟩;try simp only[ζ]
   clear C1;refine Om rR kR rR rR I8.1 (Kb _ _ rR A0 (0) (rc r) rR (Bg (show World.rangeAt W A0 (0) (rc r)from H0.1.range (i:=2) rR 0 4) L6.1) underlying33 rR kR) (show _=(bs 7 31)by kernel_rfl) ?_;try simp only[ζ]
   have G4:=tD J7 J6;refine mC 5 (bs 7 63) (eC (L:=60000) (RV.Is.nin (B9.1.dig G4.1) (Av C7.1 ω)) (RV.Is.nin M0.1 (Av P3.1 ω)) ω) ?_;rintro e P5 ⟨c_,rfl,A3,hx⟩;have G3:=zH (N8.1.step hx);have H6:=zH (Af.of_ext hx);have F5:=zH (M4.1.trans (Fr.of_ext hx));have C6:=zH (I8.1.trans (Fr.of_ext hx));obtain⟨A7,rfl,A2⟩:=A3;have L9:=zH A2;clear A2 hx;apply zm C6.1;refine Ei (i:=6) (listed':=(bs 7 127)) rR kR rR kR _ _ _ rR G3.1 (ix:=2) rR 0 (rc A7) rR rR (by simp) kR (by simp[Value.oneCell']) (by simp[Aq]) ?_;intro K9 hh hd ho;have G2:=hN hh;have D3:=zH (hd);have B7:=zH (F5.1.trans_new ho (fun j hj=> .inl (by injection hj with hj;exact hj.symm)));have E3:=zH (Fr.trans_new C6.1 ho (fun j hj=> .inl (by simpa using hj.symm)));clear hh hd ho;refine⟨E3.1,?_⟩
   (try simp only[Act.put])
   refine wpAnyH_done kR ?_ _;gi_wp2
   exact⟨(KeepsFrom.of_fr B7.1 (fun k hk o ho=>H0.1.cells (i:=2) (by rfl) (by rw[hk];rfl) o ho)),(B7.1.imp (fun k hk=> .inl hk)),A7,G2.1.take 3,HD.1.trans (((J7.1.trans J6.1).trans H6.1).trans D3.1),(by rw[fXX,show[ed].map Subtype.val=[ed.1]from rfl,Qs,show Uo (px,py) (Nz (px,py) (pre.map Subtype.val)) ed.1=(Nz (px,py) (pre.map Subtype.val))-Ij (px,py) ed.1.1 ed.1.2 from(if_neg (fun h_=>by have E1:=H1.1;omega)).trans (if_pos H2.1)];exact(L9.1.dig D3.1)),Av B8.1 B7.1.size⟩
  gi_upto_region 7 with fail
  refine Ab kR (fun⟨_,_,h⟩=>h) ?_;refine Fg H0.1 _ _ _ _ ?_;apply zp (.bool false) (by exact Rq (e:=(Al H2.1)));apply zq (.bool false);refine wpList_nil ?_;gi_wp2
  exact⟨(KeepsFrom.of_fr B4.1 (fun k hk o ho=>H0.1.cells (i:=2) (by rfl) (by rw[hk];rfl) o ho)),(B4.1.imp (fun k hk=> .inl hk)),r,H0.1.take 3,HD.1.trans (Af.refl _),(by rw[fXX,show[ed].map Subtype.val=[ed.1]from rfl,Qs,show Uo (px,py) (Nz (px,py) (pre.map Subtype.val)) ed.1=(Nz (px,py) (pre.map Subtype.val))from(if_neg (fun h_=>by have E1:=H1.1;omega)).trans (if_neg (fun h_=>by have E1:=H2.1;omega))];exact B9.1),Av B8.1 B4.1.size⟩
 rintro D xs W hD I0 ⟨r,hh,hd,B0,B5⟩ hK;have H0:=zH hh;have F7:=zH B0;have F6:=zH I0;have HD:=zH hK;have N4:=zH hD;have B9:=zH (show r.Is W (Nz (px,py) (Ba rs))from by rw[<-F6.1];exact F7.1);have C7:=zH (show Nm.rl (Nz (px,py) (Ba rs))<=8018 from by rw[<-F6.1];exact rQ (p:=(px,py)) hp (by rw[<-dZZ (f:=Subtype.val),F6.1];exact J4.1));clear hh hd B0 B5 I0 hK hD;have B4:=zH (show Fr (fun kz=>kz=X6) W W from Fr.of_ext (Aa.refl W));go_upto_region 9 with fail
 refine zy ?_;have C0:=zH (H0.1.step (Aa.refl W).drew);have H5:=zH (Af.of_ext (w:=W) zb);have F4:=zH (B4.1.trans (Fr.of_ext (Aa.refl W).drew));refine Xo H0.1 zb (bs 9 1) 0 _ ?_;refine gG 6 (some 8) 33 rz W C0.1 ?_;refine gL 1 (bs 9 65) (bs 9 3) zb.size C0.1 zb (fun xq A9=>Da 65536 _ ω ω) (by rintro x_ e K5 ⟨c_,rfl,A3,hx⟩;exact hx) ?_;rintro xq e D9 A9 ⟨c_,rfl,A3,hx⟩;replace hx:=A9.trans hx;clear A9;have C9:=zH (C0.1.step hx);have H4:=zH (show Af W.drew D9 from Af.of_ext hx);have F3:=zH (F4.1.trans (Fr.of_ext hx));have B6:=zH (zb.trans hx);obtain⟨L0,rfl,A2⟩:=A3;have E5:=zH A2;have H7:=zH (Bu 65536 ω ω);clear A2 hx;refine⟨_,rfl,?_⟩;try simp only[ζ]
 have D2:=tD H5 H4;refine gL 2 (bs 9 67) (bs 9 7) B6.1.size C9.1 B6.1 (fun xq A9=>aDD (L:=60000) (RV.Is.nin (B9.1.dig (D2.1.trans (Af.of_ext A9))) (Av C7.1 ω)) (RV.Is.nin (E5.1.dig (Af.of_ext A9)) (Av H7.1 ω)) dC dC) (by rintro x_ e K5 ⟨c_,rfl,A3,hx⟩;exact hx) ?_;rintro xq e K8 A9 ⟨c_,rfl,A3,hx⟩;replace hx:=A9.trans hx;clear A9;have G1:=zH (C9.1.step hx);have F2:=zH (F3.1.trans (Fr.of_ext hx));have A4:=zH (B6.1.trans hx);obtain⟨A1,rfl,A2⟩:=A3;have E4:=zH A2;clear A2 hx;refine⟨_,rfl,?_⟩;try simp only[ζ]
 refine gK 3 (bs 9 71) (bs 9 15) _ A4.1 ?_;refine gK 4 (bs 9 79) (bs 9 31) _ A4.1 ?_;refine gK 5 (bs 9 95) (bs 9 63) (iV 0) A4.1 ?_;refine gE (bs 9 127) A4.1.size G1.1 A4.1 ?_;intro C4 D8 hx hh hs B1;have G0:=hN hh;have G9:=zH (Af.of_ext hx);have F1:=zH (F2.1.trans (Fr.of_ext hx));have E2:=zH (show Aa W D8 from hs);have D0:=zH (show W.heap.size<=C4 from B1);have E6:=zH (show W.heap.size<=C4 from Av B4.1.size D0.1);clear hh hx B1 hs;try simp only[ζ]
 refine Ei (i:=7) (listed':=(bs 9 255)) rR kR rR kR _ _ _ rR G0.1 (ix:=3) rR 0 (rc A1) rR rR (by simp) kR (by simp[Value.oneCell']) (by simp[Aq]) ?_;intro K7 hh hd ho;have C8:=hN hh;have G8:=zH (hd);have F0:=zH (F1.1.trans_new ho (fun j hj=> .inr (by injection hj with hj;rw[<-hj];exact E6.1)));have C5:=zH (Bj.ext ho E2.1 D0.1);clear hh hd ho;refine⟨C5.1,?_⟩
 (try simp only[Act.put])
 refine zx 8 (bs 9 511) (iV 0) C5.1 ?_;refine wpAnyH_done kR ?_ _;go_upto_region 10 with fail;apply wl;refine Cs C8.1 _ ?_;apply aS 1 (rc A1) C8.1;intro A6 F9 hd ho;have G7:=zH (hd);have E9:=zH (F0.1.trans_new ho (fun j hj=> .inl (by injection hj with hj;exact hj.symm)));clear hd ho;have D1:=tD (tD G9 G8) G7;go_wp2_with fail
 have E0:A6.heap[D]?=some (.deferred (some [])):=(E9.1.block D (Array.getElem?_eq_some_iff.1 HD.1).1 (fun e=>by have h1:=H0.1.cells (i:=1) (k:=D) (by rfl) (by rw[e];rfl) _ HD.1;cases h1)).trans HD.1;refine⟨by simp,.inl ⟨_,_,rfl,run_takeDeferred E0,?_⟩⟩;have C3:=F9.1.kept (grownBy_putObj' A6 D (.deferred none)) (fun k hk=>by injection hk with hk;subst hk;exact⟨Av D4.1 N4.1,_,E0,rfl⟩);have L3:Af A6 _:=Af.kept (grownBy_putObj' A6 D (.deferred none)) (fun k hk=>by injection hk with hk;subst hk;exact⟨_,E0,rfl⟩);refine⟨_,Ak rfl rfl ((C3.blk (i:=1) rR).loadVar rfl rfl rR),A1,rfl,(E4.1.dig D1.1).dig L3,?_,C3.ext⟩;exact Av (Nm.rl_div _ _) (by have E1:=C7.1;have Q7:=Bu 65536 ω ω;omega)
end
section
attribute [local go_sem ↓] Go.wp_at_zero Go.wp_at_succ Aj Ai
def eF (n:Int):Bool:=decide (n< -4096)||decide (4096<=n)
theorem Mh {n:Int}:eF n=true↔n< -4096\/4096<=n:=by unfold eF;simp
def rS (rs:List Ac)(x y:Int):Int:=if En rs=true then(if eF x=true\/eF y=true then 6 else 0)else 12
theorem Mf (n:Int)(w:World):Calls prog 25 #[iV n] w fun e w'=>e= .returned (.bool (eF n))/\Aa w w':=by
 go_enter func25,ntmps25;have H0:=zH (Hp.start w);go_upto_region 0 with fail;apply wl;apply zq (.bool false);rcases Cy (n< -4096)with H1|H1
 ·go_upto_region 1 with fail
  apply wl;apply zq (iV n);apply zp (.bool true) (by exact Eg (e:=(Ar H1.1)));refine Ly Ah (.bool true) _ _ (.bool true) (.bool true) ?_;have HB:=zH (Mh.2 (.inl H1.1));go_wp2_with fail
  go_ret;exact⟨by rw[HB.1]<;>rfl,H0.1.ext⟩
 rcases Cy (4096<=n)with H2|H2
 ·go_upto_region 1 with fail
  apply wl;apply zq (iV n);apply zp (.bool false) (by exact Eg (e:=(Al H1.1)));refine Cc Ah (.bool false) (iV n) ?_;apply zp (.bool true) (by exact Nv (e:=(Ar H2.1)));refine Cc Ah (.bool true) (.bool true) ?_;have HB:=zH (Mh.2 (.inr H2.1));go_wp2_with fail
  go_ret;exact⟨by rw[HB.1]<;>rfl,H0.1.ext⟩
 go_upto_region 1 with fail;apply wl;apply zq (iV n);apply zp (.bool false) (by exact Eg (e:=(Al H1.1)));apply qV (.bool false);apply zq (iV n);apply zp (.bool false) (by exact Nv (e:=(Al H2.1)));apply qV (.bool false);apply zq (.bool false);have HB:=zH (show eF n=false from Bool.eq_false_iff.2 (fun h_=>by have A2:=Mh.1 h_;have A1:=H1.1;have A0:=H2.1;omega));go_wp2_with fail
 go_ret;exact⟨by rw[HB.1]<;>rfl,H0.1.ext⟩
theorem gS (A:Option Addr)(cap:Nat)(rs:List Ac)(x y:Int)(w:World)(hu:Cm w (.slice A rs.length cap) rs)(hn:rs.length<=1048576)(hr:∀r,r∈rs->r.length<=1048576)(hs:En rs=true->Ga rs<=16)(hx: -9223372036854775808<=x/\x<=9223372036854775807)(hy: -9223372036854775808<=y/\y<=9223372036854775807):
  Calls prog 8 #[.slice A rs.length cap,iV x,iV y] w (Wp 8030 (rS rs x y) (Un rs (x*256,y*256)) w):=by
 have HU:=zH hu;have HN:=zH hn;have A4:=zH hr;clear hu hr;have A3:=zH hs;clear hs;go_enter func8,ntmps8
 have H0:=zH (Hp.start w);go_upto_region 0 with fail;apply wl;refine Cn 33 rz H0.1 ?_;intro D8 D4 A2 _;apply zq (iV 0);rcases Cy (En rs=true)with HV|HV
 ·go_upto_region 1 with fail
  apply wl;refine Cs Ah _ ?_;refine zc (Cg _ rs _ (HU.1.ext A2.1.ext) HN.1 A4.1) ?_;rintro e D3 ⟨rfl,hx⟩;have A5:=zH (A2.1.step hx);clear hx;refine⟨.bool true,by rw[HV.1],?_⟩;try simp only[ζ]
  apply zq (.bool false);go_upto_region 3 with fail;apply wl;refine Cs Ah _ ?_;rcases Cy (eF x=true)with HX|HX
  ·go_upto_region 4 with fail
   apply wl;refine Cc Ah _ (iV x) ?_;refine aC A5.1 ((Mf x _).mono fun _ _ h_=>(⟨h_.1.trans (by rw[HX.1]),h_.2⟩:_=Ending.returned (.bool true)/\Aa _ _)) ?_;intro D2 B9 _;refine Ly Ah (.bool true) _ _ _ (.bool true) ?_;go_upto_region 5 with fail;apply wl;apply zq (.agg z4);refine Dc 0 rz B9.1 ?_;intro D1 B1 _;apply zq (iV 6);have HE:=zH (show rS rs x y=6 from(if_pos HV.1).trans (if_pos (.inl HX.1)));go_wp2_with fail
   refine bodyPost_ret (v:= .tuple #[.agg z4,iV 6]) ?_ rfl ⟨RV.zero,by rw[HE.1]<;>rfl,fun h_=>absurd h_ (by rw[HE.1];decide),fun _=>rfl,B1.1.ext⟩;exact Aw rfl rfl ((B1.1.blk (i:=0) rR).loadVar rfl rfl rR) rfl
  have FX:=zH (Bool.eq_false_iff.2 HX.1);rcases Cy (eF y=true)with HY|HY
  ·go_upto_region 4 with fail
   apply wl;refine Cc Ah _ (iV x) ?_;refine aC A5.1 ((Mf x _).mono fun _ _ h_=>(⟨h_.1.trans (by rw[FX.1]),h_.2⟩:_=Ending.returned (.bool false)/\Aa _ _)) ?_;intro D0 B8 _;refine Dv Ah (.bool false) _ (iV y) ?_;refine aC B8.1 ((Mf y _).mono fun _ _ h_=>(⟨h_.1.trans (by rw[HY.1]),h_.2⟩:_=Ending.returned (.bool true)/\Aa _ _)) ?_;intro C9 B7 _;apply zq (.bool true);go_upto_region 5 with fail;apply wl;apply zq (.agg z4);refine Dc 0 rz B7.1 ?_;intro C8 B0 _;apply zq (iV 6);have HE:=zH (show rS rs x y=6 from(if_pos HV.1).trans (if_pos (.inr HY.1)));go_wp2_with fail
   refine bodyPost_ret (v:= .tuple #[.agg z4,iV 6]) ?_ rfl ⟨RV.zero,by rw[HE.1]<;>rfl,fun h_=>absurd h_ (by rw[HE.1];decide),fun _=>rfl,B0.1.ext⟩;exact Aw rfl rfl ((B0.1.blk (i:=0) rR).loadVar rfl rfl rR) rfl
  have FY:=zH (Bool.eq_false_iff.2 HY.1);have HP:=zH (show(-1048576<=x*256/\x*256<=1048320)/\ -1048576<=y*256/\y*256<=1048320 from by have D7:=mt Mh.2 HX.1;have D6:=mt Mh.2 HY.1;omega);have D5:=HP.1;go_upto_region 4 with fail
  apply wl;refine Cc Ah _ (iV x) ?_;refine aC A5.1 ((Mf x _).mono fun _ _ h_=>(⟨h_.1.trans (by rw[FX.1]),h_.2⟩:_=Ending.returned (.bool false)/\Aa _ _)) ?_;intro C7 B6 _;refine Dv Ah (.bool false) _ (iV y) ?_;refine aC B6.1 ((Mf y _).mono fun _ _ h_=>(⟨h_.1.trans (by rw[FY.1]),h_.2⟩:_=Ending.returned (.bool false)/\Aa _ _)) ?_;intro C6 A9 _;apply zq (.bool false);go_upto_region 6 with fail;apply wl;apply zq (iV x);apply zp (iV (x*256)) (by exact lH ω);apply zq (iV y);apply zp (iV (y*256)) (by exact lH ω);refine Cc Ah _ _ ?_;refine zc (cV (x*256) (y*256) _ rs _ (HU.1.ext A9.1.ext) HN.1 A4.1 HV.1 (A3.1 HV.1) HP.1) ?_;rintro e C5 ⟨A0,rfl,A6,A7,hx⟩;have B5:=zH (A9.1.step hx);have B2:=zH A6;have C1:=zH A7;clear A6 A7 hx;refine zn ?_;apply Dc 0 (rc A0) B5.1;intro C4 A8 C0;apply zq (iV 0);have HE:=zH (show rS rs x y=0 from(if_pos HV.1).trans (if_neg (fun h_=>h_.elim HX.1 HY.1)));go_wp2_with fail
  refine bodyPost_ret (v:= .tuple #[(rg A0),iV 0]) ?_ rfl ⟨A0,by rw[HE.1]<;>rfl,fun _=>⟨(B2.1.dig C0.1),C1.1⟩,fun h_=>absurd HE.1 h_,A8.1.ext⟩;exact Aw rfl rfl ((A8.1.blk (i:=0) rR).loadVar rfl rfl rR) rfl
 have B3:=zH (Bool.eq_false_iff.2 HV.1);go_upto_region 1 with fail;apply wl;refine Cs Ah _ ?_;refine zc (Cg _ rs _ (HU.1.ext A2.1.ext) HN.1 A4.1) ?_;rintro e C3 ⟨rfl,hx⟩;have B4:=zH (A2.1.step hx);clear hx;refine⟨.bool false,by rw[B3.1],?_⟩;try simp only[ζ]
 apply zq (.bool true);go_upto_region 2 with fail;apply wl;apply zq (.agg z4);refine Dc 0 rz B4.1 ?_;intro C2 A1 _;apply zq (iV 12);have HE:=zH (show rS rs x y=12 from if_neg HV.1);go_wp2_with fail
 refine bodyPost_ret (v:= .tuple #[.agg z4,iV 12]) ?_ rfl ⟨RV.zero,by rw[HE.1]<;>rfl,fun h_=>absurd h_ (by rw[HE.1];decide),fun _=>rfl,A1.1.ext⟩;exact Aw rfl rfl ((A1.1.blk (i:=0) rR).loadVar rfl rfl rR) rfl
end
section
open Go.RowKit Go.Shelf
attribute [local go_sem] Oper.semAt_some
attribute [local go_sem ↓] Go.wp_at_zero Go.wp_at_succ Aj Ai
def vM (rs:List Ac)(r:R4):Int:=if En rs=true then(if r.ok=true then(if r.area<=65536 then 0 else 5)else 6)else 12
def zO (rs:List Ac)(x y:Int):Int:=Mr (Un rs (x*256,y*256))
theorem Yz {α β:Type}{f:α->List β}{c:Nat}(h:∀x,(f x).length=c):∀{l:List α} {k j:Nat} {x:α} {y:β},l[k]?=some x->(f x)[j]?=some y->(l.flatMap f)[k*c+j]?=some y
  | [],k,j,x,y,h1,_=>by simp at h1
  | a::l,0,j,x,y,h1,h2=>by
    simp at h1;subst h1;rw[Nat.zero_mul,eZZ,List.flatMap_cons,dQQ (List.getElem?_eq_some_iff.1 h2).1];exact h2
  | a::l,k+1,j,x,y,h1,h2=>by
    have ih:=Yz h (l:=l) (k:=k) (by simpa using h1) h2;rw[List.flatMap_cons,cZZ (by rw[h,kZZ];omega),h,show(k+1)*c+j-c=k*c+j by rw[kZZ];omega];exact ih
theorem eS {p q n:Int}(h:p<=n)(k:n<q):(Ho p q)[(n-p).toNat]?=some n:=by
  unfold Ho;rw[kQQ,List.getElem?_range ω];show some (p+(((n-p).toNat:Nat):Int))=some n;congr 1;omega
theorem sY {q:R4}{x y:Int}(h:q.In x y):(Sv q)[q.at x y]?=some (x,y):=by
 have h1:=Yz (Zy q) (l:=Ho q.y0 q.y1) (k:=(y-q.y0).toNat) (j:=(x-q.x0).toNat) (x:=y) (y:=(x,y)) (eS h.1.1 h.1.2) (by
  unfold gV;rw[kQQ,eS h.2.1 h.2.2];rfl)
 rw[Ik]at h1;have e:q.at x y=(y-q.y0).toNat*(q.x1-q.x0).toNat+(x-q.x0).toNat:=by
  have e1:=Ja h;obtain⟨⟨a,b⟩,c,d⟩:=h;have e2:(((y-q.y0).toNat:Nat):Int)=y-q.y0:=ω
  have e3:(((q.x1-q.x0).toNat:Nat):Int)=q.x1-q.x0:=ω;have e4:(((x-q.x0).toNat:Nat):Int)=x-q.x0:=ω;have e5:(((y-q.y0).toNat*(q.x1-q.x0).toNat+(x-q.x0).toNat:Nat):Int)=(y-q.y0)*(q.x1-q.x0)+(x-q.x0):=by
   rw[Int.natCast_add,gQQ,e2,e3,e4]
  omega
 rw[e];exact h1
theorem sX {q:R4}{v:Int->Int->Int}{es:List Int}(h:es=(Sv q).map fun p=>v p.1 p.2)(hx:q.x0<=q.x1)(hy:q.y0<=q.y1):La q v es:=by
  subst h;refine⟨?_,fun x y hi=>by rw[kQQ,sY hi];rfl⟩;rw[dZZ,Ve,Ik,Ik,gQQ,Int.mul_comm];congr 1<;>omega
def aFR (Bl Br Bz Bm:Nat)(A0:Option Addr)(n0 c0:Nat)(q qr:R4)(rs:List Ac)(w W1:World)(pre:List jJ)(W:World):Prop:=
  ∃(A:Option Addr) (n c:Nat) (es:List Int),Hp w W [.blk Bl 22 [.slice A0 n0 c0],.blk Br 26 [iV qr.x0,iV qr.y0,iV qr.x1,iV qr.y1],.blk Bz 49 [iV 0,iV 0,iV 0,iV 0,.slice none 0 0],.blk Bm 49 [iV q.x0,iV q.y0,iV q.x1,iV q.y1,.slice A n c],.row 5 1 (.slice A n c) (n) (List.flatMap Bp es)]/\es=(pre.map Subtype.val).map (fun p=>zO rs p.1 p.2)/\n=es.length/\W1.heap.size<=W.heap.size
theorem zP (Bl Br Bz Bm:Nat)(A0:Option Addr)(n0 c0:Nat)(q qr:R4)(rs:List Ac)(w W1:World)(hw:w.heap.size<=W1.heap.size):OwnFrom W1.heap.size (aFR Bl Br Bz Bm A0 n0 c0 q qr rs w W1):=by
  rintro s W W' row ⟨A,n,c,es,h1,h2,h3,h4⟩ hg hr;exact⟨A,n,c,es,h1.kept hg (fun k hk=>⟨Av hw (hr k hk).1,(hr k hk).2⟩),h2,h3,Av h4 hg.size⟩
def aFG (Bl Br Bz Bm:Nat)(W1:World)(x:jJ)(a':Act)(W:World):Prop:=
  ∃(J:Nat->Value) (Xt:Nat),Ad W Xt 26 ([iV x.1.1,iV x.1.2,iV (x.1.1+1),iV (x.1.2+1)]:List Value).toArray/\W1.heap.size<=Xt/\a'={tmps:=#[J 0,J 1,.pointer (some ⟨Bl,0,none⟩),.pointer (some ⟨Br,0,none⟩),.pointer (some ⟨Bz,0,none⟩),J 5,.pointer (some ⟨Bm,0,none⟩),.pointer (some ⟨Xt,0,none⟩),J 8,J 9,J 10,J 11,J 12,J 13,J 14,J 15,J 16,J 17,J 18,J 19,J 20,J 21,J 22,J 23,J 24,J 25,J 26,J 27,J 28,J 29,J 30,J 31,J 32,J 33,J 34,J 35,J 36,J 37,J 38,J 39,J 40,J 41,J 42,J 43,J 44,J 45,J 46,J 47],defers:=[]}
theorem zQ (Bl Br Bz Bm:Nat)(W1:World)(x:jJ)(a':Act):OwnFrom W1.heap.size (fun(_:Unit) W=>aFG Bl Br Bz Bm W1 x a' W):=by
  rintro _ W W' row ⟨J,Xt,h1,h2⟩ hg hr;exact⟨J,Xt,h1.kept hg (fun k hk=>(hr k hk).2),h2⟩
theorem aCT {Bl Br Bz Bm Xt:Nat}{W1 W:World}{x:jJ}{a':Act}(h1:Ad W Xt 26 ([iV x.1.1,iV x.1.2,iV (x.1.1+1),iV (x.1.2+1)]:List Value).toArray)(h2:W1.heap.size<=Xt)(h3:a'={tmps:=#[a'.tmps.getD 0 undef,a'.tmps.getD 1 undef,.pointer (some ⟨Bl,0,none⟩),.pointer (some ⟨Br,0,none⟩),.pointer (some ⟨Bz,0,none⟩),a'.tmps.getD 5 undef,.pointer (some ⟨Bm,0,none⟩),.pointer (some ⟨Xt,0,none⟩),a'.tmps.getD 8 undef,a'.tmps.getD 9 undef,a'.tmps.getD 10 undef,a'.tmps.getD 11 undef,a'.tmps.getD 12 undef,a'.tmps.getD 13 undef,a'.tmps.getD 14 undef,a'.tmps.getD 15 undef,a'.tmps.getD 16 undef,a'.tmps.getD 17 undef,a'.tmps.getD 18 undef,a'.tmps.getD 19 undef,a'.tmps.getD 20 undef,a'.tmps.getD 21 undef,a'.tmps.getD 22 undef,a'.tmps.getD 23 undef,a'.tmps.getD 24 undef,a'.tmps.getD 25 undef,a'.tmps.getD 26 undef,a'.tmps.getD 27 undef,a'.tmps.getD 28 undef,a'.tmps.getD 29 undef,a'.tmps.getD 30 undef,a'.tmps.getD 31 undef,a'.tmps.getD 32 undef,a'.tmps.getD 33 undef,a'.tmps.getD 34 undef,a'.tmps.getD 35 undef,a'.tmps.getD 36 undef,a'.tmps.getD 37 undef,a'.tmps.getD 38 undef,a'.tmps.getD 39 undef,a'.tmps.getD 40 undef,a'.tmps.getD 41 undef,a'.tmps.getD 42 undef,a'.tmps.getD 43 undef,a'.tmps.getD 44 undef,a'.tmps.getD 45 undef,a'.tmps.getD 46 undef,a'.tmps.getD 47 undef],defers:=[]}):aFG Bl Br Bz Bm W1 x a' W:=⟨fun q=>a'.tmps.getD q undef,Xt,h1,h2,h3⟩
theorem Hp.addNew {w0 w:World}{m:List De}{X:Nat}{T:TypeId}{zs:List Value}(h:Hp w0 w m)(B:Ad w X T zs.toArray)(hz:w0.heap.size<=X)(hn:Aq zs)(ht:∀e,e∈m->e.typ≠T\/∀k,e.own=some k->k<X):Hp w0 w (m++[.blk X T zs]):=
  h.add ⟨hz,B,hn⟩ (fun i f hf k hk e=>by
    injection e with e
    subst e;rcases ht f (bZZ hf)with h1|h1
    · exact h1 (h.typ hf B hk)
    have:=h1 _ hk;omega)
theorem tT {Bm l:Nat}{T:TypeId}{A:Option Addr}{n c m:Nat}{xs:List Value}{b:Nat}{W W':World}(h:Fr (fun k=>k=Bm\/Value.ownBlock (.slice A n c)=some k) W W')(hr:Be W b T 1 (.slice A n c) m xs):Kq Bm T l W W':=⟨h.size,fun k o ho h1 _ h3=>by
 have A0:=(Array.getElem?_eq_some_iff.1 ho).1;refine(h.block k A0 (fun g=> ?_)).trans ho;rcases g with g|g
 ·exact h1 g
 obtain⟨_,⟨e,_⟩|⟨g2,c2,rest,e,_,hb,_⟩⟩:=hr
 ·injection e with e1;subst e1;simp[Value.ownBlock]at g
 injection e with e1 e2 e3
 subst e1;have hk:g2=k:=by simpa[Value.ownBlock]using g
 subst hk;unfold Ad at hb;rw[hb]at ho;injection ho with ho
 exact h3 _ ho.symm⟩
set_option maxRecDepth 200000 in
theorem zN (A:Option Addr)(cap:Nat)(rs:List Ac)(r:R4)(w:World)(hu:Cm w (.slice A rs.length cap) rs)(hn:rs.length<=1048576)(hr:∀r,r∈rs->r.length<=1048576)(hs:En rs=true->r.ok=true->Ga rs<=16):
  Calls prog 21 #[.slice A rs.length cap,.agg #[iV r.x0,iV r.y0,iV r.x1,iV r.y1]] w (Fz (vM rs r) r (zO rs) w):=by
 have HU:=zH hu;have HN:=zH hn;have D9:=zH hr;clear hu hr;have D7:=zH hs;clear hs;refine(callsIn_wide (n:=13)).1 ?_;refine callsIn_of_wp_marks func21 rfl trivial ?_ rfl;simp only[ntmps21,List.size_toArray,hXX,List.length_nil,Nat.reduceAdd,Nat.reduceSub,Array.replicate_succ,Array.replicate_zero,List.push_toArray,List.append_toArray,fZZ,jQQ];refine wpIn_wide.2 ?_;refine Go.Code.wp_mono Ky.m ?_;have H0:=zH (Hp.start w);go_upto_region 0 with fail
 apply wl;apply Cn 22 [.slice A rs.length cap] H0.1;intro X1 w2 H3 _;apply Cn 26 [iV r.x0,iV r.y0,iV r.x1,iV r.y1] H3.1;intro X6 w7 H8 _;apply Cn 49 [iV 0,iV 0,iV 0,iV 0,.slice none 0 0] H8.1;intro A7 M5 B3 _;apply zq (iV 0);rcases Cy (En rs=true)with HV|HV
 ·go_upto_region 1 with fail
  apply wl;refine Cs B3.1 _ ?_;refine zc (Cg _ rs _ (HU.1.ext B3.1.ext) HN.1 D9.1) ?_;rintro e M4 ⟨rfl,hx⟩;have C8:=zH (B3.1.step hx);clear hx;refine⟨.bool true,by rw[HV.1],?_⟩;try simp only[ζ]
  refine Cc Ah (.bool false) (.bool false) ?_;rcases Cy (r.ok=true)with HRO|HRO
  ·go_upto_region 3 with fail
   apply wl;refine Cs C8.1 _ ?_;refine aC C8.1 ((Sh r _).mono fun _ _ h_=>(⟨h_.1.trans (by rw[HRO.1]),h_.2⟩:_=Ending.returned (.bool true)/\Aa _ _)) ?_;intro M3 C7 _;refine Cc Ah (.bool false) (.bool false) ?_;rcases Cy (r.area<=65536)with HA|HA
   ·go_upto_region 5 with fail
    apply wl;refine Cs C7.1 _ ?_;refine aC C7.1 (Pp r _) ?_;intro M2 G7 _;apply zp (.bool false) (by exact Rq (e:=(Al (by have h_:=HA.1;omega))));apply zq (.bool false);go_upto_region 7 with fail;apply wl;refine Cs G7.1 _ ?_;refine aC G7.1 (Uy r _) ?_;intro M1 L5 _;refine Cs Ah _ ?_;apply Cn 49 [iV 0,iV 0,iV 0,iV 0,.slice none 0 0] L5.1;intro A0 M0 L4 _;apply Dc 3 [iV r.can.x0,iV r.can.y0,iV r.can.x1,iV r.can.y1,.slice none 0 0] L4.1;intro G9 L3 _;generalize B2:r.can=q at*;have HQ:=zH B2;have hb:=r.can_bd;rw[B2]at hb;have HB:=zH hb;clear B2 hb;have E1:=zH (show Hp w G9 [.blk X1 22 [.slice A rs.length cap],.blk X6 26 [iV r.x0,iV r.y0,iV r.x1,iV r.y1],.blk A7 49 [iV 0,iV 0,iV 0,iV 0,.slice none 0 0],.blk A0 49 [iV q.x0,iV q.y0,iV q.x1,iV q.y1,.slice none 0 0],ro 5 1 none 0 0 Bp ([])]from L3.1.addNil 5 1);go_upto_region 8 with fail
    apply wl;refine Cs Ah _ ?_;refine zd A0 (0) [iV q.x0,iV q.y0,iV q.x1,iV q.y1] (E1.1.range (i:=3) rR 0 4) underlying26 ?_;refine zc (mF q _) ?_;rintro e B1 ⟨Cr,Cw,Ch,rfl,D1,D0,F9,F8,F7,F6,I9,I8,I7,hx⟩;rw[show q.can=q from by rw[<-HQ.1];exact Wq r]at D1;have K3:=zH D1;have K2:=zH D0;have K1:=zH F9;have D8:=zH (And.intro F8 (And.intro F7 F6));clear D1 D0 F9 F8 F7 F6 I9 I8 I7;have C6:=zH (E1.1.step hx);clear hx;refine zn ?_;have I5:=C6.1.lt (i:=3) (k:=A0) (by rfl) rfl;have D6:=zH (show w.heap.size<=B1.heap.size from C6.1.ext.size);have I4:=E1.1.lt (i:=3) (k:=A0) (by rfl) rfl;have K5:=zH (show((Sv q).length:Int)<=65536 from by rw[Ve,Ik,Ik,gQQ];have h_:=HA.1;unfold R4.area at h_;rw[HQ.1]at h_;have D0:=HB.1.2;rw[Int.mul_comm,Int.toNat_of_nonneg ω,Int.toNat_of_nonneg ω];exact h_);go_wp2_with fail
    refine wpIn_wide.1 (Xe (n:=13) ω rR (enters_of func75 kR rfl) (mE 12 dC Cr Cw Ch A0 5 q B1 K3.1 K2.1 K1.1 (by have h_:=D8.1;omega) (by have h_:=D8.1;omega) (by have h_:=D8.1;omega) dC dC dC HB.1.1 I5) (aFR X1 X6 A7 A0 A rs.length cap q r rs w B1) (zP X1 X6 A7 A0 A rs.length cap q r rs w B1 D6.1) ⟨none,0,0,[],C6.1,rfl,rfl,Ck _⟩ (aFG X1 X6 A7 A0 B1) (zQ X1 X6 A7 A0 B1) ?assign ?body ?done);case assign=>
     intro l pre x W K hi hK;obtain⟨Az,n,c,es,hh,A4,A3,A5⟩:=hi;have C3:=zH A5;have H0:=zH hh;have HK:=zH hK;have E0:=zH A4;have B8:=zH A3;clear A5 hh hK A4 A3;unfold wC;simp only[zA,zB,zC];refine Ab kR (fun⟨_,_,h⟩=>h) ?_;apply aA 26 [iV 0,iV 0,iV 0,iV 0] H0.1;intro J0 G8 L2 hx B6;have G4:=zH (show W.heap.size<=J0 from Av (Fr.of_ext (G:=fun kz=>False) (Aa.refl W)).size B6);have J9:=zH (show Fr (fun kz=>False) W G8 from(Fr.of_ext (G:=fun kz=>False) (Aa.refl W)).trans (Fr.of_ext hx));clear hx B6;apply aS 5 [iV x.1.1,iV x.1.2,iV (x.1.1+1),iV (x.1.2+1)] L2.1;intro L9 G6 hd ho;have C2:=zH (J9.1.trans_new ho (fun j hj=> .inr (by injection hj with hj;rw[<-hj];exact G4.1)));clear hd ho;exact HK.1 _ _ (KeepsFrom.of_fr C2.1 (fun _ h=>h.elim)) ⟨C2.1.size,fun k o ho _ _ _=>(C2.1.block k (Array.getElem?_eq_some_iff.1 ho).1 (fun h=>h)).trans ho⟩ ⟨Az,n,c,es,G6.1.take 5,E0.1,B8.1,Av C3.1 C2.1.size⟩ (aCT (G6.1.blk (i:=5) (by rfl)) (Av C3.1 G4.1) (by rfl))
    case body=>
     intro l pre ed a' W hi I6 I1;obtain⟨Az,n,c,es,hh,A4,A3,A5⟩:=hi;obtain⟨J,Xt,F3,F2,rfl⟩:=I6;have C3:=zH A5;have E0:=zH A4;have B8:=zH A3;have I3:=ed.2;unfold aEK at I3;have C4:=zH (show n<=65536 from by rw[A3,A4,dZZ,dZZ];have h_:=K5.1;omega);have H0:=zH (show Hp w W [.blk X1 22 [.slice A rs.length cap],.blk X6 26 [iV r.x0,iV r.y0,iV r.x1,iV r.y1],.blk A7 49 [iV 0,iV 0,iV 0,iV 0,.slice none 0 0],.blk A0 49 [iV q.x0,iV q.y0,iV q.x1,iV q.y1,.slice Az n c],ro 5 1 Az n c Bp es,.blk Xt 26 [iV ed.1.1,iV ed.1.2,iV (ed.1.1+1),iV (ed.1.2+1)]]from hh.addNew F3 (Av D6.1 F2) (by simp[Aq]) (by simp only[List.forall_mem_cons,List.not_mem_nil,false_imp_iff,implies_true,and_true];exact⟨.inl (by simp[De.typ]),.inr (fun k hk=>by injection hk with hk;have h_:=C6.1.lt (i:=1) (k:=X6) (by rfl) rfl;omega),.inl (by simp[De.typ]),.inl (by simp[De.typ]),.inl (by simp[De.typ])⟩));clear hh A4 A3 A5 F3 F2;have C5:=zH (show Fr (fun kz=>kz=A0\/Value.ownBlock (.slice Az n c)=some kz) W W from Fr.of_ext (Aa.refl W));have K4:=zH (show(-1048576<=ed.1.1*256/\ed.1.1*256<=1048320)/\ -1048576<=ed.1.2*256/\ed.1.2*256<=1048320 from ω);gi_upto_region 10 with fail
     refine Ab kR (fun⟨_,_,h⟩=>h) ?_;refine Cc H0.1 _ _ ?_;apply zp (iV (ed.1.1*256)) (by exact lH (by have C9:=C4.1;omega));refine Cc H0.1 _ _ ?_;apply zp (iV (ed.1.2*256)) (by exact lH (by have C9:=C4.1;omega));refine Cs Ah _ ?_;apply aA 66 [iV 0,iV 0] H0.1;intro D2 L8 L1 hx B6;have J3:=zH (show W.heap.size<=D2 from Av C5.1.size B6);have J8:=zH (C5.1.trans (Fr.of_ext hx));clear hx B6;apply aS 6 [iV (ed.1.1*256),iV (ed.1.2*256)] L1.1;intro A1 A2 hd ho;have J7:=zH (J8.1.trans_new ho (fun j hj=> .inr (by injection hj with hj;rw[<-hj];exact J3.1)));clear hd ho;refine wpList_nil ?_;gi_upto_region 11 with fail
     refine Ej (S:=fun x=>Fr (fun kz=>kz=A0\/Value.ownBlock (.slice Az n c)=some kz) A1 x) kR kR (fun⟨_,_,h⟩=>h) (Fr.of_ext zb) (fun _=> ?_);have G5:=zH (A2.1.step (Aa.refl A1).drew);have J6:=zH (J7.1.trans (Fr.of_ext (Aa.refl A1).drew));refine mX 0 (bs 10 1) (.pointer (some ⟨A0,4,none⟩)) (Fr.of_ext zb) ?_;refine zr 2 (bs 10 5) D2 (0) [iV (ed.1.1*256),iV (ed.1.2*256)] (fun x hx=>Fr.range hx (show World.rangeAt A1 D2 (0) [iV (ed.1.1*256),iV (ed.1.2*256)]from(A2.1.range (i:=6) rR 0 2)) (fun hk=>hk.elim (A2.1.offBlk (i:=6) (j:=3) rR rR dC rR) (A2.1.offRow (i:=6) (j:=4) rR rR dC rR))) underlying66 (Fr.of_ext zb) ?_;refine Dt (g:=X1) (o:=0) (v:= .slice A rs.length cap) (i:=3) (listed':=(bs 10 13)) rR kR kR kR (by intro _ _ _ h;exact h) rR (fun x hx=>Fr.cell hx (show World.cell? A1 ⟨X1,0,none⟩=some (.slice A rs.length cap)from Ae (A2.1.range (i:=0) rR 0 1)) (fun hk=>hk.elim (A2.1.offBlk (i:=0) (j:=3) rR rR dC rR) (A2.1.offRow (i:=0) (j:=4) rR rR dC rR))) (by intro x hq;go_simp<;>with_reducible rfl) (Fr.of_ext zb) kR ?_;try simp only[ζ]
     refine Fd.go (j:=1) (dj:=some 39) (u:= .slice Az n c) ?_;refine Id (b:=A1) (i:=4) (lj:=(bs 10 15)) (li:=(bs 10 29)) rR rR kR kR kR kR kR dC kR rR rR (fun x_ h_=>Fr.of_ext h_) (Aa.refl A1).drew (fun x_ h_=>(by have B2:=Ae (Bg (show World.rangeAt A1 A0 (4) [.slice Az n c]from A2.1.range (i:=3) rR 4 1) h_);go_simp<;>with_reducible rfl)) rR (by go_simp) kR (cV (ed.1.1*256) (ed.1.2*256) _ rs _ (HU.1.ext G5.1.ext) HN.1 D9.1 HV.1 (D7.1 HV.1 HRO.1) K4.1) ?_;rintro e E9 ⟨I0,rfl,F1,F4,hx⟩;have L0:=zH (G5.1.step hx);have J5:=zH (J6.1.trans (Fr.of_ext hx));have G2:=zH (show Aa A1 E9 from(Aa.refl A1).drew.trans hx);have J1:=zH (show Fr (fun kz=>kz=A0\/Value.ownBlock (.slice Az n c)=some kz) A1 E9 from(Fr.of_ext zb).trans (Fr.of_ext hx));have J2:=zH F1;have L7:=zH F4;clear F1 F4;have B5:=hx;clear hx;refine⟨_,rfl,B5,?_⟩;try simp only[ζ]
     clear B5;refine Id (b:=A1) (i:=5) (lj:=(bs 10 31)) (li:=(bs 10 61)) rR rR kR kR kR kR kR dC kR rR rR (fun x_ h_=>Fr.of_ext h_) G2.1 (fun x_ h_=>(by have B2:=Ae (Bg (show World.rangeAt A1 A0 (4) [.slice Az n c]from A2.1.range (i:=3) rR 4 1) h_);go_simp<;>with_reducible rfl)) rR (by go_simp) kR (Lo I0 (Un rs (ed.1.1*256,ed.1.2*256)) _ (J2.1.isIn (Av L7.1 dC))) ?_;rintro e B0 ⟨rfl,hx⟩;have K9:=zH (L0.1.step hx);have J4:=zH (J5.1.trans (Fr.of_ext hx));have G1:=zH (show Aa A1 B0 from G2.1.trans hx);have G3:=zH (J1.1.trans (Fr.of_ext hx));have B5:=hx;clear hx;refine⟨_,rfl,B5,?_⟩;try simp only[ζ]
     clear B5;refine aDL (v:= .slice (some ⟨B0.heap.size,0,none⟩) 1 1) (w':=(B0.alloc (.cells ([.int .u8 (Mr (Un rs (ed.1.1*256,ed.1.2*256)))]:List Value).toArray 5))) (b:=A1) (i:=6) (lj:=(bs 10 63)) (li:=(bs 10 125)) rR rR kR kR kR kR kR dC kR rR rR (fun x_ h_=>Fr.of_ext h_) G1.1 (fun x_ h_=>(by have B2:=Ae (Bg (show World.rangeAt A1 A0 (4) [.slice Az n c]from A2.1.range (i:=3) rR 4 1) h_);go_simp<;>with_reducible rfl)) rR (by go_simp) ((Aa.refl B0).alloc _) kR ?_;try simp only[ζ]
     refine Om rR kR rR rR (G3.1.trans (Fr.of_ext ((Aa.refl B0).alloc _))) (aFU (p:=⟨A0,4,none⟩) (by intro x hq;go_simp<;>with_reducible rfl) _ (Ae (Bg (show World.rangeAt A1 A0 (4) [.slice Az n c]from A2.1.range (i:=3) rR 4 1) (G1.1.trans ((Aa.refl B0).alloc _))))) (show _=(bs 10 127)by kernel_rfl) ?_;try simp only[ζ]
     refine aW (j:=7) (listed':=(bs 10 255)) rR kR rR _ _ _ rR aEW rR K9.1 (ix:=4) rR 1 1 [.int .u8 (Mr (Un rs (ed.1.1*256,ed.1.2*256)))] rR rfl (by simp[Value.oneCell']) (by simp[Aq]) dC (by unfold maxLen;exact(by have C9:=C4.1;omega)) (by have C9:=C4.1;omega) kR ?_;intro G0 B7 E8 hf hh hd hg;have L6:=zH hf;clear hf;rw[show List.flatMap Bp es++[.int .u8 (Mr (Un rs (ed.1.1*256,ed.1.2*256)))]=_ from Ez Bp _ (Mr (Un rs (ed.1.1*256,ed.1.2*256)))]at hh;have E7:=hN hh;have D5:=zH (show Fr (fun kz=>kz=A0\/Value.ownBlock (.slice Az n c)=some kz) W E8 from(J4.1.trans (Fr.of_ext (An.alloc _))).trans_new hg (fun j hj=> .inl (.inr hj)));have A8:=zH (show Fr (fun kz=>kz=A0\/Value.ownBlock (.slice Az n c)=some kz) A1 E8 from Fr.trans_new (G3.1.trans (Fr.of_ext (An.alloc _))) hg (fun j hj=> .inl (.inr hj)));clear hh hd hg;refine⟨A8.1,?_⟩;try simp only[ζ]
     refine zx 8 (bs 10 511) (.pointer (some ⟨A0,4,none⟩)) A8.1 ?_;refine aBQ (i:=9) (listed':=(bs 10 1023)) rR kR rR kR _ _ _ rR E7.1 (ix:=3) rR 4 (.slice (some ⟨G0,0,none⟩) (n+1) B7) rR rR (by simp) kR (by simp[Value.cells]) (by simp[Value.oneCell']) (by simp[Aq]) ?_;intro H9 hh hd ho;have E6:=hN hh;have A9:=zH (D5.1.trans_new ho (fun j hj=> .inl (.inl (by injection hj with hj;exact hj.symm))));have D3:=zH (Fr.trans_new A8.1 ho (fun j hj=> .inl (.inl (by injection hj with hj;exact hj.symm))));clear hh hd ho;refine⟨D3.1,?_⟩
     (try simp only[Act.put])
     refine wpAnyH_done kR ?_ _;gi_wp2
     exact⟨(KeepsFrom.of_fr A9.1 (fun k hk o ho=>hk.elim (fun e=>H0.1.cells (i:=3) (by rfl) (by rw[e];rfl) o ho) (fun e=>H0.1.cells (i:=4) (by rfl) (by exact e) o ho))),tT A9.1 (H0.1.row (i:=4) (by rfl)),some ⟨G0,0,none⟩,n+1,B7,es++[(Mr (Un rs (ed.1.1*256,ed.1.2*256)))],E6.1.take 5,(by rw[E0.1,fXX,fXX];rfl),(by rw[aXX,<-B8.1];rfl),Av C3.1 A9.1.size⟩
    rintro Dz xs W hD F0 ⟨Az,n,c,es,hh,A4,A3,A5⟩ hK;have H0:=zH hh;have B8:=zH A3;have HD:=zH hK;have K8:=zH hD;have K7:=zH (show La q (zO rs) es from sX (by rw[A4,F0]) HB.1.2.1 HB.1.2.2);clear hh A4 A3 A5 F0 hK hD;have C5:=zH (show Fr (fun kz=>kz=A7) W W from Fr.of_ext (Aa.refl W));go_upto_region 12 with fail
    apply wl;refine Cs H0.1 _ ?_;apply aS 2 [iV q.x0,iV q.y0,iV q.x1,iV q.y1,.slice Az n c] H0.1;intro B4 E5 hd ho;have D4:=zH (C5.1.trans_new ho (fun j hj=> .inl (by injection hj with hj;exact hj.symm)));clear hd ho;apply zq (iV 0);go_wp2_with fail
    have F5:B4.heap[Dz]?=some (.deferred (some [])):=(D4.1.block Dz (Array.getElem?_eq_some_iff.1 HD.1).1 (fun e=>by have h1:=H0.1.cells (i:=2) (k:=Dz) (by rfl) (by rw[e];rfl) _ HD.1;cases h1)).trans HD.1;refine⟨by simp,.inl ⟨_,_,rfl,run_takeDeferred F5,?_⟩⟩;have A6:=E5.1.kept (grownBy_putObj' B4 Dz (.deferred none)) (fun k hk=>by injection hk with hk;subst hk;exact⟨Av D6.1 K8.1,_,F5,rfl⟩);have HE:=zH (show vM rs r=0 from(if_pos HV.1).trans ((if_pos HRO.1).trans (if_pos HA.1)));exact⟨_,Aw rfl rfl ((A6.blk (i:=2) (by rfl)).loadVar rfl rfl (by rfl)) rfl,q,Az,n,c,es,by rw[HE.1]<;>rfl,B8.1,A6.row (i:=4) (by rfl),fun _=>⟨HQ.1.symm,by rw[HQ.1];exact K7.1,HA.1⟩,fun h_=>absurd HE.1 h_,A6.ext⟩
   go_upto_region 5 with fail;apply wl;refine Cs C7.1 _ ?_;refine aC C7.1 (Pp r _) ?_;intro H7 E4 _;apply zp (.bool true) (by exact Rq (e:=(Ar (by have h_:=HA.1;omega))));apply zq (.bool true);go_upto_region 6 with fail;apply wl;refine Cs Ah _ ?_;apply Dc 2 [iV 0,iV 0,iV 0,iV 0,.slice none 0 0] E4.1;intro H6 C1 _;apply zq (iV 5);have HE:=zH (show vM rs r=5 from(if_pos HV.1).trans ((if_pos HRO.1).trans (if_neg HA.1)));go_wp2_with fail
   exact⟨_,Aw rfl rfl ((C1.1.blk (i:=2) (by rfl)).loadVar rfl rfl (by rfl)) rfl,R4.zero,none,0,0,[],by rw[HE.1]<;>rfl,rfl,Be.nil _ _ _ _,fun h_=>absurd h_ (by rw[HE.1];decide),fun _=>⟨rfl,rfl⟩,C1.1.ext⟩
  have K6:=zH (Bool.eq_false_iff.2 HRO.1);go_upto_region 3 with fail;apply wl;refine Cs C8.1 _ ?_;refine aC C8.1 ((Sh r _).mono fun _ _ h_=>(⟨h_.1.trans (by rw[K6.1]),h_.2⟩:_=Ending.returned (.bool false)/\Aa _ _)) ?_;intro H5 E3 _;refine Cc Ah (.bool true) (.bool true) ?_;go_upto_region 4 with fail;apply wl;refine Cs Ah _ ?_;apply Dc 2 [iV 0,iV 0,iV 0,iV 0,.slice none 0 0] E3.1;intro H4 C0 _;apply zq (iV 6);have HE:=zH (show vM rs r=6 from(if_pos HV.1).trans (if_neg HRO.1));go_wp2_with fail
  exact⟨_,Aw rfl rfl ((C0.1.blk (i:=2) (by rfl)).loadVar rfl rfl (by rfl)) rfl,R4.zero,none,0,0,[],by rw[HE.1]<;>rfl,rfl,Be.nil _ _ _ _,fun h_=>absurd h_ (by rw[HE.1];decide),fun _=>⟨rfl,rfl⟩,C0.1.ext⟩
 have K0:=zH (Bool.eq_false_iff.2 HV.1);go_upto_region 1 with fail;apply wl;refine Cs B3.1 _ ?_;refine zc (Cg _ rs _ (HU.1.ext B3.1.ext) HN.1 D9.1) ?_;rintro e H2 ⟨rfl,hx⟩;have E2:=zH (B3.1.step hx);clear hx;refine⟨.bool false,by rw[K0.1],?_⟩;try simp only[ζ]
 apply qV (.bool true);apply zq (.bool true);go_upto_region 2 with fail;apply wl;refine Cs Ah _ ?_;apply Dc 2 [iV 0,iV 0,iV 0,iV 0,.slice none 0 0] E2.1;intro H1 B9 _;apply zq (iV 12);have HE:=zH (show vM rs r=12 from if_neg HV.1);go_wp2_with fail
 exact⟨_,Aw rfl rfl ((B9.1.blk (i:=2) (by rfl)).loadVar rfl rfl (by rfl)) rfl,R4.zero,none,0,0,[],by rw[HE.1]<;>rfl,rfl,Be.nil _ _ _ _,fun h_=>absurd h_ (by rw[HE.1];decide),fun _=>⟨rfl,rfl⟩,B9.1.ext⟩
end
section
theorem wU {w:World}{b n c:Nat}{A:Option Addr}{es:List Int}(hr:Be w b 5 1 (.slice A n c) n (List.flatMap Bp es)):(convert 47 9 (.slice A n c)).run prog w= .ok (.string (strOfNums es)) w:=by
 obtain⟨h1,⟨e,h0⟩|⟨g,A0,rest,e,_,hb,_⟩⟩:=id hr
 ·injection e with e1 e2 e3
  subst e1;have hz:es=[]:=by
   cases es with
   |nil=>rfl
   |cons x l=>simp[Bp]at h1;omega
  subst hz;exact run_convert_bytes_nil w 47 5 underlying47 underlying5 n c 9 underlying9
 injection e with e1 e2 e3
 subst e1;have hl:es.length=n:=by rw[Do Jk]at h1;omega
 refine run_convert_bytes_arg w 47 5 underlying47 underlying5 g 0 n c es hl (fun i hi=> ?_) 9 underlying9;have hg:es[i]?=some (es.getD i 0):=by simp[List.getD,aQQ (show i<es.length by omega)]
 have h2:=Hk Jk es i _ hg 0 (.int .u8 (es.getD i 0)) rfl;rw[nXX,mZZ]at h2;rw[eZZ,hb.cell,aZZ,dQQ (List.getElem?_eq_some_iff.1 h2).1];exact h2
theorem Km {o:Oper}{ρ:Operand->Value}{w:World}{b n c:Nat}{A:Option Addr}{es:List Int}{s:ByteArray}{x:Operand}(ho:o.op= .convert 47 9 x)(hx:ρ x= .slice A n c)(hr:Be w b 5 1 (.slice A n c) n (List.flatMap Bp es))(hs:strOfNums es=s):(execOp ρ o).run prog w= .ok (.value (.string s)) w:=by
  subst hs;have h:=wU hr;unfold execOp;simp only[ho,hx];simp[go_sem,h]
theorem yP {P:Program}{o:Oper}{ρ:Operand->Value}{w:World}{s s':ByteArray}{b:Bool}{t t':TypeId}{x y:Operand}(ho:o.op= .binOp .neq t x y t')(hx:ρ x= .string s)(hy:ρ y= .string s')(hE:(!(s.toList==s'.toList))=b):(execOp ρ o).run P w= .ok (.value (.bool b)) w:=by
  subst hE;unfold execOp;simp only[ho,hx,hy];simp[go_sem]
theorem Qf {P:Program}{o:Oper}{ρ:Operand->Value}{w:World}{s s':ByteArray}{b:Bool}{t t':TypeId}{x y:Operand}(ho:o.op= .binOp .eql t x y t')(hx:ρ x= .string s)(hy:ρ y= .string s')(hE:(s.toList==s'.toList)=b):(execOp ρ o).run P w= .ok (.value (.bool b)) w:=by
  subst hE;unfold execOp;simp only[ho,hx,hy];simp[go_sem]
end
section
open Go.ChangeShapes Go.WideShapes Go.ChangeAt Go.RowKit
theorem own:ownKnob prog.godebug=none:=by kernel_rfl
theorem kZ:laidOutB prog=true:=by kernel_rfl
theorem Zi:prog.cellsOf 3=1:=by kernel_rfl
theorem Wj:prog.cellsOf 41=2:=by kernel_rfl
theorem aM {P:Program}{w:World}{r:Reach}{base:Nat}{t e:TypeId}{n:Nat}{v:Value}(ht:P.underlying t=some (.array n e))(h:Value.okWide P w r base t v):∃cs,v= .agg cs/\cs.size=P.cellsOf t:=by
  simp only[Value.okWide,ht]at h;obtain⟨cs,h1,h2,_⟩:=h;exact⟨cs,h1,h2⟩
section
variable {H:Type} {enc:TypeId×Value->H} {w:World} {base:Nat} {spare:Nat->Bool} {held:Bool}
theorem xB {fuel:Nat}{cs:List Value}{x:DataW H×List MemPlace}(h:DataW.trod enc prog w base spare held fuel 41 cs=some x):∃a:Int×Int,cs=[.int .i64 a.1,.int .i64 a.2]:=by
  obtain⟨y0,y1,n,_,hl,h0,h1⟩:=trod_struct2 underlying41 h;rw[Wj]at hl;rw[Zi]at h0 h1;obtain⟨a,e0,_,_⟩:=DataW.trod_int underlying3 h0;obtain⟨b,e1,_,_⟩:=DataW.trod_int underlying3 h1;match cs,hl with
  | [u,v],_=>
    simp at e0 e1;exact⟨(a,b),by rw[e0,e1]⟩
end
section
variable {H:Type} {enc:TypeId×Value->H} {P:Program} {w:World} {base:Nat} {spare:Nat->Bool} {held:Bool}
theorem Oa {t e:TypeId}{fuel:Nat}{cs:List Value}{x:DataW H×List MemPlace}(ht:P.underlying t=some (.slice e))(hs:0<P.cellsOf e)(h:DataW.trod enc P w base spare held fuel t cs=some x):
    ∃ A len cap,cs=[.slice A len cap]/\len<=cap/\cap<=maxLen/\(0<len->∃g off,A=some ⟨g,off,none⟩/\∀i,i<len->∃(cs':List Value) (n:Nat) (y:DataW H×List MemPlace),cs'.length=P.cellsOf e/\
      (∀j u,cs'[j]?=some u->w.cell? ⟨g,off+i*P.cellsOf e+j,none⟩=some u)/\DataW.trod enc P w base spare held n e cs'=some y):=by
  rcases Deep.open_slice ht h with⟨rfl,_⟩|⟨a,len,cap,m,n,D,Pl,rfl,hb,hl,hm,hmm,_,hx⟩
  · exact⟨none,0,0,rfl,Ck _,eXX _,fun h0=>absurd h0 ω⟩
  refine⟨some a,len,cap,rfl,hl,hm,fun h0=> ?_⟩;have A5:len<=m:=by rw[hmm];split<;>omega
  have A2:a.spot=none:=by
    obtain⟨cs',h1,h2⟩:=hx 0 ω;obtain⟨_,A1,A0⟩:=World.cells?_some h1;have g0:=A0 0 hs;cases hq:a.spot with
    |none=>rfl
    | some s=>
      exfalso;obtain⟨c0,A4⟩:∃c0,cs'[0]?=some c0:=by
        cases cs' with
        |nil=>simp at A1;omega
        |cons c _=>exact⟨c,rfl⟩
      rw[A4]at g0;have e:((a.add (0*P.cellsOf e)).add 0).spot=some s:=by simp[Addr.add,hq]
      unfold World.cell? at g0;rw[e]at g0;revert g0
      split<;>simp
  obtain⟨g,off,sp⟩:=a;obtain rfl:sp=none:=A2;refine⟨g,off,rfl,fun i hi=> ?_⟩;obtain⟨cs',h1,h2⟩:=hx i ω;obtain⟨_,A1,A0⟩:=World.cells?_some h1;refine⟨cs',n,_,A1,fun j u hj=> ?_,h2⟩;have A3:j<P.cellsOf e:=by
    have:=(List.getElem?_eq_some_iff.1 hj).1;omega
  have g1:=A0 j A3;rw[hj]at g1;have e:((⟨g,off,none⟩:Addr).add (i*P.cellsOf e)).add j=⟨g,off+i*P.cellsOf e+j,none⟩:=by
    rw[Deep.add_add];unfold Addr.add;by_cases hz:i*P.cellsOf e+j=0
    · rw[if_pos hz]
      congr 1;omega
    rw[if_neg hz];congr 1;show off+(i*P.cellsOf e+j)=off+i*P.cellsOf e+j;omega
  rw[e]at g1;exact g1
end
theorem kV {α:Type}[Inhabited α](n:Nat)(p:Nat->α->Prop)(h:∀i,i<n->∃x,p i x):∃l:List α,l.length=n/\∀i (d:α),i<n->p i (l.getD i d):=by
  obtain⟨f,hf⟩:=Deep.choose_lt (p:=p) h;refine⟨(List.range n).map f,by simp,fun i d hi=> ?_⟩;have e:((List.range n).map f).getD i d=f i:=by simp[List.getD,hi]
  rw[e];exact hf i hi
section
variable {H:Type} {enc:TypeId×Value->H} {w:World} {base:Nat} {held:Bool}
end
theorem Hf:prog.cellsOf 39=1:=by kernel_rfl
instance:Inhabited RV:=⟨⟨false,none,0,0,false,none,0,0⟩⟩
section
variable {H:Type} {enc:TypeId×Value->H} {w:World} {base:Nat} {held:Bool}
theorem gX {fuel:Nat}{cs:List Value}{x:DataW H×List MemPlace}(h:DataW.trod enc prog w base (fun _=>true) held fuel 39 cs=some x):
  ∃(A:Option Addr) (l:Ac) (cap:Nat),cs=[.slice A l.length cap]/\l.length<=maxLen/\Gp w (.slice A l.length cap) l:=by
 obtain⟨A,A0,cap,rfl,hl,hm,hx⟩:=Oa underlying39 (by rw[Wj];decide) h;by_cases h0:0<A0
 ·obtain⟨g,A1,rfl,A2⟩:=hx h0
  rw[Wj]at A2;obtain⟨l,rfl,A3⟩:=kV (α:=Int×Int) A0 (fun i s=>∀j u,[Value.int .i64 s.1,.int .i64 s.2][j]?=some u->w.cell? ⟨g,A1+i*2+j,none⟩=some u) (fun i hi=>by
   obtain⟨A4,n,y,_,h2,h3⟩:=A2 i hi;obtain⟨s,rfl⟩:=xB h3;exact⟨s,h2⟩)
  refine⟨_,l,cap,rfl,ω,_,cap,rfl,fun _=>⟨g,A1,rfl,fun i hi=> ?_⟩⟩;have h:=A3 i (0,0) hi;exact⟨h 0 _ rfl,h 1 _ rfl⟩
 obtain rfl:A0=0:=ω;exact⟨A,[],cap,rfl,eXX _,A,cap,rfl,fun hn=>absurd rfl hn⟩
theorem dJ {fuel:Nat}{cs:List Value}{x:DataW H×List MemPlace}(h:DataW.trod enc prog w base (fun _=>true) held fuel 22 cs=some x):
  ∃(A:Option Addr) (l:List Ac) (cap:Nat),cs=[.slice A l.length cap]/\l.length<=maxLen/\Cm w (.slice A l.length cap) l/\∀r,r∈l->r.length<=maxLen:=by
 obtain⟨A,A0,cap,rfl,hl,hm,hx⟩:=Oa underlying22 (by rw[Hf];decide) h;by_cases h0:0<A0
 ·obtain⟨g,A1,rfl,A2⟩:=hx h0
  rw[Hf]at A2;obtain⟨l,rfl,A3⟩:=kV (α:=Ac) A0 (fun i r=>(∃B cb,w.cell? ⟨g,A1+i,none⟩=some (.slice B r.length cb)/\Gp w (.slice B r.length cb) r)/\r.length<=maxLen) (fun i hi=>by
   obtain⟨A4,n,y,_,h2,h3⟩:=A2 i hi;obtain⟨B,r,cb,rfl,hr,hp⟩:=gX h3;have:=h2 0 _ rfl;simp only[nXX,mZZ]at this;exact⟨r,⟨B,cb,this,hp⟩,hr⟩)
  refine⟨_,l,cap,rfl,ω,⟨_,cap,rfl,fun _=>⟨g,A1,rfl,fun i x hx=> ?_⟩⟩,fun x hx=> ?_⟩
  ·have h:=(A3 i [] (List.getElem?_eq_some_iff.1 hx).1).1
   rw[bQQ,hx]at h;exact h
  obtain⟨i,hi⟩:=List.mem_iff_getElem?.1 hx;have h:=(A3 i [] (List.getElem?_eq_some_iff.1 hi).1).2;rw[bQQ,hi]at h;exact h
 obtain rfl:A0=0:=ω;exact⟨A,[],cap,rfl,eXX _,⟨A,cap,rfl,fun hn=>absurd hn (by simp)⟩,fun x hx=>by simp at hx⟩
end
end
section
attribute [local go_sem ↓] Go.wp_at_zero Go.wp_at_succ Aj Ai
theorem Yi {w0 w:World}{m:List De}{i j X1 X2:Nat}(h:Hp w0 w m)(ps:List (Int×Int))(h1:m[i]?=some (.blk X1 41 (ps.flatMap fun p=>[iV p.1,iV p.2])))
  (h2:m[j]?=some (.blk X2 39 [.slice (some ⟨X1,0,none⟩) ps.length ps.length])):Cm w (.slice (some ⟨X2,0,none⟩) 1 1) [ps]:=by
 refine⟨_,1,rfl,fun _=>⟨X2,0,rfl,fun i r hr=> ?_⟩⟩;have hi:i=0:=by have:=(List.getElem?_eq_some_iff.1 hr).1;simp at this;omega
 subst hi;have A0:r=ps:=by simpa using hr.symm
 subst A0;refine⟨_,r.length,h.cell h2 0 rfl,⟨_,r.length,rfl,fun _=>⟨X1,0,rfl,fun i hi=> ?_⟩⟩⟩;have hp:r[i]?=some r[i]:=aQQ hi;have hg:r.getD i (0,0)=r[i]:=by simp[hi]
 rw[hg];have h3:=h.cell h1 (i*2+0) (Hk (f:=fun p:Int×Int=>([iV p.1,iV p.2]:List Value)) (fun _=>rfl) r i r[i] hp 0 _ rfl);have h4:=h.cell h1 (i*2+1) (Hk (f:=fun p:Int×Int=>([iV p.1,iV p.2]:List Value)) (fun _=>rfl) r i r[i] hp 1 _ rfl);rw[mZZ]at h3;rw[eZZ];exact⟨h3,h4⟩
theorem dQ (a b:Int)(w:World)(h1: -9223372036854775808<=a)(h2:a<=9223372036854775807)(h3: -9223372036854775808<=b)(h4:b<=9223372036854775807)(hb:b≠0):
    Calls prog 18 #[iV a,iV b] w fun e w'=>∃c,e= .returned (.tuple #[.agg c,iV 0])/\Ny w' c ((a:Rat)/(b:Rat))/\Aa w w':=by
  refine(Vb a b w h1 h2 h3 h4 hb).mono fun e w' h=> ?_
  obtain⟨c,rfl,h3,h4⟩:=Mu.v h;exact⟨_,rfl,⟨c,rfl,by rw[<-Rat.divInt_eq_div];exact h3⟩,h4⟩
def Gv:List Ac:=[[(0,0),(256,0),(0,256)]]
def vZ:List Ac:=[[(0,256),(256,0),(0,0)]]
theorem aBA {L:Nat}{w:World}{cs:Array Value}{q:Rat}(hp:Hn L w cs q)(hL:L<=60000):
    Calls prog 12 #[.agg cs] w fun e w'=>∃c,e= .returned (.agg c)/\Ny w' c (-q)/\Aa w w':=by
  obtain⟨a,rfl,h1⟩:=hp;refine(nQ _ _ _ _ L q w h1 ω).mono fun e w' h=> ?_
  obtain⟨c,rfl,h3,h4⟩:=Iv.v h;exact⟨_,rfl,⟨c,rfl,h3⟩,h4⟩
theorem uY {r:R4}(h:r.emp=false):r.can=r:=if_neg (by rw[h];decide)
theorem pM {es:List Int}(h:La (⟨-1,0,2,1⟩:R4).can (Fw 1 Gv) es):es=[0,128,0]:=by
  rw[uY (by decide)]at h;refine h.ext ⟨by decide,fun x y hi=> ?_⟩ dC dC;obtain⟨⟨a,b⟩,c,d⟩:=hi;simp only at a b c d;obtain rfl:y=0:=ω;rcases(by omega:x= -1\/x=0\/x=1)with rfl|rfl|rfl<;>decide+kernel
theorem pN {es:List Int}(h:La (⟨0,0,1,1⟩:R4).can (zO Gv) es):es=[128]:=by
  rw[uY (by decide)]at h;refine h.ext ⟨by decide,fun x y hi=> ?_⟩ dC dC;obtain⟨⟨a,b⟩,c,d⟩:=hi;simp only at a b c d;obtain rfl:y=0:=ω;obtain rfl:x=0:=ω;decide+kernel
theorem Ts:(fP (Fw 2 Gv) (⟨-3,-3,4,4⟩:R4).can).x0=0/\(fP (Fw 2 Gv) (⟨-3,-3,4,4⟩:R4).can).y0=0/\(fP (Fw 2 Gv) (⟨-3,-3,4,4⟩:R4).can).x1=1/\(fP (Fw 2 Gv) (⟨-3,-3,4,4⟩:R4).can).y1=1:=by decide+kernel
section
variable (A:Option Addr) (w:World) (hu:Cm w (.slice A Gv.length 1) Gv)
include hu
theorem aES:Calls prog 13 #[.slice A Gv.length 1,iV 1,.agg #[iV (-1),iV 0,iV 2,iV 1]] w fun e w'=>∃(A:Option Addr) (c:Nat),e= .returned (.tuple #[.agg #[iV (-1),iV 0,iV 2,iV 1,.slice A 3 c],iV 0])/\Be w' w.heap.size 5 1 (.slice A 3 c) 3 (List.flatMap Bp [0,128,0])/\Aa w w':=by
 refine(Ge A 1 Gv 1 ⟨-1,0,2,1⟩ w hu dC (by intro r_ A0;simp[Gv]at A0;subst A0;decide) (fun _ _=>by decide) dC).mono fun e w' h=> ?_
 obtain⟨A,n,c,es,rfl,h1,h2,h3,_,hx⟩:=Fz.ok h (by decide);obtain rfl:=pM h3;have h1:n=3:=h1;subst h1;exact⟨A,c,rfl,h2,hx⟩
theorem aER:Calls prog 13 #[.slice A Gv.length 1,iV 3,.agg #[iV 0,iV 0,iV 1,iV 1]] w fun e w'=>∃(A:Option Addr) (c:Nat),e= .returned (.tuple #[.agg #[iV 0,iV 0,iV 0,iV 0,.slice A 0 c],iV 2])/\Be w' w.heap.size 5 1 (.slice A 0 c) 0 (List.flatMap Bp [])/\Aa w w':=by
 refine(Ge A 1 Gv 3 ⟨0,0,1,1⟩ w hu dC (by intro r_ A0;simp[Gv]at A0;subst A0;decide) (fun _ _=>by decide) dC).mono fun e w' h=> ?_
 obtain⟨A,c,rfl,h2,hx⟩:=Fz.bad h (by decide);exact⟨A,c,rfl,h2,hx⟩
theorem aEQ:Calls prog 13 #[.slice A Gv.length 1,iV 1,.agg #[iV (-200),iV (-200),iV 200,iV 200]] w fun e w'=>∃(A:Option Addr) (c:Nat),e= .returned (.tuple #[.agg #[iV 0,iV 0,iV 0,iV 0,.slice A 0 c],iV 5])/\Be w' w.heap.size 5 1 (.slice A 0 c) 0 (List.flatMap Bp [])/\Aa w w':=by
 refine(Ge A 1 Gv 1 ⟨-200,-200,200,200⟩ w hu dC (by intro r_ A0;simp[Gv]at A0;subst A0;decide) (fun _ _=>by decide) dC).mono fun e w' h=> ?_
 obtain⟨A,c,rfl,h2,hx⟩:=Fz.bad h (by decide);exact⟨A,c,rfl,h2,hx⟩
theorem aEU:Calls prog 20 #[.slice A Gv.length 1,iV 2,.agg #[iV (-3),iV (-3),iV 4,iV 4]] w fun e w'=>e= .returned (.tuple #[.agg #[iV 0,iV 0,iV 1,iV 1],iV 0])/\Aa w w':=by
 refine(zJ A 1 Gv 2 ⟨-3,-3,4,4⟩ w hu dC (by intro r_ A0;simp[Gv]at A0;subst A0;decide) (fun _ _=>by decide) dC).mono fun e w' h=> ?_
 obtain⟨rfl,hx⟩:=h;rw[show zK 2 Gv ⟨-3,-3,4,4⟩=fP (Fw 2 Gv) (⟨-3,-3,4,4⟩:R4).can from if_pos (by decide),Ts.1,Ts.2.1,Ts.2.2.1,Ts.2.2.2];exact⟨rfl,hx⟩
theorem aEV:Calls prog 21 #[.slice A Gv.length 1,.agg #[iV 0,iV 0,iV 1,iV 1]] w fun e w'=>∃(A:Option Addr) (c:Nat),e= .returned (.tuple #[.agg #[iV 0,iV 0,iV 1,iV 1,.slice A 1 c],iV 0])/\Be w' w.heap.size 5 1 (.slice A 1 c) 1 (List.flatMap Bp [128])/\Aa w w':=by
 refine(zN A 1 Gv ⟨0,0,1,1⟩ w hu dC (by intro r_ A0;simp[Gv]at A0;subst A0;decide) (fun _ _=>by decide)).mono fun e w' h=> ?_
 obtain⟨A,n,c,es,rfl,h1,h2,h3,_,hx⟩:=Fz.ok h (by decide);obtain rfl:=pN h3;have h1:n=1:=h1;subst h1;exact⟨A,c,rfl,h2,hx⟩
theorem aEP:Calls prog 23 #[.slice A Gv.length 1,iV 1,iV 0,iV 0] w fun e w'=>e= .returned (.int .u8 128)/\Aa w w':=by
  refine(Wg A 1 Gv 1 0 0 w hu dC (by intro r_ A0;simp[Gv]at A0;subst A0;decide) (fun _=>by decide) dC).mono fun e w' h=> ?_
  rw[show Fw 1 Gv 0 0=128 by decide+kernel]at h;exact h
end
theorem aEO (A:Option Addr)(w:World)(hu:Cm w (.slice A 1 1) vZ):Calls prog 8 #[.slice A 1 1,iV 0,iV 0] w fun e w'=>∃r:RV,e= .returned (.tuple #[(rg r),iV 0])/\r.Is w' (-(((1:Int):Rat)/((2:Int):Rat)))/\Aa w w':=by
 refine(gS A 1 vZ 0 0 w hu dC (by intro r_ A0;simp[vZ]at A0;subst A0;decide) (fun _=>by decide) dC dC).mono fun e w' h=> ?_
 obtain⟨r,rfl,h1,_,hx⟩:=Wp.ok h (by decide);exact⟨r,rfl,(show Un vZ (0*256,0*256)= -(((1:Int):Rat)/((2:Int):Rat))by decide+kernel)▸h1,hx⟩
theorem aET (r:RV)(w:World)(h:r.Is w (((1:Int):Rat)/((2:Int):Rat)))(hl:Nm.rl (((1:Int):Rat)/((2:Int):Rat))<=8):Calls prog 22 #[(rg r)] w fun e w'=>e= .returned (.int .u8 128)/\Aa w w':=by
  refine(Lo r (((1:Int):Rat)/((2:Int):Rat)) w (h.isIn (Av hl dC))).mono fun e w' h=> ?_
  rw[show Mr (((1:Int):Rat)/((2:Int):Rat))=128 by decide+kernel]at h;exact h
theorem Ix (w:World):Calls prog 19 #[] w fun e w'=>∃g,e= .returned (.slice (some ⟨g,0,none⟩) Gv.length 1)/\Cm w' (.slice (some ⟨g,0,none⟩) Gv.length 1) Gv/\Aa w w':=by
 go_enter func19,ntmps19;have H0:=zH (Hp.start w);go_upto_region 0 with fail;apply wl;refine Cs Ah _ ?_;go_upto_region 1 with fail;apply wl;refine Dv Ah _ _ _ ?_;apply fW 3 41 [iV 0,iV 0,iV 256,iV 0,iV 0,iV 256] H0.1;intro X5 w6 H7 _;apply fW 1 39 [.slice (some ⟨X5,0,none⟩) 3 3] H7.1;intro X9 A1 A0 _;refine Cs Ah _ ?_;go_wp2_with fail;go_ret;exact⟨_,rfl,Yi A0.1 [(0,0),(256,0),(0,256)] (i:=0) (j:=1) (by rfl) (by rfl),A0.1.ext⟩
set_option maxRecDepth 200000 in
theorem Fs (w:World):Calls prog 7 #[] w fun e w'=>e= .returned (.bool true)/\Aa w w':=by
 go_enter func7,ntmps7;have H0:=zH (Hp.start w);go_upto_region 0 with fail;apply wl;apply zq (.bool false);go_upto_region 1 with fail;apply wl;refine zc (dQ 1 2 _ dC dC dC dC dC) ?_;rintro e O1 ⟨c_,rfl,D1,hx⟩;have L2:=zH (H0.1.step hx);obtain⟨B0,rfl,A1⟩:=D1;have H3:=zH A1;have H4:=zH (show Nm.rl (((1:Int):Rat)/((2:Int):Rat))<=8 from by decide+kernel);clear A1 hx;refine zn ?_;refine Dv Ah _ _ _ ?_;refine Cn 33 rz L2.1 ?_;intro C7 O0 L1 M7;apply Dc 0 (rc B0) L1.1;intro N9 L0 M6;apply zq (iV 0);go_upto_region 2 with fail
 apply wl;refine zc (Ix _) ?_;rintro e N8 ⟨O5,rfl,A1,hx⟩;have K9:=zH (L0.1.step hx);have M5:=zH (Af.of_ext hx);have E2:=zH A1;clear A1 hx;refine zn ?_;refine Cs Ah _ ?_;refine zc (aES _ _ (E2.1)) ?_;rintro e H7 ⟨A6,A4,rfl,A0,hx⟩;have K8:=zH (show Hp w H7 [.blk C7 33 (rc B0),ro 5 1 A6 3 A4 Bp ([0,128,0])]from K9.1.addRow hx A0);have M4:=zH (Af.of_ext hx);clear A0 hx;refine zn ?_;refine Dv Ah _ _ _ ?_;apply Cn 49 [iV 0,iV 0,iV 0,iV 0,.slice none 0 0] K8.1;intro D3 N7 K7 M3;apply Dc 2 [iV (-1),iV 0,iV 2,iV 1,.slice A6 3 A4] K7.1;intro N6 K6 M2;apply zq (iV 0);go_upto_region 3 with fail
 apply wl;refine zc (Ix _) ?_;rintro e N5 ⟨O4,rfl,A1,hx⟩;have K5:=zH (K6.1.step hx);have M1:=zH (Af.of_ext hx);have E1:=zH A1;clear A1 hx;refine zn ?_;refine Cs Ah _ ?_;refine aC K5.1 (aEU _ _ (E1.1)) ?_;intro N4 K4 M0;refine Dv Ah _ _ _ ?_;apply Cn 26 [iV 0,iV 0,iV 0,iV 0] K4.1;intro D2 N3 K3 L9;apply Dc 3 [iV 0,iV 0,iV 1,iV 1] K3.1;intro N2 K2 L8;apply zq (iV 0);go_upto_region 4 with fail
 apply wl;refine zc (Ix _) ?_;rintro e N1 ⟨O3,rfl,A1,hx⟩;have K1:=zH (K2.1.step hx);have L7:=zH (Af.of_ext hx);have E0:=zH A1;clear A1 hx;refine zn ?_;refine Cs Ah _ ?_;refine zc (aER _ _ (E0.1)) ?_;rintro e H6 ⟨B2,B1,rfl,A0,hx⟩;have K0:=zH (show Hp w H6 [.blk C7 33 (rc B0),ro 5 1 A6 3 A4 Bp ([0,128,0]),.blk D3 49 [iV (-1),iV 0,iV 2,iV 1,.slice A6 3 A4],.blk D2 26 [iV 0,iV 0,iV 1,iV 1],ro 5 1 B2 0 B1 Bp ([])]from K1.1.addRow hx A0);have L6:=zH (Af.of_ext hx);clear A0 hx;refine zn ?_;refine Dv Ah _ _ _ ?_;apply Cn 49 [iV 0,iV 0,iV 0,iV 0,.slice none 0 0] K0.1;intro H2 N0 J9 L5;apply Dc 5 [iV 0,iV 0,iV 0,iV 0,.slice B2 0 B1] J9.1;intro M9 J8 L4;apply zq (iV 2);go_upto_region 5 with fail
 apply wl;refine zc (Ix _) ?_;rintro e M8 ⟨O2,rfl,A1,hx⟩;have J7:=zH (J8.1.step hx);have L3:=zH (Af.of_ext hx);have D9:=zH A1;clear A1 hx;refine zn ?_;refine Cs Ah _ ?_;refine zc (aEQ _ _ (D9.1)) ?_;rintro e H5 ⟨C8,C6,rfl,A0,hx⟩;have F6:=zH (show Hp w H5 [.blk C7 33 (rc B0),ro 5 1 A6 3 A4 Bp ([0,128,0]),.blk D3 49 [iV (-1),iV 0,iV 2,iV 1,.slice A6 3 A4],.blk D2 26 [iV 0,iV 0,iV 1,iV 1],ro 5 1 B2 0 B1 Bp ([]),.blk H2 49 [iV 0,iV 0,iV 0,iV 0,.slice B2 0 B1],ro 5 1 C8 0 C6 Bp ([])]from J7.1.addRow hx A0);have G8:=zH (Af.of_ext hx);clear A0 hx;refine zn ?_;refine Dv Ah _ _ _ ?_;apply Cn 49 [iV 0,iV 0,iV 0,iV 0,.slice none 0 0] F6.1;intro D6 J1 F5 G7;apply Dc 7 [iV 0,iV 0,iV 0,iV 0,.slice C8 0 C6] F5.1;intro J0 F4 G6;apply zq (iV 5);go_upto_region 6 with fail
 apply wl;refine Dv Ah _ _ _ ?_;apply fW 3 41 [iV 0,iV 256,iV 256,iV 0,iV 0,iV 0] F4.1;intro A8 I9 F3 G5;apply fW 1 39 [.slice (some ⟨A8,0,none⟩) 3 3] F3.1;intro D5 I8 B9 G4;refine zc (aEO _ _ (Yi B9.1 [(0,256),(256,0),(0,0)] (i:=8) (j:=9) rR rR)) ?_;rintro e I7 ⟨B3,rfl,A1,hx⟩;have F2:=zH (B9.1.step hx);have G3:=zH (Af.of_ext hx);have D8:=zH A1;have H1:=zH (show Nm.rl (-(((1:Int):Rat)/((2:Int):Rat)))<=8 from by decide+kernel);clear A1 hx;refine zn ?_;refine Dv Ah _ _ _ ?_;refine Cn 33 rz F2.1 ?_;intro D4 I6 F1 C4;apply Dc 10 (rc B3) F1.1;intro A7 B8 C3;apply zq (iV 0);go_upto_region 7 with fail
 refine zy ?_;have F0:=zH (B8.1.step (Aa.refl A7).drew);have C2:=zH (Af.of_ext (w:=A7) zb);refine zx 0 (bs 9 1) (iV 0) zb ?_;refine zu 1 (bs 9 3) (v:= .bool false) zb ?_ (hv:=by intro w J3;exact Nq (e:=(Al (fun h_=>h_ rfl))));refine vS B8.1 zb (bs 9 47) 2 3 5 (.bool false) _ _ ?_;have C1:=tD (tD C4 C3) C2;refine mC 4 (bs 9 63) (aBA (L:=60000) (RV.Is.nin (D8.1.dig C1.1) (Av H1.1 ω)) ω) ?_;rintro e D0 ⟨c_,rfl,D1,hx⟩;have E9:=zH (F0.1.step hx);have G2:=zH (show Af A7.drew D0 from Af.of_ext hx);have B5:=zH (zb.trans hx);obtain⟨J2,rfl,A1⟩:=D1;have D7:=zH A1;have G9:=zH (show Nm.rl (-(-(((1:Int):Rat)/((2:Int):Rat))))<=8 from by decide+kernel);clear A1 hx;apply zm B5.1;have A5:=tD (tD (tD (tD (tD (tD (tD (tD (tD (tD (tD (tD (tD (tD (tD (tD (tD (tD (tD (tD (tD (tD (tD (tD M7 M6) M5) M4) M3) M2) M1) M0) L9) L8) L7) L6) L5) L4) L3) G8) G7) G6) G5) G4) G3) C4) C3) C2) G2;refine mC 6 (bs 9 127) (aBB (L:=60000) (RV.Is.nin D7.1 (Av G9.1 ω)) (RV.Is.nin (H3.1.dig A5.1) (Av H4.1 ω)) ω) ?_;rintro e I5 ⟨rfl,hx⟩;have E8:=zH (E9.1.step hx);have G1:=zH (Af.of_ext hx);have A9:=zH (B5.1.trans hx);clear hx;apply zm A9.1;refine zu 7 (bs 9 255) (v:= .bool false) A9.1 ?_ (hv:=by intro w J3;exact Nq (e:=(Al (fun hh=>hh (Ra.2 (by decide+kernel))))));refine zx 8 (bs 9 511) (.bool false) A9.1 ?_;refine wpAnyH_done kR ?_ _;go_upto_region 9 with fail
 apply wl;refine zc (Ix _) ?_;rintro e I4 ⟨J5,rfl,A1,hx⟩;have E7:=zH (E8.1.step hx);have G0:=zH (Af.of_ext hx);have B7:=zH A1;clear A1 hx;refine zn ?_;refine Cs Ah _ ?_;refine zc (aEV _ _ (B7.1)) ?_;rintro e C9 ⟨C5,B4,rfl,A0,hx⟩;have E6:=zH (show Hp w C9 [.blk C7 33 (rc B0),ro 5 1 A6 3 A4 Bp ([0,128,0]),.blk D3 49 [iV (-1),iV 0,iV 2,iV 1,.slice A6 3 A4],.blk D2 26 [iV 0,iV 0,iV 1,iV 1],ro 5 1 B2 0 B1 Bp ([]),.blk H2 49 [iV 0,iV 0,iV 0,iV 0,.slice B2 0 B1],ro 5 1 C8 0 C6 Bp ([]),.blk D6 49 [iV 0,iV 0,iV 0,iV 0,.slice C8 0 C6],.blk A8 41 [iV 0,iV 256,iV 256,iV 0,iV 0,iV 0],.blk D5 39 [.slice (some ⟨A8,0,none⟩) 3 3],.blk D4 33 (rc B3),ro 5 1 C5 1 B4 Bp ([128])]from E7.1.addRow hx A0);have F9:=zH (Af.of_ext hx);clear A0 hx;refine zn ?_;refine Dv Ah _ _ _ ?_;apply Cn 49 [iV 0,iV 0,iV 0,iV 0,.slice none 0 0] E6.1;intro J6 I3 E5 F8;apply Dc 12 [iV 0,iV 0,iV 1,iV 1,.slice C5 1 B4] E5.1;intro I1 A3 F7;apply zq (iV 0);go_upto_region 10 with fail
 apply wl;apply zq (iV 0);apply zp (.bool false) (by exact Nq (e:=(Al (fun h_=>h_ rfl))));refine Dv A3.1 (.bool false) _ _ ?_;apply zp (.string {data:=#[128]}) (by exact Km rR rR (A3.1.row (i:=11) rR) rR);apply zp (.bool false) (by exact yP rR rR rR (by simp));apply zq (.bool false);go_upto_region 12 with fail;apply wl;refine Cs A3.1 _ ?_;have C0:=tD (tD (tD (tD (tD A5 G1) G0) F9) F8) F7;refine aC A3.1 (aET B0 _ (H3.1.dig C0.1) H4.1) ?_;intro I0 E4 _;apply zp (.bool true) (by exact lJ rR rR rR dC);apply qV (.bool true);refine zc (Ix _) ?_;rintro e H9 ⟨J4,rfl,A1,hx⟩;have E3:=zH (E4.1.step hx);have B6:=zH A1;clear A1 hx;refine zn ?_;refine aC E3.1 (aEP _ _ (B6.1)) ?_;intro H8 A2 _;apply zp (.bool true) (by exact lJ rR rR rR dC);refine Fg A2.1 (.bool true) (.bool true) _ _ ?_;apply zp (.string {data:=#[0,128,0]}) (by exact Km rR rR (A2.1.row (i:=1) rR) rR);apply zp (.bool true) (by exact Qf rR rR rR (by simp));refine Dv Ah (.bool true) (.bool true) _ ?_;apply zp (.bool true) (by exact Xi (e:=dC));refine Jb A2.1 (.bool true) (.bool true) _ _ (.bool true) (.bool true) (.bool true) _ ?_;apply zp (.bool true) (by exact Xi (e:=dC));refine Dv Ah (.bool true) (.bool true) _ ?_;apply zp (.bool true) (by exact Xi (e:=dC));refine Dv Ah (.bool true) (.bool true) _ ?_;apply zp (.bool true) (by exact Xi (e:=dC));apply qV (.bool true);apply zq (.bool true);go_wp2_with fail
 go_ret;exact⟨rfl,A2.1.ext⟩
end
section
open Go.RowKit Go.Shelf
end
section
def zW (t:Int×Int)(e:Cx):Cx:=(Db t e.2,Db t e.1)
def Hr (r:Ac):List Cx:=(List.range r.length).map fun i=>(r.getD i (0,0),r.getD ((i+1)%r.length) (0,0))
def Nw (t:Int×Int)(r:Ac):Ac:=r.reverse.map (Db t)
theorem Fc (r:Ac):(Hr r).length=r.length:=by unfold Hr;simp
theorem Kz {r:Ac}{i:Nat}(h:i<r.length):(Hr r)[i]?=some (r[i],r[(i+1)%r.length]'(Nat.mod_lt _ ω)):=by
  unfold Hr;rw[kQQ,List.getElem?_range h];simp only[Option.map_some,Option.some.injEq,Prod.mk.injEq];have h2:(i+1)%r.length<r.length:=Nat.mod_lt _ ω;exact⟨by simp[List.getD,h],by simp[List.getD,h2]⟩
theorem aAE {α β:Type}(f:α->Option β)(g:α->β)(p:β->Bool):∀l:List α,(∀x,x∈l->f x=if p (g x)=true then some (g x)else none)->l.filterMap f=(l.map g).filter p
  | [],_=>rfl
  | x::l,h=>by
    have ih:=aAE f g p l (fun y hy=>h y (cXX _ hy));rw[List.filterMap_cons,h x (by simp),List.map_cons,List.filter_cons,ih];by_cases k:p (g x)=true
    · rw[if_pos k,if_pos k]
    rw[if_neg k,if_neg k]
theorem Ng (r:Ac):Ba [r]=(Hr r).filter (fun e=>decide (e.1≠e.2)):=by
  unfold Ba Eh Hr;rw[List.flatMap_cons,List.flatMap_nil,gZZ];refine aAE _ _ _ _ (fun i hi=> ?_);have hl:=List.mem_range.1 hi;have h2:(i+1)%r.length<r.length:=Nat.mod_lt _ ω;rw[Sr (aQQ hl) (aQQ h2)];by_cases h:r[i]=r[(i+1)%r.length]
  · rw[if_pos h];simp[List.getD,hl,h2,h]
  rw[if_neg h];simp[List.getD,hl,h2,h]
theorem Ms (t:Int×Int)(r:Ac):(Nw t r).length=r.length:=by unfold Nw;simp
theorem Qo {t:Int×Int}{r:Ac}{i:Nat}(h:i<r.length):(Nw t r)[i]'(by rw[Ms];exact h)=Db t (r[r.length-1-i]):=by
  unfold Nw;simp
theorem jI (t:Int×Int)(r:Ac):Hr (Nw t r)=(((Hr r).take (r.length-1)).reverse++(Hr r).drop (r.length-1)).map (zW t):=by
 apply List.ext_getElem?;intro i;by_cases hi:i<r.length
 ·rw[Kz (by rw[Ms];exact hi),kQQ]
  have A0:((Hr r).take (r.length-1)).reverse.length=r.length-1:=by rw[List.length_reverse,eQQ,Fc];omega
  by_cases h1:i<r.length-1
  ·rw[dQQ ω,List.getElem?_reverse (by rw[eQQ,Fc];omega),eQQ,Fc,Nat.min_eq_left ω,List.getElem?_take_of_lt ω,Kz ω]
   simp only[Option.map_some,Option.some.injEq];unfold zW;have e1:(i+1)%(Nw t r).length=i+1:=by rw[Ms];exact Nat.mod_eq_of_lt (ω)
   have e2:(r.length-1-1-i+1)%r.length=r.length-1-i:=by rw[Nat.mod_eq_of_lt ω];omega
   refine Prod.ext ?_ ?_
   ·rw[Qo hi];simp only[e2]
   simp only[e1];rw[Qo ω];congr 2;omega
  have A1:i=r.length-1:=ω;rw[cZZ ω,A0,List.getElem?_drop,show r.length-1+(i-(r.length-1))=r.length-1 by omega,Kz ω];simp only[Option.map_some,Option.some.injEq];unfold zW;have e1:(i+1)%(Nw t r).length=0:=by rw[Ms,show i+1=r.length by omega,Nat.mod_self]
  have e2:(r.length-1+1)%r.length=0:=by rw[show r.length-1+1=r.length by omega,Nat.mod_self]
  refine Prod.ext ?_ ?_
  ·rw[Qo hi];simp only[e2];congr 2;omega
  simp only[e1];rw[Qo ω];congr 2
 rw[jZZ (by rw[Fc,Ms];omega),jZZ (by rw[dZZ,aXX,List.length_reverse,eQQ,List.length_drop,Fc];omega)]
theorem iT (t:Int×Int)(r:Ac):∃D L:List Cx,Ba [r]=D++L/\Ba [Nw t r]=(D.reverse++L).map (zW t)/\L.length<=1:=by
 refine⟨((Hr r).take (r.length-1)).filter (fun e=>decide (e.1≠e.2)),((Hr r).drop (r.length-1)).filter (fun e=>decide (e.1≠e.2)),?_,?_,?_⟩
 ·rw[Ng,<-List.filter_append,List.take_append_drop]
 ·rw[Ng,jI,List.filter_map]
  have e:((fun e:Cx=>decide (e.1≠e.2)) ∘ zW t)=(fun e:Cx=>decide (e.1≠e.2)):=by
   funext e;unfold zW;simp only[Function.comp];rw[decide_eq_decide];constructor
   ·intro h k;exact h (by rw[k])
   intro h k;exact h ((Ub.1 k).symm)
  rw[e,List.filter_append,List.filter_reverse]
 refine Av (List.length_filter_le _ _) ?_;rw[List.length_drop,Fc];omega
end
section
theorem qW {a b:Int×Int}(h:a.1≠b.1)(x:Int):Kn b a x=Kn a b x:=by
  unfold Kn;have h1:((b.1:Int):Rat)-((a.1:Int):Rat)≠0:=fun c=>by
    have e:((a.1:Int):Rat)=((b.1:Int):Rat):=by grind
    exact h (by exact_mod_cast e)
  rw[Rat.intCast_sub,Rat.intCast_sub,Rat.intCast_sub,Rat.intCast_sub,Rat.intCast_sub,Rat.intCast_sub];have h2:((a.1:Int):Rat)-((b.1:Int):Rat)≠0:=by grind
  have k1:=Rat.mul_inv_cancel _ h1;have k2:=Rat.mul_inv_cancel _ h2;rw[Rat.div_def,Rat.div_def];grind
theorem aDB {a b:Int×Int}(h:a.2≠b.2)(y:Rat):Fe b.1 b.2 a.1 a.2 y=Fe a.1 a.2 b.1 b.2 y:=by rw[lY h,Tx h]
theorem Uc (a:Int×Int):Db (0,0) a=a:=by unfold Db;simp
theorem vG (r:Ac):Nw (0,0) r=r.reverse:=by
  unfold Nw;rw[show Db (0,0)=id from funext Uc,List.map_id]
theorem Qg (r:Ac)(rs:List Ac):Ba (r::rs)=Ba [r]++Ba rs:=by unfold Ba;simp
def Zr (f t:Rat)(rule s:Int)(ms:List QI):Rat:=Ed f t (Tg rule (Gw s ms))
theorem Lc (f t:Rat)(rule s:Int)(a b:QI)(ms:List QI):Zr f t rule s (a::b::ms)=(if Hc (s+a.2) rule=true then Ev f t (a.1,b.1)else 0)+Zr f t rule (s+a.2) (b::ms):=by
  unfold Zr;rw[show Gw s (a::b::ms)=((a.1,b.1),s+a.2)::Gw (s+a.2) (b::ms)from rfl,rW,Jh,kA];dsimp only
  split
  · rw[Cd,Ep];grind
  rw[Ep]
theorem cK {f t:Rat}{rule s:Int}{a:QI}:∀{l m:List QI},l.head?.map (·.1)=m.head?.map (·.1)->(∀s',Zr f t rule s' l=Zr f t rule s' m)->Zr f t rule s (a::l)=Zr f t rule s (a::m)
  | [],[],_,_=>rfl
  | b::l,c::m,h,k=>by
    have e:b.1=c.1:=by simpa using h
    rw[Lc,Lc,k,e]
theorem rA {f t:Rat}{rule s:Int}{a b:QI}(h:a.1=b.1):∀l:List QI,Zr f t rule s (a::b::l)=Zr f t rule s (b::a::l)
  | []=>by
    have e:∀p q:QI,p.1=q.1->Zr f t rule s [p,q]=0:=fun p q hpq=>by
      rw[Lc,Oj (p:=(p.1,q.1)) (by show¬p.1<q.1;rw[hpq];exact Rat.lt_irrefl)];show _+(0:Rat)=0;split<;>grind
    rw[e a b h,e b a h.symm]
  | c::l=>by
    have e:∀p q:QI,p.1=q.1->Zr f t rule s (p::q::c::l)=(if Hc (s+p.2+q.2) rule=true then Ev f t (q.1,c.1)else 0)+Zr f t rule (s+p.2+q.2) (c::l):=fun p q hpq=>by
      rw[Lc,Lc,Oj (p:=(p.1,q.1)) (by show¬p.1<q.1;rw[hpq];exact Rat.lt_irrefl)];generalize ((if Hc (s+p.2+q.2) rule=true then Ev f t (q.1,c.1)else 0)+Zr f t rule (s+p.2+q.2) (c::l))=z;split<;>grind
    rw[e a b h,e b a h.symm,h,show s+b.2+a.2=s+a.2+b.2 by omega]
theorem cJ {f t:Rat}{rule:Int}{m:QI}{q:List QI}:∀{p:List QI} {s:Int},(∀x,x∈p->x.1=m.1)->Zr f t rule s (p++m::q)=Zr f t rule s (m::(p++q))
  | [],_,_=>rfl
  | x::p,s,h=>by
    have hx:=h x dXX;rw[jQQ,cK (a:=x) (l:=p++m::q) (m:=m::(p++q)) ?_ (fun s'=>cJ fun y hy=>h y (cXX _ hy))]
    · exact rA hx _
    cases p with
    |nil=>rfl
    |cons y p=>simp[h y (by simp)]
def aCY (a b:QI):Prop:=a.1<=b.1
theorem pC {l m:List QI}(h:l.Perm m)(hl:l.Pairwise aCY)(hm:m.Pairwise aCY):l.head?.map (·.1)=m.head?.map (·.1):=by
 cases l with
 |nil=>rw[h.symm.eq_nil]
 |cons a l=>
  cases m with
  |nil=>cases h.eq_nil
  |cons b m=>
   have h1:b.1<=a.1:=by
    rcases List.mem_cons.1 (h.mem_iff.1 dXX)with e|e
    ·rw[e];exact Rat.le_refl
    exact(List.pairwise_cons.1 hm).1 a e
   have h2:a.1<=b.1:=by
    rcases List.mem_cons.1 (h.mem_iff.2 dXX)with e|e
    ·rw[e];exact Rat.le_refl
    exact(List.pairwise_cons.1 hl).1 b e
   simp[Rat.le_antisymm h2 h1]
theorem cI {f t:Rat}{rule:Int}:∀{l m:List QI} {s:Int},l.Perm m->l.Pairwise aCY->m.Pairwise aCY->Zr f t rule s l=Zr f t rule s m
  | [],m,s,h,_,_=>by rw[h.symm.eq_nil]
  | a::l,m,s,h,hl,hm=>by
    obtain⟨p,q,rfl⟩:=List.append_of_mem (h.mem_iff.1 dXX);have h2:l.Perm (p++q):=(List.perm_cons a).1 (h.trans List.perm_middle);have hp:∀x,x∈p->x.1=a.1:=fun x hx=>by
      have h3:x.1<=a.1:=(List.pairwise_append.1 hm).2.2 x hx a dXX;have h4:a.1<=x.1:=(List.pairwise_cons.1 hl).1 x (h2.mem_iff.2 (List.mem_append_left _ hx));exact Rat.le_antisymm h3 h4
    have hs:(p++q).Pairwise aCY:=hm.sublist (List.Sublist.append_left (List.sublist_cons_self a q) p);rw[cJ hp];have A0:=(List.pairwise_cons.1 hl).2;exact cK (pC h2 A0 hs) fun s'=>cI h2 A0 hs
def xL (m:QI):QI:=(m.1,-m.2)
theorem jT {f t:Rat}{rule:Int}:∀{l:List QI} {s:Int},Zr f t rule (-s) (l.map xL)=Zr f t rule s l
  | [],_=>rfl
  | [_],_=>rfl
  | a::b::l,s=>by
    have ih:=jT (f:=f) (t:=t) (rule:=rule) (l:=b::l) (s:=s+a.2);rw[List.map_cons,List.map_cons,Lc,Lc,<-List.map_cons (f:=xL),show(-s+(xL a).2:Int)= -(s+a.2)by unfold xL;dsimp only;omega,ih,iQ];rfl
theorem eT {α:Type}(lt:α->α->Bool)(y:α):∀l:List α,(Stb.ins lt l y).Perm (y::l)
  | []=>List.Perm.refl _
  | x::l=>by
    unfold Stb.ins;split
    · exact List.Perm.refl _
    exact((eT lt y l).cons x).trans (List.Perm.swap y x l)
theorem Ui {α:Type}(lt:α->α->Bool):∀l a:List α,(l.foldl (Stb.ins lt) a).Perm (a++l)
  | [],a=>by rw[gZZ];exact List.Perm.refl _
  | x::l,a=>by
    rw[List.foldl_cons];refine(Ui lt l _).trans ((eT lt x a).append_right l |>.trans ?_);exact List.perm_middle.symm
theorem Xy {α:Type}(lt:α->α->Bool)(l:List α):(Stb.stab lt l).Perm l:=Ui lt l []
def Zk (e:Cx):Cx:=(e.2,e.1)
theorem aAR:zW (0,0)=Zk:=by funext e;unfold zW Zk;rw[Uc,Uc]
theorem uV (y:Rat)(e:Cx):Fv y (Zk e)=(Fv y e).map xL:=by
  unfold Fv Zk;dsimp only
  by_cases h1:(e.1.2:Rat)<y/\y<(e.2.2:Rat)
  · have hn:e.1.2≠e.2.2:=fun c=>by rw[c]at h1;grind
    rw[if_pos h1,if_neg (fun c=>by grind),if_pos h1,aDB hn];rfl
  by_cases h2:(e.2.2:Rat)<y/\y<(e.1.2:Rat)
  · have hn:e.1.2≠e.2.2:=fun c=>by rw[c]at h2;grind
    rw[if_pos h2,if_neg h1,if_pos h2,aDB hn];rfl
  rw[if_neg h2,if_neg h1,if_neg h1,if_neg h2];rfl
def Ry (rs rt:List Ac):Prop:=En rt=En rs/\((Ba rs).map Zk).Perm (Ba rt)/\∀z:Rat,z∈Su rs↔z∈Su rt
theorem qZ {rs rt:List Ac}(h:Ry rs rt)(rule:Int)(a b:Int×Int)(y:Rat):Hg rule a b rt y=Hg rule a b rs y:=by
 have hp:((Dp y rs).map xL).Perm (Dp y rt):=by
  rw[Gf,Gf];refine((Xy oU _).map xL).trans ?_;refine List.Perm.trans ?_ (Xy oU _).symm;rw[List.map_filterMap];unfold Dl;rw[h.1];split
  ·rw[show(fun x=>(Fv y x).map xL)=Fv y ∘ Zk from funext fun x=>(uV y x).symm,<-List.filterMap_map]
   exact h.2.1.filterMap _
  exact List.Perm.refl _
 have h1:=Ri y rs;have h2:=Ri y rt;rw[Pa,Pa];have h3:((Dp y rs).map xL).Pairwise aCY:=by rw[List.pairwise_map];exact h1
 have k1:=jT (f:=(a.1:Rat)) (t:=(b.1:Rat)) (rule:=rule) (l:=Dp y rs) (s:=0);have k2:=cI (f:=(a.1:Rat)) (t:=(b.1:Rat)) (rule:=rule) (s:=0) hp h3 h2;rw[show(-0:Int)=0 from rfl]at k1;exact(k2.symm.trans k1)
theorem jL (e:Cx)(x:Int):Kg (Zk e) x=Kg e x:=by
  unfold Kg Zk;dsimp only
  by_cases c:Oy e.1 e.2 x
  · have c2:Oy e.2 e.1 x:=⟨c.2.1,c.1,c.2.2.1.symm,by rw[Int.min_comm];exact c.2.2.2.1,by rw[Int.max_comm];exact c.2.2.2.2⟩
    rw[if_pos c,if_pos c2,qW c.2.2.1]
  have c2:¬Oy e.2 e.1 x:=fun k=>c ⟨k.2.1,k.1,k.2.2.1.symm,by rw[Int.min_comm];exact k.2.2.2.1,by rw[Int.max_comm];exact k.2.2.2.2⟩
  rw[if_neg c,if_neg c2]
theorem wT (o e:Cx):Ks (Zk o) (Zk e)=Ks o e:=by unfold Ks Zk;dsimp only;rw[dB,nE,cZ,mZ]
theorem wF (a b:Int×Int)(p:List Cx)(x:Cx):Ea a b (p.map Zk) (Zk x)=Ea a b p x:=by
  unfold Ea;rw[jL,jL,List.flatMap_map];congr 2;congr 1;funext o;exact wT x o
theorem kI (a b:Int×Int):∀(l p:List Cx),Jm a b (p.map Zk) (l.map Zk)=Jm a b p l
  | [],_=>rfl
  | x::l,p=>by
    rw[List.map_cons];unfold Jm;rw[wF,<-List.map_singleton (f:=Zk),<-fXX,kI a b l]
theorem Mw {a b:Int×Int}{p q:List Cx}{x:Cx}{z:Rat}(h:∀o,o∈p↔o∈q):z∈Ea a b p x↔z∈Ea a b q x:=by
  unfold Ea;simp only[mQQ,List.mem_flatMap,h]
theorem nO {a b:Int×Int}{z:Rat}{l m:List Cx}(h:l.Perm m):∀{p q:List Cx},(∀o,o∈p↔o∈q)->(z∈Jm a b p l↔z∈Jm a b q m):=by
 induction h with
 |nil=>intro p q _;exact Iff.rfl
 |cons x _ ih=>
  intro p q hq;unfold Jm;rw[mQQ,mQQ,Mw hq,ih (p:=p++[x]) (q:=q++[x]) (fun o=>by simp[hq])]
 |swap x y l=>
  intro p q hq;have e:∀l:List Cx,∀{p q:List Cx},(∀o,o∈p↔o∈q)->(z∈Jm a b p l↔z∈Jm a b q l):=by
   intro l;induction l with
   |nil=>intro p q _;exact Iff.rfl
   |cons w l ih=>intro p q hq;unfold Jm;rw[mQQ,mQQ,Mw hq,ih (p:=p++[w]) (q:=q++[w]) (fun o=>by simp[hq])]
  simp only[Jm,mQQ];rw[e l (p:=p++[y]++[x]) (q:=q++[x]++[y]) (fun o=>by simp[hq];grind)];have s1:z∈Ea a b (p++[y]) x↔z∈Ea a b q x\/z∈Ks x y:=by
   rw[Mw (q:=q++[y]) (fun o=>by simp[hq])];unfold Ea;simp only[List.flatMap_append,mQQ,List.flatMap_cons,List.flatMap_nil,gZZ];grind
  have s2:z∈Ea a b (q++[x]) y↔z∈Ea a b p y\/z∈Ks x y:=by
   rw[Mw (q:=p++[x]) (fun o=>by simp[hq])];unfold Ea;simp only[List.flatMap_append,mQQ,List.flatMap_cons,List.flatMap_nil,gZZ];rw[Qw y x];grind
  rw[s1,s2];grind
 |trans _ _ ih1 ih2=>intro p q hq;exact(ih1 hq).trans (ih2 fun _=>Iff.rfl)
theorem nM {rs rt:List Ac}(h:Ry rs rt)(a b:Int×Int):Dx a b rt=Dx a b rs:=by
 have hk:Kv a b rt↔Kv a b rs:=by unfold Kv;rw[h.1]
 unfold Dx;by_cases k:Kv a b rs
 ·rw[if_pos k,if_pos (hk.2 k)]
  have A0:(a.2:Rat)<(b.2:Rat):=by exact_mod_cast k.2.2.2
  refine Ki (lt:=(· < ·)) (fun x=>Rat.lt_irrefl) (fun x y z h1 h2=>by grind) (Mg (by simp[A0])) (Mg (by simp[A0])) (fun z=> ?_);rw[Ih,Ih];unfold Lh;rw[mQQ,mQQ,h.2.2 z,<-nO (z:=z) h.2.1 (p:=[]) (q:=[]) (fun _=>Iff.rfl),<-kI a b (Ba rs) []];exact Iff.rfl
 rw[if_neg k,if_neg (fun c=>k (hk.1 c))]
theorem qL {rs rt:List Ac}(h:Ry rs rt)(rule:Int)(a b:Int×Int):Gq rule a b rt=Gq rule a b rs:=by
  unfold Gq;rw[nM h,show Hg rule a b rt=Hg rule a b rs from funext fun y=>qZ h rule a b y]
theorem uW {rs rt:List Ac}(h:Ry rs rt)(rule x y:Int):Fw rule rt x y=Fw rule rs x y:=by
  unfold Fw;rw[qL h];unfold Gt;rw[h.1]
def Lu (s:Nat)(r:Ac):Ac:=r.reverse.drop (r.length-s)++r.reverse.take (r.length-s)
theorem qM {r:Ac}{s:Nat}(h:s<=r.length):Hr (r.drop s++r.take s)=(Hr r).drop s++(Hr r).take s:=by
 have hl:(r.drop s++r.take s).length=r.length:=by simp;omega
 apply List.ext_getElem?;intro i;by_cases hi:i<r.length
 ·rw[Kz ω]
  have g:∀j (hj:j<r.length),(r.drop s++r.take s)[j]' ω=r[(j+s)%r.length]'(Nat.mod_lt _ ω):=by
   intro j hj;rw[List.getElem_append];split
   ·rename_i c
    rw[List.getElem_drop];congr 1;rw[List.length_drop]at c;rw[Nat.mod_eq_of_lt ω];omega
   rename_i c;rw[List.getElem_take];congr 1;rw[List.length_drop]at c⊢;rw[Nat.mod_eq_sub_mod ω,Nat.mod_eq_of_lt ω];omega
  have k:((Hr r).drop s++(Hr r).take s)[i]?=(Hr r)[(i+s)%r.length]?:=by
   by_cases c:i+s<r.length
   ·rw[dQQ (by rw[List.length_drop,Fc];omega),List.getElem?_drop,Nat.mod_eq_of_lt c,Nat.add_comm]
   rw[cZZ (by rw[List.length_drop,Fc];omega),List.length_drop,Fc,Nat.mod_eq_sub_mod ω,Nat.mod_eq_of_lt ω,List.getElem?_take,if_pos ω];congr 1;omega
  have hm:(i+s)%r.length<r.length:=Nat.mod_lt _ ω;rw[k,Kz hm];congr 2
  ·exact g i hi
  have h2:(i+1)%r.length<r.length:=Nat.mod_lt _ ω;have h3:=g ((i+1)%r.length) h2;have e:((i+1)%r.length+s)%r.length=((i+s)%r.length+1)%r.length:=by rw[Nat.mod_add_mod,Nat.mod_add_mod];congr 1;omega
  simp only[hl];rw[h3];simp only[e]
 rw[jZZ (by rw[Fc];omega),jZZ (by rw[aXX,List.length_drop,eQQ,Fc];omega)]
theorem pT {r:Ac}{s:Nat}(h:s<=r.length):(Ba [r.drop s++r.take s]).Perm (Ba [r]):=by
  rw[Ng,Ng,qM h];refine List.Perm.filter _ ?_;refine(List.perm_append_comm).trans ?_;rw[List.take_append_drop]
theorem fF (s:Nat)(r:Ac):((Ba [r]).map Zk).Perm (Ba [Lu s r]):=by
  obtain⟨D,L,h1,h2,_⟩:=iT (0,0) r;rw[vG,aAR]at h2;have h3:=pT (r:=r.reverse) (s:=r.length-s) (by rw[List.length_reverse];omega);refine List.Perm.trans ?_ h3.symm;rw[h1,h2];exact((List.reverse_perm D).symm.append_right L).map _
theorem Jc (s:Nat)(r:Ac):(Lu s r).Perm r:=by
  unfold Lu;refine List.perm_append_comm.trans ?_;rw[List.take_append_drop];exact List.reverse_perm r
theorem We {g:Ac->Ac}(h:∀r,((Ba [r]).map Zk).Perm (Ba [g r])):∀rs:List Ac,((Ba rs).map Zk).Perm (Ba (rs.map g))
  | []=>List.Perm.refl _
  |r::rs=>by rw[List.map_cons,Qg,Qg (g r),fXX];exact(h r).append (We h rs)
theorem vK {α:Type}{f:α->Bool}{l m:List α}(h:l.Perm m):l.all f=m.all f:=by
  rw[Bool.eq_iff_iff,List.all_eq_true,List.all_eq_true];exact⟨fun k x hx=>k x (h.mem_iff.2 hx),fun k x hx=>k x (h.mem_iff.1 hx)⟩
theorem jU {g:Ac->Ac}(h:∀r,(g r).Perm r)(rs:List Ac):Ga (rs.map g)=Ga rs:=by
  unfold Ga;rw[List.foldl_map];congr 1;funext n r;rw[(h r).length_eq]
theorem fZ {g:Ac->Ac}(h1:∀r,(g r).Perm r)(h2:∀r,((Ba [r]).map Zk).Perm (Ba [g r]))(rs:List Ac):Ry rs (rs.map g):=by
  refine⟨?_,We h2 rs,fun z=> ?_⟩
  · unfold En
    rw[jU h1,List.all_map];congr 2;funext r;exact vK (h1 r)
  unfold Su;simp only[List.mem_flatMap,List.mem_map];constructor
  · rintro⟨r,hr,p,hp,e⟩;exact⟨g r,⟨r,hr,rfl⟩,p,(h1 r).mem_iff.2 hp,e⟩
  rintro⟨_,⟨r,hr,rfl⟩,p,hp,e⟩;exact⟨r,hr,p,(h1 r).mem_iff.1 hp,e⟩
theorem rC (s:Ac->Nat)(rs:List Ac):Ry rs (rs.map fun r=>Lu (s r) r):=fZ (fun r=>Jc _ r) (fun r=>fF _ r) rs
theorem rD {r:Ac}{s k:Nat}(hs:s<r.length)(hk:k<r.length):(Lu s r)[k]?=r[(r.length-1-k+s)%r.length]?:=by
  unfold Lu;by_cases c:k<s
  · rw[dQQ (by simp;omega),List.getElem?_drop,List.getElem?_reverse ω,Nat.mod_eq_sub_mod ω,Nat.mod_eq_of_lt ω]
    congr 1;omega
  rw[cZZ (by simp;omega),List.getElem?_take,if_pos (by simp;omega),List.getElem?_reverse (by simp;omega),Nat.mod_eq_of_lt ω];congr 1;simp;omega
theorem lS {i x j y:Int}(hi: -8<=i/\i<=8)(hj: -8<=j/\j<=8)(hx: -4000<=x/\x<=4000)(hy: -4000<=y/\y<=4000):Bd (i+x) (j+y)=Db (x*256,y*256) (Bd i j):=by
  unfold Bd Mm Db;rw[if_neg (by simp;omega),if_neg (by simp;omega)];refine Prod.ext ?_ ?_<;>simp only<;>omega
theorem Qj {i j:Int}(hi: -4010<=i/\i<=4010)(hj: -4010<=j/\j<=4010):Dj (Bd i j):=by
  unfold Bd Mm;rw[if_neg (by simp;omega)];show Dh _ _=true;rw[Pv];omega
theorem aCO {rule i j x y:Int}{rs:List Ac}(h1:En rs=true)(h2:En (Kp (x*256,y*256) rs)=true)(hi: -4<=i/\i<=4)(hj: -4<=j/\j<=4)(hx: -4000<=x/\x<=4000)(hy: -4000<=y/\y<=4000):
  Fw rule (Kp (x*256,y*256) rs) (i+x) (j+y)=Fw rule rs i j:=by
 have k1:Dj (Bd i j):=Qj ω ω;have k2:Dj (Bd (i+x) (j+y)):=Qj ω ω;have k3:Dj (Bd (i+1) (j+1)):=Qj ω ω;have k4:Dj (Bd (i+1+x) (j+1+y)):=Qj ω ω;have e1:Je i j=Bd (i+1) (j+1):=if_pos k1;have e2:Je (i+x) (j+y)=Bd (i+1+x) (j+1+y):=by
  rw[show i+1+x=i+x+1 by omega,show j+1+y=j+y+1 by omega];exact if_pos k2
 have c1:=lS (i:=i) (j:=j) ω ω hx hy;have c2:=lS (i:=i+1) (j:=j+1) ω ω hx hy;have ea:=zL (t:=(x*256,y*256)) rule h1 h2 k1 k3 (c1▸k2) (c2▸k4);unfold Fw;rw[e1,e2,c1,c2,ea];have i1:(Gt rule (Bd i j) (Bd (i+1) (j+1)) rs=0)↔(rule=1\/rule=2):=by rw[Nd];exact⟨fun h=>h.2.1,fun h=>⟨h1,h,k1,k3⟩⟩
 have i2:(Gt rule (Db (x*256,y*256) (Bd i j)) (Db (x*256,y*256) (Bd (i+1) (j+1))) (Kp (x*256,y*256) rs)=0)↔(rule=1\/rule=2):=by rw[Nd];exact⟨fun h=>h.2.1,fun h=>⟨h2,h,c1▸k2,c2▸k4⟩⟩
 simp only[i1,i2]
end
section
attribute [local go_sem ↓] Go.wp_at_zero Go.wp_at_succ Aj Ai
theorem Wi (n lo hi:Int)(w:World)(h1:lo<=n)(h2:n<=hi):Calls prog 106 #[iV n,iV lo,iV hi] w fun e w'=>e= .returned (iV n)/\Aa w w':=by
 go_enter func106,ntmps106;have H0:=zH (Hp.start w);go_upto_region 0 with fail;apply wl;apply zq (iV 0);go_upto_region 1 with fail;apply wl;apply qV (iV n);apply zq (iV lo);apply zp (.bool false) (by exact Eg (e:=(Al ω)));go_upto_region 3 with fail;apply wl;apply qV (iV n);apply zq (iV hi);apply zp (.bool false) (by exact Rq (e:=(Al ω)));go_upto_region 5 with fail;apply wl;apply qV (iV n);apply zq (iV n);go_wp2_with fail;go_ret;exact⟨rfl,H0.1.ext⟩
theorem Vu (p:Int×Int)(w:World)(h:Dj p):Calls prog 73 #[.agg #[iV p.1,iV p.2]] w fun e w'=>e= .returned (.agg #[iV p.1,iV p.2])/\Aa w w':=by
 have op:=Bi h;go_enter func73,ntmps73;have H0:=zH (Hp.start w);go_upto_region 0 with fail;apply wl;apply Cn 41 [iV p.1,iV p.2] H0.1;intro A0 B5 B2 _;apply Cn 41 [iV 0,iV 0] B2.1;intro A4 A1 A2 _;go_upto_region 1 with fail;refine wp_region_held_drew (S:=fun x=>Fr (fun kz=>kz=A4) A1 x) kR (Fr.of_ext zb) (fun _=> ?_);have B1:=zH (A2.1.step (Aa.refl A1).drew);refine zx 0 (bs 8 1) (.pointer (some ⟨A0,0,none⟩)) (Fr.of_ext zb) ?_;refine Dt (g:=A0) (o:=0) (v:= iV p.1) (i:=1) (listed':=(bs 8 3)) rR kR kR kR (by intro _ _ _ h;exact h) rR (fun x hx=>Fr.cell hx (show World.cell? A1 ⟨A0,0,none⟩=some (iV p.1)from Ae (A2.1.range (i:=0) rR 0 1)) (A2.1.offBlk (i:=0) (j:=1) rR rR dC rR)) (by intro x hq;go_simp<;>with_reducible rfl) (Fr.of_ext zb) kR ?_;try simp only[ζ]
 refine zx 3 (bs 8 11) (.pointer (some ⟨A0,1,none⟩)) (Fr.of_ext zb) ?_;refine Dt (g:=A0) (o:=1) (v:= iV p.2) (i:=4) (listed':=(bs 8 27)) rR kR kR kR (by intro _ _ _ h;exact h) rR (fun x hx=>Fr.cell hx (show World.cell? A1 ⟨A0,1,none⟩=some (iV p.2)from Ae (A2.1.range (i:=0) rR 1 1)) (A2.1.offBlk (i:=0) (j:=1) rR rR dC rR)) (by intro x hq;go_simp<;>with_reducible rfl) (Fr.of_ext zb) kR ?_;try simp only[ζ]
 refine mC 2 (bs 8 31) (Wi p.1 (-1048576) 1048576 _ ω ω) ?_;rintro e A7 ⟨rfl,hx⟩;have B0:=zH (B1.1.step hx);have A5:=zH (show Fr (fun kz=>kz=A4) A1 A7 from(Fr.of_ext zb).trans (Fr.of_ext hx));clear hx;apply zm A5.1;refine mC 5 (bs 8 63) (Wi p.2 (-1048576) 1048576 _ ω ω) ?_;rintro e B4 ⟨rfl,hx⟩;have A9:=zH (B0.1.step hx);have A3:=zH (A5.1.trans (Fr.of_ext hx));clear hx;apply zm A3.1;refine zx 6 (bs 8 127) (.agg #[iV p.1,iV p.2]) A3.1 ?_;refine Ei (i:=7) (listed':=(bs 8 255)) rR kR rR kR _ _ _ rR A9.1 (ix:=1) rR 0 [iV p.1,iV p.2] rR rR (by simp) kR (by simp[Value.oneCell']) (by simp[Aq]) ?_;intro B3 hh hd ho;have A6:=hN hh;have A8:=zH (Fr.trans_new A3.1 ho (fun j hj=> .inl (by simpa using hj.symm)));clear hh hd ho;refine⟨A8.1,?_⟩
 (try simp only[Act.put])
 refine wpAnyH_done kR ?_ _;go_wp2_with fail;refine bodyPost_ret (v:= .agg #[iV p.1,iV p.2]) ?_ rfl ⟨rfl,A6.1.ext⟩;exact Ak rfl rfl ((A6.1.blk (i:=1) rR).loadVar rfl rfl rR)
theorem qN (p q:Int×Int)(w:World)(hp:Dj p)(hq:Dj q):
  Calls prog 39 #[.agg #[iV p.1,iV p.2],.agg #[iV q.1,iV q.2]] w fun e w'=>e= .returned (.agg #[iV (p.1+q.1),iV (p.2+q.2)])/\Aa w w':=by
 have op:=Bi hp;have oq:=Bi hq;go_enter func39,ntmps39
 have H0:=zH (Hp.start w);go_upto_region 0 with fail;apply wl;apply Cn 41 [iV p.1,iV p.2] H0.1;intro X1 w2 H3 _;apply Cn 41 [iV q.1,iV q.2] H3.1;intro X6 w7 H8 _;apply Cn 41 [iV 0,iV 0] H8.1;intro C7 A1 A3 _;go_upto_region 1 with fail;refine zy ?_;have B9:=zH (A3.1.step (Aa.refl A1).drew);refine Xn A3.1 zb (bs 8 5) 0 2 _ _ ?_;refine FN.go2 (j1:=⟨4,some 5,41,[iV 0,iV 0]⟩) (j2:=⟨5,some 6,41,[iV 0,iV 0]⟩) (b:=A1) ?_ zb;refine gN 1 (bs 8 7) (fk (fk trivial)) zb.size (fun xq A0=>Vu p _ hp) (by rintro x_ e A8 ⟨rfl,hx⟩;exact hx) ?_;rintro xq e C6 A0 ⟨rfl,hx⟩;replace hx:=A0.trans hx;clear A0;have B8:=zH (B9.1.step hx);have A6:=zH (zb.trans hx);clear hx;refine⟨_,rfl,?_⟩;try simp only[ζ]
 refine gN 3 (bs 8 15) (fk (fk trivial)) A6.1.size (fun xq A0=>Vu q _ hq) (by rintro x_ e A8 ⟨rfl,hx⟩;exact hx) ?_;rintro xq e C5 A0 ⟨rfl,hx⟩;replace hx:=A0.trans hx;clear A0;have B7:=zH (B8.1.step hx);have B4:=zH (A6.1.trans hx);clear hx;refine⟨_,rfl,?_⟩;try simp only[ζ]
 refine aEN (bs 8 63) (fk (fk trivial)) B4.1.size A3.1 B7.1 ?_;intro B1 B0 A9 hx hh A5 A4 hs;have B6:=hN hh;have B3:=zH (show Aa A1 A9 from hs);have C1:=zH (show A1.heap.size<=B1 from A5);have C0:=zH (show A1.heap.size<=B0 from A4);clear hh hx hs A5 A4;try simp only[ζ]
 refine bS 3 6 (bs 8 127) [iV p.1,iV p.2] B6.1 B3.1 C1.1 ?_;intro C4 B5 _ B2;refine bS 4 7 (bs 8 255) [iV q.1,iV q.2] B5.1 B2.1 C0.1 ?_;intro C3 A2 _ C8;refine wpAnyH_done kR ?_ _;go_upto_region 2 with fail;apply wl;refine Fg A2.1 _ _ _ _ ?_;apply zp (iV (p.1+q.1)) (by exact He ω);refine Fg A2.1 _ _ _ _ ?_;apply zp (iV (p.2+q.2)) (by exact He ω);apply zq (.agg #[iV (p.1+q.1),iV (p.2+q.2)]);apply Dc 2 [iV (p.1+q.1),iV (p.2+q.2)] A2.1;intro C2 A7 _;go_wp2_with fail;refine bodyPost_ret (v:= .agg #[iV (p.1+q.1),iV (p.2+q.2)]) ?_ rfl ⟨rfl,A7.1.ext⟩;exact Ak rfl rfl ((A7.1.blk (i:=2) rR).loadVar rfl rfl rR)
theorem Be.lowT {w:World}{b b':Nat}{t:TypeId}{size:Nat}{v:Value}{n:Nat}{xs:List Value}(h:Be w b t size v n xs)(hb:b'<=b):Be w b' t size v n xs:=by
  obtain⟨h1,h2|⟨g,A0,rest,h3,h4,h5⟩⟩:=h
  · exact⟨h1,.inl h2⟩
  exact⟨h1,.inr ⟨g,A0,rest,h3,Av hb h4,h5⟩⟩
theorem Xv {α β:Type}{l:List α}{k:Nat}{x:α}{f:α->β}(h:l[k]?=some x):(l.take (k+1)).map f=(l.take k).map f++[f x]:=by
  rw[List.take_add_one,h,fXX];rfl
theorem xG {rs:List Ac}{r:Ac}{p:Int×Int}(h:En rs=true)(hr:r∈rs)(hp:p∈r):Dj p:=by
  unfold En at h;rw[hZZ]at h;have h2:=List.all_eq_true.1 h.2 r hr;unfold Di at h2;exact List.all_eq_true.1 h2 p hp
theorem Lv (A:Option Addr)(cap:Nat)(rs:List Ac)(t:Int×Int)(w:World)(hu:Cm w (.slice A rs.length cap) rs)(hn:rs.length<=1048576)(hr:∀r,r∈rs->r.length<=1048576)(ho:En rs=true)(ht:Dj t):
  Calls prog 14 #[.slice A rs.length cap,.agg #[iV t.1,iV t.2]] w fun e w'=>∃(B:Option Addr) (c:Nat),e= .returned (.slice B (Kp t rs).length c)/\Cm w' (.slice B (Kp t rs).length c) (Kp t rs)/\Aa w w':=by
 have HU:=zH hu;have HN:=zH hn;have E5:=zH hr;clear hu hr;have HV:=zH ho;have G7:=zH ht;have hn:=HN.1;clear ho ht;go_enter func14,ntmps14
 have H0:=zH (Hp.start w);go_upto_region 0 with fail;apply wl;apply Cn 41 [iV t.1,iV t.2] H0.1;intro X1 w2 H3 _;refine Cs Ah _ ?_;go_upto_region 1 with fail;apply wl;refine zp (w':=w2.alloc (.cells #[] 39)) (.slice (some ⟨w2.heap.size,0,none⟩) 0 0) (by go_simp) ?_;have hh:=H3.1.addEmpty 39 1;have hd:=Af.of_ext ((Aa.refl w2).alloc (.cells #[] 39));generalize w2.alloc (.cells #[] 39)=w7 at hh hd⊢
 generalize w2.heap.size=X8 at hh⊢;have H9:=hN hh;clear hh hd;refine Cs Ah _ ?_;go_upto_region 2 with fail;apply wl;apply zq (iV 0);go_wp2_with fail;go_loopg [5,6] (rs.length) (fun cq F7 F6 wr=>∃(i:Nat) (A4:Option Addr) (c4:Nat) (os:List Nx),cq=rs.length-i/\F7= .slice A4 i c4/\F6= iV (i:Int)/\(i<=rs.length)/\(os.map Nx.l=(rs.take i).map fun r=>r.map (Db t))/\(os.length=i)/\(∀o,o∈os->o.Ok w.heap.size wr)/\Hp w wr [.blk X1 41 [iV t.1,iV t.2],.row 39 1 (.slice A4 i c4) (i) (List.flatMap Nx.cells os)]/\Af w7 wr)
 case atStart=>exact⟨0,some ⟨X8,0,none⟩,0,[],rfl,rfl,rfl,eXX _,rfl,rfl,(fun o_ ho_=>by cases ho_),H9.1,Af.refl _⟩
 obtain⟨i,A4,c4,os,rfl,rfl,rfl,B1,A8,A9,A3,C1,C2⟩:=hrel;generalize wr=B3 at*;have H1:=zH B1;clear B1;have E7:=zH A8;clear A8;have D7:=zH A9;clear A9;have C7:=zH A3;clear A3;have B7:=zH C1;have J0:=zH C2;clear C1 C2 H9;rcases Cy (i<rs.length)with HLT|HLT
 ·have B6:=HLT.1
  obtain⟨r,B2⟩:∃r,rs[i]?=some r:=⟨_,aQQ B6⟩;have D5:=zH B2;obtain⟨g,A0,rfl,A6⟩:∃g A0,A=some ⟨g,A0,none⟩/\∀i r,rs[i]?=some r->∃B cb,World.cell? w ⟨g,A0+i,none⟩=some (.slice B r.length cb)/\Gp w (.slice B r.length cb) r:=by obtain⟨A_,J4,F8,C8⟩:=HU.1;injection F8 with e1_ e2_ e3_;subst e1_;obtain⟨g_,C9,e_,h_⟩:=C8 ω;exact⟨g_,C9,e_,h_⟩
  obtain⟨B,cb,E0,C3⟩:=A6 i r B2;have G3:=zH E0;have G5:=zH C3;clear B2 A6 E0 C3;have J1:r.length<=1048576:=E5.1 r (bZZ D5.1);have D8:=zH (show∀p,p∈r->Dj p from fun p_ A6=>xG HV.1 (bZZ D5.1) A6);have HB:=B7;have D6:=zH (B7.1.ext.get G3.1);have G2:=zH (HU.1.ext B7.1.ext);have H5:=zH (show World.rangeAt B3 X1 0 [iV t.1,iV t.2]from B7.1.range (i:=0) (by rfl) 0 2);have E9:=zH (Hp.start B3);go_upto_region 3 with fail
  apply wl;refine Dv Ah (iV (i:Int)) _ (iV ((rs.length:Nat):Int)) ?_;apply zp (.bool true) (by exact Eg (e:=(Ar ω)));refine Cc Ah (.bool true) _ ?_;refine zc (Gl _ rs _ (G2.1.ext E9.1.ext) HN.1 E5.1) ?_;rintro e B9 ⟨rfl,hx⟩;have I1:=zH (E9.1.step hx);clear hx;refine⟨.bool true,by rw[HV.1],?_⟩;try simp only[ζ]
  apply zq (.bool true);go_upto_region 5 with fail;apply wl;refine zp (w':=B9.alloc (.cells #[] 41)) (.slice (some ⟨B9.heap.size,0,none⟩) 0 0) (by go_simp) ?_;have hh:=I1.1.addEmpty 41 2;have hd:=Af.of_ext ((Aa.refl B9).alloc (.cells #[] 41));generalize B9.alloc (.cells #[] 41)=F3 at hh hd⊢
  generalize B9.heap.size=G1 at hh⊢;have F0:=hN hh;clear hh hd;refine Cs Ah _ ?_;go_upto_region 6 with fail;apply wl;apply zq (iV 0);go_wp2_with fail;go_loopg [7,8] (r.length) (fun cq F5 F4 wr=>∃(k:Nat) (A5:Option Addr) (c5:Nat) (qs:List (Int×Int)),cq=r.length-k/\F5= .slice A5 k c5/\F4= iV (k:Int)/\(k<=r.length)/\(qs=(r.take k).map (Db t))/\Hp B3 wr [.row 41 2 (.slice A5 k c5) (k) (List.flatMap Np qs)]/\Af F3 wr)
  case atStart=>exact⟨0,some ⟨G1,0,none⟩,0,[],rfl,rfl,rfl,eXX _,rfl,F0.1,Af.refl _⟩
  obtain⟨k,A5,c5,qs,rfl,rfl,rfl,B0,A7,C1,C2⟩:=hrel;generalize wr=A2 at*;have G9:=zH B0;clear B0;have E6:=zH A7;clear A7;have A1:=zH C1;have I9:=zH C2;clear C1 C2 F0;rcases Cy (k<r.length)with HLU|HLU
  ·have B5:=HLU.1
   have F9:r≠ []:=by intro h_;rw[h_]at B5;simp at B5
   obtain⟨A',c',e_,C8⟩:=G5.1;injection e_ with e1_ _ e3_
   subst e1_ e3_;obtain⟨gr,B4,rfl,C0⟩:=C8 F9;obtain⟨p,A6⟩:∃p,r[k]?=some p:=⟨_,aQQ B5⟩;have HP:=zH A6;have G6:=zH (Bg (Uz C0 A6) HB.1.ext);have C6:=zH (D8.1 p (bZZ A6));have op:=Bi C6.1;clear C0 A6 C8;go_upto_region 7 with fail
   apply wl;refine Dv Ah (iV (k:Int)) _ (iV (i:Int)) ?_;apply zp (.pointer (some ⟨g,A0+i,none⟩)) (by exact Iu (k:=i) underlying22 (l:=B6) (f:=(show A0+i=A0+i*1 by omega)));refine ze g (A0+i) (.slice (some ⟨gr,B4,none⟩) r.length cb) (Fp (A1.1.ext.get D6.1)) ?_;apply zq (iV ((r.length:Nat):Int));apply zp (.bool true) (by exact Eg (e:=(Ar ω)));go_upto_region 9 with fail;refine wp_region_held_drew (S:=fun x=>Fr (fun kz=>Value.ownBlock (.slice A5 k c5)=some kz) A2 x) kR (Fr.of_ext zb) (fun _=> ?_);have I0:=zH (A1.1.step (Aa.refl A2).drew);have I8:=zH (Af.of_ext (w:=A2) zb);refine zx 0 (bs 13 1) (.slice A5 k c5) (Fr.of_ext zb) ?_;refine zx 1 (bs 13 3) (.slice (some ⟨g,A0,none⟩) rs.length cap) (Fr.of_ext zb) ?_;refine zx 2 (bs 13 7) (iV (i:Int)) (Fr.of_ext zb) ?_;refine zu 3 (bs 13 15) (v:= .pointer (some ⟨g,A0+i,none⟩)) (Fr.of_ext zb) ?_ (hv:=by intro w G0;exact Iu (k:=i) underlying22 (l:=B6) (f:=(show A0+i=A0+i*1 by omega)));refine Dt (g:=g) (o:=A0+i) (v:= .slice (some ⟨gr,B4,none⟩) r.length cb) (i:=4) (listed':=(bs 13 31)) rR kR kR kR (by intro _ _ _ h;exact h) rR (fun x hx=>Aa.get (Fr.base hx A1.1 (fun kz hk=>A1.1.ge (i:=0) rR (show De.own (.row 41 2 (.slice A5 k c5) (k) (List.flatMap Np qs))=some kz from hk))) (show World.cell? B3 ⟨g,A0+i,none⟩=some (.slice (some ⟨gr,B4,none⟩) r.length cb)from Ae (Fp D6.1))) (by intro x hq;go_simp<;>with_reducible rfl) (Fr.of_ext zb) kR ?_;try simp only[ζ]
   refine zx 5 (bs 13 63) (iV (k:Int)) (Fr.of_ext zb) ?_;refine zo 6 (bs 13 127) (v:= .pointer (some ⟨gr,B4+k*2,none⟩)) (Fr.of_ext zb) ?_ (hv:=by intro w G0;exact Iu (k:=k) underlying39 (l:=B5) (f:=rfl));refine mR 7 (bs 13 255) gr (B4+k*2) [iV p.1,iV p.2] (fun x hx=>Bg (show World.rangeAt B3 gr (B4+k*2) [iV p.1,iV p.2]from G6.1) (Fr.base hx A1.1 (fun kz hk=>A1.1.ge (i:=0) rR (show De.own (.row 41 2 (.slice A5 k c5) (k) (List.flatMap Np qs))=some kz from hk)))) underlying41 (Fr.of_ext zb) ?_;refine zr 8 (bs 13 511) X1 (0) [iV t.1,iV t.2] (fun x hx=>Bg (show World.rangeAt B3 X1 (0) [iV t.1,iV t.2]from H5.1) (Fr.base hx A1.1 (fun kz hk=>A1.1.ge (i:=0) rR (show De.own (.row 41 2 (.slice A5 k c5) (k) (List.flatMap Np qs))=some kz from hk)))) underlying41 (Fr.of_ext zb) ?_;refine mC 9 (bs 13 1023) (qN p t _ C6.1 G7.1) ?_;rintro e B8 ⟨rfl,hx⟩;have H8:=zH (I0.1.step hx);have I7:=zH (show Af A2.drew B8 from Af.of_ext hx);have D2:=zH (show Fr (fun kz=>Value.ownBlock (.slice A5 k c5)=some kz) A2 B8 from(Fr.of_ext zb).trans (Fr.of_ext hx));clear hx;apply zm D2.1;refine mU 10 (bs 13 2047) (v:= .slice (some ⟨B8.heap.size,0,none⟩) 1 1) (w':=(B8.alloc (.cells ([iV (p.1+t.1),iV (p.2+t.2)]:List Value).toArray 41))) (D2.1.trans (Fr.of_ext ((Aa.refl B8).alloc _))) ?_;try simp only[ζ]
   refine aW (j:=11) (listed':=(bs 13 4095)) rR kR rR _ _ _ rR Tt rR H8.1 (ix:=0) rR 1 1 [iV (p.1+t.1),iV (p.2+t.2)] rR rfl (by simp[Value.oneCell']) (by simp[Aq]) dC (by unfold maxLen;exact ω) ω kR ?_;intro E2 C5 F2 hf hh hd hg;have I4:=zH hf;clear hf;rw[show List.flatMap Np qs++[iV (p.1+t.1),iV (p.2+t.2)]=_ from Ez Np _ ((p.1+t.1),(p.2+t.2))]at hh;have H7:=hN hh;have I6:=zH (hd);have E3:=zH (show Fr (fun kz=>Value.ownBlock (.slice A5 k c5)=some kz) A2 F2 from Fr.trans_new (D2.1.trans (Fr.of_ext (An.alloc _))) hg (fun j hj=> .inl hj));clear hh hd hg;refine⟨E3.1,?_⟩;try simp only[ζ]
   refine zx 12 (bs 13 8191) (.slice (some ⟨E2,0,none⟩) (k+1) C5) E3.1 ?_;refine wpAnyH_done kR ?_ _;go_upto_region 8 with fail;apply wl;apply zq (iV (k:Int));apply zp (iV ((k+1:Nat):Int)) (by exact He ω);apply zq (iV ((k+1:Nat):Int));have D9:=tD (tD (tD I9 I8) I7) I6;go_wp2_with fail
   go_roundg (r.length-(k+1))
   case measure=>exact(ω)
   case rel=>exact⟨k+1,some ⟨E2,0,none⟩,C5,qs++[((p.1+t.1),(p.2+t.2))],rfl,rfl,(by go_num),B5,(by rw[E6.1,Xv HP.1];rfl),H7.1,D9.1⟩
  have B5:=HLU.1;have J2:=G9.1;obtain rfl:k=r.length:=ω
  go_upto_region 7 with fail;apply wl;refine Dv Ah (iV ((r.length:Nat):Int)) _ (iV (i:Int)) ?_;apply zp (.pointer (some ⟨g,A0+i,none⟩)) (by exact Iu (k:=i) underlying22 (l:=B6) (f:=(show A0+i=A0+i*1 by omega)));refine ze g (A0+i) (.slice B r.length cb) (Fp (A1.1.ext.get D6.1)) ?_;apply zq (iV ((r.length:Nat):Int));apply zp (.bool false) (by exact Eg (e:=(Al (Int.lt_irrefl _))));have D0:qs=r.map (Db t):=by rw[E6.1,lXX]
  have D1:qs.length=r.length:=by rw[D0,dZZ]
  have G4:=zH D0;have D4:=zH (show(⟨A5,c5,qs⟩:Nx).Ok w.heap.size A2 from by have h_:=(A1.1.row (i:=0) (by rfl)).lowT HB.1.ext.size;rw[<-D1]at h_;exact h_);have D3:=zH (HB.1.step A1.1.ext);have H2:=zH (fun o_ ho_=>(C7.1 o_ ho_).ext A1.1.ext);have H4:=zH (Af.of_ext A1.1.ext);clear D0;rw[<-D1];clear D1;go_upto_region 10 with fail
  apply wl;refine Cc Ah _ _ ?_;refine zp (w':=(A2.alloc (.cells ([.slice A5 qs.length c5]:List Value).toArray 39))) (.slice (some ⟨A2.heap.size,0,none⟩) 1 1) (by go_simp) ?_;refine Oh rR _ _ _ rR aAH rR D3.1 (ix:=1) rR 1 1 [.slice A5 qs.length c5] rR rfl (by simp[Value.oneCell']) (by simp[Aq]) dC (by unfold maxLen;exact ω) ω ?_;intro E1 C4 F1 hf hh hd hg;have I3:=zH hf;clear hf;rw[show List.flatMap Nx.cells os++[.slice A5 qs.length c5]=_ from Ez Nx.cells _ (⟨A5,c5,qs⟩:Nx)]at hh;have H6:=hN hh;have I5:=zH (hd);have E4:=zH (show Fr (fun kz=>Value.ownBlock (.slice A4 i c4)=some kz) A2 F1 from((Fr.of_ext (G:=fun kz=>Value.ownBlock (.slice A4 i c4)=some kz) (Aa.refl A2)).trans (Fr.of_ext (An.alloc _))).trans_new hg (fun j hj=> .inl hj));clear hh hd hg;try simp only[ζ]
  apply zq (.slice (some ⟨E1,0,none⟩) (i+1) C4);go_upto_region 4 with fail;apply wl;apply zq (iV (i:Int));apply zp (iV ((i+1:Nat):Int)) (by exact He ω);apply zq (iV ((i+1:Nat):Int));go_wp2_with fail;go_roundg (rs.length-(i+1))
  case measure=>exact(ω)
  case rel=>exact⟨i+1,some ⟨E1,0,none⟩,C4,os++[(⟨A5,c5,qs⟩:Nx)],rfl,rfl,(by go_num),B6,(by rw[fXX,E7.1,Xv D5.1,G4.1];rfl),(by rw[aXX,D7.1];rfl),(fun o_ ho_=>(List.mem_append.1 ho_).elim (fun h_=>(H2.1 o_ h_).fr D3.1 (ix:=1) (by rfl) E4.1) (fun h_=>by rw[List.mem_singleton.1 h_];exact D4.1.fr D3.1 (ix:=1) (by rfl) E4.1)),H6.1,((J0.1).trans (H4.1.trans I5.1))⟩
 have B6:=HLT.1;have J3:=H1.1;obtain rfl:i=rs.length:=ω
 go_upto_region 3 with fail;apply wl;refine Dv Ah (iV ((rs.length:Nat):Int)) _ (iV ((rs.length:Nat):Int)) ?_;apply zp (.bool false) (by exact Eg (e:=(Al (Int.lt_irrefl _))));refine Fg Ah (.bool false) _ _ (.bool false) ?_;go_upto_region 11 with fail;apply wl;refine Cc Ah _ _ ?_;have G8:=zH (show os.map Nx.l=Kp t rs from by rw[E7.1,lXX];rfl);have E8:=zH (show(Kp t rs).length=rs.length from by unfold Kp;rw[dZZ]);go_wp2_with fail
 go_ret;exact⟨A4,c4,by rw[E8.1]<;>rfl,by have h_:=B7.1.row (i:=1) (by rfl);rw[<-D7.1]at h_;have C3:=Uv h_ C7.1;rw[G8.1,D7.1,<-E8.1]at C3;exact C3,B7.1.ext⟩
namespace trllaw
theorem Be.lowA {w:World}{b b':Nat}{t:TypeId}{size:Nat}{v:Value}{n:Nat}{xs:List Value}(h:Be w b t size v n xs)(hb:b'<=b):Be w b' t size v n xs:=by
  obtain⟨h1,h2|⟨g,A0,rest,h3,h4,h5⟩⟩:=h
  · exact⟨h1,.inl h2⟩
  exact⟨h1,.inr ⟨g,A0,rest,h3,Av hb h4,h5⟩⟩
theorem ev_remC {P:Program}{ρ:Operand->Value}{o:Oper}{w:World}{A E c:Int}{t t':TypeId}{x y:Operand}(ho:o.op= .binOp .rem t x y t')(hx:ρ x= iV A)(hy:ρ y= iV c)(hc:c≠0)(hE:A.tmod c=E):(execOp ρ o).run P w= .ok (.value (iV E)) w:=by
  unfold execOp;simp only[ho,hx,hy];simp[go_sem,hE,hc]
theorem ev_remU {P:Program}{ρ:Operand->Value}{o:Oper}{w:World}{A E c:Int}{t t':TypeId}{x y:Operand}(ho:o.op= .binOp .rem t x y t')(hx:ρ x= .int .u64 A)(hy:ρ y= .int .u64 c)(hc:c≠0)(hE:A.tmod c=E):(execOp ρ o).run P w= .ok (.value (.int .u64 E)) w:=by
  unfold execOp;simp only[ho,hx,hy];simp[go_sem,hE,hc]
theorem ev_toU {ρ:Operand->Value}{o:Oper}{w:World}{A E:Int}{x:Operand}(ho:o.op= .convert 3 46 x)(hx:ρ x= iV A)(hE:IntKind.u64.wrap A=E):(execOp ρ o).run prog w= .ok (.value (.int .u64 E)) w:=by
  unfold execOp;simp only[ho,hx];go_simp<;>rw[hE]
theorem ev_ofU {ρ:Operand->Value}{o:Oper}{w:World}{A E:Int}{x:Operand}(ho:o.op= .convert 46 3 x)(hx:ρ x= .int .u64 A)(hE:IntKind.i64.wrap A=E):(execOp ρ o).run prog w= .ok (.value (iV E)) w:=by
  unfold execOp;simp only[ho,hx];go_simp<;>rw[hE]
theorem tmodK (a:Int): -1000<a.tmod 1000/\a.tmod 1000<1000:=⟨by have:=Int.lt_tmod_of_pos a (b:=1000) ω;omega,Int.tmod_lt_of_pos a ω⟩
def trnS (c:Int)(r:Ac):Nat:=((IntKind.u64.wrap c).tmod (r.length:Int)).toNat
theorem trnS_ok (c:Int){r:Ac}(h:0<r.length):(IntKind.u64.wrap c).tmod (r.length:Int)=((trnS c r:Nat):Int)/\trnS c r<r.length:=by
  have h0:0<=IntKind.u64.wrap c:=by rw[IntKind.wrap_u64];omega
  have h1:0<=(IntKind.u64.wrap c).tmod (r.length:Int):=Int.tmod_nonneg _ h0;have h2:=Int.tmod_lt_of_pos (IntKind.u64.wrap c) (b:=(r.length:Int)) ω;unfold trnS;omega
def turnC (c:Int)(rs:List Ac):List Ac:=rs.map fun r=>Lu (trnS c r) r
theorem turn_take {c:Int}{r:Ac}{k:Nat}{p:Int×Int}(hk:k<r.length)(hp:r[(r.length-1-k+trnS c r)%r.length]?=some p):(Lu (trnS c r) r).take (k+1)=(Lu (trnS c r) r).take k++[p]:=by
  rw[List.take_add_one,rD (trnS_ok c ω).2 hk,hp];rfl
theorem take_map_succA {α β:Type}{l:List α}{k:Nat}{x:α}{f:α->β}(h:l[k]?=some x):(l.take (k+1)).map f=(l.take k).map f++[f x]:=by
  rw[List.take_add_one,h,fXX];rfl
theorem turnC_ok {c:Int}{rs:List Ac}:En (turnC c rs)=En rs:=(rC (fun r=>trnS c r) rs).1
theorem turnC_tot (c:Int)(rs:List Ac):Ga (turnC c rs)=Ga rs:=jU (fun r=>Jc _ r) rs
def inH (rs:List Ac):Prop:=∀r,r∈rs->∀p,p∈r->(-524288<=p.1/\p.1<=524288)/\(-524288<=p.2/\p.2<=524288)
theorem trR_ok {rs:List Ac}{x y:Int}(h:En rs=true)(hb:inH rs)(hx: -1000<=x/\x<=1000)(hy: -1000<=y/\y<=1000):En (Kp (x*256,y*256) rs)=true:=by
 unfold En at h⊢;rw[hZZ]at h⊢;refine⟨?_,List.all_eq_true.2 fun r hr=> ?_⟩
 ·have e:Ga (Kp (x*256,y*256) rs)=Ga rs:=by unfold Ga Kp;rw[List.foldl_map];simp only[dZZ]
  rw[e];exact h.1
 obtain⟨r0,h0,rfl⟩:=List.mem_map.1 hr;unfold Di;refine List.all_eq_true.2 fun p hp=> ?_
 obtain⟨p0,k0,rfl⟩:=List.mem_map.1 hp;have:=hb r0 h0 p0 k0;unfold Db;rw[Pv];dsimp only;omega
theorem trR_tot (t:Int×Int)(rs:List Ac):Ga (Kp t rs)=Ga rs:=by unfold Ga Kp;rw[List.foldl_map];simp only[dZZ]
def qA:R4:=⟨0,0,4,4⟩
def qT (x y:Int):R4:=⟨x,y,x+4,y+4⟩
attribute [local go_sem] qA qT
theorem qT_can {x y:Int}(hx: -1000<=x/\x<=1000)(hy: -1000<=y/\y<=1000):(qT x y).can=qT x y/\(qT x y).ok=true:=by
  have ho:(qT x y).ok=true:=by rw[No];unfold qT;simp only;omega
  refine⟨?_,ho⟩;unfold R4.can;rw[if_neg];unfold R4.emp;rw[ho];unfold qT;simp;omega
theorem qT_area {x y:Int}(hx: -1000<=x/\x<=1000)(hy: -1000<=y/\y<=1000):(qT x y).area=16:=by
  unfold R4.area;rw[(qT_can hx hy).1];unfold qT;simp only;rw[show x+4-x=4 by omega,show y+4-y=4 by omega];rfl
theorem msk_tr {rule x y:Int}{rs:List Ac}{es fs:List Int}(h1:En rs=true)(h2:En (Kp (x*256,y*256) rs)=true)(hx: -1000<=x/\x<=1000)(hy: -1000<=y/\y<=1000)(he:La qA (Fw rule rs) es)(hf:La (qT x y) (Fw rule (Kp (x*256,y*256) rs)) fs):fs=es:=by
 refine(La.ext (r:=qA) (v:=Fw rule rs) ?_ he dC dC);refine⟨?_,fun i j hi=> ?_⟩
 ·have h:=hf.1
  unfold qT at h;unfold qA;simp only at h⊢;rw[h,show x+4-x=4 by omega,show y+4-y=4 by omega];rfl
 unfold R4.In qA at hi;simp only at hi;have h:=hf.2 (i+x) (j+y) (by unfold R4.In qT;simp only;omega);rw[aCO h1 h2 ω ω ω ω]at h;have e:(qT x y).at (i+x) (j+y)=qA.at i j:=by
  unfold R4.at qT qA;simp only;rw[show x+4-x=4 by omega];congr 1;omega
 rw[e]at h;exact h
theorem mskE_same {rule:Int}{rs rt:List Ac}{q q':R4}(h:En rt=En rs)(hq:q.ok=true)(hq':q'.ok=true)(ha:q.area<=65536)(ha':q'.area<=65536):Gs rule rt q'=Gs rule rs q:=by unfold Gs;rw[h,hq,hq',if_pos ha,if_pos ha']
theorem calls_lenM {P:Program}{f:FuncId}{A:Option Addr}{c n m:Nat}{u v:Value}{w:World}{Φ:Ending->World->Prop}(h:n=m)(k:Calls P f #[.slice A n c,u,v] w Φ):Calls P f #[.slice A m c,u,v] w Φ:=h▸k
set_option maxRecDepth 200000 in
theorem walk (A:Option Addr)(rs:List Ac)(cap:Nat)(rule a b c:Int)(w:World)(hu:Cm w (.slice A rs.length cap) rs)(hcap:rs.length<=cap)(hn:rs.length<=1048576)(hr:∀r,r∈rs->r.length<=1048576)(hru: -9223372036854775808<=rule/\rule<=9223372036854775807)(hab:(-9223372036854775808<=a/\a<=9223372036854775807)/\(-9223372036854775808<=b/\b<=9223372036854775807)/\(-9223372036854775808<=c/\c<=9223372036854775807)):
  Calls prog 4 #[.slice A rs.length cap,iV rule,.agg #[iV a,iV b,iV c]] w fun e w'=>e= .returned (.bool true)/\Aa w w':=by
 have HU:=zH hu;have HN:=zH hn;have B6:=zH hr;have F3:=zH hru;have Y4:=zH hab;clear hu hr hn hru hab hcap;go_enter func4,ntmps4
 have H0:=zH (Hp.start w);go_upto_region 0 with fail;apply wl;apply Cn 45 [iV a,iV b,iV c] H0.1;intro X1 w2 H3 _;apply zq (.bool false);go_upto_region 1 with fail;apply wl;refine Cs Ah _ ?_;apply Cn 26 [iV 0,iV 0,iV 0,iV 0] H3.1;intro X8 w9 W7 _;apply Dc 1 [iV 0,iV 0,iV 4,iV 4] W7.1;intro Y0 D1 _;rcases Cy (Ek rs qA=true)with HLG|HLG
 ·rcases Cy (En rs=true)with HV|HV
  ·go_upto_region 2 with fail
   apply wl;refine Cc D1.1 _ _ ?_;refine aC D1.1 ((Mk A cap rs qA _ (HU.1.ext D1.1.ext) HN.1 B6.1).mono fun _ _ h_=>(⟨h_.1.trans (by rw[HLG.1]),h_.2⟩:_=Ending.returned (.bool true)/\Aa _ _)) ?_;intro X9 Q9 _;refine Dv Ah (.bool false) (.bool false) _ ?_;refine zc (Gl _ rs _ (HU.1.ext Q9.1.ext) HN.1 B6.1) ?_;rintro e T0 ⟨rfl,hx⟩;have Q8:=zH (Q9.1.step hx);clear hx;refine⟨.bool true,by rw[HV.1],?_⟩;try simp only[ζ]
   refine Cc Ah (.bool false) (.bool false) ?_;go_upto_region 4 with fail;apply wl;refine Dv Ah _ (iV ((rs.length:Nat):Int)) _ ?_;go_wp2_with fail;go_loopg [37] (rs.length) (fun cq T6 wr=>∃(i:Nat),cq=rs.length-i/\T6= iV (i:Int)/\(i<=rs.length)/\(∀r,r∈rs.take i->∀p,p∈r->(-524288<=p.1/\p.1<=524288)/\(-524288<=p.2/\p.2<=524288))/\Hp w wr [.blk X1 45 [iV a,iV b,iV c],.blk X8 26 [iV 0,iV 0,iV 4,iV 4]]/\Af T0 wr)
   case atStart=>exact⟨0,rfl,rfl,eXX _,(fun q_ D9=>by cases D9),Q8.1,Af.refl _⟩
   obtain⟨i,rfl,rfl,B2,D7,C4,C5⟩:=hrel;generalize wr=E4 at*;have M0:=zH B2;clear B2;have Q7:=zH D7;clear D7;have F4:=zH C4;have X0:=zH C5;clear C4 C5 Q8;rcases Cy (i<rs.length)with HLT|HLT
   ·have C7:=HLT.1
    have hn:=HN.1;obtain⟨r,A7⟩:∃r,rs[i]?=some r:=⟨_,aQQ C7⟩;have D0:=zH A7;have T9:=B6.1 r (bZZ A7);obtain⟨g,A6,rfl,B4⟩:∃g A6,A=some ⟨g,A6,none⟩/\∀i r,rs[i]?=some r->∃B cb,World.cell? w ⟨g,A6+i,none⟩=some (.slice B r.length cb)/\Gp w (.slice B r.length cb) r:=by obtain⟨A_,U2,E6,K3⟩:=HU.1;injection E6 with e1_ e2_ e3_;subst e1_;obtain⟨g_,E5,e_,h_⟩:=K3 ω;exact⟨g_,E5,e_,h_⟩
    obtain⟨B,cb,B5,X2,K5,E6,B0⟩:=B4 i r A7;injection E6 with e1_ e2_ e3_
    subst e1_;subst e3_;have L5:=zH B0;have L2:=zH B5;clear A7 B4 B5 B0 e2_;go_upto_region 5 with fail
    apply wl;apply zp (.bool true) (by exact Eg (e:=(Ar ω)));go_upto_region 6 with fail;apply wl;refine Cc Ah (iV (i:Int)) (iV (i:Int)) ?_;go_upto_region 7 with fail;apply wl;refine Cc Ah _ (iV (i:Int)) ?_;apply zp (.pointer (some ⟨g,A6+i,none⟩)) (by exact Iu (k:=i) underlying22 (l:=C7) (f:=(show A6+i=A6+i*1 by omega)));refine ze g (A6+i) (.slice B r.length cb) (Fp (F4.1.ext.get L2.1)) ?_;refine Cc Ah (iV ((r.length:Nat):Int)) _ ?_;go_wp2_with fail;go_loopg [45] (r.length) (fun cq v46 wr=>∃(k:Nat),cq=r.length-k/\v46= iV (k:Int)/\(k<=r.length)/\(∀p,p∈r.take k->(-524288<=p.1/\p.1<=524288)/\(-524288<=p.2/\p.2<=524288))/\Hp w wr [.blk X1 45 [iV a,iV b,iV c],.blk X8 26 [iV 0,iV 0,iV 4,iV 4]]/\Af E4 wr)
    case atStart=>exact⟨0,rfl,rfl,eXX _,(fun q_ D9=>by cases D9),F4.1,Af.refl _⟩
    obtain⟨k,rfl,rfl,B1,D6,C4,C5⟩:=hrel;generalize wr=X7 at*;have L9:=zH B1;clear B1;have Q6:=zH D6;clear D6;have M2:=zH C4;have R2:=zH C5;clear C4 C5 F4;rcases Cy (k<r.length)with HLU|HLU
    ·have C0:=HLU.1
     have J9:r≠ []:=by intro h_;rw[h_]at C0;simp at C0
     obtain⟨gr,D8,rfl,C3⟩:=L5.1 J9;obtain⟨p,B4⟩:∃p,r[k]?=some p:=⟨_,aQQ C0⟩;have HP:=zH B4;have L6:=zH (Uz C3 B4);have Y1:=Bi (Ia HV.1 (bZZ D0.1) (bZZ B4));clear C3 B4;go_upto_region 8 with fail
     apply wl;apply zp (.bool true) (by exact Eg (e:=(Ar ω)));go_upto_region 9 with fail;apply wl;apply zp (.pointer (some ⟨gr,D8+k*2,none⟩)) (by exact Iu (k:=k) underlying39 (l:=C0) (f:=rfl));refine zd gr (D8+k*2) [iV p.1,iV p.2] (Bg L6.1 M2.1.ext) underlying41 ?_;apply Cn 41 [iV 0,iV 0] M2.1;intro Y3 X6 W6 W9;apply Dc 2 [iV p.1,iV p.2] W6.1;intro X5 E3 W8;rcases Cy (p.1< -524288\/524288<p.1)with HX1|HX1
     ·go_upto_region 10 with fail
      apply wl;refine Fg E3.1 _ _ _ _ ?_;apply zp (iV (-p.1)) (by exact Wc rR rR rfl ω ω);apply zq (iV (max p.1 (-p.1)));apply zp (.bool true) (by exact Rq (e:=(Ar (by have h_:=HX1.1;omega))));refine Jb Ah (.bool true) _ _ _ _ _ _ _ ?_;apply zq (.bool true);go_upto_region 11 with fail;apply wl;refine aC E3.1 (Fs _) ?_;intro X4 W5 _;apply zq (.bool true);go_wp2_with fail;go_ret;exact⟨rfl,W5.1.ext⟩
     rcases Cy (p.2< -524288\/524288<p.2)with HX2|HX2
     ·go_upto_region 10 with fail
      apply wl;refine Fg E3.1 _ _ _ _ ?_;apply zp (iV (-p.1)) (by exact Wc rR rR rfl ω ω);apply zq (iV (max p.1 (-p.1)));apply zp (.bool false) (by exact Rq (e:=(Al (by have h_:=HX1.1;omega))));refine Ly E3.1 (.bool false) _ _ _ _ ?_;apply zp (iV (-p.2)) (by exact Wc rR rR rfl ω ω);apply zq (iV (max p.2 (-p.2)));apply zp (.bool true) (by exact Rq (e:=(Ar (by have h_:=HX2.1;omega))));apply zq (.bool true);go_upto_region 11 with fail;apply wl;refine aC E3.1 (Fs _) ?_;intro X3 W4 _;apply zq (.bool true);go_wp2_with fail;go_ret;exact⟨rfl,W4.1.ext⟩
     go_upto_region 10 with fail;apply wl;refine Fg E3.1 _ _ _ _ ?_;apply zp (iV (-p.1)) (by exact Wc rR rR rfl ω ω);apply zq (iV (max p.1 (-p.1)));apply zp (.bool false) (by exact Rq (e:=(Al (by have h_:=HX1.1;omega))));refine Ly E3.1 (.bool false) _ _ _ _ ?_;apply zp (iV (-p.2)) (by exact Wc rR rR rfl ω ω);apply zq (iV (max p.2 (-p.2)));apply zp (.bool false) (by exact Rq (e:=(Al (by have h_:=HX2.1;omega))));apply zq (.bool false);go_upto_region 12 with fail;apply wl;apply zp (iV ((k+1:Nat):Int)) (by exact He ω);apply zq (iV ((k+1:Nat):Int));have H8:=tD (tD R2 W9) W8;go_wp2_with fail
     go_roundg (r.length-(k+1))
     case measure=>exact(ω)
     case rel=>exact⟨k+1,rfl,(by go_num),C0,(fun q_ D9=>by rw[List.take_add_one,HP.1]at D9;rcases List.mem_append.1 D9 with h_|h_;exact Q6.1 q_ h_;rw[List.mem_singleton.1 h_];have B5:=HX1.1;have B0:=HX2.1;omega),E3.1.take 2,H8.1⟩
    have C0:=HLU.1;have U0:=L9.1;obtain rfl:k=r.length:=ω
    go_upto_region 8 with fail;apply wl;apply zp (.bool false) (by exact Eg (e:=(Al (Int.lt_irrefl _))));go_upto_region 13 with fail;apply wl;apply zp (iV ((i+1:Nat):Int)) (by exact He ω);apply zq (iV ((i+1:Nat):Int));have H7:=tD X0 R2;go_wp2_with fail
    go_roundg (rs.length-(i+1))
    case measure=>exact(ω)
    case rel=>exact⟨i+1,rfl,(by go_num),C7,(fun r_ hr_=>by rw[List.take_add_one,D0.1]at hr_;rcases List.mem_append.1 hr_ with h_|h_;exact Q7.1 r_ h_;rw[List.mem_singleton.1 h_];intro q_ D9;exact Q6.1 q_ (by rw[lXX];exact D9)),M2.1,H7.1⟩
   have C7:=HLT.1;have U1:=M0.1;obtain rfl:i=rs.length:=ω
   have V6:=zH (show inH rs from by have h_:=Q7.1;rw[lXX]at h_;exact h_);go_upto_region 5 with fail;apply wl;apply zp (.bool false) (by exact Eg (e:=(Al (Int.lt_irrefl _))));obtain⟨xp,J7⟩:∃xp,a.tmod 1000=xp:=⟨_,rfl⟩;obtain⟨yp,J6⟩:∃yp,b.tmod 1000=yp:=⟨_,rfl⟩;have HX:=zH J7;have HY:=zH J6;have T8:=tmodK a;have T7:=tmodK b;rw[J7]at T8;rw[J6]at T7;clear J7 J6;have F2:=zH (show Ga rs<=16 from eM HLG.1 (by decide) HV.1);have P6:=zH (trR_ok (x:=xp) (y:=yp) HV.1 V6.1 ω ω);have hn:=HN.1;go_upto_region 14 with fail
   refine zy ?_;have O6:=zH (F4.1.step (Aa.refl E4).drew);refine Xn F4.1 zb (bs 8 3) 0 1 _ _ ?_;refine zu 2 (bs 8 7) (v:= iV xp) zb ?_ (hv:=by intro w C6;exact ev_remC rR rR rR dC HX.1);refine Xn F4.1 zb (bs 8 31) 3 4 _ _ ?_;refine zu 5 (bs 8 63) (v:= iV yp) zb ?_ (hv:=by intro w C6;exact ev_remC rR rR rR dC HY.1);refine Xn Ah zb (bs 8 255) 6 7 (iV xp) (iV yp) ?_;refine wpAnyH_done kR ?_ _;go_upto_region 15 with fail
   apply wl;refine zp (w':=E4.drew.alloc (.cells #[] 39)) (.slice (some ⟨E4.drew.heap.size,0,none⟩) 0 0) (by go_simp) ?_;have hh:=O6.1.addEmpty 39 1;have hd:=Af.of_ext ((Aa.refl E4.drew).alloc (.cells #[] 39));generalize E4.drew.alloc (.cells #[] 39)=J1 at hh hd⊢
   generalize E4.drew.heap.size=K8 at hh⊢;have H5:=hN hh;clear hh hd;refine Cs Ah _ ?_;go_upto_region 16 with fail;apply wl;refine Dv Ah _ (iV ((rs.length:Nat):Int)) _ ?_;go_wp2_with fail;go_loopg [13,77] (rs.length) (fun cq J5 J4 wr=>∃(i:Nat) (A4:Option Addr) (c4:Nat) (os:List Nx),cq=rs.length-i/\J5= .slice A4 i c4/\J4= iV (i:Int)/\(i<=rs.length)/\(os.map Nx.l=(rs.take i).map fun r=>Lu (trnS c r) r)/\(os.length=i)/\(∀o,o∈os->o.Ok w.heap.size wr)/\Hp w wr [.blk X1 45 [iV a,iV b,iV c],.blk X8 26 [iV 0,iV 0,iV 4,iV 4],.row 39 1 (.slice A4 i c4) (i) (List.flatMap Nx.cells os)]/\Af J1 wr)
   case atStart=>exact⟨0,some ⟨K8,0,none⟩,0,[],rfl,rfl,rfl,eXX _,rfl,rfl,(fun o_ ho_=>by cases ho_),H5.1,Af.refl _⟩
   obtain⟨i,A4,c4,os,rfl,rfl,rfl,B2,D4,D5,C1,C4,C5⟩:=hrel;generalize wr=A1 at*;have M0:=zH B2;clear B2;have Q1:=zH D4;clear D4;have Q2:=zH D5;clear D5;have G8:=zH C1;clear C1;have B3:=zH C4;have P1:=zH C5;clear C4 C5 H5;rcases Cy (i<rs.length)with HLT|HLT
   ·have C7:=HLT.1
    have hn:=HN.1;obtain⟨r,A7⟩:∃r,rs[i]?=some r:=⟨_,aQQ C7⟩;have D0:=zH A7;have T9:=B6.1 r (bZZ A7);obtain⟨g,A6,rfl,B4⟩:∃g A6,A=some ⟨g,A6,none⟩/\∀i r,rs[i]?=some r->∃B cb,World.cell? w ⟨g,A6+i,none⟩=some (.slice B r.length cb)/\Gp w (.slice B r.length cb) r:=by obtain⟨A_,U2,E6,K3⟩:=HU.1;injection E6 with e1_ e2_ e3_;subst e1_;obtain⟨g_,E5,e_,h_⟩:=K3 ω;exact⟨g_,E5,e_,h_⟩
    obtain⟨B,cb,B5,X2,K5,E6,B0⟩:=B4 i r A7;injection E6 with e1_ e2_ e3_
    subst e1_;subst e3_;have L5:=zH B0;have L2:=zH B5;clear A7 B4 B5 B0 e2_;go_upto_region 17 with fail
    apply wl;apply zp (.bool true) (by exact Eg (e:=(Ar ω)));go_upto_region 18 with fail;apply wl;refine Cc Ah (iV (i:Int)) (iV (i:Int)) ?_;have HB:=B3;have P9:=zH (B3.1.ext.get L2.1);have G7:=zH (HU.1.ext B3.1.ext);have W1:=zH (show World.rangeAt A1 X1 0 [iV a,iV b,iV c]from B3.1.range (i:=0) (by rfl) 0 3);have E2:=zH (Hp.start A1);have E9:=zH (show Hp A1 A1 [ro 41 2 none 0 0 Np ([])]from E2.1.addNil 41 2);go_upto_region 19 with fail
    apply wl;refine Cs Ah _ ?_;go_upto_region 20 with fail;apply wl;refine Cc Ah _ (iV (i:Int)) ?_;apply zp (.pointer (some ⟨g,A6+i,none⟩)) (by exact Iu (k:=i) underlying22 (l:=C7) (f:=(show A6+i=A6+i*1 by omega)));refine ze g (A6+i) (.slice B r.length cb) (Fp (E9.1.ext.get P9.1)) ?_;refine Cc Ah (iV ((r.length:Nat):Int)) (iV ((r.length:Nat):Int)) ?_;go_upto_region 21 with fail;apply wl;refine Cc Ah (iV ((r.length:Nat):Int)) _ ?_;go_wp2_with fail;go_loopg [15,86] (r.length) (fun cq J3 J2 wr=>∃(k:Nat) (A5:Option Addr) (c5:Nat) (qs:List (Int×Int)),cq=r.length-k/\J3= .slice A5 k c5/\J2= iV (k:Int)/\(k<=r.length)/\(qs=(Lu (trnS c r) r).take k)/\Hp A1 wr [.row 41 2 (.slice A5 k c5) (k) (List.flatMap Np qs)]/\Af A1 wr)
    case atStart=>exact⟨0,none,0,[],rfl,rfl,rfl,eXX _,rfl,E9.1,Af.refl _⟩
    obtain⟨k,A5,c5,qs,rfl,rfl,rfl,B1,D3,C4,C5⟩:=hrel;generalize wr=A2 at*;have L9:=zH B1;clear B1;have Q0:=zH D3;clear D3;have A3:=zH C4;have P0:=zH C5;clear C4 C5 E9;rcases Cy (k<r.length)with HLU|HLU
    ·have C0:=HLU.1
     have J9:r≠ []:=by intro h_;rw[h_]at C0;simp at C0
     obtain⟨gr,D8,rfl,C3⟩:=L5.1 J9;obtain⟨sN,F6⟩:∃sN,trnS c r=sN:=⟨_,rfl⟩;have B7:=trnS_ok c (r:=r) ω;rw[F6]at B7;have U6:=zH B7.1;have Y2:=B7.2;obtain⟨jN,C8⟩:∃jN,(r.length-1-k+sN)%r.length=jN:=⟨_,rfl⟩;have P4:jN<r.length:=by rw[<-C8];exact Nat.mod_lt _ (ω)
     have V5:=zH (show(((r.length-1-k+sN:Nat):Int)).tmod (r.length:Int)=((jN:Nat):Int)from by rw[<-C8];rfl);obtain⟨p,B4⟩:∃p,r[jN]?=some p:=⟨_,aQQ P4⟩;have HP:=zH B4;have L6:=zH (Bg (Uz C3 B4) HB.1.ext);have U5:=zH (turn_take (c:=c) C0 (by rw[F6,C8];exact B4));clear C3 B4 B7 C8;go_upto_region 22 with fail
     apply wl;apply zp (.bool true) (by exact Eg (e:=(Ar ω)));go_upto_region 23 with fail;apply wl;refine Cc Ah (iV (k:Int)) (iV (k:Int)) ?_;go_upto_region 24 with fail;refine wp_region_held_drew (S:=fun x=>Fr (fun kz=>Value.ownBlock (.slice A5 k c5)=some kz) A2 x) kR (Fr.of_ext zb) (fun _=> ?_);have O5:=zH (A3.1.step (Aa.refl A2).drew);have O9:=zH (Af.of_ext (w:=A2) zb);refine zx 0 (bs 24 1) (.slice A5 k c5) (Fr.of_ext zb) ?_;refine zx 1 (bs 24 3) (.slice (some ⟨g,A6,none⟩) rs.length cap) (Fr.of_ext zb) ?_;refine zx 2 (bs 24 7) (iV (i:Int)) (Fr.of_ext zb) ?_;refine zu 3 (bs 24 15) (v:= .pointer (some ⟨g,A6+i,none⟩)) (Fr.of_ext zb) ?_ (hv:=by intro w C6;exact Iu (k:=i) underlying22 (l:=C7) (f:=(show A6+i=A6+i*1 by omega)));refine Dt (g:=g) (o:=A6+i) (v:= .slice (some ⟨gr,D8,none⟩) r.length cb) (i:=4) (listed':=(bs 24 31)) rR kR kR kR (by intro _ _ _ h;exact h) rR (fun x hx=>Aa.get (Fr.base hx A3.1 (fun kz hk=>A3.1.ge (i:=0) rR (show De.own (.row 41 2 (.slice A5 k c5) (k) (List.flatMap Np qs))=some kz from hk))) (show World.cell? A1 ⟨g,A6+i,none⟩=some (.slice (some ⟨gr,D8,none⟩) r.length cb)from Ae (Fp P9.1))) (by intro x hq;go_simp<;>with_reducible rfl) (Fr.of_ext zb) kR ?_;try simp only[ζ]
     refine zx 5 (bs 24 63) (iV ((r.length:Nat):Int)) (Fr.of_ext zb) ?_;refine zu 6 (bs 24 127) (v:= iV (((r.length-1):Nat):Int)) (Fr.of_ext zb) ?_ (hv:=by intro w C6;exact bK rR rR rR ω ω ω);refine zx 7 (bs 24 255) (iV (k:Int)) (Fr.of_ext zb) ?_;refine zu 8 (bs 24 511) (v:= iV (((r.length-1-k):Nat):Int)) (Fr.of_ext zb) ?_ (hv:=by intro w C6;exact bK rR rR rR ω ω ω);refine zx 9 (bs 24 1023) (.pointer (some ⟨X1,2,none⟩)) (Fr.of_ext zb) ?_;refine Dt (g:=X1) (o:=2) (v:= iV c) (i:=10) (listed':=(bs 24 2047)) rR kR kR kR (by intro _ _ _ h;exact h) rR (fun x hx=>Aa.get (Fr.base hx A3.1 (fun kz hk=>A3.1.ge (i:=0) rR (show De.own (.row 41 2 (.slice A5 k c5) (k) (List.flatMap Np qs))=some kz from hk))) (show World.cell? A1 ⟨X1,2,none⟩=some (iV c)from Ae (Va W1.1 2 1))) (by intro x hq;go_simp<;>with_reducible rfl) (Fr.of_ext zb) kR ?_;try simp only[ζ]
     refine zu 11 (bs 24 4095) (v:= .int .u64 (IntKind.u64.wrap c)) (Fr.of_ext zb) ?_ (hv:=by intro w C6;exact ev_toU rR rR rfl);refine zx 12 (bs 24 8191) (iV ((r.length:Nat):Int)) (Fr.of_ext zb) ?_;refine zu 13 (bs 24 16383) (v:= .int .u64 ((r.length:Nat):Int)) (Fr.of_ext zb) ?_ (hv:=by intro w C6;exact ev_toU rR rR (by rw[IntKind.wrap_u64];omega));refine zu 14 (bs 24 32767) (v:= .int .u64 ((sN:Nat):Int)) (Fr.of_ext zb) ?_ (hv:=by intro w C6;exact ev_remU rR rR rR ω U6.1);refine zu 15 (bs 24 65535) (v:= iV (sN:Int)) (Fr.of_ext zb) ?_ (hv:=by intro w C6;exact ev_ofU rR rR (by rw[IntKind.wrap_i64];omega));refine zu 16 (bs 24 131071) (v:= iV (((r.length-1-k+sN):Nat):Int)) (Fr.of_ext zb) ?_ (hv:=by intro w C6;exact uH rR rR rR ω ω ω);refine zx 17 (bs 24 262143) (iV ((r.length:Nat):Int)) (Fr.of_ext zb) ?_;refine zu 18 (bs 24 524287) (v:= iV (jN:Int)) (Fr.of_ext zb) ?_ (hv:=by intro w C6;exact ev_remC rR rR rR ω V5.1);refine zo 19 (bs 24 1048575) (v:= .pointer (some ⟨gr,D8+jN*2,none⟩)) (Fr.of_ext zb) ?_ (hv:=by intro w C6;exact Iu (k:=jN) underlying39 (l:=P4) (f:=rfl));refine zr 20 (bs 24 2097151) gr (D8+jN*2) [iV p.1,iV p.2] (fun x hx=>Bg (show World.rangeAt A1 gr (D8+jN*2) [iV p.1,iV p.2]from L6.1) (Fr.base hx A3.1 (fun kz hk=>A3.1.ge (i:=0) rR (show De.own (.row 41 2 (.slice A5 k c5) (k) (List.flatMap Np qs))=some kz from hk)))) underlying41 (Fr.of_ext zb) ?_;refine mU 21 (bs 24 4194303) (v:= .slice (some ⟨A2.drew.heap.size,0,none⟩) 1 1) (w':=(A2.drew.alloc (.cells ([iV p.1,iV p.2]:List Value).toArray 41))) ((Fr.of_ext zb).trans (Fr.of_ext ((Aa.refl A2.drew).alloc _))) ?_;try simp only[ζ]
     refine aW (j:=22) (listed':=(bs 24 8388607)) rR kR rR _ _ _ rR Tt rR O5.1 (ix:=0) rR 1 1 [iV p.1,iV p.2] rR rfl (by simp[Value.oneCell']) (by simp[Aq]) dC (by unfold maxLen;exact ω) ω kR ?_;intro G0 E1 F5 hf hh hd hg;have R1:=zH hf;clear hf;rw[show List.flatMap Np qs++[iV p.1,iV p.2]=_ from Ez Np _ (p.1,p.2)]at hh;have O4:=hN hh;have O8:=zH (show Af A2.drew F5 from hd);have G5:=zH (show Fr (fun kz=>Value.ownBlock (.slice A5 k c5)=some kz) A2 F5 from Fr.trans_new ((Fr.of_ext zb).trans (Fr.of_ext (An.alloc _))) hg (fun j hj=> .inl hj));clear hh hd hg;refine⟨G5.1,?_⟩;try simp only[ζ]
     refine zx 23 (bs 24 16777215) (.slice (some ⟨G0,0,none⟩) (k+1) E1) G5.1 ?_;refine wpAnyH_done kR ?_ _;go_upto_region 25 with fail;apply wl;apply zp (iV ((k+1:Nat):Int)) (by exact He ω);apply zq (iV ((k+1:Nat):Int));have H6:=tD (tD P0 O9) O8;go_wp2_with fail
     go_roundg (r.length-(k+1))
     case measure=>exact(ω)
     case rel=>exact⟨k+1,some ⟨G0,0,none⟩,E1,qs++[(p.1,p.2)],rfl,rfl,(by go_num),C0,(by rw[Q0.1,U5.1]),O4.1,H6.1⟩
    have C0:=HLU.1;have U0:=L9.1;obtain rfl:k=r.length:=ω
    go_upto_region 22 with fail;apply wl;apply zp (.bool false) (by exact Eg (e:=(Al (Int.lt_irrefl _))));have P3:=Q0.1;have K0:qs=Lu (trnS c r) r:=by rw[P3];exact cQQ (by rw[(Jc _ r).length_eq];exact Ck _)
    have K1:qs.length=r.length:=by rw[K0,(Jc _ r).length_eq]
    have U8:=zH K0;have U7:=zH (show(⟨A5,c5,qs⟩:Nx).Ok w.heap.size A2 from by have h_:=Be.lowA (A3.1.row (i:=0) (by rfl)) HB.1.ext.size;rw[<-K1]at h_;exact h_);have K9:=zH (HB.1.step A3.1.ext);have V7:=zH (fun o_ ho_=>(G8.1 o_ ho_).ext A3.1.ext);have W0:=zH (Af.of_ext A3.1.ext);clear P3 K0;rw[<-K1];clear K1;go_upto_region 26 with fail
    apply wl;refine Cc Ah _ _ ?_;refine zp (w':=(A2.alloc (.cells ([.slice A5 qs.length c5]:List Value).toArray 39))) (.slice (some ⟨A2.heap.size,0,none⟩) 1 1) (by go_simp) ?_;refine Oh rR _ _ _ rR aAH rR K9.1 (ix:=2) rR 1 1 [.slice A5 qs.length c5] rR rfl (by simp[Value.oneCell']) (by simp[Aq]) dC (by unfold maxLen;exact ω) ω ?_;intro F9 E0 J0 hf hh hd hg;have R0:=zH hf;clear hf;rw[show List.flatMap Nx.cells os++[.slice A5 qs.length c5]=_ from Ez Nx.cells _ (⟨A5,c5,qs⟩:Nx)]at hh;have O3:=hN hh;have O7:=zH (hd);have G6:=zH (show Fr (fun kz=>Value.ownBlock (.slice A4 i c4)=some kz) A2 J0 from((Fr.of_ext (G:=fun kz=>Value.ownBlock (.slice A4 i c4)=some kz) (Aa.refl A2)).trans (Fr.of_ext (An.alloc _))).trans_new hg (fun j hj=> .inl hj));clear hh hd hg;try simp only[ζ]
    apply zq (.slice (some ⟨F9,0,none⟩) (i+1) E0);go_upto_region 27 with fail;apply wl;apply zp (iV ((i+1:Nat):Int)) (by exact He ω);apply zq (iV ((i+1:Nat):Int));go_wp2_with fail;go_roundg (rs.length-(i+1))
    case measure=>exact(ω)
    case rel=>exact⟨i+1,some ⟨F9,0,none⟩,E0,os++[(⟨A5,c5,qs⟩:Nx)],rfl,rfl,(by go_num),C7,(by rw[fXX,Q1.1,take_map_succA D0.1,<-U8.1];rfl),(by rw[aXX,Q2.1];rfl),(fun o_ ho_=>(List.mem_append.1 ho_).elim (fun h_=>(V7.1 o_ h_).fr K9.1 (ix:=2) (by rfl) G6.1) (fun h_=>by rw[List.mem_singleton.1 h_];exact U7.1.fr K9.1 (ix:=2) (by rfl) G6.1)),O3.1,((P1.1).trans (W0.1.trans O7.1))⟩
   have C7:=HLT.1;have U1:=M0.1;obtain rfl:i=rs.length:=ω
   go_upto_region 17 with fail;apply wl;apply zp (.bool false) (by exact Eg (e:=(Al (Int.lt_irrefl _))));have K2:=Q2.1;have V3:=zH (show os.map Nx.l=turnC c rs from by rw[Q1.1,lXX];rfl);have I1:=zH (show(turnC c rs).length=rs.length from by unfold turnC;rw[dZZ]);have Q3:=zH (show Cm A1 (.slice A4 (turnC c rs).length c4) (turnC c rs)from by have h_:=B3.1.row (i:=2) (by rfl);rw[<-K2]at h_;have B0:=Uv h_ G8.1;rw[V3.1,K2,<-I1.1]at B0;exact B0);have Q5:=zH (show(turnC c rs).length<=1048576 from by rw[I1.1];exact HN.1);have Q4:=zH (show∀r,r∈turnC c rs->r.length<=1048576 from fun r_ hr_=>by obtain⟨F0,F8,rfl⟩:=List.mem_map.1 hr_;rw[(Jc _ F0).length_eq];exact B6.1 F0 F8);clear K2;have HB:=B3;have G7:=zH (HU.1.ext B3.1.ext);have I3:=zH (show World.rangeAt A1 X8 0 [iV 0,iV 0,iV 4,iV 4]from B3.1.range (i:=1) (by rfl) 0 4);have E2:=zH (Hp.start A1);have L4:=zH (mskE_same (rule:=rule) (rs:=rs) (rt:=Kp (xp*256,yp*256) rs) (q:=qA) (q':=qT xp yp) (P6.1.trans HV.1.symm) (by decide) (qT_can ω ω).2 (by decide) (by rw[qT_area ω ω];decide));have L3:=zH (mskE_same (rule:=rule) (rs:=rs) (rt:=turnC c rs) (q:=qA) (q':=qA) turnC_ok (by decide) (by decide) (by decide) (by decide));have U9:=zH (show Gs rule rs qA=Gs rule rs qA from rfl);rcases Cy (Gs rule rs qA=0)with HE1|HE1
   ·have V9:=zH (L4.1.trans HE1.1)
    have V8:=zH (L3.1.trans HE1.1);go_upto_region 28 with fail;apply wl;refine Cc Ah _ (iV rule) ?_;refine zd X8 (0) [iV 0,iV 0,iV 4,iV 4] (Bg I3.1 E2.1.ext) underlying26 ?_;refine zc ((Ge A cap rs rule qA _ (G7.1.ext E2.1.ext) HN.1 B6.1 (fun _ _=>F2.1) F3.1).mono (fun _ _ h_=>Fz.ok h_ HE1.1)) ?_;rintro e I9 ⟨B9,F1,B8,K4,rfl,B5,A0,B0,F7,hx⟩;have V2:=zH B5;have G9:=zH B0;have O2:=zH (show Hp A1 I9 [ro 5 1 B9 F1 B8 Bp K4]from E2.1.addRow hx A0);clear A0 B5 B0 F7 hx;refine zn ?_;refine Dv Ah _ _ _ ?_;apply Cn 49 [iV 0,iV 0,iV 0,iV 0,.slice none 0 0] O2.1;intro G4 T5 O1 _;apply Dc 1 [iV qA.can.x0,iV qA.can.y0,iV qA.can.x1,iV qA.can.y1,.slice B9 F1 B8] O1.1;intro T4 H4 _;apply zq (iV 0);have L1:=zH (show∀r,r∈Kp (xp*256,yp*256) rs->r.length<=1048576 from fun r_ hr_=>by obtain⟨F0,F8,rfl⟩:=List.mem_map.1 hr_;rw[dZZ];exact B6.1 F0 F8);go_upto_region 29 with fail
    apply wl;refine Cc Ah _ (iV xp) ?_;apply zp (iV (xp*256)) (by exact Rr rR rR rR (Int.mul_comm _ _) ω ω);apply zq (iV yp);apply zp (iV (yp*256)) (by exact Rr rR rR rR (Int.mul_comm _ _) ω ω);refine Cs Ah _ ?_;refine zc (Lv A cap rs (xp*256,yp*256) _ (G7.1.ext H4.1.ext) HN.1 B6.1 HV.1 (by show Dh _ _=true;rw[Pv];dsimp only;omega)) ?_;rintro e T3 ⟨At,ct,rfl,C2,hx⟩;have O0:=zH (H4.1.step hx);have L0:=zH C2;clear C2 hx;refine zn ?_;refine Fg Ah (iV rule) (iV xp) (iV yp) (iV xp) ?_;apply zp (iV (xp+4)) (by exact He ω);apply zq (iV yp);apply zp (iV (yp+4)) (by exact He ω);apply qV (.agg #[iV xp,iV yp,iV (xp+4),iV (yp+4)]);refine zc ((Ge At ct (Kp (xp*256,yp*256) rs) rule (qT xp yp) _ L0.1 (by unfold Kp;rw[dZZ];exact HN.1) L1.1 (fun _ _=>by rw[trR_tot];exact F2.1) F3.1).mono (fun _ _ h_=>Fz.ok h_ V9.1)) ?_;rintro e I8 ⟨D2,I0,C9,P5,rfl,B5,A0,B0,F7,hx⟩;have V1:=zH B5;have L8:=zH B0;have N9:=zH (show Hp A1 I8 [ro 5 1 B9 F1 B8 Bp K4,.blk G4 49 [iV qA.can.x0,iV qA.can.y0,iV qA.can.x1,iV qA.can.y1,.slice B9 F1 B8],ro 5 1 D2 I0 C9 Bp P5]from O0.1.addRow hx A0);clear A0 B5 B0 F7 hx;refine zn ?_;refine Dv Ah _ _ _ ?_;apply Cn 49 [iV 0,iV 0,iV 0,iV 0,.slice none 0 0] N9.1;intro K7 T2 N8 _;apply Dc 3 [iV ((qT xp yp).can.x0),iV ((qT xp yp).can.y0),iV ((qT xp yp).can.x1),iV ((qT xp yp).can.y1),.slice D2 I0 C9] N8.1;intro T1 E8 _;apply zq (iV 0);go_upto_region 30 with fail
    apply wl;refine Cc Ah _ (iV rule) ?_;refine zd X8 (0) [iV 0,iV 0,iV 4,iV 4] (Bg I3.1 E8.1.ext) underlying26 ?_;refine zc ((calls_lenM I1.1 (Ge A4 c4 (turnC c rs) rule qA _ (Q3.1.ext E8.1.ext) Q5.1 Q4.1 (fun _ _=>by rw[turnC_tot];exact F2.1) F3.1)).mono (fun _ _ h_=>Fz.ok h_ V8.1)) ?_;rintro e I7 ⟨H9,P2,G2,G1,rfl,B5,A0,B0,F7,hx⟩;have V0:=zH B5;have L7:=zH B0;have N7:=zH (show Hp A1 I7 [ro 5 1 B9 F1 B8 Bp K4,.blk G4 49 [iV qA.can.x0,iV qA.can.y0,iV qA.can.x1,iV qA.can.y1,.slice B9 F1 B8],ro 5 1 D2 I0 C9 Bp P5,.blk K7 49 [iV ((qT xp yp).can.x0),iV ((qT xp yp).can.y0),iV ((qT xp yp).can.x1),iV ((qT xp yp).can.y1),.slice D2 I0 C9],ro 5 1 H9 P2 G2 Bp G1]from E8.1.addRow hx A0);clear A0 B5 B0 F7 hx;refine zn ?_;refine Dv Ah _ _ _ ?_;apply Cn 49 [iV 0,iV 0,iV 0,iV 0,.slice none 0 0] N7.1;intro U4 S9 N6 _;apply Dc 5 [iV qA.can.x0,iV qA.can.y0,iV qA.can.x1,iV qA.can.y1,.slice H9 P2 G2] N6.1;intro S8 A9 _;apply zq (iV 0);have P8:=zH (msk_tr HV.1 P6.1 ω ω G9.1 (by have h_:=L8.1;rw[(qT_can (x:=xp) (y:=yp) ω ω).1]at h_;exact h_));have P7:=zH (La.ext (L7.1.congr fun x_ y_ _=>uW (rC (fun r=>trnS c r) rs) rule x_ y_) G9.1 (by decide) (by decide));have B7:=P8.1;have J8:=P7.1;subst B7;subst J8;clear P8 P7;go_upto_region 31 with fail
    apply wl;refine Cc A9.1 _ _ ?_;apply zp (.string (strOfNums G1)) (by exact Km rR rR (A9.1.row (i:=0) rR) rfl);refine Cc A9.1 _ _ ?_;apply zp (.string (strOfNums G1)) (by exact Km rR rR (A9.1.row (i:=2) rR) rfl);apply zp (.bool true) (by exact Qf rR rR rR (by simp));refine Dv Ah (.bool true) _ _ ?_;apply zp (.bool true) (by exact Xi (e:=(Ar rfl)));refine Fg A9.1 (.bool true) (.bool true) _ _ ?_;apply zp (.string (strOfNums G1)) (by exact Km rR rR (A9.1.row (i:=0) rR) rfl);refine Cc A9.1 _ _ ?_;apply zp (.string (strOfNums G1)) (by exact Km rR rR (A9.1.row (i:=4) rR) rfl);apply zp (.bool true) (by exact Qf rR rR rR (by simp));refine Fg Ah (.bool true) (.bool true) _ _ ?_;apply zp (.bool true) (by exact Xi (e:=(Ar rfl)));refine Cc Ah (.bool true) (.bool true) ?_;refine aC A9.1 (Fs _) ?_;intro S7 N5 _;refine Cc Ah (.bool true) (.bool true) ?_;go_wp2_with fail;go_ret;exact⟨rfl,HB.1.ext.trans N5.1.ext⟩
   have M1:=HE1;have W3:=zH (show Gs rule (Kp (xp*256,yp*256) rs) (qT xp yp)≠0 from fun h_=>M1.1 (L4.1.symm.trans h_));have W2:=zH (show Gs rule (turnC c rs) qA≠0 from fun h_=>M1.1 (L3.1.symm.trans h_));go_upto_region 28 with fail
   apply wl;refine Cc Ah _ (iV rule) ?_;refine zd X8 (0) [iV 0,iV 0,iV 4,iV 4] (Bg I3.1 E2.1.ext) underlying26 ?_;refine zc ((Ge A cap rs rule qA _ (G7.1.ext E2.1.ext) HN.1 B6.1 (fun _ _=>F2.1) F3.1).mono (fun _ _ h_=>U9.1▸Fz.bad h_ M1.1)) ?_;rintro e I6 ⟨B9,B8,rfl,A0,hx⟩;have N4:=zH (show Hp A1 I6 [ro 5 1 B9 0 B8 Bp ([])]from E2.1.addRow hx A0);clear A0 hx;refine zn ?_;refine Dv Ah _ _ (iV (Gs rule rs qA)) ?_;apply Cn 49 [iV 0,iV 0,iV 0,iV 0,.slice none 0 0] N4.1;intro G3 S6 N3 _;apply Dc 1 [iV 0,iV 0,iV 0,iV 0,.slice B9 0 B8] N3.1;intro S5 H2 _;apply zq (iV (Gs rule rs qA));have L1:=zH (show∀r,r∈Kp (xp*256,yp*256) rs->r.length<=1048576 from fun r_ hr_=>by obtain⟨F0,F8,rfl⟩:=List.mem_map.1 hr_;rw[dZZ];exact B6.1 F0 F8);go_upto_region 29 with fail
   apply wl;refine Cc Ah _ (iV xp) ?_;apply zp (iV (xp*256)) (by exact Rr rR rR rR (Int.mul_comm _ _) ω ω);apply zq (iV yp);apply zp (iV (yp*256)) (by exact Rr rR rR rR (Int.mul_comm _ _) ω ω);refine Cs Ah _ ?_;refine zc (Lv A cap rs (xp*256,yp*256) _ (G7.1.ext H2.1.ext) HN.1 B6.1 HV.1 (by show Dh _ _=true;rw[Pv];dsimp only;omega)) ?_;rintro e S4 ⟨At,ct,rfl,C2,hx⟩;have N2:=zH (H2.1.step hx);have L0:=zH C2;clear C2 hx;refine zn ?_;refine Fg Ah (iV rule) (iV xp) (iV yp) (iV xp) ?_;apply zp (iV (xp+4)) (by exact He ω);apply zq (iV yp);apply zp (iV (yp+4)) (by exact He ω);apply qV (.agg #[iV xp,iV yp,iV (xp+4),iV (yp+4)]);refine zc ((Ge At ct (Kp (xp*256,yp*256) rs) rule (qT xp yp) _ L0.1 (by unfold Kp;rw[dZZ];exact HN.1) L1.1 (fun _ _=>by rw[trR_tot];exact F2.1) F3.1).mono (fun _ _ h_=>L4.1▸Fz.bad h_ W3.1)) ?_;rintro e I5 ⟨D2,C9,rfl,A0,hx⟩;have N1:=zH (show Hp A1 I5 [ro 5 1 B9 0 B8 Bp ([]),.blk G3 49 [iV 0,iV 0,iV 0,iV 0,.slice B9 0 B8],ro 5 1 D2 0 C9 Bp ([])]from N2.1.addRow hx A0);clear A0 hx;refine zn ?_;refine Dv Ah _ _ (iV (Gs rule rs qA)) ?_;apply Cn 49 [iV 0,iV 0,iV 0,iV 0,.slice none 0 0] N1.1;intro K6 S3 N0 _;apply Dc 3 [iV 0,iV 0,iV 0,iV 0,.slice D2 0 C9] N0.1;intro S2 E7 _;apply zq (iV (Gs rule rs qA));go_upto_region 30 with fail
   apply wl;refine Cc Ah _ (iV rule) ?_;refine zd X8 (0) [iV 0,iV 0,iV 4,iV 4] (Bg I3.1 E7.1.ext) underlying26 ?_;refine zc ((calls_lenM I1.1 (Ge A4 c4 (turnC c rs) rule qA _ (Q3.1.ext E7.1.ext) Q5.1 Q4.1 (fun _ _=>by rw[turnC_tot];exact F2.1) F3.1)).mono (fun _ _ h_=>L3.1▸Fz.bad h_ W2.1)) ?_;rintro e I4 ⟨H9,G2,rfl,A0,hx⟩;have M9:=zH (show Hp A1 I4 [ro 5 1 B9 0 B8 Bp ([]),.blk G3 49 [iV 0,iV 0,iV 0,iV 0,.slice B9 0 B8],ro 5 1 D2 0 C9 Bp ([]),.blk K6 49 [iV 0,iV 0,iV 0,iV 0,.slice D2 0 C9],ro 5 1 H9 0 G2 Bp ([])]from E7.1.addRow hx A0);clear A0 hx;refine zn ?_;refine Dv Ah _ _ (iV (Gs rule rs qA)) ?_;apply Cn 49 [iV 0,iV 0,iV 0,iV 0,.slice none 0 0] M9.1;intro U3 S1 M8 _;apply Dc 5 [iV 0,iV 0,iV 0,iV 0,.slice H9 0 G2] M8.1;intro S0 A8 _;apply zq (iV (Gs rule rs qA));go_upto_region 31 with fail
   apply wl;refine Cc A8.1 _ _ ?_;apply zp (.string (strOfNums [])) (by exact Km rR rR (A8.1.row (i:=0) rR) rfl);refine Cc A8.1 _ _ ?_;apply zp (.string (strOfNums [])) (by exact Km rR rR (A8.1.row (i:=2) rR) rfl);apply zp (.bool true) (by exact Qf rR rR rR (by simp));refine Dv Ah (.bool true) (iV (Gs rule rs qA)) (iV (Gs rule rs qA)) ?_;apply zp (.bool true) (by exact Xi (e:=(Ar rfl)));refine Fg A8.1 (.bool true) (.bool true) _ _ ?_;apply zp (.string (strOfNums [])) (by exact Km rR rR (A8.1.row (i:=0) rR) rfl);refine Cc A8.1 _ _ ?_;apply zp (.string (strOfNums [])) (by exact Km rR rR (A8.1.row (i:=4) rR) rfl);apply zp (.bool true) (by exact Qf rR rR rR (by simp));refine Fg Ah (.bool true) (.bool true) (iV (Gs rule rs qA)) (iV (Gs rule rs qA)) ?_;apply zp (.bool true) (by exact Xi (e:=(Ar rfl)));refine Cc Ah (.bool true) (.bool true) ?_;refine aC A8.1 (Fs _) ?_;intro R9 M7 _;refine Cc Ah (.bool true) (.bool true) ?_;go_wp2_with fail;go_ret;exact⟨rfl,HB.1.ext.trans M7.1.ext⟩
  go_upto_region 2 with fail;apply wl;refine Cc D1.1 _ _ ?_;refine aC D1.1 ((Mk A cap rs qA _ (HU.1.ext D1.1.ext) HN.1 B6.1).mono fun _ _ h_=>(⟨h_.1.trans (by rw[HLG.1]),h_.2⟩:_=Ending.returned (.bool true)/\Aa _ _)) ?_;intro R8 H1 _;refine Dv Ah (.bool false) (.bool false) _ ?_;refine zc (Gl _ rs _ (HU.1.ext H1.1.ext) HN.1 B6.1) ?_;rintro e R7 ⟨rfl,hx⟩;have M6:=zH (H1.1.step hx);clear hx;refine⟨.bool false,by rw[Bool.eq_false_iff.2 HV.1],?_⟩;try simp only[ζ]
  refine Cc Ah (.bool true) (.bool true) ?_;go_upto_region 3 with fail;apply wl;refine aC M6.1 (Fs _) ?_;intro R6 M5 _;apply zq (.bool true);go_wp2_with fail;go_ret;exact⟨rfl,M5.1.ext⟩
 have V4:=zH (Bool.eq_false_iff.2 HLG.1);go_upto_region 2 with fail;apply wl;refine Cc D1.1 _ _ ?_;refine aC D1.1 ((Mk A cap rs qA _ (HU.1.ext D1.1.ext) HN.1 B6.1).mono fun _ _ h_=>(⟨h_.1.trans (by rw[V4.1]),h_.2⟩:_=Ending.returned (.bool false)/\Aa _ _)) ?_;intro R5 M4 _;refine Ta Ah (.bool true) (.bool true) _ _ _ (.bool true) ?_;go_upto_region 3 with fail;apply wl;refine aC M4.1 (Fs _) ?_;intro R3 M3 _;apply zq (.bool true);go_wp2_with fail;go_ret;exact⟨rfl,M3.1.ext⟩
end trllaw
end
end Go.Proofs.YtlipfipniibpoacGreat
