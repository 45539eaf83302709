import Derived.Laws.BytesArg
import Derived.Test.YtlipfipniibpoaaGreatRows
import Derived.ProofKit
import Derived.OpenShut
import Derived.Below
import Derived.Deep.Slices
import Derived.Lib.SmallJoins
import Derived.ChangeSlices
import Derived.Test.YtlipfipniibpoaaGreatM8
set_option maxRecDepth 100000
set_option maxHeartbeats 4000000
namespace Go.Proofs.YtlipfipniibpoaaGreat
open Go.RowKit
section
open Go.RowKit Go.Shelf
attribute [local go_sem] Oper.semAt_some
attribute [local go_sem ↓] Go.wp_at_zero Go.wp_at_succ Aj Ai
def zW (px py:Int)(Xp Xr Bs:Nat)(w W1:World)(pre:List Uj)(W:World):Prop:=
  ∃r:RV,Hp w W [.blk Xp 68 [iV px,iV py],.blk Xr 26 [.bool false,.slice none 0 0,.bool false,.slice none 0 0],.blk Bs 26 [.bool r.n,.slice r.p r.l r.c,.bool r.m,.slice r.p2 r.l2 r.c2]]/\Af W1 W/\r.Is W (Mp (px,py) (pre.map Subtype.val))/\W1.heap.size<=W.heap.size
theorem rF (px py:Int)(Xp Xr Bs:Nat)(w W1:World)(hw:w.heap.size<=W1.heap.size):OwnFrom W1.heap.size (zW px py Xp Xr Bs w W1):=by
  rintro s W W' row ⟨r,h1,h2,h3,h4⟩ hg hr;have d:Af W W':=Af.kept hg (fun k hk=>(hr k hk).2);exact⟨r,h1.kept hg (fun k hk=>⟨Ar hw (hr k hk).1,(hr k hk).2⟩),h2.trans d,h3.dig d,Ar h4 hg.size⟩
def zJ (Xp Xr Bs:Nat)(W1:World)(x:Uj)(a':Act)(W:World):Prop:=
  ∃(J:Nat->Value) (Xa Xb:Nat),Ad W Xa 52 ([iV x.1.1.1,iV x.1.1.2]:List Value).toArray/\Ad W Xb 52 ([iV x.1.2.1,iV x.1.2.2]:List Value).toArray/\Xa≠Xb/\W1.heap.size<=Xa/\W1.heap.size<=Xb/\a'={tmps:=#[J 0,J 1,.pointer (some ⟨Xp,0,none⟩),J 3,.pointer (some ⟨Xr,0,none⟩),.pointer (some ⟨Bs,0,none⟩),.pointer (some ⟨Xa,0,none⟩),.pointer (some ⟨Xb,0,none⟩),J 8,J 9,J 10,J 11,J 12,J 13,J 14,J 15,J 16,J 17,J 18,J 19,J 20,J 21,J 22,J 23,J 24,J 25,J 26,J 27,J 28,J 29,J 30,J 31,J 32,J 33,J 34,J 35,J 36,J 37,J 38,J 39,J 40,J 41,J 42,J 43,J 44,J 45],defers:=[]}
theorem rG (Xp Xr Bs:Nat)(W1:World)(x:Uj)(a':Act):OwnFrom W1.heap.size (fun(_:Unit) W=>zJ Xp Xr Bs W1 x a' W):=by
  rintro _ W W' row ⟨J,Xa,Xb,h1,h2,h3⟩ hg hr;exact⟨J,Xa,Xb,h1.kept hg (fun k hk=>(hr k hk).2),h2.kept hg (fun k hk=>(hr k hk).2),h3⟩
theorem vD {Xp Xr Bs Xa Xb:Nat}{W1 W:World}{x:Uj}{a':Act}(h1:Ad W Xa 52 ([iV x.1.1.1,iV x.1.1.2]:List Value).toArray)(h2:Ad W Xb 52 ([iV x.1.2.1,iV x.1.2.2]:List Value).toArray)(h3:Xa≠Xb)(h4:W1.heap.size<=Xa)(h5:W1.heap.size<=Xb)
    (h6:a'={tmps:=#[a'.tmps.getD 0 undef,a'.tmps.getD 1 undef,.pointer (some ⟨Xp,0,none⟩),a'.tmps.getD 3 undef,.pointer (some ⟨Xr,0,none⟩),.pointer (some ⟨Bs,0,none⟩),.pointer (some ⟨Xa,0,none⟩),.pointer (some ⟨Xb,0,none⟩),a'.tmps.getD 8 undef,a'.tmps.getD 9 undef,a'.tmps.getD 10 undef,a'.tmps.getD 11 undef,a'.tmps.getD 12 undef,a'.tmps.getD 13 undef,a'.tmps.getD 14 undef,a'.tmps.getD 15 undef,a'.tmps.getD 16 undef,a'.tmps.getD 17 undef,a'.tmps.getD 18 undef,a'.tmps.getD 19 undef,a'.tmps.getD 20 undef,a'.tmps.getD 21 undef,a'.tmps.getD 22 undef,a'.tmps.getD 23 undef,a'.tmps.getD 24 undef,a'.tmps.getD 25 undef,a'.tmps.getD 26 undef,a'.tmps.getD 27 undef,a'.tmps.getD 28 undef,a'.tmps.getD 29 undef,a'.tmps.getD 30 undef,a'.tmps.getD 31 undef,a'.tmps.getD 32 undef,a'.tmps.getD 33 undef,a'.tmps.getD 34 undef,a'.tmps.getD 35 undef,a'.tmps.getD 36 undef,a'.tmps.getD 37 undef,a'.tmps.getD 38 undef,a'.tmps.getD 39 undef,a'.tmps.getD 40 undef,a'.tmps.getD 41 undef,a'.tmps.getD 42 undef,a'.tmps.getD 43 undef,a'.tmps.getD 44 undef,a'.tmps.getD 45 undef],defers:=[]}):zJ Xp Xr Bs W1 x a' W:=⟨fun q=>a'.tmps.getD q undef,Xa,Xb,h1,h2,h3,h4,h5,h6⟩
theorem Pe (p:Int×Int)(l:List Dw)(e:Dw):Mp p (l++[e])=Sg p (Mp p l) e:=by unfold Mp;rw[List.foldl_append];rfl
theorem mD {rs:List Av}{p:Int×Int}(hp:(-1048576<=p.1/\p.1<=1048320)/\ -1048576<=p.2/\p.2<=1048320){l:List Uj}(h:l.length<=16):Nm.rl (Mp p (l.map Subtype.val))<=8018:=by
  have h1:=lR hp (l:=l.map Subtype.val) (s:=((0:Int):Rat)) (fun e he=>by obtain⟨x,_,rfl⟩:=List.mem_map.1 he;exact x.2);have h2:=Bk 0 (by omega) (by omega);rw[List.length_map]at h1;have h3:=Nat.mul_le_mul_right 501 h;unfold Mp;omega
theorem Zl (px py:Int)(u:Value)(rs:List Av)(w:World)(hu:Cu w u rs)(hn:rs.length<=1048576)(hr:∀r,r∈rs->r.length<=1048576)(hok:Ge rs=true)(htot:Gm rs<=16)(hp:(-1048576<=px/\px<=1048320)/\ -1048576<=py/\py<=1048320):
  Calls Tryz.prog 43 #[.agg #[iV px,iV py],u] w fun e w'=>∃r:RV,e= .returned (.agg #[.bool r.n,.slice r.p r.l r.c,.bool r.m,.slice r.p2 r.l2 r.c2])/\r.Is w' (Sf rs (px,py))/\Nm.rl (Sf rs (px,py))<=8030/\Aa w w':=by
 have HU:=zH hu;have HN:=zH hn;have HR:=zH hr;have HV:=zH hok;have N1:=zH htot;clear hu hr hok;refine(callsIn_wide (n:=4)).1 ?_;refine callsIn_of_wp_marks Tryz.func43 rfl trivial ?_ rfl;simp only[Tryz.ntmps43,List.size_toArray,List.length_cons,List.length_nil,Nat.reduceAdd,Nat.reduceSub,Array.replicate_succ,Array.replicate_zero,List.push_toArray,List.append_toArray,List.nil_append,List.cons_append];refine wpIn_wide.2 ?_;refine Go.Code.wp_mono Ka.m ?_;have H0:=zH (Hp.start w);go_upto_region 0 with fail
 refine wl ?_;refine Cm 68 [iV px,iV py] H0.1 ?_;intro X1 w2 H3 _;refine Cm 26 rz H3.1 ?_;intro X6 w7 H8 _;go_upto_region 1 with fail
 refine wl ?_;refine zc (Cx 0 _ (by omega) (by omega)) ?_;rintro e Q3 ⟨c_,rfl,A3,hx⟩;have O8:=zH (H8.1.step hx);obtain⟨H9,rfl,A2⟩:=A3;have M3:=zH A2;clear A2 hx;refine zn ?_;refine Cm 26 rz O8.1 ?_;intro A0 Q2 O7 P2;refine Cy 2 (rc H9) O7.1 ?_;intro Q1 F8 P1;go_upto_region 2 with fail
 refine wl ?_;refine qV (u) ?_;refine zc (Qa u rs _ (HU.1.ext F8.1.ext) HN.1 HR.1) ?_;rintro e A5 ⟨Bx,ve,rfl,I6,L5,B2,hR,hx⟩;have N7:=zH I6;have N6:=zH L5;have N5:=zH B2;rw[if_pos HV.1]at hR;have N2:=zH hR;clear I6 B2 hR;have J5:=zH (F8.1.step hx);have P0:=zH (Af.of_ext hx);clear hx;refine zn ?_;have Q6:=F8.1.lt (i:=2) (k:=A0) (by rfl) rfl;have N3:=zH (show Fq (fun k=>¬(fun k=>k=A0\/A5.heap.size<=k) k) A5 ve rs from N2.1.imp (fun k h hk=>by rcases hk with rfl|hk;omega;omega));have D4:=zH (show w.heap.size<=A5.heap.size from J5.1.ext.size);have L2:¬(fun k=>k=A0\/A5.heap.size<=k) Bx:=fun hk=>by have h1:=N7.1;have h9:=N6.1;rcases hk with hk|hk;omega;omega
 have J4:=zH (show(Cd rs).length<=16 from Ar (Ev rs) N1.1);go_wp2_with fail
 have G6:=tD (tD P2 P1) P0;refine wpIn_wide.1 (Na (n:=4) (by omega) (fun k=>k=A0\/A5.heap.size<=k) Bx ve rs rR N5.1 L2 N3.1 HN.1 HV.1 J4.1 (fun k h=> .inr h) (zW px py X1 X6 A0 w A5) (rF px py X1 X6 A0 w A5 D4.1) ⟨H9,J5.1,Af.refl _,(M3.1.dig G6.1),Cj _⟩ (zJ X1 X6 A0 A5) (rG X1 X6 A0 A5) ?assign ?body ?done);case assign=>
  intro l pre x W K hi hK;obtain⟨r,hh,hd,B0,B5⟩:=hi;have B8:=zH B5;have H0:=zH hh;have HK:=zH hK;have B9:=zH B0;have HD:=zH hd;clear B5 hh hK B0 hd;unfold Ib;simp only[zA,zB,zC];refine wpIn_seq ?_;refine Ab kR (fun⟨_,_,h⟩=>h) ?_;refine aA 52 [iV 0,iV 0] H0.1 ?_;intro I7 K6 O6 hx B1;have J2:=zH (show W.heap.size<=I7 from Ar (Fr.of_ext (G:=fun kz=>False) (Aa.refl W)).size B1);have K4:=zH (Af.of_ext hx);have N0:=zH (show Fr (fun kz=>False) W K6 from(Fr.of_ext (G:=fun kz=>False) (Aa.refl W)).trans (Fr.of_ext hx));clear hx B1;refine aS 3 [iV x.1.1.1,iV x.1.1.2] O6.1 ?_;intro Q0 O5 hd ho;have K3:=zH (hd);have J3:=zH (N0.1.trans_new ho (fun j hj=> .inr (by injection hj with hj;rw[<-hj];exact J2.1)));clear hd ho;refine Ab kR (fun⟨_,_,h⟩=>h) ?_;refine aA 52 [iV 0,iV 0] O5.1 ?_;intro Q8 P9 O4 hx B1;have J1:=zH (Ar J3.1.size B1);have K2:=zH (Af.of_ext hx);have M9:=zH (J3.1.trans (Fr.of_ext hx));clear hx B1;refine aS 4 [iV x.1.2.1,iV x.1.2.2] O4.1 ?_;intro P8 D5 hd ho;have K1:=zH (hd);have E8:=zH (M9.1.trans_new ho (fun j hj=> .inr (by injection hj with hj;rw[<-hj];exact J1.1)));clear hd ho;refine HK.1 _ _ (KeepsFrom.of_fr E8.1 (fun _ h=>h.elim)) (E8.1.imp (fun _ h=>h.elim)) ⟨r,D5.1.take 3,HD.1.trans (((K4.1.trans K3.1).trans K2.1).trans K1.1),B9.1.dig (((K4.1.trans K3.1).trans K2.1).trans K1.1),Ar B8.1 E8.1.size⟩ (vD (D5.1.blk (i:=3) rR) (D5.1.blk (i:=4) rR) ?_ (Ar B8.1 J2.1) (Ar B8.1 J1.1) rR);exact fun e=>D5.1.apart 3 4 _ _ (by rfl) (by rfl) (by decide) I7 (by rfl) (by rw[e];rfl)
 case body=>
  intro l pre ed a' W hi L4 L1;obtain⟨r,hh,hd,B0,B5⟩:=hi;obtain⟨J,Xa,Xb,I5,I4,I1,I3,C2,rfl⟩:=L4;have B8:=zH B5;have HD:=zH hd;have B9:=zH B0;have B3:=zH ed.2;have C7:=zH (mD (rs:=rs) (p:=(px,py)) hp (l:=pre) (by omega));have H0:=zH (show Hp w W [.blk X1 68 [iV px,iV py],.blk X6 26 rz,.blk A0 26 (rc r),.blk Xa 52 [iV ed.1.1.1,iV ed.1.1.2],.blk Xb 52 [iV ed.1.2.1,iV ed.1.2.2]]from hh.addTyp2 I5 I4 I1 (Ar D4.1 I3) (Ar D4.1 C2) (by simp[At]) (by simp[At]) (by simp[Dc.typ]));have B4:=zH (show Fr (fun kz=>kz=A0) W W from Fr.of_ext (Aa.refl W));clear hh hd B0 B5 I5 I4 I1 I3 C2;rcases Co (ed.1.1.2<ed.1.2.2)with H1|H1
  ·gi_upto_region 5 with fail
   refine Ab kR (fun⟨_,_,h⟩=>h) ?_;refine Ej H0.1 _ _ _ _ ?_;refine zp (.bool true) (by exact Dv (e:=(Ae H1.1))) ?_;refine zq (.bool true) ?_;refine wpList_nil ?_;gi_upto_region 6 with fail
   refine Dx (S:=fun x=>Fr (fun kz=>kz=A0) W x) kR kR (fun⟨_,_,h⟩=>h) (Fr.of_ext zb) (fun _=> ?_);have O3:=zH (H0.1.step (Aa.refl W).drew);have K0:=zH (Af.of_ext (w:=W) zb);have M8:=zH (B4.1.trans (Fr.of_ext (Aa.refl W).drew));refine mR 1 (bs 7 2) X1 (0) [iV px,iV py] (fun x hx=>Fr.range hx (show World.rangeAt W X1 (0) [iV px,iV py]from(H0.1.range (i:=0) rR 0 2)) (H0.1.offBlk (i:=0) (j:=2) rR rR dC rR)) Tryz.underlying68 (Fr.of_ext zb) ?_;refine mR 2 (bs 7 6) Xa (0) [iV ed.1.1.1,iV ed.1.1.2] (fun x hx=>Fr.range hx (show World.rangeAt W Xa (0) [iV ed.1.1.1,iV ed.1.1.2]from(H0.1.range (i:=3) rR 0 2)) (H0.1.offBlk (i:=3) (j:=2) rR rR dC rR)) Tryz.underlying52 (Fr.of_ext zb) ?_;refine zr 3 (bs 7 14) Xb (0) [iV ed.1.2.1,iV ed.1.2.2] (fun x hx=>Fr.range hx (show World.rangeAt W Xb (0) [iV ed.1.2.1,iV ed.1.2.2]from(H0.1.range (i:=4) rR 0 2)) (H0.1.offBlk (i:=4) (j:=2) rR rR dC rR)) Tryz.underlying52 (Fr.of_ext zb) ?_;refine Fd.go (j:=0) (dj:=some 21) (u:= .agg #[.bool r.n,.slice r.p r.l r.c,.bool r.m,.slice r.p2 r.l2 r.c2]) ?_;refine Hl (b:=W) (i:=4) (lj:=(bs 7 15)) (li:=(bs 7 30)) rR rR kR kR kR kR kR dC kR rR rR (fun x_ h_=>Fr.of_ext h_) (Aa.refl W).drew (fun x_ h_=>Je _ _ rR A0 (0) [.bool r.n,.slice r.p r.l r.c,.bool r.m,.slice r.p2 r.l2 r.c2] rR (Bu (show World.rangeAt W A0 (0) [.bool r.n,.slice r.p r.l r.c,.bool r.m,.slice r.p2 r.l2 r.c2]from H0.1.range (i:=2) rR 0 4) h_) Tryz.underlying26 rR kR) rR (by go_simp) kR (bD px py ed.1.1 ed.1.2 _ hp B3.1.1 B3.1.2) ?_;rintro e D7 ⟨Q5,rfl,A2,hx⟩;have O2:=zH (O3.1.step hx);have J9:=zH (show Af W.drew D7 from Af.of_ext hx);have M7:=zH (M8.1.trans (Fr.of_ext hx));have L7:=zH (show Aa W D7 from(Aa.refl W).drew.trans hx);have J0:=zH (show Fr (fun kz=>kz=A0) W D7 from(Fr.of_ext zb).trans (Fr.of_ext hx));have M2:=zH A2;have P4:=zH (Yg (p:=(px,py)) B3.1.1 B3.1.2 hp);clear A2;have C1:=hx;clear hx;refine⟨_,rfl,C1,?_⟩;try simp only[Act.put,zA,zB,zC]
   clear C1;refine My rR kR rR rR J0.1 (Je _ _ rR A0 (0) [.bool r.n,.slice r.p r.l r.c,.bool r.m,.slice r.p2 r.l2 r.c2] rR (Bu (show World.rangeAt W A0 (0) [.bool r.n,.slice r.p r.l r.c,.bool r.m,.slice r.p2 r.l2 r.c2]from H0.1.range (i:=2) rR 0 4) L7.1) Tryz.underlying26 rR kR) (show _=(bs 7 31)by kernel_rfl) ?_;try simp only[Act.put,zA,zB,zC]
   have G5:=tD K0 J9;refine mC 5 (bs 7 63) (jL (L:=60000) (RV.Is.nin (B9.1.dig G5.1) (Ar C7.1 (by omega))) (RV.Is.nin M2.1 (Ar P4.1 (by omega))) (by omega)) ?_;rintro e P7 ⟨c_,rfl,A3,hx⟩;have O1:=zH (O2.1.step hx);have O9:=zH (Af.of_ext hx);have M6:=zH (M7.1.trans (Fr.of_ext hx));have I9:=zH (J0.1.trans (Fr.of_ext hx));obtain⟨A8,rfl,A2⟩:=A3;have M1:=zH A2;clear A2 hx;refine zm I9.1 ?_;refine Ea (i:=6) (listed':=(bs 7 127)) rR kR rR kR _ _ _ rR O1.1 (ix:=2) rR 0 [.bool A8.n,.slice A8.p A8.l A8.c,.bool A8.m,.slice A8.p2 A8.l2 A8.c2] rR rR (by simp) kR (by simp[Value.oneCell']) (by simp[At]) ?_;intro P6 hh hd ho;have O0:=hN hh;have J8:=zH (hd);have E7:=zH (M6.1.trans_new ho (fun j hj=> .inl (by injection hj with hj;exact hj.symm)));have L8:=zH (Fr.trans_new I9.1 ho (fun j hj=> .inl (by simpa using hj.symm)));clear hh hd ho;refine⟨L8.1,?_⟩
   (try simp only[Act.put])
   refine wpAnyH_done kR ?_ _;gi_wp2
   exact⟨(KeepsFrom.of_fr E7.1 (fun k hk o ho=>H0.1.cells (i:=2) (by rfl) (by rw[hk];rfl) o ho)),(E7.1.imp (fun k hk=> .inl hk)),A8,O0.1.take 3,HD.1.trans (((K0.1.trans J9.1).trans O9.1).trans J8.1),(by rw[List.map_append,show[ed].map Subtype.val=[ed.1]from rfl,Pe,show Sg (px,py) (Mp (px,py) (pre.map Subtype.val)) ed.1=(Mp (px,py) (pre.map Subtype.val))+Hs (px,py) ed.1.1 ed.1.2 from if_pos H1.1];exact(M1.1.dig J8.1)),Ar B8.1 E7.1.size⟩
  gi_upto_region 5 with fail
  refine Ab kR (fun⟨_,_,h⟩=>h) ?_;refine Ej H0.1 _ _ _ _ ?_;refine zp (.bool false) (by exact Dv (e:=(Ah H1.1))) ?_;refine zq (.bool false) ?_;refine wpList_nil ?_;rcases Co (ed.1.2.2<ed.1.1.2)with H2|H2
  ·gi_upto_region 7 with fail
   refine Ab kR (fun⟨_,_,h⟩=>h) ?_;refine Ej H0.1 _ _ _ _ ?_;refine zp (.bool true) (by exact Tw (e:=(Ae H2.1))) ?_;refine zq (.bool true) ?_;refine wpList_nil ?_;gi_upto_region 8 with fail
   refine Dx (S:=fun x=>Fr (fun kz=>kz=A0) W x) kR kR (fun⟨_,_,h⟩=>h) (Fr.of_ext zb) (fun _=> ?_);have N9:=zH (H0.1.step (Aa.refl W).drew);have J7:=zH (Af.of_ext (w:=W) zb);have M5:=zH (B4.1.trans (Fr.of_ext (Aa.refl W).drew));refine mR 1 (bs 7 2) X1 (0) [iV px,iV py] (fun x hx=>Fr.range hx (show World.rangeAt W X1 (0) [iV px,iV py]from(H0.1.range (i:=0) rR 0 2)) (H0.1.offBlk (i:=0) (j:=2) rR rR dC rR)) Tryz.underlying68 (Fr.of_ext zb) ?_;refine mR 2 (bs 7 6) Xa (0) [iV ed.1.1.1,iV ed.1.1.2] (fun x hx=>Fr.range hx (show World.rangeAt W Xa (0) [iV ed.1.1.1,iV ed.1.1.2]from(H0.1.range (i:=3) rR 0 2)) (H0.1.offBlk (i:=3) (j:=2) rR rR dC rR)) Tryz.underlying52 (Fr.of_ext zb) ?_;refine zr 3 (bs 7 14) Xb (0) [iV ed.1.2.1,iV ed.1.2.2] (fun x hx=>Fr.range hx (show World.rangeAt W Xb (0) [iV ed.1.2.1,iV ed.1.2.2]from(H0.1.range (i:=4) rR 0 2)) (H0.1.offBlk (i:=4) (j:=2) rR rR dC rR)) Tryz.underlying52 (Fr.of_ext zb) ?_;refine Fd.go (j:=0) (dj:=some 33) (u:= .agg #[.bool r.n,.slice r.p r.l r.c,.bool r.m,.slice r.p2 r.l2 r.c2]) ?_;refine Hl (b:=W) (i:=4) (lj:=(bs 7 15)) (li:=(bs 7 30)) rR rR kR kR kR kR kR dC kR rR rR (fun x_ h_=>Fr.of_ext h_) (Aa.refl W).drew (fun x_ h_=>Je _ _ rR A0 (0) [.bool r.n,.slice r.p r.l r.c,.bool r.m,.slice r.p2 r.l2 r.c2] rR (Bu (show World.rangeAt W A0 (0) [.bool r.n,.slice r.p r.l r.c,.bool r.m,.slice r.p2 r.l2 r.c2]from H0.1.range (i:=2) rR 0 4) h_) Tryz.underlying26 rR kR) rR (by go_simp) kR (bD px py ed.1.1 ed.1.2 _ hp B3.1.1 B3.1.2) ?_;rintro e D6 ⟨Q4,rfl,A2,hx⟩;have N8:=zH (N9.1.step hx);have J6:=zH (show Af W.drew D6 from Af.of_ext hx);have M4:=zH (M5.1.trans (Fr.of_ext hx));have L6:=zH (show Aa W D6 from(Aa.refl W).drew.trans hx);have I8:=zH (show Fr (fun kz=>kz=A0) W D6 from(Fr.of_ext zb).trans (Fr.of_ext hx));have M0:=zH A2;have P3:=zH (Yg (p:=(px,py)) B3.1.1 B3.1.2 hp);clear A2;have C1:=hx;clear hx;refine⟨_,rfl,C1,?_⟩;try simp only[Act.put,zA,zB,zC]
   clear C1;refine My rR kR rR rR I8.1 (Je _ _ rR A0 (0) [.bool r.n,.slice r.p r.l r.c,.bool r.m,.slice r.p2 r.l2 r.c2] rR (Bu (show World.rangeAt W A0 (0) [.bool r.n,.slice r.p r.l r.c,.bool r.m,.slice r.p2 r.l2 r.c2]from H0.1.range (i:=2) rR 0 4) L6.1) Tryz.underlying26 rR kR) (show _=(bs 7 31)by kernel_rfl) ?_;try simp only[Act.put,zA,zB,zC]
   have G4:=tD J7 J6;refine mC 5 (bs 7 63) (aP (L:=60000) (RV.Is.nin (B9.1.dig G4.1) (Ar C7.1 (by omega))) (RV.Is.nin M0.1 (Ar P3.1 (by omega))) (by omega)) ?_;rintro e P5 ⟨c_,rfl,A3,hx⟩;have G3:=zH (N8.1.step hx);have H6:=zH (Af.of_ext hx);have F5:=zH (M4.1.trans (Fr.of_ext hx));have C6:=zH (I8.1.trans (Fr.of_ext hx));obtain⟨A7,rfl,A2⟩:=A3;have L9:=zH A2;clear A2 hx;refine zm C6.1 ?_;refine Ea (i:=6) (listed':=(bs 7 127)) rR kR rR kR _ _ _ rR G3.1 (ix:=2) rR 0 [.bool A7.n,.slice A7.p A7.l A7.c,.bool A7.m,.slice A7.p2 A7.l2 A7.c2] rR rR (by simp) kR (by simp[Value.oneCell']) (by simp[At]) ?_;intro K9 hh hd ho;have G2:=hN hh;have D3:=zH (hd);have B7:=zH (F5.1.trans_new ho (fun j hj=> .inl (by injection hj with hj;exact hj.symm)));have E3:=zH (Fr.trans_new C6.1 ho (fun j hj=> .inl (by simpa using hj.symm)));clear hh hd ho;refine⟨E3.1,?_⟩
   (try simp only[Act.put])
   refine wpAnyH_done kR ?_ _;gi_wp2
   exact⟨(KeepsFrom.of_fr B7.1 (fun k hk o ho=>H0.1.cells (i:=2) (by rfl) (by rw[hk];rfl) o ho)),(B7.1.imp (fun k hk=> .inl hk)),A7,G2.1.take 3,HD.1.trans (((J7.1.trans J6.1).trans H6.1).trans D3.1),(by rw[List.map_append,show[ed].map Subtype.val=[ed.1]from rfl,Pe,show Sg (px,py) (Mp (px,py) (pre.map Subtype.val)) ed.1=(Mp (px,py) (pre.map Subtype.val))-Hs (px,py) ed.1.1 ed.1.2 from(if_neg (fun h_=>by have E1:=H1.1;omega)).trans (if_pos H2.1)];exact(L9.1.dig D3.1)),Ar B8.1 B7.1.size⟩
  gi_upto_region 7 with fail
  refine Ab kR (fun⟨_,_,h⟩=>h) ?_;refine Ej H0.1 _ _ _ _ ?_;refine zp (.bool false) (by exact Tw (e:=(Ah H2.1))) ?_;refine zq (.bool false) ?_;refine wpList_nil ?_;gi_wp2
  exact⟨(KeepsFrom.of_fr B4.1 (fun k hk o ho=>H0.1.cells (i:=2) (by rfl) (by rw[hk];rfl) o ho)),(B4.1.imp (fun k hk=> .inl hk)),r,H0.1.take 3,HD.1.trans (Af.refl _),(by rw[List.map_append,show[ed].map Subtype.val=[ed.1]from rfl,Pe,show Sg (px,py) (Mp (px,py) (pre.map Subtype.val)) ed.1=(Mp (px,py) (pre.map Subtype.val))from(if_neg (fun h_=>by have E1:=H1.1;omega)).trans (if_neg (fun h_=>by have E1:=H2.1;omega))];exact B9.1),Ar B8.1 B4.1.size⟩
 rintro D xs W hD I0 ⟨r,hh,hd,B0,B5⟩ hK;have H0:=zH hh;have F7:=zH B0;have F6:=zH I0;have HD:=zH hK;have N4:=zH hD;have B9:=zH (show r.Is W (Mp (px,py) (Cd rs))from by rw[<-F6.1];exact F7.1);have C7:=zH (show Nm.rl (Mp (px,py) (Cd rs))<=8018 from by rw[<-F6.1];exact mD (rs:=rs) (p:=(px,py)) hp (by rw[<-List.length_map (f:=Subtype.val),F6.1];exact J4.1));clear hh hd B0 B5 I0 hK hD;have B4:=zH (show Fr (fun kz=>kz=X6) W W from Fr.of_ext (Aa.refl W));go_upto_region 9 with fail
 refine zy ?_;have C0:=zH (H0.1.step (Aa.refl W).drew);have H5:=zH (Af.of_ext (w:=W) zb);have F4:=zH (B4.1.trans (Fr.of_ext (Aa.refl W).drew));refine Rp H0.1 zb (bs 9 1) 0 _ ?_;refine gG 6 (some 8) 26 rz W C0.1 ?_;refine gL 1 (bs 9 65) (bs 9 3) zb.size C0.1 zb (fun xq A9=>Cx 65536 _ (by omega) (by omega)) (by rintro x_ e K5 ⟨c_,rfl,A3,hx⟩;exact hx) ?_;rintro xq e D9 A9 ⟨c_,rfl,A3,hx⟩;replace hx:=A9.trans hx;clear A9;have C9:=zH (C0.1.step hx);have H4:=zH (show Af W.drew D9 from Af.of_ext hx);have F3:=zH (F4.1.trans (Fr.of_ext hx));have B6:=zH (zb.trans hx);obtain⟨L0,rfl,A2⟩:=A3;have E5:=zH A2;have H7:=zH (Bk 65536 (by omega) (by omega));clear A2 hx;refine⟨_,rfl,?_⟩;try simp only[Act.put,zA,zB,zC]
 have D2:=tD H5 H4;refine gL 2 (bs 9 67) (bs 9 7) B6.1.size C9.1 B6.1 (fun xq A9=>xG (L:=60000) (RV.Is.nin (B9.1.dig (D2.1.trans (Af.of_ext A9))) (Ar C7.1 (by omega))) (RV.Is.nin (E5.1.dig (Af.of_ext A9)) (Ar H7.1 (by omega))) dC dC) (by rintro x_ e K5 ⟨c_,rfl,A3,hx⟩;exact hx) ?_;rintro xq e K8 A9 ⟨c_,rfl,A3,hx⟩;replace hx:=A9.trans hx;clear A9;have G1:=zH (C9.1.step hx);have F2:=zH (F3.1.trans (Fr.of_ext hx));have A4:=zH (B6.1.trans hx);obtain⟨A1,rfl,A2⟩:=A3;have E4:=zH A2;clear A2 hx;refine⟨_,rfl,?_⟩;try simp only[Act.put,zA,zB,zC]
 refine gK 3 (bs 9 71) (bs 9 15) _ A4.1 ?_;refine gK 4 (bs 9 79) (bs 9 31) _ A4.1 ?_;refine gK 5 (bs 9 95) (bs 9 63) (iV 0) A4.1 ?_;refine gE (bs 9 127) A4.1.size G1.1 A4.1 ?_;intro C4 D8 hx hh hs B1;have G0:=hN hh;have G9:=zH (Af.of_ext hx);have F1:=zH (F2.1.trans (Fr.of_ext hx));have E2:=zH (show Aa W D8 from hs);have D0:=zH (show W.heap.size<=C4 from B1);have E6:=zH (show W.heap.size<=C4 from Ar B4.1.size D0.1);clear hh hx B1 hs;try simp only[Act.put,zA,zB,zC]
 refine Ea (i:=7) (listed':=(bs 9 255)) rR kR rR kR _ _ _ rR G0.1 (ix:=3) rR 0 [.bool A1.n,.slice A1.p A1.l A1.c,.bool A1.m,.slice A1.p2 A1.l2 A1.c2] rR rR (by simp) kR (by simp[Value.oneCell']) (by simp[At]) ?_;intro K7 hh hd ho;have C8:=hN hh;have G8:=zH (hd);have F0:=zH (F1.1.trans_new ho (fun j hj=> .inr (by injection hj with hj;rw[<-hj];exact E6.1)));have C5:=zH (Ba.ext ho E2.1 D0.1);clear hh hd ho;refine⟨C5.1,?_⟩
 (try simp only[Act.put])
 refine zx 8 (bs 9 511) (iV 0) C5.1 ?_;refine wpAnyH_done kR ?_ _;go_upto_region 10 with fail
 refine wl ?_;refine Cs C8.1 _ ?_;refine aS 1 (rc A1) C8.1 ?_;intro A6 F9 hd ho;have G7:=zH (hd);have E9:=zH (F0.1.trans_new ho (fun j hj=> .inl (by injection hj with hj;exact hj.symm)));clear hd ho;have D1:=tD (tD G9 G8) G7;go_wp2_with fail
 have E0:A6.heap[D]?=some (.deferred (some [])):=(E9.1.block D (Array.getElem?_eq_some_iff.1 HD.1).1 (fun e=>by have h1:=H0.1.cells (i:=1) (k:=D) (by rfl) (by rw[e];rfl) _ HD.1;cases h1)).trans HD.1;refine⟨by simp,.inl ⟨_,_,rfl,run_takeDeferred E0,?_⟩⟩;have C3:=F9.1.kept (grownBy_putObj' A6 D (.deferred none)) (fun k hk=>by injection hk with hk;subst hk;exact⟨Ar D4.1 N4.1,_,E0,rfl⟩);have L3:Af A6 _:=Af.kept (grownBy_putObj' A6 D (.deferred none)) (fun k hk=>by injection hk with hk;subst hk;exact⟨_,E0,rfl⟩);refine⟨_,An rfl rfl ((C3.blk (i:=1) rR).loadVar rfl rfl rR),A1,rfl,(E4.1.dig D1.1).dig L3,?_,C3.ext⟩;exact Ar (Nm.rl_div _ _) (by have E1:=C7.1;have Q7:=Bk 65536 (by omega) (by omega);omega)
end
section
attribute [local go_sem ↓] Go.wp_at_zero Go.wp_at_succ Aj Ai
def aT (n:Int):Bool:=decide (n< -4096)||decide (4096<=n)
theorem Lh {n:Int}:aT n=true↔n< -4096\/4096<=n:=by unfold aT;simp
def mE (rs:List Av)(x y:Int):Int:=if Ge rs=true then(if aT x=true\/aT y=true then 6 else 0)else 12
theorem Lg (n:Int)(w:World):Calls Tryz.prog 42 #[iV n] w fun e w'=>e= .returned (.bool (aT n))/\Aa w w':=by
 go_enter Tryz.func42,Tryz.ntmps42
 have H0:=zH (Hp.start w);go_upto_region 0 with fail
 refine wl ?_;refine zq (.bool false) ?_;rcases Co (n< -4096)with H1|H1
 ·go_upto_region 1 with fail
  refine wl ?_;refine zq (iV n) ?_;refine zp (.bool true) (by exact Dv (e:=(Ae H1.1))) ?_;refine Kf Ac (.bool true) _ _ (.bool true) (.bool true) ?_;have HB:=zH (Lh.2 (.inl H1.1));go_wp2_with fail
  go_ret
  exact⟨by rw[HB.1]<;>rfl,H0.1.ext⟩
 rcases Co (4096<=n)with H2|H2
 ·go_upto_region 1 with fail
  refine wl ?_;refine zq (iV n) ?_;refine zp (.bool false) (by exact Dv (e:=(Ah H1.1))) ?_;refine Bq Ac (.bool false) (iV n) ?_;refine zp (.bool true) (by exact Jm (e:=(Ae H2.1))) ?_;refine Bq Ac (.bool true) (.bool true) ?_;have HB:=zH (Lh.2 (.inr H2.1));go_wp2_with fail
  go_ret
  exact⟨by rw[HB.1]<;>rfl,H0.1.ext⟩
 go_upto_region 1 with fail
 refine wl ?_;refine zq (iV n) ?_;refine zp (.bool false) (by exact Dv (e:=(Ah H1.1))) ?_;refine qV (.bool false) ?_;refine zq (iV n) ?_;refine zp (.bool false) (by exact Jm (e:=(Ah H2.1))) ?_;refine qV (.bool false) ?_;refine zq (.bool false) ?_;have HB:=zH (show aT n=false from Bool.eq_false_iff.2 (fun h_=>by have A2:=Lh.1 h_;have A1:=H1.1;have A0:=H2.1;omega));go_wp2_with fail
 go_ret
 exact⟨by rw[HB.1]<;>rfl,H0.1.ext⟩
theorem dK (A:Option Addr)(cap:Nat)(rs:List Av)(x y:Int)(w:World)(hu:Cu w (.slice A rs.length cap) rs)(hn:rs.length<=1048576)(hr:∀r,r∈rs->r.length<=1048576)(hs:Ge rs=true->Gm rs<=16)(hx: -9223372036854775808<=x/\x<=9223372036854775807)(hy: -9223372036854775808<=y/\y<=9223372036854775807):
  Calls Tryz.prog 11 #[.slice A rs.length cap,iV x,iV y] w (Uf 8030 (mE rs x y) (Sf rs (x*256,y*256)) w):=by
 have HU:=zH hu;have HN:=zH hn;have A4:=zH hr;clear hu hr;have A3:=zH hs;clear hs;go_enter Tryz.func11,Tryz.ntmps11
 have H0:=zH (Hp.start w);go_upto_region 0 with fail
 refine wl ?_;refine Cm 26 rz H0.1 ?_;intro D8 D4 A2 _;refine zq (iV 0) ?_;rcases Co (Ge rs=true)with HV|HV
 ·go_upto_region 1 with fail
  refine wl ?_;refine Cs Ac _ ?_;refine zc (Cc _ rs _ (HU.1.ext A2.1.ext) HN.1 A4.1) ?_;rintro e D3 ⟨rfl,hx⟩;have A5:=zH (A2.1.step hx);clear hx;refine⟨.bool true,by rw[HV.1],?_⟩;try simp only[Act.put,zA,zB,zC]
  refine zq (.bool false) ?_;go_upto_region 3 with fail
  refine wl ?_;refine Cs Ac _ ?_;rcases Co (aT x=true)with HX|HX
  ·go_upto_region 4 with fail
   refine wl ?_;refine Bq Ac _ (iV x) ?_;refine aC A5.1 ((Lg x _).mono fun _ _ h_=>(⟨h_.1.trans (by rw[HX.1]),h_.2⟩:_=Ending.returned (.bool true)/\Aa _ _)) ?_;intro D2 B9 _;refine Kf Ac (.bool true) _ _ _ (.bool true) ?_;go_upto_region 5 with fail
   refine wl ?_;refine zq (.agg z4) ?_;refine Cy 0 rz B9.1 ?_;intro D1 B1 _;refine zq (iV 6) ?_;have HE:=zH (show mE rs x y=6 from(if_pos HV.1).trans (if_pos (.inl HX.1)));go_wp2_with fail
   refine bodyPost_ret (v:= .tuple #[.agg z4,iV 6]) ?_ rfl ⟨RV.zero,by rw[HE.1]<;>rfl,fun h_=>absurd h_ (by rw[HE.1];decide),fun _=>rfl,B1.1.ext⟩;exact Aq rfl rfl ((B1.1.blk (i:=0) rR).loadVar rfl rfl rR) rfl
  have FX:=zH (Bool.eq_false_iff.2 HX.1);rcases Co (aT y=true)with HY|HY
  ·go_upto_region 4 with fail
   refine wl ?_;refine Bq Ac _ (iV x) ?_;refine aC A5.1 ((Lg x _).mono fun _ _ h_=>(⟨h_.1.trans (by rw[FX.1]),h_.2⟩:_=Ending.returned (.bool false)/\Aa _ _)) ?_;intro D0 B8 _;refine Dh Ac (.bool false) _ (iV y) ?_;refine aC B8.1 ((Lg y _).mono fun _ _ h_=>(⟨h_.1.trans (by rw[HY.1]),h_.2⟩:_=Ending.returned (.bool true)/\Aa _ _)) ?_;intro C9 B7 _;refine zq (.bool true) ?_;go_upto_region 5 with fail
   refine wl ?_;refine zq (.agg z4) ?_;refine Cy 0 rz B7.1 ?_;intro C8 B0 _;refine zq (iV 6) ?_;have HE:=zH (show mE rs x y=6 from(if_pos HV.1).trans (if_pos (.inr HY.1)));go_wp2_with fail
   refine bodyPost_ret (v:= .tuple #[.agg z4,iV 6]) ?_ rfl ⟨RV.zero,by rw[HE.1]<;>rfl,fun h_=>absurd h_ (by rw[HE.1];decide),fun _=>rfl,B0.1.ext⟩;exact Aq rfl rfl ((B0.1.blk (i:=0) rR).loadVar rfl rfl rR) rfl
  have FY:=zH (Bool.eq_false_iff.2 HY.1);have HP:=zH (show(-1048576<=x*256/\x*256<=1048320)/\ -1048576<=y*256/\y*256<=1048320 from by have D7:=mt Lh.2 HX.1;have D6:=mt Lh.2 HY.1;omega);have D5:=HP.1;go_upto_region 4 with fail
  refine wl ?_;refine Bq Ac _ (iV x) ?_;refine aC A5.1 ((Lg x _).mono fun _ _ h_=>(⟨h_.1.trans (by rw[FX.1]),h_.2⟩:_=Ending.returned (.bool false)/\Aa _ _)) ?_;intro C7 B6 _;refine Dh Ac (.bool false) _ (iV y) ?_;refine aC B6.1 ((Lg y _).mono fun _ _ h_=>(⟨h_.1.trans (by rw[FY.1]),h_.2⟩:_=Ending.returned (.bool false)/\Aa _ _)) ?_;intro C6 A9 _;refine zq (.bool false) ?_;go_upto_region 6 with fail
  refine wl ?_;refine zq (iV x) ?_;refine zp (iV (x*256)) (by exact eO (by omega)) ?_;refine zq (iV y) ?_;refine zp (iV (y*256)) (by exact eO (by omega)) ?_;refine Bq Ac _ _ ?_;refine zc (Zl (x*256) (y*256) _ rs _ (HU.1.ext A9.1.ext) HN.1 A4.1 HV.1 (A3.1 HV.1) HP.1) ?_;rintro e C5 ⟨A0,rfl,A6,A7,hx⟩;have B5:=zH (A9.1.step hx);have B2:=zH A6;have C1:=zH A7;clear A6 A7 hx;refine zn ?_;refine Cy 0 (rc A0) B5.1 ?_;intro C4 A8 C0;refine zq (iV 0) ?_;have HE:=zH (show mE rs x y=0 from(if_pos HV.1).trans (if_neg (fun h_=>h_.elim HX.1 HY.1)));go_wp2_with fail
  refine bodyPost_ret (v:= .tuple #[.agg #[.bool A0.n,.slice A0.p A0.l A0.c,.bool A0.m,.slice A0.p2 A0.l2 A0.c2],iV 0]) ?_ rfl ⟨A0,by rw[HE.1]<;>rfl,fun _=>⟨(B2.1.dig C0.1),C1.1⟩,fun h_=>absurd HE.1 h_,A8.1.ext⟩;exact Aq rfl rfl ((A8.1.blk (i:=0) rR).loadVar rfl rfl rR) rfl
 have B3:=zH (Bool.eq_false_iff.2 HV.1);go_upto_region 1 with fail
 refine wl ?_;refine Cs Ac _ ?_;refine zc (Cc _ rs _ (HU.1.ext A2.1.ext) HN.1 A4.1) ?_;rintro e C3 ⟨rfl,hx⟩;have B4:=zH (A2.1.step hx);clear hx;refine⟨.bool false,by rw[B3.1],?_⟩;try simp only[Act.put,zA,zB,zC]
 refine zq (.bool true) ?_;go_upto_region 2 with fail
 refine wl ?_;refine zq (.agg z4) ?_;refine Cy 0 rz B4.1 ?_;intro C2 A1 _;refine zq (iV 12) ?_;have HE:=zH (show mE rs x y=12 from if_neg HV.1);go_wp2_with fail
 refine bodyPost_ret (v:= .tuple #[.agg z4,iV 12]) ?_ rfl ⟨RV.zero,by rw[HE.1]<;>rfl,fun h_=>absurd h_ (by rw[HE.1];decide),fun _=>rfl,A1.1.ext⟩;exact Aq rfl rfl ((A1.1.blk (i:=0) rR).loadVar rfl rfl rR) rfl
end
section
open Go.RowKit Go.Shelf
attribute [local go_sem] Oper.semAt_some
attribute [local go_sem ↓] Go.wp_at_zero Go.wp_at_succ Aj Ai
def qJ (rs:List Av)(r:R4):Int:=if Ge rs=true then(if r.ok=true then(if r.area<=65536 then 0 else 5)else 6)else 12
def uE (rs:List Av)(x y:Int):Int:=Ls (Sf rs (x*256,y*256))
theorem Wf {α β:Type}{f:α->List β}{c:Nat}(h:∀x,(f x).length=c):∀{l:List α} {k j:Nat} {x:α} {y:β},l[k]?=some x->(f x)[j]?=some y->(l.flatMap f)[k*c+j]?=some y
  | [],k,j,x,y,h1,_=>by simp at h1
  | a::l,0,j,x,y,h1,h2=>by
    simp at h1;subst h1;rw[Nat.zero_mul,Nat.zero_add,List.flatMap_cons,List.getElem?_append_left (List.getElem?_eq_some_iff.1 h2).1];exact h2
  | a::l,k+1,j,x,y,h1,h2=>by
    have ih:=Wf h (l:=l) (k:=k) (by simpa using h1) h2;rw[List.flatMap_cons,List.getElem?_append_right (by rw[h,Nat.add_mul];omega),h,show(k+1)*c+j-c=k*c+j by rw[Nat.add_mul];omega];exact ih
theorem bI {p q n:Int}(h:p<=n)(k:n<q):(Gz p q)[(n-p).toNat]?=some n:=by
  unfold Gz;rw[List.getElem?_map,List.getElem?_range (by omega)];show some (p+(((n-p).toNat:Nat):Int))=some n;congr 1;omega
theorem nQ {q:R4}{x y:Int}(h:q.In x y):(Qv q)[q.at x y]?=some (x,y):=by
 have h1:=Wf (Xf q) (l:=Gz q.y0 q.y1) (k:=(y-q.y0).toNat) (j:=(x-q.x0).toNat) (x:=y) (y:=(x,y)) (bI h.1.1 h.1.2) (by
  unfold dO;rw[List.getElem?_map,bI h.2.1 h.2.2];rfl)
 rw[Ht]at h1;have e:q.at x y=(y-q.y0).toNat*(q.x1-q.x0).toNat+(x-q.x0).toNat:=by
  have e1:=Im h;obtain⟨⟨a,b⟩,c,d⟩:=h;have e2:(((y-q.y0).toNat:Nat):Int)=y-q.y0:=by omega
  have e3:(((q.x1-q.x0).toNat:Nat):Int)=q.x1-q.x0:=by omega
  have e4:(((x-q.x0).toNat:Nat):Int)=x-q.x0:=by omega
  have e5:(((y-q.y0).toNat*(q.x1-q.x0).toNat+(x-q.x0).toNat:Nat):Int)=(y-q.y0)*(q.x1-q.x0)+(x-q.x0):=by
   rw[Int.natCast_add,Int.natCast_mul,e2,e3,e4]
  omega
 rw[e];exact h1
theorem nP {q:R4}{v:Int->Int->Int}{es:List Int}(h:es=(Qv q).map fun p=>v p.1 p.2)(hx:q.x0<=q.x1)(hy:q.y0<=q.y1):Ke q v es:=by
  subst h;refine⟨?_,fun x y hi=>by rw[List.getElem?_map,nQ hi];rfl⟩;rw[List.length_map,Su,Ht,Ht,Int.natCast_mul,Int.mul_comm];congr 1<;>omega
def aAB (Bl Br Bz Bm:Nat)(A0:Option Addr)(n0 c0:Nat)(q qr:R4)(rs:List Av)(w W1:World)(pre:List fE)(W:World):Prop:=
  ∃(A:Option Addr) (n c:Nat) (es:List Int),Hp w W [.blk Bl 31 [.slice A0 n0 c0],.blk Br 35 [iV qr.x0,iV qr.y0,iV qr.x1,iV qr.y1],.blk Bz 42 [iV 0,iV 0,iV 0,iV 0,.slice none 0 0],.blk Bm 42 [iV q.x0,iV q.y0,iV q.x1,iV q.y1,.slice A n c],.row 5 1 (.slice A n c) (n) (List.flatMap Ay es)]/\es=(pre.map Subtype.val).map (fun p=>uE rs p.1 p.2)/\n=es.length/\W1.heap.size<=W.heap.size
theorem uF (Bl Br Bz Bm:Nat)(A0:Option Addr)(n0 c0:Nat)(q qr:R4)(rs:List Av)(w W1:World)(hw:w.heap.size<=W1.heap.size):OwnFrom W1.heap.size (aAB Bl Br Bz Bm A0 n0 c0 q qr rs w W1):=by
  rintro s W W' row ⟨A,n,c,es,h1,h2,h3,h4⟩ hg hr;exact⟨A,n,c,es,h1.kept hg (fun k hk=>⟨Ar hw (hr k hk).1,(hr k hk).2⟩),h2,h3,Ar h4 hg.size⟩
def zM (Bl Br Bz Bm:Nat)(W1:World)(x:fE)(a':Act)(W:World):Prop:=
  ∃(J:Nat->Value) (Xt:Nat),Ad W Xt 35 ([iV x.1.1,iV x.1.2,iV (x.1.1+1),iV (x.1.2+1)]:List Value).toArray/\W1.heap.size<=Xt/\a'={tmps:=#[J 0,J 1,.pointer (some ⟨Bl,0,none⟩),.pointer (some ⟨Br,0,none⟩),.pointer (some ⟨Bz,0,none⟩),J 5,.pointer (some ⟨Bm,0,none⟩),.pointer (some ⟨Xt,0,none⟩),J 8,J 9,J 10,J 11,J 12,J 13,J 14,J 15,J 16,J 17,J 18,J 19,J 20,J 21,J 22,J 23,J 24,J 25,J 26,J 27,J 28,J 29,J 30,J 31,J 32,J 33,J 34,J 35,J 36,J 37,J 38,J 39,J 40,J 41,J 42,J 43,J 44,J 45,J 46,J 47],defers:=[]}
theorem uG (Bl Br Bz Bm:Nat)(W1:World)(x:fE)(a':Act):OwnFrom W1.heap.size (fun(_:Unit) W=>zM Bl Br Bz Bm W1 x a' W):=by
  rintro _ W W' row ⟨J,Xt,h1,h2⟩ hg hr;exact⟨J,Xt,h1.kept hg (fun k hk=>(hr k hk).2),h2⟩
theorem wY {Bl Br Bz Bm Xt:Nat}{W1 W:World}{x:fE}{a':Act}(h1:Ad W Xt 35 ([iV x.1.1,iV x.1.2,iV (x.1.1+1),iV (x.1.2+1)]:List Value).toArray)(h2:W1.heap.size<=Xt)(h3:a'={tmps:=#[a'.tmps.getD 0 undef,a'.tmps.getD 1 undef,.pointer (some ⟨Bl,0,none⟩),.pointer (some ⟨Br,0,none⟩),.pointer (some ⟨Bz,0,none⟩),a'.tmps.getD 5 undef,.pointer (some ⟨Bm,0,none⟩),.pointer (some ⟨Xt,0,none⟩),a'.tmps.getD 8 undef,a'.tmps.getD 9 undef,a'.tmps.getD 10 undef,a'.tmps.getD 11 undef,a'.tmps.getD 12 undef,a'.tmps.getD 13 undef,a'.tmps.getD 14 undef,a'.tmps.getD 15 undef,a'.tmps.getD 16 undef,a'.tmps.getD 17 undef,a'.tmps.getD 18 undef,a'.tmps.getD 19 undef,a'.tmps.getD 20 undef,a'.tmps.getD 21 undef,a'.tmps.getD 22 undef,a'.tmps.getD 23 undef,a'.tmps.getD 24 undef,a'.tmps.getD 25 undef,a'.tmps.getD 26 undef,a'.tmps.getD 27 undef,a'.tmps.getD 28 undef,a'.tmps.getD 29 undef,a'.tmps.getD 30 undef,a'.tmps.getD 31 undef,a'.tmps.getD 32 undef,a'.tmps.getD 33 undef,a'.tmps.getD 34 undef,a'.tmps.getD 35 undef,a'.tmps.getD 36 undef,a'.tmps.getD 37 undef,a'.tmps.getD 38 undef,a'.tmps.getD 39 undef,a'.tmps.getD 40 undef,a'.tmps.getD 41 undef,a'.tmps.getD 42 undef,a'.tmps.getD 43 undef,a'.tmps.getD 44 undef,a'.tmps.getD 45 undef,a'.tmps.getD 46 undef,a'.tmps.getD 47 undef],defers:=[]}):zM Bl Br Bz Bm W1 x a' W:=⟨fun q=>a'.tmps.getD q undef,Xt,h1,h2,h3⟩
theorem Hp.addNew {w0 w:World}{m:List Dc}{X:Nat}{T:TypeId}{zs:List Value}(h:Hp w0 w m)(B:Ad w X T zs.toArray)(hz:w0.heap.size<=X)(hn:At zs)(ht:∀e,e∈m->e.typ≠T\/∀k,e.own=some k->k<X):Hp w0 w (m++[.blk X T zs]):=
  h.add ⟨hz,B,hn⟩ (fun i f hf k hk e=>by
    injection e with e
    subst e;rcases ht f (List.mem_of_getElem? hf)with h1|h1
    · exact h1 (h.typ hf B hk)
    have:=h1 _ hk;omega)
theorem oN {Bm l:Nat}{T:TypeId}{A:Option Addr}{n c m:Nat}{xs:List Value}{b:Nat}{W W':World}(h:Fr (fun k=>k=Bm\/Value.ownBlock (.slice A n c)=some k) W W')(hr:Be W b T 1 (.slice A n c) m xs):Kq Bm T l W W':=⟨h.size,fun k o ho h1 _ h3=>by
 have A0:=(Array.getElem?_eq_some_iff.1 ho).1;refine(h.block k A0 (fun g=> ?_)).trans ho;rcases g with g|g
 ·exact h1 g
 obtain⟨_,⟨e,_⟩|⟨g2,c2,rest,e,_,hb,_⟩⟩:=hr
 ·injection e with e1;subst e1;simp[Value.ownBlock]at g
 injection e with e1 e2 e3
 subst e1;have hk:g2=k:=by simpa[Value.ownBlock]using g
 subst hk;unfold Ad at hb;rw[hb]at ho;injection ho with ho
 exact h3 _ ho.symm⟩
set_option maxRecDepth 200000 in
theorem uD (A:Option Addr)(cap:Nat)(rs:List Av)(r:R4)(w:World)(hu:Cu w (.slice A rs.length cap) rs)(hn:rs.length<=1048576)(hr:∀r,r∈rs->r.length<=1048576)(hs:Ge rs=true->r.ok=true->Gm rs<=16):
  Calls Tryz.prog 14 #[.slice A rs.length cap,.agg #[iV r.x0,iV r.y0,iV r.x1,iV r.y1]] w (Ep (qJ rs r) r (uE rs) w):=by
 have HU:=zH hu;have HN:=zH hn;have D9:=zH hr;clear hu hr;have D7:=zH hs;clear hs;refine(callsIn_wide (n:=13)).1 ?_;refine callsIn_of_wp_marks Tryz.func14 rfl trivial ?_ rfl;simp only[Tryz.ntmps14,List.size_toArray,List.length_cons,List.length_nil,Nat.reduceAdd,Nat.reduceSub,Array.replicate_succ,Array.replicate_zero,List.push_toArray,List.append_toArray,List.nil_append,List.cons_append];refine wpIn_wide.2 ?_;refine Go.Code.wp_mono Ka.m ?_;have H0:=zH (Hp.start w);go_upto_region 0 with fail
 refine wl ?_;refine Cm 31 [.slice A rs.length cap] H0.1 ?_;intro X1 w2 H3 _;refine Cm 35 [iV r.x0,iV r.y0,iV r.x1,iV r.y1] H3.1 ?_;intro X6 w7 H8 _;refine Cm 42 [iV 0,iV 0,iV 0,iV 0,.slice none 0 0] H8.1 ?_;intro A7 M5 B3 _;refine zq (iV 0) ?_;rcases Co (Ge rs=true)with HV|HV
 ·go_upto_region 1 with fail
  refine wl ?_;refine Cs B3.1 _ ?_;refine zc (Cc _ rs _ (HU.1.ext B3.1.ext) HN.1 D9.1) ?_;rintro e M4 ⟨rfl,hx⟩;have C8:=zH (B3.1.step hx);clear hx;refine⟨.bool true,by rw[HV.1],?_⟩;try simp only[Act.put,zA,zB,zC]
  refine Bq Ac (.bool false) (.bool false) ?_;rcases Co (r.ok=true)with HRO|HRO
  ·go_upto_region 3 with fail
   refine wl ?_;refine Cs C8.1 _ ?_;refine aC C8.1 ((Qj r _).mono fun _ _ h_=>(⟨h_.1.trans (by rw[HRO.1]),h_.2⟩:_=Ending.returned (.bool true)/\Aa _ _)) ?_;intro M3 C7 _;refine Bq Ac (.bool false) (.bool false) ?_;rcases Co (r.area<=65536)with HA|HA
   ·go_upto_region 5 with fail
    refine wl ?_;refine Cs C7.1 _ ?_;refine aC C7.1 (Nz r _) ?_;intro M2 G7 _;refine zp (.bool false) (by exact Tw (e:=(Ah (by have h_:=HA.1;omega)))) ?_;refine zq (.bool false) ?_;go_upto_region 7 with fail
    refine wl ?_;refine Cs G7.1 _ ?_;refine aC G7.1 (Sp r _) ?_;intro M1 L5 _;refine Cs Ac _ ?_;refine Cm 42 [iV 0,iV 0,iV 0,iV 0,.slice none 0 0] L5.1 ?_;intro A0 M0 L4 _;refine Cy 3 [iV r.can.x0,iV r.can.y0,iV r.can.x1,iV r.can.y1,.slice none 0 0] L4.1 ?_;intro G9 L3 _;generalize B2:r.can=q at*
    have HQ:=zH B2;have hb:=r.can_bd;rw[B2]at hb;have HB:=zH hb;clear B2 hb;have E1:=zH (show Hp w G9 [.blk X1 31 [.slice A rs.length cap],.blk X6 35 [iV r.x0,iV r.y0,iV r.x1,iV r.y1],.blk A7 42 [iV 0,iV 0,iV 0,iV 0,.slice none 0 0],.blk A0 42 [iV q.x0,iV q.y0,iV q.x1,iV q.y1,.slice none 0 0],ro 5 1 none 0 0 Ay ([])]from L3.1.addNil 5 1);go_upto_region 8 with fail
    refine wl ?_;refine Cs Ac _ ?_;refine zd A0 (0) [iV q.x0,iV q.y0,iV q.x1,iV q.y1] (E1.1.range (i:=3) rR 0 4) Tryz.underlying35 ?_;refine zc (iF q _) ?_;rintro e B1 ⟨Cr,Cw,Ch,rfl,D1,D0,F9,F8,F7,F6,I9,I8,I7,hx⟩;rw[show q.can=q from by rw[<-HQ.1];exact Ui r]at D1;have K3:=zH D1;have K2:=zH D0;have K1:=zH F9;have D8:=zH (And.intro F8 (And.intro F7 F6));clear D1 D0 F9 F8 F7 F6 I9 I8 I7;have C6:=zH (E1.1.step hx);clear hx;refine zn ?_;have I5:=C6.1.lt (i:=3) (k:=A0) (by rfl) rfl;have D6:=zH (show w.heap.size<=B1.heap.size from C6.1.ext.size);have I4:=E1.1.lt (i:=3) (k:=A0) (by rfl) rfl;have K5:=zH (show((Qv q).length:Int)<=65536 from by rw[Su,Ht,Ht,Int.natCast_mul];have h_:=HA.1;unfold R4.area at h_;rw[HQ.1]at h_;have D0:=HB.1.2;rw[Int.mul_comm,Int.toNat_of_nonneg (by omega),Int.toNat_of_nonneg (by omega)];exact h_);go_wp2_with fail
    refine wpIn_wide.1 (Ur (n:=13) (by omega) rR (enters_of Tryz.func92 kR rfl) (iE 12 dC Cr Cw Ch A0 5 q B1 K3.1 K2.1 K1.1 (by have h_:=D8.1;omega) (by have h_:=D8.1;omega) (by have h_:=D8.1;omega) dC dC dC HB.1.1 I5) (aAB X1 X6 A7 A0 A rs.length cap q r rs w B1) (uF X1 X6 A7 A0 A rs.length cap q r rs w B1 D6.1) ⟨none,0,0,[],C6.1,rfl,rfl,Cj _⟩ (zM X1 X6 A7 A0 B1) (uG X1 X6 A7 A0 B1) ?assign ?body ?done);case assign=>
     intro l pre x W K hi hK;obtain⟨Az,n,c,es,hh,A4,A3,A5⟩:=hi;have C3:=zH A5;have H0:=zH hh;have HK:=zH hK;have E0:=zH A4;have B8:=zH A3;clear A5 hh hK A4 A3;unfold qY;simp only[zA,zB,zC];refine Ab kR (fun⟨_,_,h⟩=>h) ?_;refine aA 35 [iV 0,iV 0,iV 0,iV 0] H0.1 ?_;intro J0 G8 L2 hx B6;have G4:=zH (show W.heap.size<=J0 from Ar (Fr.of_ext (G:=fun kz=>False) (Aa.refl W)).size B6);have J9:=zH (show Fr (fun kz=>False) W G8 from(Fr.of_ext (G:=fun kz=>False) (Aa.refl W)).trans (Fr.of_ext hx));clear hx B6;refine aS 5 [iV x.1.1,iV x.1.2,iV (x.1.1+1),iV (x.1.2+1)] L2.1 ?_;intro L9 G6 hd ho;have C2:=zH (J9.1.trans_new ho (fun j hj=> .inr (by injection hj with hj;rw[<-hj];exact G4.1)));clear hd ho;exact HK.1 _ _ (KeepsFrom.of_fr C2.1 (fun _ h=>h.elim)) ⟨C2.1.size,fun k o ho _ _ _=>(C2.1.block k (Array.getElem?_eq_some_iff.1 ho).1 (fun h=>h)).trans ho⟩ ⟨Az,n,c,es,G6.1.take 5,E0.1,B8.1,Ar C3.1 C2.1.size⟩ (wY (G6.1.blk (i:=5) (by rfl)) (Ar C3.1 G4.1) (by rfl))
    case body=>
     intro l pre ed a' W hi I6 I1;obtain⟨Az,n,c,es,hh,A4,A3,A5⟩:=hi;obtain⟨J,Xt,F3,F2,rfl⟩:=I6;have C3:=zH A5;have E0:=zH A4;have B8:=zH A3;have I3:=ed.2;unfold yN at I3;have C4:=zH (show n<=65536 from by rw[A3,A4,List.length_map,List.length_map];have h_:=K5.1;omega);have H0:=zH (show Hp w W [.blk X1 31 [.slice A rs.length cap],.blk X6 35 [iV r.x0,iV r.y0,iV r.x1,iV r.y1],.blk A7 42 [iV 0,iV 0,iV 0,iV 0,.slice none 0 0],.blk A0 42 [iV q.x0,iV q.y0,iV q.x1,iV q.y1,.slice Az n c],ro 5 1 Az n c Ay es,.blk Xt 35 [iV ed.1.1,iV ed.1.2,iV (ed.1.1+1),iV (ed.1.2+1)]]from hh.addNew F3 (Ar D6.1 F2) (by simp[At]) (by simp only[List.forall_mem_cons,List.not_mem_nil,false_imp_iff,implies_true,and_true];exact⟨.inl (by simp[Dc.typ]),.inr (fun k hk=>by injection hk with hk;have h_:=C6.1.lt (i:=1) (k:=X6) (by rfl) rfl;omega),.inl (by simp[Dc.typ]),.inl (by simp[Dc.typ]),.inl (by simp[Dc.typ])⟩));clear hh A4 A3 A5 F3 F2;have C5:=zH (show Fr (fun kz=>kz=A0\/Value.ownBlock (.slice Az n c)=some kz) W W from Fr.of_ext (Aa.refl W));have K4:=zH (show(-1048576<=ed.1.1*256/\ed.1.1*256<=1048320)/\ -1048576<=ed.1.2*256/\ed.1.2*256<=1048320 from by omega);gi_upto_region 10 with fail
     refine Ab kR (fun⟨_,_,h⟩=>h) ?_;refine Bq H0.1 _ _ ?_;refine zp (iV (ed.1.1*256)) (by exact eO (by have C9:=C4.1;omega)) ?_;refine Bq H0.1 _ _ ?_;refine zp (iV (ed.1.2*256)) (by exact eO (by have C9:=C4.1;omega)) ?_;refine Cs Ac _ ?_;refine aA 68 [iV 0,iV 0] H0.1 ?_;intro D2 L8 L1 hx B6;have J3:=zH (show W.heap.size<=D2 from Ar C5.1.size B6);have J8:=zH (C5.1.trans (Fr.of_ext hx));clear hx B6;refine aS 6 [iV (ed.1.1*256),iV (ed.1.2*256)] L1.1 ?_;intro A1 A2 hd ho;have J7:=zH (J8.1.trans_new ho (fun j hj=> .inr (by injection hj with hj;rw[<-hj];exact J3.1)));clear hd ho;refine wpList_nil ?_;gi_upto_region 11 with fail
     refine Dx (S:=fun x=>Fr (fun kz=>kz=A0\/Value.ownBlock (.slice Az n c)=some kz) A1 x) kR kR (fun⟨_,_,h⟩=>h) (Fr.of_ext zb) (fun _=> ?_);have G5:=zH (A2.1.step (Aa.refl A1).drew);have J6:=zH (J7.1.trans (Fr.of_ext (Aa.refl A1).drew));refine mX 0 (bs 10 1) (.pointer (some ⟨A0,4,none⟩)) (Fr.of_ext zb) ?_;refine zr 2 (bs 10 5) D2 (0) [iV (ed.1.1*256),iV (ed.1.2*256)] (fun x hx=>Fr.range hx (show World.rangeAt A1 D2 (0) [iV (ed.1.1*256),iV (ed.1.2*256)]from(A2.1.range (i:=6) rR 0 2)) (fun hk=>hk.elim (A2.1.offBlk (i:=6) (j:=3) rR rR dC rR) (A2.1.offRow (i:=6) (j:=4) rR rR dC rR))) Tryz.underlying68 (Fr.of_ext zb) ?_;refine Ec (g:=X1) (o:=0) (v:= .slice A rs.length cap) (i:=3) (listed':=(bs 10 13)) rR kR kR kR (by intro _ _ _ h;exact h) rR (fun x hx=>Fr.cell hx (show World.cell? A1 ⟨X1,0,none⟩=some (.slice A rs.length cap)from Ak (A2.1.range (i:=0) rR 0 1)) (fun hk=>hk.elim (A2.1.offBlk (i:=0) (j:=3) rR rR dC rR) (A2.1.offRow (i:=0) (j:=4) rR rR dC rR))) (by intro x hq;go_simp<;>with_reducible rfl) (Fr.of_ext zb) kR ?_;try simp only[Act.put,zA,zB,zC]
     refine Fd.go (j:=1) (dj:=some 39) (u:= .slice Az n c) ?_;refine Hl (b:=A1) (i:=4) (lj:=(bs 10 15)) (li:=(bs 10 29)) rR rR kR kR kR kR kR dC kR rR rR (fun x_ h_=>Fr.of_ext h_) (Aa.refl A1).drew (fun x_ h_=>(by have B2:=Ak (Bu (show World.rangeAt A1 A0 (4) [.slice Az n c]from A2.1.range (i:=3) rR 4 1) h_);go_simp<;>with_reducible rfl)) rR (by go_simp) kR (Zl (ed.1.1*256) (ed.1.2*256) _ rs _ (HU.1.ext G5.1.ext) HN.1 D9.1 HV.1 (D7.1 HV.1 HRO.1) K4.1) ?_;rintro e E9 ⟨I0,rfl,F1,F4,hx⟩;have L0:=zH (G5.1.step hx);have J5:=zH (J6.1.trans (Fr.of_ext hx));have G2:=zH (show Aa A1 E9 from(Aa.refl A1).drew.trans hx);have J1:=zH (show Fr (fun kz=>kz=A0\/Value.ownBlock (.slice Az n c)=some kz) A1 E9 from(Fr.of_ext zb).trans (Fr.of_ext hx));have J2:=zH F1;have L7:=zH F4;clear F1 F4;have B5:=hx;clear hx;refine⟨_,rfl,B5,?_⟩;try simp only[Act.put,zA,zB,zC]
     clear B5;refine Hl (b:=A1) (i:=5) (lj:=(bs 10 31)) (li:=(bs 10 61)) rR rR kR kR kR kR kR dC kR rR rR (fun x_ h_=>Fr.of_ext h_) G2.1 (fun x_ h_=>(by have B2:=Ak (Bu (show World.rangeAt A1 A0 (4) [.slice Az n c]from A2.1.range (i:=3) rR 4 1) h_);go_simp<;>with_reducible rfl)) rR (by go_simp) kR (Kp I0 (Sf rs (ed.1.1*256,ed.1.2*256)) _ (J2.1.isIn (Ar L7.1 dC))) ?_;rintro e B0 ⟨rfl,hx⟩;have K9:=zH (L0.1.step hx);have J4:=zH (J5.1.trans (Fr.of_ext hx));have G1:=zH (show Aa A1 B0 from G2.1.trans hx);have G3:=zH (J1.1.trans (Fr.of_ext hx));have B5:=hx;clear hx;refine⟨_,rfl,B5,?_⟩;try simp only[Act.put,zA,zB,zC]
     clear B5;refine xO (v:= .slice (some ⟨B0.heap.size,0,none⟩) 1 1) (w':=(B0.alloc (.cells ([.int .u8 (Ls (Sf rs (ed.1.1*256,ed.1.2*256)))]:List Value).toArray 5))) (b:=A1) (i:=6) (lj:=(bs 10 63)) (li:=(bs 10 125)) rR rR kR kR kR kR kR dC kR rR rR (fun x_ h_=>Fr.of_ext h_) G1.1 (fun x_ h_=>(by have B2:=Ak (Bu (show World.rangeAt A1 A0 (4) [.slice Az n c]from A2.1.range (i:=3) rR 4 1) h_);go_simp<;>with_reducible rfl)) rR (by go_simp) ((Aa.refl B0).alloc _) kR ?_;try simp only[Act.put,zA,zB,zC]
     refine My rR kR rR rR (G3.1.trans (Fr.of_ext ((Aa.refl B0).alloc _))) (aAC (p:=⟨A0,4,none⟩) (by intro x hq;go_simp<;>with_reducible rfl) _ (Ak (Bu (show World.rangeAt A1 A0 (4) [.slice Az n c]from A2.1.range (i:=3) rR 4 1) (G1.1.trans ((Aa.refl B0).alloc _))))) (show _=(bs 10 127)by kernel_rfl) ?_;try simp only[Act.put,zA,zB,zC]
     refine oK (j:=7) (listed':=(bs 10 255)) rR kR rR _ _ _ rR yX rR K9.1 (ix:=4) rR 1 1 [.int .u8 (Ls (Sf rs (ed.1.1*256,ed.1.2*256)))] rR rfl (by simp[Value.oneCell']) (by simp[At]) dC (by unfold maxLen;exact(by have C9:=C4.1;omega)) (by have C9:=C4.1;omega) kR ?_;intro G0 B7 E8 hf hh hd hg;have L6:=zH hf;clear hf;rw[show List.flatMap Ay es++[.int .u8 (Ls (Sf rs (ed.1.1*256,ed.1.2*256)))]=_ from Hc Ay _ (Ls (Sf rs (ed.1.1*256,ed.1.2*256)))]at hh;have E7:=hN hh;have D5:=zH (show Fr (fun kz=>kz=A0\/Value.ownBlock (.slice Az n c)=some kz) W E8 from(J4.1.trans (Fr.of_ext (Al.alloc _))).trans_new hg (fun j hj=> .inl (.inr hj)));have A8:=zH (show Fr (fun kz=>kz=A0\/Value.ownBlock (.slice Az n c)=some kz) A1 E8 from Fr.trans_new (G3.1.trans (Fr.of_ext (Al.alloc _))) hg (fun j hj=> .inl (.inr hj)));clear hh hd hg;refine⟨A8.1,?_⟩;try simp only[Act.put,zA,zB,zC]
     refine zx 8 (bs 10 511) (.pointer (some ⟨A0,4,none⟩)) A8.1 ?_;refine vV (i:=9) (listed':=(bs 10 1023)) rR kR rR kR _ _ _ rR E7.1 (ix:=3) rR 4 (.slice (some ⟨G0,0,none⟩) (n+1) B7) rR rR (by simp) kR (by simp[Value.cells]) (by simp[Value.oneCell']) (by simp[At]) ?_;intro H9 hh hd ho;have E6:=hN hh;have A9:=zH (D5.1.trans_new ho (fun j hj=> .inl (.inl (by injection hj with hj;exact hj.symm))));have D3:=zH (Fr.trans_new A8.1 ho (fun j hj=> .inl (.inl (by injection hj with hj;exact hj.symm))));clear hh hd ho;refine⟨D3.1,?_⟩
     (try simp only[Act.put])
     refine wpAnyH_done kR ?_ _;gi_wp2
     exact⟨(KeepsFrom.of_fr A9.1 (fun k hk o ho=>hk.elim (fun e=>H0.1.cells (i:=3) (by rfl) (by rw[e];rfl) o ho) (fun e=>H0.1.cells (i:=4) (by rfl) (by exact e) o ho))),oN A9.1 (H0.1.row (i:=4) (by rfl)),some ⟨G0,0,none⟩,n+1,B7,es++[(Ls (Sf rs (ed.1.1*256,ed.1.2*256)))],E6.1.take 5,(by rw[E0.1,List.map_append,List.map_append];rfl),(by rw[List.length_append,<-B8.1];rfl),Ar C3.1 A9.1.size⟩
    rintro Dz xs W hD F0 ⟨Az,n,c,es,hh,A4,A3,A5⟩ hK;have H0:=zH hh;have B8:=zH A3;have HD:=zH hK;have K8:=zH hD;have K7:=zH (show Ke q (uE rs) es from nP (by rw[A4,F0]) HB.1.2.1 HB.1.2.2);clear hh A4 A3 A5 F0 hK hD;have C5:=zH (show Fr (fun kz=>kz=A7) W W from Fr.of_ext (Aa.refl W));go_upto_region 12 with fail
    refine wl ?_;refine Cs H0.1 _ ?_;refine aS 2 [iV q.x0,iV q.y0,iV q.x1,iV q.y1,.slice Az n c] H0.1 ?_;intro B4 E5 hd ho;have D4:=zH (C5.1.trans_new ho (fun j hj=> .inl (by injection hj with hj;exact hj.symm)));clear hd ho;refine zq (iV 0) ?_;go_wp2_with fail
    have F5:B4.heap[Dz]?=some (.deferred (some [])):=(D4.1.block Dz (Array.getElem?_eq_some_iff.1 HD.1).1 (fun e=>by have h1:=H0.1.cells (i:=2) (k:=Dz) (by rfl) (by rw[e];rfl) _ HD.1;cases h1)).trans HD.1;refine⟨by simp,.inl ⟨_,_,rfl,run_takeDeferred F5,?_⟩⟩;have A6:=E5.1.kept (grownBy_putObj' B4 Dz (.deferred none)) (fun k hk=>by injection hk with hk;subst hk;exact⟨Ar D6.1 K8.1,_,F5,rfl⟩);have HE:=zH (show qJ rs r=0 from(if_pos HV.1).trans ((if_pos HRO.1).trans (if_pos HA.1)));exact⟨_,Aq rfl rfl ((A6.blk (i:=2) (by rfl)).loadVar rfl rfl (by rfl)) rfl,q,Az,n,c,es,by rw[HE.1]<;>rfl,B8.1,A6.row (i:=4) (by rfl),fun _=>⟨HQ.1.symm,by rw[HQ.1];exact K7.1,HA.1⟩,fun h_=>absurd HE.1 h_,A6.ext⟩
   go_upto_region 5 with fail
   refine wl ?_;refine Cs C7.1 _ ?_;refine aC C7.1 (Nz r _) ?_;intro H7 E4 _;refine zp (.bool true) (by exact Tw (e:=(Ae (by have h_:=HA.1;omega)))) ?_;refine zq (.bool true) ?_;go_upto_region 6 with fail
   refine wl ?_;refine Cs Ac _ ?_;refine Cy 2 [iV 0,iV 0,iV 0,iV 0,.slice none 0 0] E4.1 ?_;intro H6 C1 _;refine zq (iV 5) ?_;have HE:=zH (show qJ rs r=5 from(if_pos HV.1).trans ((if_pos HRO.1).trans (if_neg HA.1)));go_wp2_with fail
   exact⟨_,Aq rfl rfl ((C1.1.blk (i:=2) (by rfl)).loadVar rfl rfl (by rfl)) rfl,R4.zero,none,0,0,[],by rw[HE.1]<;>rfl,rfl,Be.nil _ _ _ _,fun h_=>absurd h_ (by rw[HE.1];decide),fun _=>⟨rfl,rfl⟩,C1.1.ext⟩
  have K6:=zH (Bool.eq_false_iff.2 HRO.1);go_upto_region 3 with fail
  refine wl ?_;refine Cs C8.1 _ ?_;refine aC C8.1 ((Qj r _).mono fun _ _ h_=>(⟨h_.1.trans (by rw[K6.1]),h_.2⟩:_=Ending.returned (.bool false)/\Aa _ _)) ?_;intro H5 E3 _;refine Bq Ac (.bool true) (.bool true) ?_;go_upto_region 4 with fail
  refine wl ?_;refine Cs Ac _ ?_;refine Cy 2 [iV 0,iV 0,iV 0,iV 0,.slice none 0 0] E3.1 ?_;intro H4 C0 _;refine zq (iV 6) ?_;have HE:=zH (show qJ rs r=6 from(if_pos HV.1).trans (if_neg HRO.1));go_wp2_with fail
  exact⟨_,Aq rfl rfl ((C0.1.blk (i:=2) (by rfl)).loadVar rfl rfl (by rfl)) rfl,R4.zero,none,0,0,[],by rw[HE.1]<;>rfl,rfl,Be.nil _ _ _ _,fun h_=>absurd h_ (by rw[HE.1];decide),fun _=>⟨rfl,rfl⟩,C0.1.ext⟩
 have K0:=zH (Bool.eq_false_iff.2 HV.1);go_upto_region 1 with fail
 refine wl ?_;refine Cs B3.1 _ ?_;refine zc (Cc _ rs _ (HU.1.ext B3.1.ext) HN.1 D9.1) ?_;rintro e H2 ⟨rfl,hx⟩;have E2:=zH (B3.1.step hx);clear hx;refine⟨.bool false,by rw[K0.1],?_⟩;try simp only[Act.put,zA,zB,zC]
 refine qV (.bool true) ?_;refine zq (.bool true) ?_;go_upto_region 2 with fail
 refine wl ?_;refine Cs Ac _ ?_;refine Cy 2 [iV 0,iV 0,iV 0,iV 0,.slice none 0 0] E2.1 ?_;intro H1 B9 _;refine zq (iV 12) ?_;have HE:=zH (show qJ rs r=12 from if_neg HV.1);go_wp2_with fail
 exact⟨_,Aq rfl rfl ((B9.1.blk (i:=2) (by rfl)).loadVar rfl rfl (by rfl)) rfl,R4.zero,none,0,0,[],by rw[HE.1]<;>rfl,rfl,Be.nil _ _ _ _,fun h_=>absurd h_ (by rw[HE.1];decide),fun _=>⟨rfl,rfl⟩,B9.1.ext⟩
end
section
theorem rL {w:World}{b n c:Nat}{A:Option Addr}{es:List Int}(hr:Be w b 5 1 (.slice A n c) n (List.flatMap Ay es)):(convert 40 9 (.slice A n c)).run Tryz.prog w= .ok (.string (strOfNums es)) w:=by
 obtain⟨h1,⟨e,h0⟩|⟨g,A0,rest,e,_,hb,_⟩⟩:=id hr
 ·injection e with e1 e2 e3
  subst e1;have hz:es=[]:=by
   cases es with
   |nil=>rfl
   |cons x l=>simp[Ay]at h1;omega
  subst hz;exact run_convert_bytes_nil w 40 5 Tryz.underlying40 Tryz.underlying5 n c 9 Tryz.underlying9
 injection e with e1 e2 e3
 subst e1;have hl:es.length=n:=by rw[Dj Gl]at h1;omega
 refine run_convert_bytes_arg w 40 5 Tryz.underlying40 Tryz.underlying5 g 0 n c es hl (fun i hi=> ?_) 9 Tryz.underlying9;have hg:es[i]?=some (es.getD i 0):=by simp[List.getD,List.getElem?_eq_getElem (show i<es.length by omega)]
 have h2:=Hv Gl es i _ hg 0 (.int .u8 (es.getD i 0)) rfl;rw[Nat.mul_one,Nat.add_zero]at h2;rw[Nat.zero_add,hb.cell,List.getElem?_toArray,List.getElem?_append_left (List.getElem?_eq_some_iff.1 h2).1];exact h2
theorem pA {o:Oper}{ρ:Operand->Value}{w:World}{b n c:Nat}{A:Option Addr}{es:List Int}{s:ByteArray}{x:Operand}(ho:o.op= .convert 40 9 x)(hx:ρ x= .slice A n c)(hr:Be w b 5 1 (.slice A n c) n (List.flatMap Ay es))(hs:strOfNums es=s):(execOp ρ o).run Tryz.prog w= .ok (.value (.string s)) w:=by
  subst hs;have h:=rL hr;unfold execOp;simp only[ho,hx];simp[go_sem,h]
theorem tL {P:Program}{o:Oper}{ρ:Operand->Value}{w:World}{s s':ByteArray}{b:Bool}{t t':TypeId}{x y:Operand}(ho:o.op= .binOp .neq t x y t')(hx:ρ x= .string s)(hy:ρ y= .string s')(hE:(!(s.toList==s'.toList))=b):(execOp ρ o).run P w= .ok (.value (.bool b)) w:=by
  subst hE;unfold execOp;simp only[ho,hx,hy];simp[go_sem]
theorem tO {P:Program}{o:Oper}{ρ:Operand->Value}{w:World}{s s':ByteArray}{b:Bool}{t t':TypeId}{x y:Operand}(ho:o.op= .binOp .eql t x y t')(hx:ρ x= .string s)(hy:ρ y= .string s')(hE:(s.toList==s'.toList)=b):(execOp ρ o).run P w= .ok (.value (.bool b)) w:=by
  subst hE;unfold execOp;simp only[ho,hx,hy];simp[go_sem]
end
section
open Go.ChangeShapes Go.WideShapes Go.ChangeAt Go.RowKit
theorem own:ownKnob Tryz.prog.godebug=none:=by kernel_rfl
theorem gO:laidOutB Tryz.prog=true:=by kernel_rfl
section
variable {H:Type} {enc:TypeId×Value->H} {w:World} {base:Nat} {spare:Nat->Bool} {held:Bool}
end
end
section
open Go.ChangeShapes Go.WideShapes Go.ChangeAt Go.RowKit
section
variable {H:Type} {enc:TypeId×Value->H} {P:Program} {w:World} {base:Nat} {spare:Nat->Bool} {held:Bool}
end
end
section
open Go.ChangeShapes Go.WideShapes Go.ChangeAt Go.RowKit
theorem Zs:Tryz.prog.cellsOf 91=1:=by kernel_rfl
theorem Hr:Tryz.prog.cellsOf 24=2:=by kernel_rfl
theorem dQ:Tryz.prog.cellsOf 26=4:=by kernel_rfl
theorem Rz:Tryz.prog.cellsOf 4=1:=by kernel_rfl
theorem eA:Tryz.prog.cellsOf 22=1:=by kernel_rfl
def RV.Raw (w:World)(a:RV):Prop:=∃xs ys,Ed w (.slice a.p a.l a.c) xs/\Ed w (.slice a.p2 a.l2 a.c2) ys
theorem RV.Raw.val {w:World}{a:RV}(h:a.Raw w):∃q:Rat,∀L,a.l<=L->a.l2<=L->a.In L w q:=by
  obtain⟨xs,ys,h1,h2⟩:=h;have e1:a.l=xs.length:=by obtain⟨p,c,e,_⟩:=h1;injection e
  have e2:a.l2=ys.length:=by obtain⟨p,c,e,_⟩:=h2;injection e
  refine⟨Rat.divInt (sg a.n (Nm.val xs)) (sg a.m (Nm.val ys)),fun L k1 k2=> ?_⟩;exact⟨_,_,⟨_,⟨xs,h1,rfl,by omega⟩,rfl⟩,⟨_,⟨ys,h2,rfl,by omega⟩,rfl⟩,rfl⟩
section
variable {H:Type} {enc:TypeId×Value->H} {w:World} {base:Nat} {held:Bool}
theorem gF {fuel:Nat}{cs:List Value}{x:DataW H×List MemPlace}(h:DataW.trod enc Tryz.prog w base (fun _=>true) held fuel 22 cs=some x):
    ∃p l c xs,cs=[.slice p l c]/\Ed w (.slice p l c) xs:=by
  rcases open_ints Tryz.underlying22 Tryz.underlying91 Zs h with⟨rfl,_⟩|⟨a,len,cap,zs,rfl,_,hl,hm,hz,_,hc,hw⟩
  · exact⟨none,0,0,[],rfl,none,0,rfl,Cj _,(by intro x hx;simp at hx),fun h0=>absurd h0 (by simp)⟩
  simp only[if_true]at hz;refine⟨some a,len,cap,(zs.take len).map Int.toNat,rfl,some a,cap,by simp[hz];omega,by simp[hz];omega,?_,fun h0=> ?_⟩
  · intro d hd
    obtain⟨z,hz1,rfl⟩:=List.mem_map.1 hd;have:=bounds_u32 (hw z (List.mem_of_mem_take hz1));show z.toNat<4294967296;omega
  have A0:((zs.take len).map Int.toNat).length=len:=by simp[hz];omega
  rw[A0]at h0⊢;have hs:a.spot=none:=by
    have h1:=hc 0 (by omega);unfold World.cell? at h1;cases hsp:a.spot with
    |none=>rfl
    | some s=>
      exfalso;have e:(a.add 0).spot=some s:=by simp[Addr.add,hsp]
      rw[e]at h1;revert h1
      split<;>simp
  obtain⟨b,o,sp⟩:=a;obtain rfl:sp=none:=hs;refine⟨b,o,rfl,fun i hi=> ?_⟩;have h1:=hc i (by omega);have e:(⟨b,o,none⟩:Addr).add i=⟨b,o+i,none⟩:=by unfold Addr.add;split<;>simp_all
  rw[e]at h1;rw[h1];have A1:i<zs.length:=by omega
  have h2:=bounds_u32 (hw (zs.getD i 0) (by rw[List.getD_eq_getElem?_getD,List.getElem?_eq_getElem A1];exact List.getElem_mem A1));have h3:(List.map Int.toNat (List.take len zs)).getD i 0=(zs.getD i 0).toNat:=by
    simp[List.getD,hi,List.getElem?_eq_getElem A1]
  rw[h3];congr 2;omega
theorem Hw {fuel:Nat}{cs:List Value}{x:DataW H×List MemPlace}(h:DataW.trod enc Tryz.prog w base (fun _=>true) held fuel 24 cs=some x):
    ∃n p l c xs,cs=[.bool n,.slice p l c]/\Ed w (.slice p l c) xs:=by
  obtain⟨y0,y1,n,_,hl,h0,h1⟩:=trod_struct2 Tryz.underlying24 h;rw[Hr]at hl;rw[Rz]at h0;obtain⟨b,e0,_⟩:=DataW.trod_bool Tryz.underlying4 h0;rw[eA]at h1;obtain⟨p,l,c,xs,e1,hd⟩:=gF h1;match cs,hl with
  | [u,v],_=>
    simp at e0 e1;exact⟨b,p,l,c,xs,by rw[e0,e1],hd⟩
theorem Iu {fuel:Nat}{cs:List Value}{x:DataW H×List MemPlace}(h:DataW.trod enc Tryz.prog w base (fun _=>true) held fuel 26 cs=some x):
    ∃a:RV,cs=[.bool a.n,.slice a.p a.l a.c,.bool a.m,.slice a.p2 a.l2 a.c2]/\a.Raw w:=by
  obtain⟨y0,y1,n,_,hl,h0,h1⟩:=trod_struct2 Tryz.underlying26 h;rw[dQ]at hl;rw[Hr]at h0 h1;obtain⟨n,p,l,c,xs,e0,d0⟩:=Hw h0;obtain⟨m,p2,l2,c2,ys,e1,d1⟩:=Hw h1;match cs,hl with
  | [u,v,u',v'],_=>
    simp at e0 e1;exact⟨⟨n,p,l,c,m,p2,l2,c2⟩,by simp[e0,e1],xs,ys,d0,d1⟩
end
end
section
open Go.ChangeShapes Go.WideShapes Go.ChangeAt Go.RowKit
theorem Ee {P:Program}{w:World}{r:Reach}{base:Nat}{t:TypeId}{fs:Array Field}{v:Value}(ht:P.underlying t=some (.struct fs))(h:Value.okWide P w r base t v):∃cs,v= .agg cs/\cs.size=P.cellsOf t:=by
  simp only[Value.okWide,ht]at h;obtain⟨cs,h1,h2,_⟩:=h;exact⟨cs,h1,h2⟩
instance:Inhabited RV:=⟨⟨false,none,0,0,false,none,0,0⟩⟩
section
variable {H:Type} {enc:TypeId×Value->H} {w:World} {base:Nat} {held:Bool}
end
end
section
attribute [local go_sem ↓] Go.wp_at_zero Go.wp_at_succ Aj Ai
theorem Vj {w0 w:World}{m:List Dc}{i j X1 X2:Nat}(h:Hp w0 w m)(ps:List (Int×Int))(h1:m[i]?=some (.blk X1 52 (ps.flatMap fun p=>[iV p.1,iV p.2])))
  (h2:m[j]?=some (.blk X2 53 [.slice (some ⟨X1,0,none⟩) ps.length ps.length])):Cu w (.slice (some ⟨X2,0,none⟩) 1 1) [ps]:=by
 refine⟨_,1,rfl,fun _=>⟨X2,0,rfl,fun i r hr=> ?_⟩⟩;have hi:i=0:=by have:=(List.getElem?_eq_some_iff.1 hr).1;simp at this;omega
 subst hi;have A0:r=ps:=by simpa using hr.symm
 subst A0;refine⟨_,r.length,h.cell h2 0 rfl,⟨_,r.length,rfl,fun _=>⟨X1,0,rfl,fun i hi=> ?_⟩⟩⟩;have hp:r[i]?=some r[i]:=List.getElem?_eq_getElem hi;have hg:r.getD i (0,0)=r[i]:=by simp[hi]
 rw[hg];have h3:=h.cell h1 (i*2+0) (Hv (f:=fun p:Int×Int=>([iV p.1,iV p.2]:List Value)) (fun _=>rfl) r i r[i] hp 0 _ rfl);have h4:=h.cell h1 (i*2+1) (Hv (f:=fun p:Int×Int=>([iV p.1,iV p.2]:List Value)) (fun _=>rfl) r i r[i] hp 1 _ rfl);rw[Nat.add_zero]at h3;rw[Nat.zero_add];exact⟨h3,h4⟩
theorem aB (a b:Int)(w:World)(h1: -9223372036854775808<=a)(h2:a<=9223372036854775807)(h3: -9223372036854775808<=b)(h4:b<=9223372036854775807)(hb:b≠0):
    Calls Tryz.prog 17 #[iV a,iV b] w fun e w'=>∃c,e= .returned (.tuple #[.agg c,iV 0])/\Mo w' c ((a:Rat)/(b:Rat))/\Aa w w':=by
  refine(Sr a b w h1 h2 h3 h4 hb).mono fun e w' h=> ?_
  obtain⟨c,rfl,h3,h4⟩:=Lu.v h;exact⟨_,rfl,⟨c,rfl,by rw[<-Rat.divInt_eq_div];exact h3⟩,h4⟩
def Gi:List Av:=[[(0,0),(256,0),(0,256)]]
def qU:List Av:=[[(0,256),(256,0),(0,0)]]
theorem vG {L:Nat}{w:World}{cs:Array Value}{q:Rat}(hp:Gy L w cs q)(hL:L<=60000):
    Calls Tryz.prog 21 #[.agg cs] w fun e w'=>∃c,e= .returned (.agg c)/\Mo w' c (-q)/\Aa w w':=by
  obtain⟨a,rfl,h1⟩:=hp;refine(jB _ _ _ _ L q w h1 (by omega)).mono fun e w' h=> ?_
  obtain⟨c,rfl,h3,h4⟩:=Ih.v h;exact⟨_,rfl,⟨c,rfl,h3⟩,h4⟩
theorem pU {r:R4}(h:r.emp=false):r.can=r:=if_neg (by rw[h];decide)
theorem kP {es:List Int}(h:Ke (⟨-1,0,2,1⟩:R4).can (Fo 1 Gi) es):es=[0,128,0]:=by
  rw[pU (by decide)]at h;refine h.ext ⟨by decide,fun x y hi=> ?_⟩ dC dC;obtain⟨⟨a,b⟩,c,d⟩:=hi;simp only at a b c d;obtain rfl:y=0:=by omega
  rcases(by omega:x= -1\/x=0\/x=1)with rfl|rfl|rfl<;>decide+kernel
theorem kQ {es:List Int}(h:Ke (⟨0,0,1,1⟩:R4).can (uE Gi) es):es=[128]:=by
  rw[pU (by decide)]at h;refine h.ext ⟨by decide,fun x y hi=> ?_⟩ dC dC;obtain⟨⟨a,b⟩,c,d⟩:=hi;simp only at a b c d;obtain rfl:y=0:=by omega
  obtain rfl:x=0:=by omega
  decide+kernel
theorem Rl:(fC (Fo 2 Gi) (⟨-3,-3,4,4⟩:R4).can).x0=0/\(fC (Fo 2 Gi) (⟨-3,-3,4,4⟩:R4).can).y0=0/\(fC (Fo 2 Gi) (⟨-3,-3,4,4⟩:R4).can).x1=1/\(fC (Fo 2 Gi) (⟨-3,-3,4,4⟩:R4).can).y1=1:=by decide+kernel
section
variable (A:Option Addr) (w:World) (hu:Cu w (.slice A Gi.length 1) Gi)
include hu
theorem yT:Calls Tryz.prog 18 #[.slice A Gi.length 1,iV 1,.agg #[iV (-1),iV 0,iV 2,iV 1]] w fun e w'=>∃(A:Option Addr) (c:Nat),e= .returned (.tuple #[.agg #[iV (-1),iV 0,iV 2,iV 1,.slice A 3 c],iV 0])/\Be w' w.heap.size 5 1 (.slice A 3 c) 3 (List.flatMap Ay [0,128,0])/\Aa w w':=by
 refine(En A 1 Gi 1 ⟨-1,0,2,1⟩ w hu dC (by intro r_ A0;simp[Gi]at A0;subst A0;decide) (fun _ _=>by decide) dC).mono fun e w' h=> ?_
 obtain⟨A,n,c,es,rfl,h1,h2,h3,_,hx⟩:=Ep.ok h (by decide);obtain rfl:=kP h3;have h1:n=3:=h1;subst h1;exact⟨A,c,rfl,h2,hx⟩
theorem yS:Calls Tryz.prog 18 #[.slice A Gi.length 1,iV 3,.agg #[iV 0,iV 0,iV 1,iV 1]] w fun e w'=>∃(A:Option Addr) (c:Nat),e= .returned (.tuple #[.agg #[iV 0,iV 0,iV 0,iV 0,.slice A 0 c],iV 2])/\Be w' w.heap.size 5 1 (.slice A 0 c) 0 (List.flatMap Ay [])/\Aa w w':=by
 refine(En A 1 Gi 3 ⟨0,0,1,1⟩ w hu dC (by intro r_ A0;simp[Gi]at A0;subst A0;decide) (fun _ _=>by decide) dC).mono fun e w' h=> ?_
 obtain⟨A,c,rfl,h2,hx⟩:=Ep.bad h (by decide);exact⟨A,c,rfl,h2,hx⟩
theorem yR:Calls Tryz.prog 18 #[.slice A Gi.length 1,iV 1,.agg #[iV (-200),iV (-200),iV 200,iV 200]] w fun e w'=>∃(A:Option Addr) (c:Nat),e= .returned (.tuple #[.agg #[iV 0,iV 0,iV 0,iV 0,.slice A 0 c],iV 5])/\Be w' w.heap.size 5 1 (.slice A 0 c) 0 (List.flatMap Ay [])/\Aa w w':=by
 refine(En A 1 Gi 1 ⟨-200,-200,200,200⟩ w hu dC (by intro r_ A0;simp[Gi]at A0;subst A0;decide) (fun _ _=>by decide) dC).mono fun e w' h=> ?_
 obtain⟨A,c,rfl,h2,hx⟩:=Ep.bad h (by decide);exact⟨A,c,rfl,h2,hx⟩
theorem yV:Calls Tryz.prog 20 #[.slice A Gi.length 1,iV 2,.agg #[iV (-3),iV (-3),iV 4,iV 4]] w fun e w'=>e= .returned (.tuple #[.agg #[iV 0,iV 0,iV 1,iV 1],iV 0])/\Aa w w':=by
 refine(uB A 1 Gi 2 ⟨-3,-3,4,4⟩ w hu dC (by intro r_ A0;simp[Gi]at A0;subst A0;decide) (fun _ _=>by decide) dC).mono fun e w' h=> ?_
 obtain⟨rfl,hx⟩:=h;rw[show aAJ 2 Gi ⟨-3,-3,4,4⟩=fC (Fo 2 Gi) (⟨-3,-3,4,4⟩:R4).can from if_pos (by decide),Rl.1,Rl.2.1,Rl.2.2.1,Rl.2.2.2];exact⟨rfl,hx⟩
theorem yW:Calls Tryz.prog 14 #[.slice A Gi.length 1,.agg #[iV 0,iV 0,iV 1,iV 1]] w fun e w'=>∃(A:Option Addr) (c:Nat),e= .returned (.tuple #[.agg #[iV 0,iV 0,iV 1,iV 1,.slice A 1 c],iV 0])/\Be w' w.heap.size 5 1 (.slice A 1 c) 1 (List.flatMap Ay [128])/\Aa w w':=by
 refine(uD A 1 Gi ⟨0,0,1,1⟩ w hu dC (by intro r_ A0;simp[Gi]at A0;subst A0;decide) (fun _ _=>by decide)).mono fun e w' h=> ?_
 obtain⟨A,n,c,es,rfl,h1,h2,h3,_,hx⟩:=Ep.ok h (by decide);obtain rfl:=kQ h3;have h1:n=1:=h1;subst h1;exact⟨A,c,rfl,h2,hx⟩
theorem yQ:Calls Tryz.prog 22 #[.slice A Gi.length 1,iV 1,iV 0,iV 0] w fun e w'=>e= .returned (.int .u8 128)/\Aa w w':=by
  refine(Kr A 1 Gi 1 0 0 w hu dC (by intro r_ A0;simp[Gi]at A0;subst A0;decide) (fun _=>by decide) dC).mono fun e w' h=> ?_
  rw[show Fo 1 Gi 0 0=128 by decide+kernel]at h;exact h
end
theorem yP (A:Option Addr)(w:World)(hu:Cu w (.slice A 1 1) qU):Calls Tryz.prog 11 #[.slice A 1 1,iV 0,iV 0] w fun e w'=>∃r:RV,e= .returned (.tuple #[.agg #[.bool r.n,.slice r.p r.l r.c,.bool r.m,.slice r.p2 r.l2 r.c2],iV 0])/\r.Is w' (-(((1:Int):Rat)/((2:Int):Rat)))/\Aa w w':=by
 refine(dK A 1 qU 0 0 w hu dC (by intro r_ A0;simp[qU]at A0;subst A0;decide) (fun _=>by decide) dC dC).mono fun e w' h=> ?_
 obtain⟨r,rfl,h1,_,hx⟩:=Uf.ok h (by decide);exact⟨r,rfl,(show Sf qU (0*256,0*256)= -(((1:Int):Rat)/((2:Int):Rat))by decide+kernel)▸h1,hx⟩
theorem yU (r:RV)(w:World)(h:r.Is w (((1:Int):Rat)/((2:Int):Rat)))(hl:Nm.rl (((1:Int):Rat)/((2:Int):Rat))<=8):Calls Tryz.prog 7 #[.agg #[.bool r.n,.slice r.p r.l r.c,.bool r.m,.slice r.p2 r.l2 r.c2]] w fun e w'=>e= .returned (.int .u8 128)/\Aa w w':=by
  refine(Kp r (((1:Int):Rat)/((2:Int):Rat)) w (h.isIn (Ar hl dC))).mono fun e w' h=> ?_
  rw[show Ls (((1:Int):Rat)/((2:Int):Rat))=128 by decide+kernel]at h;exact h
theorem Ij (w:World):Calls Tryz.prog 19 #[] w fun e w'=>∃g,e= .returned (.slice (some ⟨g,0,none⟩) Gi.length 1)/\Cu w' (.slice (some ⟨g,0,none⟩) Gi.length 1) Gi/\Aa w w':=by
 go_enter Tryz.func19,Tryz.ntmps19
 have H0:=zH (Hp.start w);go_upto_region 0 with fail
 refine wl ?_;refine Cs Ac _ ?_;go_upto_region 1 with fail
 refine wl ?_;refine Dh Ac _ _ _ ?_;refine cS 3 52 [iV 0,iV 0,iV 256,iV 0,iV 0,iV 256] H0.1 ?_;intro X5 w6 H7 _;refine cS 1 53 [.slice (some ⟨X5,0,none⟩) 3 3] H7.1 ?_;intro X9 A1 A0 _;refine Cs Ac _ ?_;go_wp2_with fail
 go_ret
 exact⟨_,rfl,Vj A0.1 [(0,0),(256,0),(0,256)] (i:=0) (j:=1) (by rfl) (by rfl),A0.1.ext⟩
set_option maxRecDepth 200000 in
theorem Fe (w:World):Calls Tryz.prog 6 #[] w fun e w'=>e= .returned (.bool true)/\Aa w w':=by
 go_enter Tryz.func6,Tryz.ntmps6
 have H0:=zH (Hp.start w);go_upto_region 0 with fail
 refine wl ?_;refine zq (.bool false) ?_;go_upto_region 1 with fail
 refine wl ?_;refine zc (aB 1 2 _ dC dC dC dC dC) ?_;rintro e O1 ⟨c_,rfl,D1,hx⟩;have L2:=zH (H0.1.step hx);obtain⟨B0,rfl,A1⟩:=D1;have H3:=zH A1;have H4:=zH (show Nm.rl (((1:Int):Rat)/((2:Int):Rat))<=8 from by decide+kernel);clear A1 hx;refine zn ?_;refine Dh Ac _ _ _ ?_;refine Cm 26 rz L2.1 ?_;intro C7 O0 L1 M7;refine Cy 0 (rc B0) L1.1 ?_;intro N9 L0 M6;refine zq (iV 0) ?_;go_upto_region 2 with fail
 refine wl ?_;refine zc (Ij _) ?_;rintro e N8 ⟨O5,rfl,A1,hx⟩;have K9:=zH (L0.1.step hx);have M5:=zH (Af.of_ext hx);have E2:=zH A1;clear A1 hx;refine zn ?_;refine Cs Ac _ ?_;refine zc (yT _ _ (E2.1)) ?_;rintro e H7 ⟨A6,A4,rfl,A0,hx⟩;have K8:=zH (show Hp w H7 [.blk C7 26 (rc B0),ro 5 1 A6 3 A4 Ay ([0,128,0])]from K9.1.addRow hx A0);have M4:=zH (Af.of_ext hx);clear A0 hx;refine zn ?_;refine Dh Ac _ _ _ ?_;refine Cm 42 [iV 0,iV 0,iV 0,iV 0,.slice none 0 0] K8.1 ?_;intro D3 N7 K7 M3;refine Cy 2 [iV (-1),iV 0,iV 2,iV 1,.slice A6 3 A4] K7.1 ?_;intro N6 K6 M2;refine zq (iV 0) ?_;go_upto_region 3 with fail
 refine wl ?_;refine zc (Ij _) ?_;rintro e N5 ⟨O4,rfl,A1,hx⟩;have K5:=zH (K6.1.step hx);have M1:=zH (Af.of_ext hx);have E1:=zH A1;clear A1 hx;refine zn ?_;refine Cs Ac _ ?_;refine aC K5.1 (yV _ _ (E1.1)) ?_;intro N4 K4 M0;refine Dh Ac _ _ _ ?_;refine Cm 35 [iV 0,iV 0,iV 0,iV 0] K4.1 ?_;intro D2 N3 K3 L9;refine Cy 3 [iV 0,iV 0,iV 1,iV 1] K3.1 ?_;intro N2 K2 L8;refine zq (iV 0) ?_;go_upto_region 4 with fail
 refine wl ?_;refine zc (Ij _) ?_;rintro e N1 ⟨O3,rfl,A1,hx⟩;have K1:=zH (K2.1.step hx);have L7:=zH (Af.of_ext hx);have E0:=zH A1;clear A1 hx;refine zn ?_;refine Cs Ac _ ?_;refine zc (yS _ _ (E0.1)) ?_;rintro e H6 ⟨B2,B1,rfl,A0,hx⟩;have K0:=zH (show Hp w H6 [.blk C7 26 (rc B0),ro 5 1 A6 3 A4 Ay ([0,128,0]),.blk D3 42 [iV (-1),iV 0,iV 2,iV 1,.slice A6 3 A4],.blk D2 35 [iV 0,iV 0,iV 1,iV 1],ro 5 1 B2 0 B1 Ay ([])]from K1.1.addRow hx A0);have L6:=zH (Af.of_ext hx);clear A0 hx;refine zn ?_;refine Dh Ac _ _ _ ?_;refine Cm 42 [iV 0,iV 0,iV 0,iV 0,.slice none 0 0] K0.1 ?_;intro H2 N0 J9 L5;refine Cy 5 [iV 0,iV 0,iV 0,iV 0,.slice B2 0 B1] J9.1 ?_;intro M9 J8 L4;refine zq (iV 2) ?_;go_upto_region 5 with fail
 refine wl ?_;refine zc (Ij _) ?_;rintro e M8 ⟨O2,rfl,A1,hx⟩;have J7:=zH (J8.1.step hx);have L3:=zH (Af.of_ext hx);have D9:=zH A1;clear A1 hx;refine zn ?_;refine Cs Ac _ ?_;refine zc (yR _ _ (D9.1)) ?_;rintro e H5 ⟨C8,C6,rfl,A0,hx⟩;have F6:=zH (show Hp w H5 [.blk C7 26 (rc B0),ro 5 1 A6 3 A4 Ay ([0,128,0]),.blk D3 42 [iV (-1),iV 0,iV 2,iV 1,.slice A6 3 A4],.blk D2 35 [iV 0,iV 0,iV 1,iV 1],ro 5 1 B2 0 B1 Ay ([]),.blk H2 42 [iV 0,iV 0,iV 0,iV 0,.slice B2 0 B1],ro 5 1 C8 0 C6 Ay ([])]from J7.1.addRow hx A0);have G8:=zH (Af.of_ext hx);clear A0 hx;refine zn ?_;refine Dh Ac _ _ _ ?_;refine Cm 42 [iV 0,iV 0,iV 0,iV 0,.slice none 0 0] F6.1 ?_;intro D6 J1 F5 G7;refine Cy 7 [iV 0,iV 0,iV 0,iV 0,.slice C8 0 C6] F5.1 ?_;intro J0 F4 G6;refine zq (iV 5) ?_;go_upto_region 6 with fail
 refine wl ?_;refine Dh Ac _ _ _ ?_;refine cS 3 52 [iV 0,iV 256,iV 256,iV 0,iV 0,iV 0] F4.1 ?_;intro A8 I9 F3 G5;refine cS 1 53 [.slice (some ⟨A8,0,none⟩) 3 3] F3.1 ?_;intro D5 I8 B9 G4;refine zc (yP _ _ (Vj B9.1 [(0,256),(256,0),(0,0)] (i:=8) (j:=9) rR rR)) ?_;rintro e I7 ⟨B3,rfl,A1,hx⟩;have F2:=zH (B9.1.step hx);have G3:=zH (Af.of_ext hx);have D8:=zH A1;have H1:=zH (show Nm.rl (-(((1:Int):Rat)/((2:Int):Rat)))<=8 from by decide+kernel);clear A1 hx;refine zn ?_;refine Dh Ac _ _ _ ?_;refine Cm 26 rz F2.1 ?_;intro D4 I6 F1 C4;refine Cy 10 (rc B3) F1.1 ?_;intro A7 B8 C3;refine zq (iV 0) ?_;go_upto_region 7 with fail
 refine zy ?_;have F0:=zH (B8.1.step (Aa.refl A7).drew);have C2:=zH (Af.of_ext (w:=A7) zb);refine zx 0 (bs 9 1) (iV 0) zb ?_;refine zu 1 (bs 9 3) (v:= .bool false) zb ?_ (hv:=by intro w J3;exact Jn (e:=(Ah (fun h_=>h_ rfl))));refine lJ B8.1 zb (bs 9 47) 2 3 5 (.bool false) _ _ ?_;have C1:=tD (tD C4 C3) C2;refine mC 4 (bs 9 63) (vG (L:=60000) (RV.Is.nin (D8.1.dig C1.1) (Ar H1.1 (by omega))) (by omega)) ?_;rintro e D0 ⟨c_,rfl,D1,hx⟩;have E9:=zH (F0.1.step hx);have G2:=zH (show Af A7.drew D0 from Af.of_ext hx);have B5:=zH (zb.trans hx);obtain⟨J2,rfl,A1⟩:=D1;have D7:=zH A1;have G9:=zH (show Nm.rl (-(-(((1:Int):Rat)/((2:Int):Rat))))<=8 from by decide+kernel);clear A1 hx;refine zm B5.1 ?_;have A5:=tD (tD (tD (tD (tD (tD (tD (tD (tD (tD (tD (tD (tD (tD (tD (tD (tD (tD (tD (tD (tD (tD (tD (tD M7 M6) M5) M4) M3) M2) M1) M0) L9) L8) L7) L6) L5) L4) L3) G8) G7) G6) G5) G4) G3) C4) C3) C2) G2;refine mC 6 (bs 9 127) (vH (L:=60000) (RV.Is.nin D7.1 (Ar G9.1 (by omega))) (RV.Is.nin (H3.1.dig A5.1) (Ar H4.1 (by omega))) (by omega)) ?_;rintro e I5 ⟨rfl,hx⟩;have E8:=zH (E9.1.step hx);have G1:=zH (Af.of_ext hx);have A9:=zH (B5.1.trans hx);clear hx;refine zm A9.1 ?_;refine zu 7 (bs 9 255) (v:= .bool false) A9.1 ?_ (hv:=by intro w J3;exact Jn (e:=(Ah (fun hh=>hh (Pk.2 (by decide+kernel))))));refine zx 8 (bs 9 511) (.bool false) A9.1 ?_;refine wpAnyH_done kR ?_ _;go_upto_region 9 with fail
 refine wl ?_;refine zc (Ij _) ?_;rintro e I4 ⟨J5,rfl,A1,hx⟩;have E7:=zH (E8.1.step hx);have G0:=zH (Af.of_ext hx);have B7:=zH A1;clear A1 hx;refine zn ?_;refine Cs Ac _ ?_;refine zc (yW _ _ (B7.1)) ?_;rintro e C9 ⟨C5,B4,rfl,A0,hx⟩;have E6:=zH (show Hp w C9 [.blk C7 26 (rc B0),ro 5 1 A6 3 A4 Ay ([0,128,0]),.blk D3 42 [iV (-1),iV 0,iV 2,iV 1,.slice A6 3 A4],.blk D2 35 [iV 0,iV 0,iV 1,iV 1],ro 5 1 B2 0 B1 Ay ([]),.blk H2 42 [iV 0,iV 0,iV 0,iV 0,.slice B2 0 B1],ro 5 1 C8 0 C6 Ay ([]),.blk D6 42 [iV 0,iV 0,iV 0,iV 0,.slice C8 0 C6],.blk A8 52 [iV 0,iV 256,iV 256,iV 0,iV 0,iV 0],.blk D5 53 [.slice (some ⟨A8,0,none⟩) 3 3],.blk D4 26 (rc B3),ro 5 1 C5 1 B4 Ay ([128])]from E7.1.addRow hx A0);have F9:=zH (Af.of_ext hx);clear A0 hx;refine zn ?_;refine Dh Ac _ _ _ ?_;refine Cm 42 [iV 0,iV 0,iV 0,iV 0,.slice none 0 0] E6.1 ?_;intro J6 I3 E5 F8;refine Cy 12 [iV 0,iV 0,iV 1,iV 1,.slice C5 1 B4] E5.1 ?_;intro I1 A3 F7;refine zq (iV 0) ?_;go_upto_region 10 with fail
 refine wl ?_;refine zq (iV 0) ?_;refine zp (.bool false) (by exact Jn (e:=(Ah (fun h_=>h_ rfl)))) ?_;refine Dh A3.1 (.bool false) _ _ ?_;refine zp (.string {data:=#[128]}) (by exact pA rR rR (A3.1.row (i:=11) rR) rR) ?_;refine zp (.bool false) (by exact tL rR rR rR (by simp)) ?_;refine zq (.bool false) ?_;go_upto_region 12 with fail
 refine wl ?_;refine Cs A3.1 _ ?_;have C0:=tD (tD (tD (tD (tD A5 G1) G0) F9) F8) F7;refine aC A3.1 (yU B0 _ (H3.1.dig C0.1) H4.1) ?_;intro I0 E4 _;refine zp (.bool true) (by exact gU rR rR rR dC) ?_;refine qV (.bool true) ?_;refine zc (Ij _) ?_;rintro e H9 ⟨J4,rfl,A1,hx⟩;have E3:=zH (E4.1.step hx);have B6:=zH A1;clear A1 hx;refine zn ?_;refine aC E3.1 (yQ _ _ (B6.1)) ?_;intro H8 A2 _;refine zp (.bool true) (by exact gU rR rR rR dC) ?_;refine Ej A2.1 (.bool true) (.bool true) _ _ ?_;refine zp (.string {data:=#[0,128,0]}) (by exact pA rR rR (A2.1.row (i:=1) rR) rR) ?_;refine zp (.bool true) (by exact tO rR rR rR (by simp)) ?_;refine Dh Ac (.bool true) (.bool true) _ ?_;refine zp (.bool true) (by exact bQ (e:=dC)) ?_;refine Hf A2.1 (.bool true) (.bool true) _ _ (.bool true) (.bool true) (.bool true) _ ?_;refine zp (.bool true) (by exact bQ (e:=dC)) ?_;refine Dh Ac (.bool true) (.bool true) _ ?_;refine zp (.bool true) (by exact bQ (e:=dC)) ?_;refine Dh Ac (.bool true) (.bool true) _ ?_;refine zp (.bool true) (by exact bQ (e:=dC)) ?_;refine qV (.bool true) ?_;refine zq (.bool true) ?_;go_wp2_with fail
 go_ret
 exact⟨rfl,A2.1.ext⟩
end
end Go.Proofs.YtlipfipniibpoaaGreat
