import Derived.Deep.LoopGhost
import Derived.Deep.DeepCutAuto
import Derived.RangeFuncNested
import Derived.RangeFuncBound
import Derived.RangeFuncCalls
import Derived.RangeFuncLeaves
import Derived.Shelf.Abstract
import Derived.Shelf.RegionOpen
import Derived.OwnWalkIn
import Derived.TacticsInMore
import Derived.LoopNIn
import Derived.LoopIn
import Derived.Maps.AppendAt
import Derived.OrdersIn
import Derived.Test.YtlipfipniibpoaaGreatM4
set_option maxRecDepth 100000
set_option maxHeartbeats 4000000
namespace Go.Proofs.YtlipfipniibpoaaGreat
open Go.RowKit
section
attribute [local go_sem ↓] Go.wp_at_zero Go.wp_at_succ Aj Ai
theorem Tg (v:Value)(L a:Nat)(w:World)(hv:Bd L w v a)(hL:L<=1000000):
    Calls Tryz.prog 102 #[.bool false,v] w fun e w'=>∃p l c,e= .returned (.agg #[.bool false,.slice p l c])/\Bj w' (.slice p l c) a/\Aa w w':=by
  refine(Hj false v L a w hv hL).mono ?_;rintro e w' ⟨n,u,rfl,h1,hx⟩;obtain⟨p,l,c,rfl⟩:=h1.form;have h2:n=false:=by rw[h1.1];simp[sg]
  subst h2;exact⟨p,l,c,rfl,by have h3:=h1.2;rwa[Sh]at h3,hx⟩
theorem pN (u v:Value)(L a b:Nat)(w:World)(hu:Bd L w u a)(hv:Bd L w v b)(hL:L<=300000)(hb:b≠0):
    Calls Tryz.prog 107 #[u,v] w fun e w'=>∃p l c p2 l2 c2,e= .returned (.tuple #[.slice p l c,.slice p2 l2 c2,iV 0])/\Bj w' (.slice p l c) (a/b)/\Bj w' (.slice p2 l2 c2) (a%b)/\Aa w w':=by
  refine(Nb u v L a b w hu hv hL hb).mono ?_;rintro e w' ⟨q,r,rfl,h1,h2,hx⟩;obtain⟨p,c,rfl⟩:=h1.form;obtain⟨p2,c2,rfl⟩:=h2.form;exact⟨p,_,c,p2,_,c2,rfl,h1,h2,hx⟩
theorem oH (n m:Bool)(u v:Value)(L:Nat)(y z:Int)(w:World)(hu:Ce L w n u y)(hv:Ce L w m v z)(hL:L<=150000):
    Calls Tryz.prog 69 #[.agg #[.bool n,u],.agg #[.bool m,v]] w fun e w'=>∃k p l c,e= .returned (.agg #[.bool k,.slice p l c])/\Cv w' k (.slice p l c) (y*z)/\Aa w w':=by
  refine(Hu n m u v L y z w hu hv hL).mono ?_;rintro e w' ⟨k,x,rfl,h1,hx⟩;obtain⟨p,l,c,rfl⟩:=h1.form;exact⟨k,p,l,c,rfl,h1,hx⟩
theorem lS (n m:Bool)(u v:Value)(L:Nat)(y z:Int)(w:World)(hu:Ce L w n u y)(hv:Ce L w m v z)(hL:L<=150000):
    Calls Tryz.prog 104 #[.agg #[.bool n,u],.agg #[.bool m,v]] w fun e w'=>∃k p l c,e= .returned (.agg #[.bool k,.slice p l c])/\Aa w w':=by
  refine(To n m u v L y z w hu hv hL).mono ?_;rintro e w' ⟨k,x,rfl,h1,hx⟩;obtain⟨p,l,c,rfl⟩:=h1.form;exact⟨k,p,l,c,rfl,hx⟩
theorem Pq {L a:Nat}{w:World}{v:Value}(h:Bd L w v a):Ce L w false v ((a:Nat):Int):=⟨a,h,rfl⟩
theorem Bj.digD {w w':World}{v:Value}{n:Nat}(h:Bj w v n)(d:Af w w'):Bj w' v n:=d _ _ h
theorem Bd.digD {L:Nat}{w w':World}{v:Value}{n:Nat}(h:Bd L w v n)(d:Af w w'):Bd L w' v n:=by obtain⟨xs,h1,h2⟩:=h;exact⟨xs,d _ _ h1,h2⟩
theorem Zk (X:Nat)(v:Value)(L a:Nat)(w:World)(hc:w.cell? ⟨X,0,none⟩=some (.bool false))(hv:Bd L w v a)(hL:L<=1000000):
  Calls Tryz.prog 147 #[v,.pointer (some ⟨X,0,none⟩)] w fun e w'=>∃p l c,e= .returned (.agg #[.bool false,.slice p l c])/\Bj w' (.slice p l c) a/\Aa w w':=by
 have HC:=zH hc;have A2:=zH hv;clear hc hv;go_enter Tryz.func147,Tryz.ntmps147
 have H0:=zH (Hp.start w);go_upto_region 0 with fail
 refine wl ?_;refine Cm 24 [.bool false,.slice none 0 0] H0.1 ?_;intro X1 w2 H3 _;go_upto_region 1 with fail
 refine wl ?_;refine ze X 0 (.bool false) (Kj (H3.1.ext.get HC.1)) ?_;refine qV (v) ?_;refine zc (Tg v L a _ (A2.1.ext H3.1.ext) hL) ?_;rintro e w7 ⟨p,l,c,rfl,A0,hx⟩;have H8:=zH (H3.1.step hx);have HN:=zH A0;clear A0 hx;refine zn ?_;refine Cy 0 [.bool false,.slice p l c] H8.1 ?_;intro A4 A1 A3;go_wp2_with fail
 refine bodyPost_ret (v:= .agg #[.bool false,.slice p l c]) ?_ rfl ⟨p,l,c,rfl,(A3.1 _ _ HN.1),A1.1.ext⟩;exact An rfl rfl ((A1.1.blk (i:=0) rR).loadVar rfl rfl rR)
theorem dJ (w:World):Calls Tryz.prog 109 #[.bool false] w fun e w'=>∃X,e= .returned (.func (.func 147) #[] #[.pointer (some ⟨X,0,none⟩)])/\w'.cell? ⟨X,0,none⟩=some (.bool false)/\Aa w w':=by
 go_enter Tryz.func109,Tryz.ntmps109
 have H0:=zH (Hp.start w);go_upto_region 0 with fail
 refine wl ?_;refine Cm 4 [.bool false] H0.1 ?_;intro A1 A2 A0 _;refine zq (.nilFunc) ?_;go_upto_region 1 with fail
 refine wl ?_;refine Bq Ac _ _ ?_;go_wp2_with fail
 go_ret
 exact⟨A1,rfl,Ak (A0.1.range (i:=0) (by rfl) 0 1),A0.1.ext⟩
theorem bK (p1 p2:Option Addr)(l1 c1 l2 c2 a b L:Nat)(w:World)(hu:Bd L w (.slice p1 l1 c1) a)(hv:Bd L w (.slice p2 l2 c2) b)(hL:L<=70000)(hb:b≠0):
  Calls Tryz.prog 66 #[.agg #[.bool false,.slice p1 l1 c1],.agg #[.bool false,.slice p2 l2 c2]] w fun e w'=>∃(p:Option Addr) (l c:Nat) (k:Bool) (p3:Option Addr) (l3 c3:Nat),e= .returned (.tuple #[.agg #[.bool false,.slice p l c],.agg #[.bool k,.slice p3 l3 c3],iV 0])/\Bj w' (.slice p l c) (a/b)/\Aa w w':=by
 have I0:=zH hu;have H9:=zH hv;have BA:=hu.nl;have BB:=hv.nl;have BQ:Nm.nl (a/b)<=L:=Ar (Nm.nl_mono (Nat.div_le_self a b)) BA;clear hu hv;go_enter Tryz.func66,Tryz.ntmps66
 have H0:=zH (Hp.start w);go_upto_region 0 with fail
 refine wl ?_;refine Cm 24 [.bool false,.slice p1 l1 c1] H0.1 ?_;intro A7 K1 I9 _;refine Cm 24 [.bool false,.slice p2 l2 c2] I9.1 ?_;intro A6 K0 I8 _;refine Cm 24 [.bool false,.slice none 0 0] I8.1 ?_;intro F7 J9 I7 _;refine Cm 24 [.bool false,.slice none 0 0] I7.1 ?_;intro F6 B2 C9 _;refine zq (iV 0) ?_;go_upto_region 1 with fail
 refine Kv (S:=fun x=>Aa B2 x) [10,11] kR ?_;have G4:=zH (C9.1.step (Aa.refl B2).drew);refine Fg (ds:=[1,4,9,10,11]) (i:=0) (listed':=(bs 12 1)) (v:= .pointer (some ⟨A7,0,none⟩)) rR kR kR kR (by intro _ _ _ h;exact h) (Jp rR (by intro w D9;go_simp<;>with_reducible rfl)) zb kR ?_;try simp only[Act.put,zA,zB,zC]
 refine Fg (ds:=[4,9,10,11]) (i:=1) (listed':=(bs 12 3)) (v:= .bool false) rR kR kR kR (by intro _ _ _ h;exact h) (Zb (g:=A7) (o:=0) rR (fun x hx=>Aa.get hx (show World.cell? B2 ⟨A7,0,none⟩=some (.bool false)from Ak (C9.1.range (i:=0) rR 0 1))) (by intro x hq;go_simp<;>with_reducible rfl)) zb kR ?_;try simp only[Act.put,zA,zB,zC]
 refine Fg (ds:=[3,4,9,10,11]) (i:=2) (listed':=(bs 12 7)) (v:= .pointer (some ⟨A7,1,none⟩)) rR kR kR kR (by intro _ _ _ h;exact h) (Jp rR (by intro w D9;go_simp<;>with_reducible rfl)) zb kR ?_;try simp only[Act.put,zA,zB,zC]
 refine Fg (ds:=[4,9,10,11]) (i:=3) (listed':=(bs 12 15)) (v:= .slice p1 l1 c1) rR kR kR kR (by intro _ _ _ h;exact h) (Zb (g:=A7) (o:=1) rR (fun x hx=>Aa.get hx (show World.cell? B2 ⟨A7,1,none⟩=some (.slice p1 l1 c1)from Ak (C9.1.range (i:=0) rR 1 1))) (by intro x hq;go_simp<;>with_reducible rfl)) zb kR ?_;try simp only[Act.put,zA,zB,zC]
 refine Fg (ds:=[6,9,10,11]) (i:=5) (listed':=(bs 12 47)) (v:= .pointer (some ⟨A6,0,none⟩)) rR kR kR kR (by intro _ _ _ h;exact h) (Jp rR (by intro w D9;go_simp<;>with_reducible rfl)) zb kR ?_;try simp only[Act.put,zA,zB,zC]
 refine Fg (ds:=[9,10,11]) (i:=6) (listed':=(bs 12 111)) (v:= .bool false) rR kR kR kR (by intro _ _ _ h;exact h) (Zb (g:=A6) (o:=0) rR (fun x hx=>Aa.get hx (show World.cell? B2 ⟨A6,0,none⟩=some (.bool false)from Ak (C9.1.range (i:=1) rR 0 1))) (by intro x hq;go_simp<;>with_reducible rfl)) zb kR ?_;try simp only[Act.put,zA,zB,zC]
 refine Fg (ds:=[8,9,10,11]) (i:=7) (listed':=(bs 12 239)) (v:= .pointer (some ⟨A6,1,none⟩)) rR kR kR kR (by intro _ _ _ h;exact h) (Jp rR (by intro w D9;go_simp<;>with_reducible rfl)) zb kR ?_;try simp only[Act.put,zA,zB,zC]
 refine Fg (ds:=[9,10,11]) (i:=8) (listed':=(bs 12 495)) (v:= .slice p2 l2 c2) rR kR kR kR (by intro _ _ _ h;exact h) (Zb (g:=A6) (o:=1) rR (fun x hx=>Aa.get hx (show World.cell? B2 ⟨A6,1,none⟩=some (.slice p2 l2 c2)from Ak (C9.1.range (i:=1) rR 1 1))) (by intro x hq;go_simp<;>with_reducible rfl)) zb kR ?_;try simp only[Act.put,zA,zB,zC]
 refine Ri (hist:=by rfl) (i:=4) (listed':=(bs 12 511)) rR kR rR (by go_simp) (Tg (.slice p1 l1 c1) L a _ (I0.1.digD G4.1.dig0) (by omega)) kR ?_;rintro e J8 ⟨B5,B8,C2,rfl,A4,hx⟩;have G3:=zH (G4.1.step hx);have F8:=zH (zb.trans hx);have G1:=zH A4;clear A4 hx;refine⟨_,rfl,F8.1,?_⟩;try simp only[Act.put,zA,zB,zC]
 refine Ri (hist:=by rfl) (i:=9) (listed':=(bs 12 1023)) rR kR rR (by go_simp) (Tg (.slice p2 l2 c2) L b _ (H9.1.digD G3.1.dig0) (by omega)) kR ?_;rintro e J7 ⟨B4,B7,C1,rfl,A4,hx⟩;have I6:=zH (G3.1.step hx);have J0:=zH (Af.of_ext hx);have H6:=zH (F8.1.trans hx);have G0:=zH A4;clear A4 hx;refine⟨_,rfl,H6.1,?_⟩;try simp only[Act.put,zA,zB,zC]
 refine aX kR ?_;refine Ea (i:=10) (listed':=(bs 12 2047)) rR kR rR kR _ _ _ rR I6.1 (ix:=0) rR 0 [.bool false,.slice B5 B8 C2] rR rR (by simp) kR (by simp[Value.oneCell']) (by simp[At]) ?_;intro J6 hh hd ho;have I5:=hN hh;have G8:=zH (hd);clear hh hd ho;refine⟨trivial,?_⟩
 (try simp only[Act.put])
 refine Ea (i:=11) (listed':=(bs 12 4095)) rR kR rR kR _ _ _ rR I5.1 (ix:=1) rR 0 [.bool false,.slice B4 B7 C1] rR rR (by simp) kR (by simp[Value.oneCell']) (by simp[At]) ?_;intro J5 hh hd ho;have G2:=hN hh;have G7:=zH (hd);clear hh hd ho;refine⟨trivial,?_⟩
 (try simp only[Act.put])
 refine wpAnyH_done kR ?_ _;go_upto_region 2 with fail
 refine wl ?_;refine Ej G2.1 _ _ _ _ ?_;have D1:=tD (tD J0 G8) G7;have D0:=tD G8 G7;refine zc (pN (.slice B5 B8 C2) (.slice B4 B7 C1) L a b _ (Bj.isIn (D1.1 _ _ G1.1) BA) (Bj.isIn (D0.1 _ _ G0.1) BB) (by omega) hb) ?_;rintro e J4 ⟨H3,H4,H5,K2,K3,K4,rfl,C0,F5,hx⟩;have E3:=zH (G2.1.step hx);have G6:=zH (Af.of_ext hx);have H7:=zH C0;have K5:=zH F5;clear C0 F5 hx;refine zn ?_;refine fF Ac _ _ _ _ _ _ _ ?_;go_upto_region 3 with fail
 refine wl ?_;refine zq (iV 0) ?_;refine zp (.bool false) (by exact Jn (e:=(Ah (by omega)))) ?_;go_upto_region 5 with fail
 refine wl ?_;refine Hf E3.1 _ _ _ _ (.bool false) (.bool false) _ _ ?_;refine zk ?_;refine zq (.bool false) ?_;go_upto_region 7 with fail
 refine wl ?_;refine Kf E3.1 _ _ _ _ (.bool false) ?_;refine zc (dJ _) ?_;rintro e J3 ⟨X,rfl,F4,hx⟩;have I4:=zH (E3.1.step hx);have E9:=zH (Af.of_ext hx);have H8:=zH F4;clear F4 hx;refine zn ?_;refine Cs Ac _ ?_;refine zc (Zk X (.slice H3 H4 H5) L (a/b) _ H8.1 (Bj.isIn (E9.1 _ _ H7.1) BQ) (by omega)) ?_;rintro e J2 ⟨A2,A3,A5,rfl,A4,hx⟩;have I3:=zH (I4.1.step hx);have G5:=zH (Af.of_ext hx);have F9:=zH A4;clear A4 hx;refine zn ?_;refine Cm 24 [.bool false,.slice none 0 0] I3.1 ?_;intro D6 J1 I1 E8;refine Cy 4 [.bool false,.slice A2 A3 A5] I1.1 ?_;intro A1 A0 B1;go_upto_region 8 with fail
 refine wp_region_held_drew (S:=fun x=>Fr (fun kz=>kz=F7\/kz=F6) A1 x) kR (Fr.of_ext zb) (fun _=> ?_);have E7:=zH (A0.1.step (Aa.refl A1).drew);have B0:=zH (Af.of_ext (w:=A1) zb);refine mR 0 (bs 9 1) D6 (0) [.bool false,.slice A2 A3 A5] (fun x hx=>Fr.range hx (show World.rangeAt A1 D6 (0) [.bool false,.slice A2 A3 A5]from(A0.1.range (i:=4) rR 0 2)) (fun hk=>hk.elim (A0.1.offBlk (i:=4) (j:=2) rR rR dC rR) (A0.1.offBlk (i:=4) (j:=3) rR rR dC rR))) Tryz.underlying24 (Fr.of_ext zb) ?_;refine mR 1 (bs 9 3) A7 (0) [.bool false,.slice B5 B8 C2] (fun x hx=>Fr.range hx (show World.rangeAt A1 A7 (0) [.bool false,.slice B5 B8 C2]from(A0.1.range (i:=0) rR 0 2)) (fun hk=>hk.elim (A0.1.offBlk (i:=0) (j:=2) rR rR dC rR) (A0.1.offBlk (i:=0) (j:=3) rR rR dC rR))) Tryz.underlying24 (Fr.of_ext zb) ?_;refine zr 2 (bs 9 7) D6 (0) [.bool false,.slice A2 A3 A5] (fun x hx=>Fr.range hx (show World.rangeAt A1 D6 (0) [.bool false,.slice A2 A3 A5]from(A0.1.range (i:=4) rR 0 2)) (fun hk=>hk.elim (A0.1.offBlk (i:=4) (j:=2) rR rR dC rR) (A0.1.offBlk (i:=4) (j:=3) rR rR dC rR))) Tryz.underlying24 (Fr.of_ext zb) ?_;refine zr 3 (bs 9 15) A6 (0) [.bool false,.slice B4 B7 C1] (fun x hx=>Fr.range hx (show World.rangeAt A1 A6 (0) [.bool false,.slice B4 B7 C1]from(A0.1.range (i:=1) rR 0 2)) (fun hk=>hk.elim (A0.1.offBlk (i:=1) (j:=2) rR rR dC rR) (A0.1.offBlk (i:=1) (j:=3) rR rR dC rR))) Tryz.underlying24 (Fr.of_ext zb) ?_;have A8:=tD (tD E8 B1) B0;have D4:=tD (tD (tD (tD (tD (tD D0 G6) E9) G5) E8) B1) B0;refine mC 4 (bs 9 31) (oH false false (.slice A2 A3 A5) (.slice B4 B7 C1) L _ _ _ (Pq (Bj.isIn (A8.1 _ _ F9.1) BQ)) (Pq (Bj.isIn (D4.1 _ _ G0.1) BB)) (by omega)) ?_;rintro e B3 ⟨E1,D7,D8,E0,rfl,C0,hx⟩;have E6:=zH (E7.1.step hx);have D5:=zH (show Af A1.drew B3 from Af.of_ext hx);have C8:=zH (show Fr (fun kz=>kz=F7\/kz=F6) A1 B3 from(Fr.of_ext zb).trans (Fr.of_ext hx));have E2:=zH C0;clear C0;have F3:=Eh _ _ L L (show Nm.nl ((((a/b):Nat):Int)).natAbs<=L from by rw[Int.natAbs_natCast];exact BQ) (show Nm.nl (((b:Nat):Int)).natAbs<=L from by rw[Int.natAbs_natCast];exact BB);clear hx;refine zm C8.1 ?_;have D3:=tD (tD (tD (tD (tD (tD (tD D1 G6) E9) G5) E8) B1) B0) D5;refine mC 5 (bs 9 63) (lS false E1 (.slice B5 B8 C2) (.slice D7 D8 E0) (L+L) _ _ _ (Pq (((Bj.isIn (D3.1 _ _ G1.1) BA)).mono (by omega))) (Cv.isIn E2.1 F3) (by omega)) ?_;rintro e H2 ⟨C4,B6,B9,C3,rfl,hx⟩;have E5:=zH (E6.1.step hx);have F2:=zH (Af.of_ext hx);have C7:=zH (C8.1.trans (Fr.of_ext hx));clear hx;refine zm C7.1 ?_;refine Ea (i:=6) (listed':=(bs 9 127)) rR kR rR kR _ _ _ rR E5.1 (ix:=2) rR 0 [.bool false,.slice A2 A3 A5] rR rR (by simp) kR (by simp[Value.oneCell']) (by simp[At]) ?_;intro H1 hh hd ho;have E4:=hN hh;have F1:=zH (hd);have C6:=zH (Fr.trans_new C7.1 ho (fun j hj=> .inl (.inl (by injection hj with hj;exact hj.symm))));clear hh hd ho;refine⟨C6.1,?_⟩
 (try simp only[Act.put])
 refine Ea (i:=7) (listed':=(bs 9 255)) rR kR rR kR _ _ _ rR E4.1 (ix:=3) rR 0 [.bool C4,.slice B6 B9 C3] rR rR (by simp) kR (by simp[Value.oneCell']) (by simp[At]) ?_;intro G9 hh hd ho;have A9:=hN hh;have F0:=zH (hd);have C5:=zH (Fr.trans_new C6.1 ho (fun j hj=> .inl (.inr (by injection hj with hj;exact hj.symm))));clear hh hd ho;refine⟨C5.1,?_⟩
 (try simp only[Act.put])
 refine zx 8 (bs 9 511) (iV 0) C5.1 ?_;refine wpAnyH_done kR ?_ _;have D2:=tD (tD (tD (tD A8 D5) F2) F1) F0;go_wp2_with fail
 refine bodyPost_ret (v:= .tuple #[.agg #[.bool false,.slice A2 A3 A5],.agg #[.bool C4,.slice B6 B9 C3],iV 0]) ?_ rfl ⟨_,_,_,_,_,_,_,rfl,(D2.1 _ _ F9.1),A9.1.ext⟩;exact Ck rfl rfl rfl ((A9.1.blk (i:=2) rR).loadVar rfl rfl rR) ((A9.1.blk (i:=3) rR).loadVar rfl rfl rR) rfl
theorem kN (r:RV)(q:Rat)(L:Nat)(w:World)(hr:r.In L w q)(hl:Nm.rl q<=L)(h0:0<=q)(hL:L<=70000):
  Calls Tryz.prog 27 #[.agg #[.bool r.n,.slice r.p r.l r.c,.bool r.m,.slice r.p2 r.l2 r.c2]] w fun e w'=>∃(p:Option Addr) (l c:Nat),e= .returned (.agg #[.bool false,.slice p l c])/\Bj w' (.slice p l c) (q.num.natAbs/q.den)/\Aa w w':=by
 have HR:=zH hr;have E4:Nm.nl q.num.natAbs<=L:=Ar (Nat.le_max_left _ _) hl;have E3:Nm.nl q.den<=L:=Ar (Nat.le_max_right _ _) hl;have F0:=Rat.num_nonneg.2 h0;clear hr hl;go_enter Tryz.func27,Tryz.ntmps27
 have H0:=zH (Hp.start w);go_upto_region 0 with fail
 refine wl ?_;refine Cm 26 (rc r) H0.1 ?_;intro A5 E0 C0 _;refine Cm 24 [.bool false,.slice none 0 0] C0.1 ?_;intro E7 D9 A4 _;go_upto_region 1 with fail
 refine wl ?_;refine Cs A4.1 _ ?_;refine zc (nT (L:=L) (RV.In.nin (HR.1.dig A4.1.dig0)) (by omega)) ?_;rintro e D8 ⟨c_,rfl,E2,hx⟩;have B9:=zH (A4.1.step hx);obtain⟨⟨n,p1,l1,c1,m,p2,l2,c2⟩,rfl,E1⟩:=E2;obtain⟨⟨C8,C7⟩,C9,C6⟩:=E1;obtain rfl:n=false:=by rw[show n=decide (q.num<0)from C8];simp;omega
 obtain rfl:m=false:=by rw[show m=decide (((q.den:Nat):Int)<0)from C9];simp
 have E9:=zH (show Bj _ (.slice p1 l1 c1) q.num.natAbs from C7);have E8:=zH (show Bj _ (.slice p2 l2 c2) q.den from C6);clear C8 C7 C9 C6 hx;refine zn ?_;refine Cy 0 [.bool false,.slice p1 l1 c1,.bool false,.slice p2 l2 c2] B9.1 ?_;intro D7 A3 A9;go_upto_region 2 with fail
 refine wl ?_;refine Cs Ac _ ?_;refine zd A5 (0) [.bool false,.slice p1 l1 c1] (A3.1.range (i:=0) rR 0 2) Tryz.underlying24 ?_;refine Cs Ac _ ?_;refine zd A5 (2) [.bool false,.slice p2 l2 c2] (A3.1.range (i:=0) rR 2 2) Tryz.underlying24 ?_;refine zc (bK _ _ _ _ _ _ q.num.natAbs q.den L _ (Bj.isIn (A9.1 _ _ E9.1) E4) (Bj.isIn (A9.1 _ _ E8.1) E3) hL q.den_nz) ?_;rintro e D6 ⟨A0,A1,A2,B3,B0,B1,B2,rfl,D0,hx⟩;have B8:=zH (A3.1.step hx);have B4:=zH D0;clear D0 hx;refine zn ?_;refine Ej Ac _ _ _ _ ?_;refine Cm 24 [.bool false,.slice none 0 0] B8.1 ?_;intro E6 D5 B7 C5;refine Cm 24 [.bool false,.slice none 0 0] B7.1 ?_;intro E5 D4 B6 C4;refine Cy 2 [.bool false,.slice A0 A1 A2] B6.1 ?_;intro D3 B5 C3;refine Cy 3 [.bool B3,.slice B0 B1 B2] B5.1 ?_;intro D2 A7 C2;refine zq (iV 0) ?_;go_upto_region 3 with fail
 refine wl ?_;refine Cs A7.1 _ ?_;refine Cy 1 [.bool false,.slice A0 A1 A2] A7.1 ?_;intro D1 A6 C1;have A8:=tD (tD (tD (tD C5 C4) C3) C2) C1;go_wp2_with fail
 refine bodyPost_ret (v:= .agg #[.bool false,.slice A0 A1 A2]) ?_ rfl ⟨_,_,_,rfl,(A8.1 _ _ B4.1),A6.1.ext⟩;exact An rfl rfl ((A6.1.blk (i:=1) rR).loadVar rfl rfl rR)
theorem eB (v:Value)(a:Nat)(w:World)(h:Bj w v a)(ha:a<4294967296):
  Calls Tryz.prog 64 #[v] w fun e w'=>∃(p:Option Addr) (l c:Nat),e= .returned (.slice p l c)/\Aa w w'/\Bj w' (.slice p l c) a/\((a=0/\l=0)\/(a≠0/\l=1/\∃g o,p=some ⟨g,o,none⟩)):=by
 have hl:Nm.nl a<=1:=Nm.nl_le (by omega);refine(Gf v 1 a w (h.isIn hl) dC).mono ?_;rintro e w' ⟨u,rfl,h1,hx⟩;have hn:=h1;obtain⟨p,c,rfl,h2,h3,h4⟩:=h1;refine⟨p,_,c,rfl,hx,hn,?_⟩;by_cases h0:a=0
 ·subst h0;exact .inl ⟨rfl,by rw[Nm.digs_zero];rfl⟩
 right;have hd:=Nm.digs_one h0 ha;rw[hd]at h4⊢;obtain⟨b,o,rfl,hb⟩:=h4 (by simp);exact⟨h0,rfl,b,o,rfl⟩
theorem jN {a:Nat}(ha:a<4294967296):bits .or .u64 0 ((a:Nat):Int)=((a:Nat):Int):=by
  have e1:bits .or .u64 0 ((a:Nat):Int)=IntKind.u64.wrap (((0#64|||BitVec.ofInt 64 ((a:Nat):Int):BitVec 64).toNat:Nat):Int):=rfl;rw[e1,BitVec.zero_or,IntKind.wrap_u64];simp;omega
theorem jQ {g o l c a:Nat}{w:World}(h:Bj w (.slice (some ⟨g,o,none⟩) l c) a)(h0:a≠0)(ha:a<4294967296):w.cell? ⟨g,o,none⟩=some (.int .u32 ((a:Nat):Int)):=by
  obtain⟨p,c',he,h2,h3,h4⟩:=h;have hd:=Nm.digs_one h0 ha;rw[hd]at h4;obtain⟨b,o',A0,hb⟩:=h4 (by simp);cases he;cases A0;have h5:=hb 0 (by simp);simpa using h5
theorem iC (p0:Option Addr)(l0 c0 a:Nat)(w:World)(h:Bj w (.slice p0 l0 c0) a)(ha:a<4294967296):
  Calls Tryz.prog 26 #[.agg #[.bool false,.slice p0 l0 c0]] w fun e w'=>e= .returned (.tuple #[iV (a:Nat),.bool true])/\Aa w w':=by
 have B4:=zH h;have C1:(0:Nat)|||a=a:=Nat.zero_or a;have C2:bits .or .u64 0 ((a:Nat):Int)=((a:Nat):Int):=jN ha;have C0:IntKind.u64.wrap 0=0:=by decide
 have B7:IntKind.i64.wrap 0=0:=by decide
 have B9:IntKind.u64.wrap ((a:Nat):Int)=((a:Nat):Int):=by rw[IntKind.wrap_u64];omega
 have B8:IntKind.i64.wrap ((a:Nat):Int)=((a:Nat):Int):=by rw[IntKind.wrap_i64];omega
 clear h;go_enter Tryz.func26,Tryz.ntmps26
 have H0:=zH (Hp.start w);go_upto_region 0 with fail
 refine wl ?_;refine Cm 24 [.bool false,.slice p0 l0 c0] H0.1 ?_;intro X1 w2 H3 _;refine Bq Ac _ (.bool false) ?_;go_upto_region 1 with fail
 refine wl ?_;refine Bq H3.1 _ _ ?_;refine zc (eB (.slice p0 l0 c0) a _ (B4.1.digD H3.1.dig0) ha) ?_;rintro e w9 ⟨p1,l1,c1,rfl,hx,A2,A8⟩;have A4:=zH (H3.1.step hx);have HC:=zH A8;have B5:=zH A2;clear A8 A2 hx;refine zn ?_;refine Cs Ac _ ?_;go_upto_region 2 with fail
 refine wl ?_;refine zq (.int .u64 0) ?_;rcases Co (a=0)with HZ|HZ
 ·obtain⟨hz,hl⟩:a=0/\l1=0:=by rcases HC.1 with h_|h_;exact h_;exact absurd HZ.1 h_.1
  subst hz hl;go_upto_region 3 with fail
  refine wl ?_;refine Bq Ac _ _ ?_;refine zp (iV (-1)) (by exact Tx (by omega)) ?_;refine zq (iV (-1)) ?_;go_wp2_with fail
  go_loopg [5,6] (1) (fun cq B3 v20 wr=>∃(k:Nat) (zv:Int) (iv:Int),cq=1-k/\B3= .int .u64 zv/\v20= iV iv/\(k<=1)/\(zv=0/\iv= -1)/\Hp w wr [.blk X1 24 [.bool false,.slice p0 l0 c0]]/\Af w9 wr)
  case atStart=>exact⟨0,0,-1,rfl,rfl,rfl,(by decide),⟨rfl,rfl⟩,A4.1,Af.refl _⟩
  obtain⟨k,zv,iv,rfl,rfl,rfl,A0,A1,A3,A2⟩:=hrel;generalize wr=A7 at*
  have A9:=zH A0;clear A0;have HI:=zH A1;clear A1;have B0:=zH A3;have C3:=zH A2;clear A3 A2 A4;obtain⟨rfl,rfl⟩:zv=0/\iv= -1:=HI.1;go_upto_region 4 with fail
  refine wl ?_;refine zq (iV (-1)) ?_;refine zp (.bool false) (by exact Jm (e:=(Ah (by omega)))) ?_;refine Kf Ac (.bool false) _ _ _ (.bool false) ?_;go_upto_region 7 with fail
  refine wl ?_;refine Bq Ac _ _ ?_;refine zp (.bool false) (by exact Tw (e:=(Ah (by omega)))) ?_;refine Bq Ac (.bool false) (.int .u64 0) ?_;refine zp (w':=A7) (.bool false) (by go_simp<;>omega) ?_;refine Dh Ac (.bool false) (.bool false) (.int .u64 0) ?_;refine zp (w':=A7) (.bool false) (by go_simp<;>omega) ?_;refine fF Ac (.bool false) _ _ _ (.bool false) (.bool false) (.bool false) ?_;go_upto_region 9 with fail
  refine wl ?_;refine Dh B0.1 _ _ (.bool false) ?_;go_upto_region 11 with fail
  refine wl ?_;refine Ej Ac (.int .u64 0) (iV ((0:Nat):Int)) (iV ((0:Nat):Int)) (.bool true) ?_;go_wp2_with fail
  refine bodyPost_ret (results_tmp2 rfl _ _ _) rfl ⟨rfl,B0.1.ext⟩
 obtain⟨hl,gd,od,rfl⟩:l1=1/\∃g o,p1=some ⟨g,o,none⟩:=by rcases HC.1 with h_|h_;exact absurd h_.1 HZ.1;exact h_.2
 subst hl;go_upto_region 3 with fail
 refine wl ?_;refine Bq Ac _ _ ?_;refine zp (iV 0) (by exact Tx (by omega)) ?_;refine zq (iV 0) ?_;go_wp2_with fail
 go_loopg [5,6] (1) (fun cq B2 v53 wr=>∃(k:Nat) (zv:Int) (iv:Int),cq=1-k/\B2= .int .u64 zv/\v53= iV iv/\(k<=1)/\((k=0/\zv=0/\iv=0)\/(k=1/\zv=((a:Nat):Int)/\iv= -1))/\Hp w wr [.blk X1 24 [.bool false,.slice p0 l0 c0]]/\Af w9 wr)
 case atStart=>exact⟨0,0,0,rfl,rfl,rfl,(by decide),(.inl ⟨rfl,rfl,rfl⟩),A4.1,Af.refl _⟩
 obtain⟨k,zv,iv,rfl,rfl,rfl,A0,A1,A3,A2⟩:=hrel;generalize wr=A6 at*
 have A9:=zH A0;clear A0;have HI:=zH A1;clear A1;have A5:=zH A3;have B1:=zH A2;clear A3 A2 A4;rcases Co (k=0/\zv=0/\iv=0)with HK0|HK0
 ·obtain⟨rfl,rfl,rfl⟩:k=0/\zv=0/\iv=0:=HK0.1
  go_upto_region 4 with fail
  refine wl ?_;refine zq (iV 0) ?_;refine zp (.bool true) (by exact Jm (e:=(Ae (by omega)))) ?_;refine Dh Ac (.bool true) _ _ ?_;refine zp (.bool true) (by exact Ju (e:=(Ae (by omega)))) ?_;refine zq (.bool true) ?_;go_upto_region 6 with fail
  refine wl ?_;refine Ej Ac (.int .u64 0) (.int .u64 0) _ _ ?_;refine zp (.pointer (some ⟨gd,od,none⟩)) (by exact Jo (k:=0) Tryz.underlying22 (l:=dC) (f:=(show od=od+0*1 by omega))) ?_;refine ze gd od (.int .u32 ((a:Nat):Int)) (Kj (jQ (B1.1 _ _ B5.1) HZ.1 ha)) ?_;refine Dh Ac (.int .u64 ((a:Nat):Int)) (.int .u64 ((a:Nat):Int)) (.int .u64 ((a:Nat):Int)) ?_;go_upto_region 5 with fail
  refine wl ?_;refine zq (iV 0) ?_;refine zp (iV (-1)) (by exact Tx (by omega)) ?_;refine zq (iV (-1)) ?_;go_wp2_with fail
  go_roundg (1-(1))
  case measure=>exact(by have B6:=A9.1;omega)
  case rel=>exact⟨1,((a:Nat):Int),-1,rfl,rfl,rfl,(by decide),(.inr ⟨rfl,rfl,rfl⟩),A5.1,B1.1⟩
 obtain⟨rfl,rfl,rfl⟩:k=1/\zv=((a:Nat):Int)/\iv= -1:=by rcases HI.1 with h_|h_;exact absurd h_ HK0.1;exact h_
 go_upto_region 4 with fail
 refine wl ?_;refine zq (iV (-1)) ?_;refine zp (.bool false) (by exact Jm (e:=(Ah (by omega)))) ?_;refine Kf Ac (.bool false) _ _ _ (.bool false) ?_;go_upto_region 7 with fail
 refine wl ?_;refine Bq Ac _ _ ?_;refine zp (.bool false) (by exact Tw (e:=(Ah (by omega)))) ?_;refine Bq Ac (.bool false) (.int .u64 ((a:Nat):Int)) ?_;refine zp (w':=A6) (.bool false) (by go_simp<;>omega) ?_;refine Dh Ac (.bool false) (.bool false) (.int .u64 ((a:Nat):Int)) ?_;refine zp (w':=A6) (.bool false) (by go_simp<;>omega) ?_;refine fF Ac (.bool false) _ _ _ (.bool false) (.bool false) (.bool false) ?_;go_upto_region 9 with fail
 refine wl ?_;refine Dh A5.1 _ _ (.bool false) ?_;go_upto_region 11 with fail
 refine wl ?_;refine Ej Ac (.int .u64 ((a:Nat):Int)) (iV ((a:Nat):Int)) (iV ((a:Nat):Int)) (.bool true) ?_;go_wp2_with fail
 refine bodyPost_ret (results_tmp2 rfl _ _ _) rfl ⟨rfl,A5.1.ext⟩
def Ls (q:Rat):Int:=if q<=0 then 0 else if 1<=q then 255 else(((q*((255:Int):Rat)+((1:Int):Rat)/((2:Int):Rat)).num.natAbs/(q*((255:Int):Rat)+((1:Int):Rat)/((2:Int):Rat)).den:Nat):Int)
theorem oV {q:Rat}{n:Nat}(h0:0<=q)(h:q<(((n+1:Nat):Int):Rat)):q.num.natAbs/q.den<=n:=by
 have hn:=Rat.num_nonneg.2 h0;refine Nat.le_of_lt_succ ((Nat.div_lt_iff_lt_mul q.den_pos).2 ?_);have e:q=(q.num:Rat)/(((q.den:Nat):Int):Rat):=by rw[<-Rat.divInt_eq_div];exact(Rat.num_divInt_den q).symm
 have hd:(0:Rat)<(((q.den:Nat):Int):Rat):=by exact_mod_cast q.den_pos
 have h2:(q.num:Rat)<(((n+1:Nat):Int):Rat)*(((q.den:Nat):Int):Rat):=by
  have h3:=Rat.mul_lt_mul_of_pos_right h hd;have h4:q*(((q.den:Nat):Int):Rat)=(q.num:Rat):=by
   have k:=Rat.inv_mul_cancel _ (show(((q.den:Nat):Int):Rat)≠0 by grind);rw[Rat.div_def]at e;generalize (((q.den:Nat):Int):Rat)=u at*
   generalize (q.num:Rat)=v at*
   rw[e];grind
  rwa[h4]at h3
 rw[<-Rat.intCast_mul,<-Int.natCast_mul]at h2;have h5:q.num<(((n+1)*q.den:Nat):Int):=by exact_mod_cast h2
 show _<(n+1)*q.den;omega
theorem tY (q:Rat):0<=Ls q/\Ls q<=255:=by
 unfold Ls;by_cases h1:q<=0
 ·rw[if_pos h1];decide
 rw[if_neg h1];by_cases h2:1<=q
 ·rw[if_pos h2];decide
 rw[if_neg h2];have e1:((1:Int):Rat)/((2:Int):Rat)<1:=by decide+kernel
 have e2:0<=((1:Int):Rat)/((2:Int):Rat):=by decide+kernel
 have e3:((255:Int):Rat)=255:=rfl;have e4:(((255+1:Nat):Int):Rat)=256:=rfl;generalize ((1:Int):Rat)/((2:Int):Rat)=hf at*
 have:=oV (q:=q*((255:Int):Rat)+hf) (n:=255) (by rw[e3];grind) (by rw[e3,e4];grind);exact⟨Int.natCast_nonneg _,Int.ofNat_le.2 this⟩
theorem Kp (r:RV)(q:Rat)(w:World)(hr:r.In 55000 w q):
  Calls Tryz.prog 7 #[.agg #[.bool r.n,.slice r.p r.l r.c,.bool r.m,.slice r.p2 r.l2 r.c2]] w fun e w'=>e= .returned (.int .u8 (Ls q))/\Aa w w':=by
 have HR:=zH hr;clear hr;go_enter Tryz.func7,Tryz.ntmps7
 have H0:=zH (Hp.start w);go_upto_region 0 with fail
 refine wl ?_;refine Cm 26 (rc r) H0.1 ?_;intro X1 w2 H3 _;refine zq (.int .u8 0) ?_;go_upto_region 1 with fail
 refine wl ?_;refine zc ((Vq 1 2 _ dC dC dC dC dC)) ?_;rintro e w7 ⟨c_,rfl,A1,hx⟩;have H9:=zH (H3.1.step hx);obtain⟨r8,rfl,A0⟩:=A1;have R8:=zH A0;have B8:=zH (show Nm.rl (((1:Int):Rat)/((2:Int):Rat))<=8 from by decide+kernel);clear A0 hx;refine zn ?_;refine Dh Ac _ _ _ ?_;refine Cm 26 rz H9.1 ?_;intro K3 J1 G2 H7;refine Cy 1 (rc r8) G2.1 ?_;intro A5 A7 H6;refine zq (iV 0) ?_;rcases Co (q<=0)with H1|H1
 ·go_upto_region 2 with fail
  refine zy ?_;have G1:=zH (A7.1.step (Aa.refl A5).drew);refine Rp A7.1 zb (bs 5 1) 0 _ ?_;refine mC 1 (bs 5 3) (Cx 0 _ (by omega) (by omega)) ?_;rintro e J0 ⟨c_,rfl,A1,hx⟩;have D4:=zH (G1.1.step hx);have C6:=zH (zb.trans hx);obtain⟨J7,rfl,A0⟩:=A1;have E9:=zH A0;have I3:=zH (Bk 0 (by omega) (by omega));clear A0 hx;refine zm C6.1 ?_;refine mC 2 (bs 5 7) (Fk (L:=60000) (RV.In.nin (RV.In.mono (HR.1.dig D4.1.dig0) (by omega))) (RV.Is.nin E9.1 (Ar I3.1 (by omega))) (by omega)) ?_;rintro e I9 ⟨rfl,hx⟩;have G0:=zH (D4.1.step hx);have B5:=zH (C6.1.trans hx);clear hx;refine zm B5.1 ?_;refine zu 3 (bs 5 15) (v:= .bool true) B5.1 ?_ (hv:=by intro w B1;exact Ju (e:=(Ae (Vl.2 H1.1))));refine zx 4 (bs 5 31) (.bool true) B5.1 ?_;refine wpAnyH_done kR ?_ _;go_upto_region 3 with fail
  refine wl ?_;refine zq (.int .u8 0) ?_;go_wp2_with fail
  go_ret
  exact⟨by rw[show Ls q=0 from if_pos H1.1]<;>rfl,G0.1.ext⟩
 go_upto_region 2 with fail
 refine zy ?_;have F9:=zH (A7.1.step (Aa.refl A5).drew);have H5:=zH (Af.of_ext (w:=A5) zb);refine Rp A7.1 zb (bs 5 1) 0 _ ?_;refine mC 1 (bs 5 3) (Cx 0 _ (by omega) (by omega)) ?_;rintro e E0 ⟨c_,rfl,A1,hx⟩;have D3:=zH (F9.1.step hx);have H4:=zH (show Af A5.drew E0 from Af.of_ext hx);have C5:=zH (zb.trans hx);obtain⟨J6,rfl,A0⟩:=A1;have E8:=zH A0;have I1:=zH (Bk 0 (by omega) (by omega));clear A0 hx;refine zm C5.1 ?_;refine mC 2 (bs 5 7) (Fk (L:=60000) (RV.In.nin (RV.In.mono (HR.1.dig D3.1.dig0) (by omega))) (RV.Is.nin E8.1 (Ar I1.1 (by omega))) (by omega)) ?_;rintro e A4 ⟨rfl,hx⟩;have A6:=zH (D3.1.step hx);have G9:=zH (Af.of_ext hx);have B4:=zH (C5.1.trans hx);clear hx;refine zm B4.1 ?_;refine zu 3 (bs 5 15) (v:= .bool false) B4.1 ?_ (hv:=by intro w B1;exact Ju (e:=(Ah (fun hh=>H1.1 (Vl.1 hh)))));refine zx 4 (bs 5 31) (.bool false) B4.1 ?_;refine wpAnyH_done kR ?_ _;rcases Co (1<=q)with H2|H2
 ·go_upto_region 4 with fail
  refine zy ?_;have F8:=zH (A6.1.step (Aa.refl A4).drew);refine Rp A6.1 zb (bs 5 1) 0 _ ?_;refine mC 1 (bs 5 3) (Cx 1 _ (by omega) (by omega)) ?_;rintro e I8 ⟨c_,rfl,A1,hx⟩;have D2:=zH (F8.1.step hx);have C4:=zH (zb.trans hx);obtain⟨J5,rfl,A0⟩:=A1;have E7:=zH A0;have I0:=zH (Bk 1 (by omega) (by omega));clear A0 hx;refine zm C4.1 ?_;refine mC 2 (bs 5 7) (Fk (L:=60000) (RV.In.nin (RV.In.mono (HR.1.dig D2.1.dig0) (by omega))) (RV.Is.nin E7.1 (Ar I0.1 (by omega))) (by omega)) ?_;rintro e I7 ⟨rfl,hx⟩;have F7:=zH (D2.1.step hx);have B3:=zH (C4.1.trans hx);clear hx;refine zm B3.1 ?_;refine zu 3 (bs 5 15) (v:= .bool true) B3.1 ?_ (hv:=by intro w B1;exact Jm (e:=(Ae (Vm.2 H2.1))));refine zx 4 (bs 5 31) (.bool true) B3.1 ?_;refine wpAnyH_done kR ?_ _;go_upto_region 5 with fail
  refine wl ?_;refine zq (.int .u8 255) ?_;go_wp2_with fail
  go_ret
  exact⟨by rw[show Ls q=255 from(if_neg H1.1).trans (if_pos H2.1)]<;>rfl,F7.1.ext⟩
 go_upto_region 4 with fail
 refine zy ?_;have F6:=zH (A6.1.step (Aa.refl A4).drew);have G8:=zH (Af.of_ext (w:=A4) zb);refine Rp A6.1 zb (bs 5 1) 0 _ ?_;refine mC 1 (bs 5 3) (Cx 1 _ (by omega) (by omega)) ?_;rintro e D9 ⟨c_,rfl,A1,hx⟩;have D1:=zH (F6.1.step hx);have G7:=zH (show Af A4.drew D9 from Af.of_ext hx);have C3:=zH (zb.trans hx);obtain⟨J4,rfl,A0⟩:=A1;have E6:=zH A0;have H8:=zH (Bk 1 (by omega) (by omega));clear A0 hx;refine zm C3.1 ?_;refine mC 2 (bs 5 7) (Fk (L:=60000) (RV.In.nin (RV.In.mono (HR.1.dig D1.1.dig0) (by omega))) (RV.Is.nin E6.1 (Ar H8.1 (by omega))) (by omega)) ?_;rintro e A8 ⟨rfl,hx⟩;have D0:=zH (D1.1.step hx);have G6:=zH (Af.of_ext hx);have B2:=zH (C3.1.trans hx);clear hx;refine zm B2.1 ?_;refine zu 3 (bs 5 15) (v:= .bool false) B2.1 ?_ (hv:=by intro w B1;exact Jm (e:=(Ah (fun hh=>H2.1 (Vm.1 hh)))));refine zx 4 (bs 5 31) (.bool false) B2.1 ?_;refine wpAnyH_done kR ?_ _;have F1:=zH (show 0<=(q*(((255):Int):Rat)+(((1:Int):Rat)/((2:Int):Rat)))from by have e2:(0:Rat)<=(((1:Int):Rat)/((2:Int):Rat)):=(by decide+kernel);have B9:=H1.1;have e3:((255:Int):Rat)=255:=rfl;rw[e3];generalize (((1:Int):Rat)/((2:Int):Rat))=hf at*;grind);obtain⟨fl,B0⟩:∃fl:Nat,fl=(q*(((255):Int):Rat)+(((1:Int):Rat)/((2:Int):Rat))).num.natAbs/(q*(((255):Int):Rat)+(((1:Int):Rat)/((2:Int):Rat))).den:=⟨_,rfl⟩;have C7:=zH (show Ls q=((fl:Nat):Int)from by rw[B0];exact(if_neg H1.1).trans (if_neg H2.1));have K1:fl<256:=by have B9:=tY q;rw[C7.1]at B9;omega
 have F2:=zH B0;clear B0;go_upto_region 6 with fail
 refine zy ?_;have F5:=zH (D0.1.step (Aa.refl A8).drew);have G5:=zH (Af.of_ext (w:=A8) zb);refine Ra D0.1 zb (bs 12 9) 0 3 _ _ ?_;refine mC 1 (bs 12 11) (Cx 255 _ (by omega) (by omega)) ?_;rintro e D8 ⟨c_,rfl,A1,hx⟩;have C9:=zH (F5.1.step hx);have G4:=zH (show Af A8.drew D8 from Af.of_ext hx);have C2:=zH (zb.trans hx);obtain⟨J3,rfl,A0⟩:=A1;have E5:=zH A0;have D7:=zH (Bk 255 (by omega) (by omega));clear A0 hx;refine zm C2.1 ?_;refine mC 2 (bs 12 15) (Xs (L:=60000) (RV.In.nin (RV.In.mono (HR.1.dig C9.1.dig0) (by omega))) (RV.Is.nin E5.1 (Ar D7.1 (by omega))) (by omega)) ?_;rintro e I6 ⟨c_,rfl,A1,hx⟩;have C8:=zH (C9.1.step hx);have G3:=zH (Af.of_ext hx);have C1:=zH (C2.1.trans hx);obtain⟨J2,rfl,A0⟩:=A1;have E4:=zH A0;clear A0;have D6:=zH (show Nm.rl (q*(((255):Int):Rat))<=55000+2 from by have h1:=(show Nm.rl q<=55000 from by have h:=(HR.1.dig C8.1.dig0).rl;omega);have h2:=D7.1;have h3:=Nm.rl_mul q (((255):Int):Rat);omega);clear hx;refine zm C1.1 ?_;have B7:=tD (tD (tD (tD (tD (tD (tD (tD (tD (tD H7 H6) H5) H4) G9) G8) G7) G6) G5) G4) G3;refine mC 4 (bs 12 31) (jL (L:=60000) (RV.Is.nin E4.1 (Ar D6.1 (by omega))) (RV.Is.nin (R8.1.dig B7.1) (Ar B8.1 (by omega))) (by omega)) ?_;rintro e I5 ⟨c_,rfl,A1,hx⟩;have F4:=zH (C8.1.step hx);have C0:=zH (C1.1.trans hx);obtain⟨E2,rfl,A0⟩:=A1;have E3:=zH A0;clear A0;have D5:=zH (show Nm.rl ((q*(((255):Int):Rat))+(((1:Int):Rat)/((2:Int):Rat)))<=(55000+2)+8+1 from by have h1:=D6.1;have h2:=B8.1;have h3:=Nm.rl_add (q*(((255):Int):Rat)) (((1:Int):Rat)/((2:Int):Rat));omega);clear hx;refine zm C0.1 ?_;refine mC 5 (bs 12 63) (kN E2 ((q*(((255):Int):Rat))+(((1:Int):Rat)/((2:Int):Rat))) 60000 _ (E3.1.isIn (Ar D5.1 (by omega))) (Ar D5.1 (by omega)) F1.1 dC) ?_;rintro e I4 ⟨J8,J9,K2,rfl,A9,hx⟩;have F3:=zH (F4.1.step hx);have A3:=zH (C0.1.trans hx);rw[<-F2.1]at A9;have F0:=zH A9;clear A9 hx;refine zm A3.1 ?_;refine mC 6 (bs 12 127) (iC _ _ _ fl _ F0.1 (by omega)) ?_;rintro e E1 ⟨rfl,hx⟩;have B6:=zH (F3.1.step hx);have A2:=zH (A3.1.trans hx);clear hx;refine zm A2.1 ?_;refine zN Ac A2.1 (bs 12 4095) 7 8 9 10 11 _ (iV ((fl:Nat):Int)) (.bool true) (iV ((fl:Nat):Int)) (.bool true) ?_;refine wpAnyH_done kR ?_ _;have K0:IntKind.u8.wrap ((fl:Nat):Int)=((fl:Nat):Int):=IntWalk.u8_in _ (by omega);go_upto_region 7 with fail
 refine wl ?_;refine Dh Ac (iV ((fl:Nat):Int)) (.int .u8 ((fl:Nat):Int)) (.int .u8 ((fl:Nat):Int)) ?_;go_wp2_with fail
 go_ret
 exact⟨by rw[C7.1]<;>rfl,B6.1.ext⟩
theorem Fv (v:Value)(L a:Nat)(w:World)(hv:Bd L w v a)(hL:L<=1000000):
    Calls Tryz.prog 70 #[.bool false,v] w fun e w'=>∃p l c,e= .returned (.agg #[.bool false,.slice p l c])/\Bj w' (.slice p l c) a/\Aa w w':=by
  refine(Em false v L a w hv hL).mono ?_;rintro e w' ⟨n,u,rfl,h1,hx⟩;obtain⟨p,l,c,rfl⟩:=h1.form;have h2:n=false:=by rw[h1.1];simp[sg]
  subst h2;exact⟨p,l,c,rfl,by have h3:=h1.2;rwa[Sh]at h3,hx⟩
theorem Sl (u v:Value)(L a b:Nat)(w:World)(hu:Bd L w u a)(hv:Bd L w v b)(hL:L<=200000)(hb:b≠0):
    Calls Tryz.prog 115 #[u,v] w fun e w'=>∃p l c p2 l2 c2,e= .returned (.tuple #[.slice p l c,.slice p2 l2 c2,iV 0])/\Bj w' (.slice p l c) (a/b)/\Bj w' (.slice p2 l2 c2) (a%b)/\Aa w w':=by
  refine(Ql u v L a b w hu hv hL hb).mono ?_;rintro e w' ⟨q,r,rfl,h1,h2,hx⟩;obtain⟨p,c,rfl⟩:=h1.form;obtain⟨p2,c2,rfl⟩:=h2.form;exact⟨p,_,c,p2,_,c2,rfl,h1,h2,hx⟩
theorem nI {P:Program}{o:Oper}{ρ:Operand->Value}{w:World}{a:Int}{k:IntKind}{t t':TypeId}{x y:Operand}(ho:o.op= .binOp .shl t x y t')(hx:ρ x= .int .u64 a)(hy:ρ y= .int k 0)(h:IntKind.u64.wrap a=a):(execOp ρ o).run P w= .ok (.value (.int .u64 a)) w:=by
  unfold execOp;simp only[ho,hx,hy];simp[go_sem,h]
theorem kE {q:Rat}(h0:0<=q):q<(((q.num.natAbs/q.den+1:Nat):Int):Rat):=by
 have hn:=Rat.num_nonneg.2 h0;have e:q=(q.num:Rat)/(((q.den:Nat):Int):Rat):=by rw[<-Rat.divInt_eq_div];exact(Rat.num_divInt_den q).symm
 have hd:(0:Rat)<(((q.den:Nat):Int):Rat):=by exact_mod_cast q.den_pos
 have h1:=Nat.lt_mul_div_succ q.num.natAbs q.den_pos;have h2:q.num<(((q.num.natAbs/q.den+1)*q.den:Nat):Int):=by rw[Nat.mul_comm];omega
 have h3:(q.num:Rat)<(((q.num.natAbs/q.den+1:Nat):Int):Rat)*(((q.den:Nat):Int):Rat):=by
  rw[<-Rat.intCast_mul,<-Int.natCast_mul];exact_mod_cast h2
 have h4:q*(((q.den:Nat):Int):Rat)=(q.num:Rat):=by
  have k:=Rat.inv_mul_cancel _ (show(((q.den:Nat):Int):Rat)≠0 by grind);rw[Rat.div_def]at e;generalize (((q.den:Nat):Int):Rat)=u at*
  generalize (q.num:Rat)=v at*
  rw[e];grind
 rw[<-h4]at h3;exact Rat.lt_of_mul_lt_mul_right h3 (Rat.le_of_lt hd)
theorem aAL {a b c:Rat}(h:a<=b)(k:b<c):a<c:=by grind
theorem Xv {p q:Rat}(h:p<=q):Ls p<=Ls q:=by
 have b1:=tY p;have b2:=tY q;by_cases h1:p<=0
 ·rw[show Ls p=0 from if_pos h1];exact b2.1
 by_cases h2:1<=q
 ·rw[show Ls q=255 from(if_neg (by grind)).trans (if_pos h2)];exact b1.2
 have e1:¬(1:Rat)<=p:=by grind
 have e2:¬q<=0:=by grind
 unfold Ls;rw[if_neg h1,if_neg e1,if_neg e2,if_neg h2];have e3:((255:Int):Rat)=255:=rfl;have e4:0<=((1:Int):Rat)/((2:Int):Rat):=by decide+kernel
 generalize ((1:Int):Rat)/((2:Int):Rat)=hf at*
 have k1:0<=q*((255:Int):Rat)+hf:=by rw[e3];grind
 have k2:=kE k1;refine Int.ofNat_le.2 (oV (by rw[e3];grind) ?_);exact aAL (by rw[e3];grind) k2
theorem Xj (p1 p2:Option Addr)(l1 c1 l2 c2 a b L:Nat)(w:World)(hu:Bd L w (.slice p1 l1 c1) a)(hv:Bd L w (.slice p2 l2 c2) b)(hL:L<=70000)(hb:b≠0):
  Calls Tryz.prog 71 #[.agg #[.bool false,.slice p1 l1 c1],.agg #[.bool false,.slice p2 l2 c2]] w fun e w'=>∃(p:Option Addr) (l c:Nat) (p3:Option Addr) (l3 c3:Nat),e= .returned (.tuple #[.agg #[.bool false,.slice p l c],.agg #[.bool false,.slice p3 l3 c3],iV 0])/\Bj w' (.slice p l c) (a/b)/\Aa w w':=by
 have D7:=zH hu;have C3:=zH hv;have BA:=hu.nl;have BB:=hv.nl;have BQ:Nm.nl (a/b)<=L:=Ar (Nm.nl_mono (Nat.div_le_self a b)) BA;have BM:Nm.nl (a%b)<=L:=Ar (Nm.nl_mono (Nat.mod_le a b)) BA;have D8:=zH (show((b:Nat):Int).sign=1 from Int.sign_eq_one_of_pos (by omega));clear hu hv;go_enter Tryz.func71,Tryz.ntmps71
 have H0:=zH (Hp.start w);go_upto_region 0 with fail
 refine wl ?_;refine Cm 24 [.bool false,.slice p1 l1 c1] H0.1 ?_;intro X1 w2 H3 _;refine Cm 24 [.bool false,.slice p2 l2 c2] H3.1 ?_;intro X6 w7 H8 _;refine Cm 24 [.bool false,.slice none 0 0] H8.1 ?_;intro C0 G2 E5 _;refine Cm 24 [.bool false,.slice none 0 0] E5.1 ?_;intro B9 G1 B1 _;refine zq (iV 0) ?_;go_upto_region 1 with fail
 refine wl ?_;refine Cs B1.1 _ ?_;refine aC B1.1 ((Hb false (.slice p2 l2 c2) L ((b:Nat):Int) _ (Pq (C3.1.digD B1.1.dig0)) (by omega)).mono fun _ _ h_=>(⟨h_.1.trans (by rw[D8.1]),h_.2⟩:_=Ending.returned (iV 1)/\Aa _ _)) ?_;intro G0 A9 _;refine zp (.bool false) (by exact bQ (e:=(Ah (by omega)))) ?_;go_upto_region 3 with fail
 refine wl ?_;refine Ej A9.1 _ _ _ _ ?_;refine zc (Sl (.slice p1 l1 c1) (.slice p2 l2 c2) L a b _ (D7.1.digD A9.1.dig0) (C3.1.digD A9.1.dig0) (by omega) hb) ?_;rintro e F9 ⟨C9,D0,D3,C8,D1,D2,rfl,B6,B5,hx⟩;have C5:=zH (A9.1.step hx);have D5:=zH B6;have D6:=zH B5;clear B6 B5 hx;refine zn ?_;refine fF Ac _ _ _ _ _ _ _ ?_;go_upto_region 4 with fail
 refine wl ?_;refine Pc C5.1 _ _ _ _ (.bool false) _ ?_;refine zc (Fv (.slice C9 D0 D3) L (a/b) _ (Bj.isIn D5.1 BQ) (by omega)) ?_;rintro e F8 ⟨A3,A5,A8,rfl,A6,hx⟩;have E4:=zH (C5.1.step hx);have F2:=zH (Af.of_ext hx);have D4:=zH A6;clear A6 hx;refine zn ?_;refine Cm 24 [.bool false,.slice none 0 0] E4.1 ?_;intro B8 F7 E3 C7;refine Cy 4 [.bool false,.slice A3 A5 A8] E3.1 ?_;intro F6 C4 C6;go_upto_region 5 with fail
 refine wl ?_;refine Dh C4.1 _ _ _ ?_;have B3:=tD (tD F2 C7) C6;refine zc (Fv (.slice C8 D1 D2) L (a%b) _ (Bj.isIn (B3.1 _ _ D6.1) BM) (by omega)) ?_;rintro e F5 ⟨A2,A4,A7,rfl,A6,hx⟩;have E2:=zH (C4.1.step hx);have F1:=zH (Af.of_ext hx);have G3:=zH A6;clear A6 hx;refine zn ?_;refine Cm 24 [.bool false,.slice none 0 0] E2.1 ?_;intro B7 F4 E1 F0;refine Cy 5 [.bool false,.slice A2 A4 A7] E1.1 ?_;intro A1 A0 E9;go_upto_region 6 with fail
 refine wl ?_;refine Hf A0.1 _ _ _ _ (.bool false) (.bool false) _ _ ?_;refine zk ?_;refine zq (.bool false) ?_;go_upto_region 8 with fail
 refine wp_region_held_drew (S:=fun x=>Fr (fun kz=>kz=C0\/kz=B9) A1 x) kR (Fr.of_ext zb) (fun _=> ?_);have E0:=zH (A0.1.step (Aa.refl A1).drew);have E8:=zH (Af.of_ext (w:=A1) zb);refine mR 0 (bs 5 1) B8 (0) [.bool false,.slice A3 A5 A8] (fun x hx=>Fr.range hx (show World.rangeAt A1 B8 (0) [.bool false,.slice A3 A5 A8]from(A0.1.range (i:=4) rR 0 2)) (fun hk=>hk.elim (A0.1.offBlk (i:=4) (j:=2) rR rR dC rR) (A0.1.offBlk (i:=4) (j:=3) rR rR dC rR))) Tryz.underlying24 (Fr.of_ext zb) ?_;refine zr 1 (bs 5 3) B7 (0) [.bool false,.slice A2 A4 A7] (fun x hx=>Fr.range hx (show World.rangeAt A1 B7 (0) [.bool false,.slice A2 A4 A7]from(A0.1.range (i:=5) rR 0 2)) (fun hk=>hk.elim (A0.1.offBlk (i:=5) (j:=2) rR rR dC rR) (A0.1.offBlk (i:=5) (j:=3) rR rR dC rR))) Tryz.underlying24 (Fr.of_ext zb) ?_;refine Ea (i:=2) (listed':=(bs 5 7)) rR kR rR kR _ _ _ rR E0.1 (ix:=2) rR 0 [.bool false,.slice A3 A5 A8] rR rR (by simp) kR (by simp[Value.oneCell']) (by simp[At]) ?_;intro B4 hh hd ho;have D9:=hN hh;have E7:=zH (show Af A1.drew B4 from hd);have C2:=zH (show Fr (fun kz=>kz=C0\/kz=B9) A1 B4 from Fr.trans_new (Fr.of_ext zb) ho (fun j hj=> .inl (.inl (by injection hj with hj;exact hj.symm))));clear hh hd ho;refine⟨C2.1,?_⟩
 (try simp only[Act.put])
 refine Ea (i:=3) (listed':=(bs 5 15)) rR kR rR kR _ _ _ rR D9.1 (ix:=3) rR 0 [.bool false,.slice A2 A4 A7] rR rR (by simp) kR (by simp[Value.oneCell']) (by simp[At]) ?_;intro F3 hh hd ho;have B0:=hN hh;have E6:=zH (hd);have C1:=zH (Fr.trans_new C2.1 ho (fun j hj=> .inl (.inr (by injection hj with hj;exact hj.symm))));clear hh hd ho;refine⟨C1.1,?_⟩
 (try simp only[Act.put])
 refine zx 4 (bs 5 31) (iV 0) C1.1 ?_;refine wpAnyH_done kR ?_ _;have B2:=tD (tD (tD (tD (tD (tD (tD C7 C6) F1) F0) E9) E8) E7) E6;go_wp2_with fail
 refine bodyPost_ret (v:= .tuple #[.agg #[.bool false,.slice A3 A5 A8],.agg #[.bool false,.slice A2 A4 A7],iV 0]) ?_ rfl ⟨_,_,_,_,_,_,rfl,(B2.1 _ _ D4.1),B0.1.ext⟩;exact Ck rfl rfl rfl ((B0.1.blk (i:=2) rR).loadVar rfl rfl rR) ((B0.1.blk (i:=3) rR).loadVar rfl rfl rR) rfl
theorem Qk (r:RV)(q:Rat)(L:Nat)(w:World)(hr:r.In L w q)(hl:Nm.rl q<=L)(h0:0<=q)(hL:L<=70000):
  Calls Tryz.prog 32 #[.agg #[.bool r.n,.slice r.p r.l r.c,.bool r.m,.slice r.p2 r.l2 r.c2]] w fun e w'=>∃(p:Option Addr) (l c:Nat),e= .returned (.agg #[.bool false,.slice p l c])/\Bj w' (.slice p l c) (q.num.natAbs/q.den)/\Aa w w':=by
 have HR:=zH hr;have E2:Nm.nl q.num.natAbs<=L:=Ar (Nat.le_max_left _ _) hl;have E1:Nm.nl q.den<=L:=Ar (Nat.le_max_right _ _) hl;have F2:=Rat.num_nonneg.2 h0;clear hr hl;go_enter Tryz.func32,Tryz.ntmps32
 have H0:=zH (Hp.start w);go_upto_region 0 with fail
 refine wl ?_;refine Cm 26 (rc r) H0.1 ?_;intro F4 F1 E8 _;refine Cm 24 [.bool false,.slice none 0 0] E8.1 ?_;intro F3 F0 B3 _;go_upto_region 1 with fail
 refine wl ?_;refine Cs B3.1 _ ?_;refine zc (nG (L:=L) (RV.In.nin (HR.1.dig B3.1.dig0)) (by omega)) ?_;rintro e E9 ⟨c_,rfl,E0,hx⟩;have E7:=zH (B3.1.step hx);obtain⟨⟨n,p1,l1,c1,m,p2,l2,c2⟩,rfl,D9⟩:=E0;obtain⟨⟨C8,C7⟩,C9,C6⟩:=D9;obtain rfl:n=false:=by rw[show n=decide (q.num<0)from C8];simp;omega
 obtain rfl:m=false:=by rw[show m=decide (((q.den:Nat):Int)<0)from C9];simp
 have E6:=zH (show Bj _ (.slice p1 l1 c1) q.num.natAbs from C7);have E5:=zH (show Bj _ (.slice p2 l2 c2) q.den from C6);clear C8 C7 C9 C6 hx;refine zn ?_;refine Cm 26 rz E7.1 ?_;intro A5 D8 B8 C5;refine Cy 2 [.bool false,.slice p1 l1 c1,.bool false,.slice p2 l2 c2] B8.1 ?_;intro D7 A4 C4;go_upto_region 2 with fail
 refine wl ?_;refine Cs Ac _ ?_;refine zd A5 (0) [.bool false,.slice p1 l1 c1] (A4.1.range (i:=2) rR 0 2) Tryz.underlying24 ?_;refine Cs Ac _ ?_;refine zd A5 (2) [.bool false,.slice p2 l2 c2] (A4.1.range (i:=2) rR 2 2) Tryz.underlying24 ?_;have A0:=tD C5 C4;refine zc (Xj _ _ _ _ _ _ q.num.natAbs q.den L _ (Bj.isIn (A0.1 _ _ E6.1) E2) (Bj.isIn (A0.1 _ _ E5.1) E1) hL q.den_nz) ?_;rintro e D6 ⟨A1,A2,A3,A9,B0,B1,rfl,D0,hx⟩;have B7:=zH (A4.1.step hx);have B2:=zH D0;clear D0 hx;refine zn ?_;refine Ej Ac _ _ _ _ ?_;refine Cm 24 [.bool false,.slice none 0 0] B7.1 ?_;intro E4 D5 B6 C3;refine Cm 24 [.bool false,.slice none 0 0] B6.1 ?_;intro E3 D4 B5 C2;refine Cy 3 [.bool false,.slice A1 A2 A3] B5.1 ?_;intro D3 B4 C1;refine Cy 4 [.bool false,.slice A9 B0 B1] B4.1 ?_;intro D2 A7 C0;refine zq (iV 0) ?_;go_upto_region 3 with fail
 refine wl ?_;refine Cs A7.1 _ ?_;refine Cy 1 [.bool false,.slice A1 A2 A3] A7.1 ?_;intro D1 A6 B9;have A8:=tD (tD (tD (tD C3 C2) C1) C0) B9;go_wp2_with fail
 refine bodyPost_ret (v:= .agg #[.bool false,.slice A1 A2 A3]) ?_ rfl ⟨_,_,_,rfl,(A8.1 _ _ B2.1),A6.1.ext⟩;exact An rfl rfl ((A6.1.blk (i:=1) rR).loadVar rfl rfl rR)
theorem Pl (v:Value)(a:Nat)(w:World)(h:Bj w v a)(ha:a<4294967296):
  Calls Tryz.prog 70 #[.bool false,v] w fun e w'=>∃(p:Option Addr) (l c:Nat),e= .returned (.agg #[.bool false,.slice p l c])/\Aa w w'/\Bj w' (.slice p l c) a/\((a=0/\l=0)\/(a≠0/\l=1/\∃g o,p=some ⟨g,o,none⟩)):=by
 have hl:Nm.nl a<=1:=Nm.nl_le (by omega);refine(Fv v 1 a w (h.isIn hl) dC).mono ?_;rintro e w' ⟨p0,l0,c0,rfl,h1,hx⟩;have hn:=h1;obtain⟨p,c,he,h2,h3,h4⟩:=h1;cases he;refine⟨_,_,_,rfl,hx,hn,?_⟩;by_cases h0:a=0
 ·subst h0;exact .inl ⟨rfl,by rw[Nm.digs_zero];rfl⟩
 right;have hd:=Nm.digs_one h0 ha;rw[hd]at h4⊢;obtain⟨b,o,rfl,hb⟩:=h4 (by simp);exact⟨h0,rfl,b,o,rfl⟩
theorem Jt (p0:Option Addr)(l0 c0 a:Nat)(w:World)(h:Bj w (.slice p0 l0 c0) a)(ha:a<4294967296):
  Calls Tryz.prog 31 #[.agg #[.bool false,.slice p0 l0 c0]] w fun e w'=>e= .returned (.tuple #[iV (a:Nat),.bool true])/\Aa w w':=by
 have C9:=zH h;have D6:bits .or .u64 0 ((a:Nat):Int)=((a:Nat):Int):=jN ha;have D5:IntKind.u64.wrap 0=0:=by decide
 have D3:IntKind.i64.wrap 0=0:=by decide
 have C8:IntKind.u64.wrap ((a:Nat):Int)=((a:Nat):Int):=by rw[IntKind.wrap_u64];omega
 have D4:IntKind.i64.wrap ((a:Nat):Int)=((a:Nat):Int):=by rw[IntKind.wrap_i64];omega
 clear h;go_enter Tryz.func31,Tryz.ntmps31
 have H0:=zH (Hp.start w);go_upto_region 0 with fail
 refine wl ?_;refine Cm 24 [.bool false,.slice p0 l0 c0] H0.1 ?_;intro B0 C7 A6 _;refine Bq Ac _ (.bool false) ?_;go_upto_region 1 with fail
 refine wl ?_;refine Ej A6.1 _ _ _ _ ?_;refine zc (Pl (.slice p0 l0 c0) a _ (C9.1.digD A6.1.dig0) ha) ?_;rintro e C6 ⟨p1,l1,c1,rfl,hx,A5,C3⟩;have C0:=zH (A6.1.step hx);have HC:=zH C3;have D0:=zH A5;clear C3 A5 hx;refine zn ?_;refine Cm 24 [.bool false,.slice none 0 0] C0.1 ?_;intro A9 C5 B9 C2;refine Cy 1 [.bool false,.slice p1 l1 c1] B9.1 ?_;intro A7 A4 C1;go_upto_region 2 with fail
 refine wl ?_;refine zq (.int .u64 0) ?_;rcases Co (a=0)with HZ|HZ
 ·obtain⟨hz,hl⟩:a=0/\l1=0:=by rcases HC.1 with h_|h_;exact h_;exact absurd HZ.1 h_.1
  subst hz hl;go_upto_region 3 with fail
  refine wl ?_;refine zq (iV 0) ?_;go_wp2_with fail
  go_loopg [5,6] (1) (fun cq B8 B7 wr=>∃(k:Nat) (zv:Int) (iv:Int),cq=1-k/\B8= .int .u64 zv/\B7= iV iv/\(k<=1)/\(zv=0/\iv=0)/\Hp w wr [.blk B0 24 [.bool false,.slice p0 l0 c0],.blk A9 24 [.bool false,.slice p1 0 c1]]/\Af A7 wr)
  case atStart=>exact⟨0,0,0,rfl,rfl,rfl,(by decide),⟨rfl,rfl⟩,A4.1,Af.refl _⟩
  obtain⟨k,zv,iv,rfl,rfl,rfl,A0,A2,A8,A5⟩:=hrel;generalize wr=B4 at*
  have C4:=zH A0;clear A0;have HI:=zH A2;clear A2;have A3:=zH A8;have D1:=zH A5;clear A8 A5 A4;obtain⟨rfl,rfl⟩:zv=0/\iv=0:=HI.1;go_upto_region 4 with fail
  refine wl ?_;refine Ej A3.1 _ _ _ _ ?_;refine zp (.bool false) (by exact Dv (e:=(Ah (by omega)))) ?_;go_upto_region 9 with fail
  refine wl ?_;refine Pc A3.1 _ _ (.bool false) _ _ (.bool false) ?_;go_upto_region 11 with fail
  refine wl ?_;refine Kf A3.1 _ _ (.bool true) (.bool true) (.int .u64 0) ?_;refine zp (w':=B4) (.bool true) (by go_simp<;>rfl) ?_;refine zq (.bool true) ?_;go_upto_region 12 with fail
  refine wl ?_;refine Ej Ac (.int .u64 0) _ _ (.bool true) ?_;go_wp2_with fail
  refine bodyPost_ret (results_tmp2 rfl _ _ _) rfl ⟨rfl,A3.1.ext⟩
 obtain⟨hl,gd,od,rfl⟩:l1=1/\∃g o,p1=some ⟨g,o,none⟩:=by rcases HC.1 with h_|h_;exact absurd h_.1 HZ.1;exact h_.2
 subst hl;go_upto_region 3 with fail
 refine wl ?_;refine zq (iV 0) ?_;go_wp2_with fail
 go_loopg [5,6] (1) (fun cq B6 B5 wr=>∃(k:Nat) (zv:Int) (iv:Int),cq=1-k/\B6= .int .u64 zv/\B5= iV iv/\(k<=1)/\((k=0/\zv=0/\iv=0)\/(k=1/\zv=((a:Nat):Int)/\iv=1))/\Hp w wr [.blk B0 24 [.bool false,.slice p0 l0 c0],.blk A9 24 [.bool false,.slice (some ⟨gd,od,none⟩) 1 c1]]/\Af A7 wr)
 case atStart=>exact⟨0,0,0,rfl,rfl,rfl,(by decide),(.inl ⟨rfl,rfl,rfl⟩),A4.1,Af.refl _⟩
 obtain⟨k,zv,iv,rfl,rfl,rfl,A0,A2,A8,A5⟩:=hrel;generalize wr=B3 at*
 have C4:=zH A0;clear A0;have HI:=zH A2;clear A2;have A1:=zH A8;have B2:=zH A5;clear A8 A5 A4;rcases Co (k=0/\zv=0/\iv=0)with HK0|HK0
 ·obtain⟨rfl,rfl,rfl⟩:k=0/\zv=0/\iv=0:=HK0.1
  go_upto_region 4 with fail
  refine wl ?_;refine Ej A1.1 _ _ _ _ ?_;refine zp (.bool true) (by exact Dv (e:=(Ae (by omega)))) ?_;go_upto_region 6 with fail
  refine wl ?_;refine zq (iV 0) ?_;refine zp (.bool false) (by exact Tw (e:=(Ah (by omega)))) ?_;go_upto_region 8 with fail
  refine wl ?_;refine Ej A1.1 (.int .u64 0) _ _ _ ?_;refine zp (.pointer (some ⟨gd,od,none⟩)) (by exact Jo (k:=0) Tryz.underlying22 (l:=dC) (f:=(show od=od+0*1 by omega))) ?_;have B1:=tD (tD C2 C1) B2;refine ze gd od (.int .u32 ((a:Nat):Int)) (Kj (jQ (D0.1.digD B1.1) HZ.1 ha)) ?_;refine Ej Ac (.int .u64 ((a:Nat):Int)) _ (.int .u64 0) (.int .u64 0) ?_;refine zp (.int .u64 ((a:Nat):Int)) (by exact nI rR rR rR C8) ?_;refine Bq Ac (.int .u64 ((a:Nat):Int)) (.int .u64 ((a:Nat):Int)) ?_;go_upto_region 5 with fail
  refine wl ?_;refine zq (iV 0) ?_;refine zp (iV 1) (by exact Hm (by omega)) ?_;refine zq (iV 1) ?_;go_wp2_with fail
  go_roundg (1-(1))
  case measure=>exact(by have D2:=C4.1;omega)
  case rel=>exact⟨1,((a:Nat):Int),1,rfl,rfl,rfl,(by decide),(.inr ⟨rfl,rfl,rfl⟩),A1.1,B2.1⟩
 obtain⟨rfl,rfl,rfl⟩:k=1/\zv=((a:Nat):Int)/\iv=1:=by rcases HI.1 with h_|h_;exact absurd h_ HK0.1;exact h_
 go_upto_region 4 with fail
 refine wl ?_;refine Ej A1.1 _ _ _ _ ?_;refine zp (.bool false) (by exact Dv (e:=(Ah (by omega)))) ?_;go_upto_region 9 with fail
 refine wl ?_;refine Pc A1.1 _ _ (.bool false) _ _ (.bool false) ?_;go_upto_region 11 with fail
 refine wl ?_;refine Kf A1.1 _ _ (.bool true) (.bool true) (.int .u64 ((a:Nat):Int)) ?_;refine zp (w':=B3) (.bool true) (by go_simp<;>omega) ?_;refine zq (.bool true) ?_;go_upto_region 12 with fail
 refine wl ?_;refine Ej Ac (.int .u64 ((a:Nat):Int)) (iV ((a:Nat):Int)) (iV ((a:Nat):Int)) (.bool true) ?_;go_wp2_with fail
 refine bodyPost_ret (results_tmp2 rfl _ _ _) rfl ⟨rfl,A1.1.ext⟩
theorem Jc (a b:Int)(w:World)(h1: -9223372036854775808<=a)(h2:a<=9223372036854775807)(h3: -9223372036854775808<=b)(h4:b<=9223372036854775807)(hb:b≠0):
    Calls Tryz.prog 17 #[iV a,iV b] w fun e w'=>∃c,e= .returned (.tuple #[.agg c,iV 0])/\Mo w' c ((a:Rat)/(b:Rat))/\Aa w w':=by
  refine(Sr a b w h1 h2 h3 h4 hb).mono fun e w' h=> ?_
  obtain⟨c,rfl,h3,h4⟩:=Lu.v h;exact⟨_,rfl,⟨c,rfl,by rw[<-Rat.divInt_eq_div];exact h3⟩,h4⟩
theorem nE {q:Rat}(h0:0<=q)(h1:q<=1):Ls q=((((((255):Int):Rat)*q+(((1:Int):Rat)/((2:Int):Rat))).num.natAbs/((((255):Int):Rat)*q+(((1:Int):Rat)/((2:Int):Rat))).den:Nat):Int):=by
  by_cases c0:q<=0
  · obtain rfl:q=0:=by grind
    decide+kernel
  by_cases c1:1<=q
  · obtain rfl:q=1:=by grind
    decide+kernel
  unfold Ls;rw[if_neg c0,if_neg c1,Rat.mul_comm]
theorem oW {P:Program}{o:Oper}{ρ:Operand->Value}{w:World}{a c:Int}{t t':TypeId}{x y:Operand}(ho:o.op= .binOp .leq t x y t')(hx:ρ x= .int .u8 a)(hy:ρ y= .int .u8 c)(hE:a<=c):(execOp ρ o).run P w= .ok (.value (.bool true)) w:=by
  unfold execOp;simp only[ho,hx,hy];simp[go_sem,hE]
theorem Cg (r:RV)(q:Rat)(w:World)(hr:r.In 30 w q):
  Calls Tryz.prog 8 #[.agg #[.bool r.n,.slice r.p r.l r.c,.bool r.m,.slice r.p2 r.l2 r.c2]] w fun e w'=>e= .returned (.int .u8 (Ls q))/\Aa w w':=by
 have HR:=zH hr;clear hr;go_enter Tryz.func8,Tryz.ntmps8
 have H0:=zH (Hp.start w);go_upto_region 0 with fail
 refine wl ?_;refine Cm 26 (rc r) H0.1 ?_;intro X1 w2 H3 _;refine zq (.int .u8 0) ?_;rcases Co (q<0)with H1|H1
 ·go_upto_region 1 with fail
  refine zy ?_;have H8:=zH (H3.1.step (Aa.refl w2).drew);refine Rp H3.1 zb (bs 4 1) 0 _ ?_;refine mC 1 (bs 4 3) (Fu 0 _ (by omega) (by omega)) ?_;rintro e I7 ⟨c_,rfl,A1,hx⟩;have C9:=zH (H8.1.step hx);have C1:=zH (zb.trans hx);obtain⟨J3,rfl,A0⟩:=A1;have E4:=zH A0;have G8:=zH (Bk 0 (by omega) (by omega));clear A0 hx;refine zm C1.1 ?_;refine mC 2 (bs 4 7) (vH (L:=60000) (RV.In.nin (RV.In.mono (HR.1.dig C9.1.dig0) (by omega))) (RV.Is.nin E4.1 (Ar G8.1 (by omega))) (by omega)) ?_;rintro e I6 ⟨rfl,hx⟩;have F9:=zH (C9.1.step hx);have C0:=zH (C1.1.trans hx);clear hx;refine zm C0.1 ?_;refine zu 3 (bs 4 15) (v:= .bool true) C0.1 ?_ (hv:=by intro w A7;exact Dv (e:=(Ae (rcmp_lt.2 H1.1))));refine wpAnyH_done kR ?_ _;go_upto_region 2 with fail
  refine wl ?_;refine zq (.int .u8 0) ?_;go_wp2_with fail
  go_ret
  exact⟨by rw[show Ls q=0 from if_pos (by have:=H1.1;grind)]<;>rfl,F9.1.ext⟩
 go_upto_region 1 with fail
 refine zy ?_;have F8:=zH (H3.1.step (Aa.refl w2).drew);refine Rp H3.1 zb (bs 4 1) 0 _ ?_;refine mC 1 (bs 4 3) (Fu 0 _ (by omega) (by omega)) ?_;rintro e I5 ⟨c_,rfl,A1,hx⟩;have C8:=zH (F8.1.step hx);have B9:=zH (zb.trans hx);obtain⟨J2,rfl,A0⟩:=A1;have E3:=zH A0;have G7:=zH (Bk 0 (by omega) (by omega));clear A0 hx;refine zm B9.1 ?_;refine mC 2 (bs 4 7) (vH (L:=60000) (RV.In.nin (RV.In.mono (HR.1.dig C8.1.dig0) (by omega))) (RV.Is.nin E3.1 (Ar G7.1 (by omega))) (by omega)) ?_;rintro e A9 ⟨rfl,hx⟩;have A3:=zH (C8.1.step hx);have B8:=zH (B9.1.trans hx);clear hx;refine zm B8.1 ?_;refine zu 3 (bs 4 15) (v:= .bool false) B8.1 ?_ (hv:=by intro w A7;exact Dv (e:=(Ah (fun hh=>H1.1 (rcmp_lt.1 hh)))));refine wpAnyH_done kR ?_ _;rcases Co (1<q)with H2|H2
 ·go_upto_region 3 with fail
  refine zy ?_;have F7:=zH (A3.1.step (Aa.refl A9).drew);refine Rp A3.1 zb (bs 4 1) 0 _ ?_;refine mC 1 (bs 4 3) (Fu 1 _ (by omega) (by omega)) ?_;rintro e I4 ⟨c_,rfl,A1,hx⟩;have C7:=zH (F7.1.step hx);have B7:=zH (zb.trans hx);obtain⟨J1,rfl,A0⟩:=A1;have E2:=zH A0;have G6:=zH (Bk 1 (by omega) (by omega));clear A0 hx;refine zm B7.1 ?_;refine mC 2 (bs 4 7) (vH (L:=60000) (RV.In.nin (RV.In.mono (HR.1.dig C7.1.dig0) (by omega))) (RV.Is.nin E2.1 (Ar G6.1 (by omega))) (by omega)) ?_;rintro e I3 ⟨rfl,hx⟩;have F6:=zH (C7.1.step hx);have B6:=zH (B7.1.trans hx);clear hx;refine zm B6.1 ?_;refine zu 3 (bs 4 15) (v:= .bool true) B6.1 ?_ (hv:=by intro w A7;exact Tw (e:=(Ae (Hg.2 H2.1))));refine wpAnyH_done kR ?_ _;go_upto_region 4 with fail
  refine wl ?_;refine zq (.int .u8 255) ?_;go_wp2_with fail
  go_ret
  exact⟨by rw[show Ls q=255 from(if_neg (by have:=H2.1;grind)).trans (if_pos (by have:=H2.1;grind))]<;>rfl,F6.1.ext⟩
 go_upto_region 3 with fail
 refine zy ?_;have F5:=zH (A3.1.step (Aa.refl A9).drew);refine Rp A3.1 zb (bs 4 1) 0 _ ?_;refine mC 1 (bs 4 3) (Fu 1 _ (by omega) (by omega)) ?_;rintro e I1 ⟨c_,rfl,A1,hx⟩;have C6:=zH (F5.1.step hx);have B5:=zH (zb.trans hx);obtain⟨J0,rfl,A0⟩:=A1;have E1:=zH A0;have G5:=zH (Bk 1 (by omega) (by omega));clear A0 hx;refine zm B5.1 ?_;refine mC 2 (bs 4 7) (vH (L:=60000) (RV.In.nin (RV.In.mono (HR.1.dig C6.1.dig0) (by omega))) (RV.Is.nin E1.1 (Ar G5.1 (by omega))) (by omega)) ?_;rintro e I0 ⟨rfl,hx⟩;have F4:=zH (C6.1.step hx);have B4:=zH (B5.1.trans hx);clear hx;refine zm B4.1 ?_;refine zu 3 (bs 4 15) (v:= .bool false) B4.1 ?_ (hv:=by intro w A7;exact Tw (e:=(Ah (fun hh=>H2.1 (Hg.1 hh)))));refine wpAnyH_done kR ?_ _;go_upto_region 5 with fail
 refine wl ?_;refine zc ((Jc 1 2 _ dC dC dC dC dC)) ?_;rintro e H9 ⟨c_,rfl,A1,hx⟩;have F3:=zH (F4.1.step hx);obtain⟨D6,rfl,A0⟩:=A1;have E0:=zH A0;have D3:=zH (show Nm.rl (((1:Int):Rat)/((2:Int):Rat))<=8 from by decide+kernel);clear A0 hx;refine zn ?_;refine Dh Ac _ _ _ ?_;refine Cm 26 rz F3.1 ?_;intro K0 H7 F2 G4;refine Cy 1 (rc D6) F2.1 ?_;intro A4 C5 G3;refine zq (iV 0) ?_;have E6:=zH (show 0<=((((255):Int):Rat)*q+(((1:Int):Rat)/((2:Int):Rat)))from by have e2:(0:Rat)<=(((1:Int):Rat)/((2:Int):Rat)):=(by decide+kernel);have J8:=H1.1;have e3:((255:Int):Rat)=255:=rfl;rw[e3];generalize (((1:Int):Rat)/((2:Int):Rat))=hf at*;grind);obtain⟨fl,A6⟩:∃fl:Nat,fl=((((255):Int):Rat)*q+(((1:Int):Rat)/((2:Int):Rat))).num.natAbs/((((255):Int):Rat)*q+(((1:Int):Rat)/((2:Int):Rat))).den:=⟨_,rfl⟩;have C2:=zH (show Ls q=((fl:Nat):Int)from by rw[A6];exact nE (by have:=H1.1;grind) (by have:=H2.1;grind));have E7:=zH A6;have J7:fl<=255:=by have h_:=(tY q).2;rw[C2.1]at h_;omega
 clear A6;go_upto_region 6 with fail
 refine zy ?_;have F1:=zH (C5.1.step (Aa.refl A4).drew);have G2:=zH (Af.of_ext (w:=A4) zb);refine Ra C5.1 zb (bs 12 10) 1 3 _ _ ?_;refine mC 0 (bs 12 11) (Fu 255 _ (by omega) (by omega)) ?_;rintro e D4 ⟨c_,rfl,A1,hx⟩;have C4:=zH (F1.1.step hx);have G1:=zH (show Af A4.drew D4 from Af.of_ext hx);have B3:=zH (zb.trans hx);obtain⟨I9,rfl,A0⟩:=A1;have D9:=zH A0;have D2:=zH (Bk 255 (by omega) (by omega));clear A0 hx;refine zm B3.1 ?_;refine mC 2 (bs 12 15) (rS (L:=60000) (RV.Is.nin D9.1 (Ar D2.1 (by omega))) (RV.In.nin (RV.In.mono (HR.1.dig C4.1.dig0) (by omega))) (by omega)) ?_;rintro e H6 ⟨c_,rfl,A1,hx⟩;have C3:=zH (C4.1.step hx);have G0:=zH (Af.of_ext hx);have B2:=zH (B3.1.trans hx);obtain⟨I8,rfl,A0⟩:=A1;have D8:=zH A0;clear A0;have D1:=zH (show Nm.rl ((((255):Int):Rat)*q)<=2+30 from by have h1:=D2.1;have h2:=(show Nm.rl q<=30 from by have h:=(HR.1.dig C3.1.dig0).rl;omega);have h3:=Nm.rl_mul (((255):Int):Rat) q;omega);clear hx;refine zm B2.1 ?_;have A8:=tD (tD (tD (tD G4 G3) G2) G1) G0;refine mC 4 (bs 12 31) (aAK (L:=60000) (RV.Is.nin D8.1 (Ar D1.1 (by omega))) (RV.Is.nin (E0.1.dig A8.1) (Ar D3.1 (by omega))) (by omega)) ?_;rintro e H5 ⟨c_,rfl,A1,hx⟩;have F0:=zH (C3.1.step hx);have B1:=zH (B2.1.trans hx);obtain⟨D5,rfl,A0⟩:=A1;have D7:=zH A0;clear A0;have D0:=zH (show Nm.rl (((((255):Int):Rat)*q)+(((1:Int):Rat)/((2:Int):Rat)))<=(2+30)+8+1 from by have h1:=D1.1;have h2:=D3.1;have h3:=Nm.rl_add ((((255):Int):Rat)*q) (((1:Int):Rat)/((2:Int):Rat));omega);clear hx;refine zm B1.1 ?_;refine mC 5 (bs 12 63) (Qk D5 (((((255):Int):Rat)*q)+(((1:Int):Rat)/((2:Int):Rat))) 60000 _ (D7.1.isIn (Ar D0.1 (by omega))) (Ar D0.1 (by omega)) E6.1 dC) ?_;rintro e H4 ⟨J4,J5,J9,rfl,A5,hx⟩;have E9:=zH (F0.1.step hx);have B0:=zH (B1.1.trans hx);rw[<-E7.1]at A5;have E5:=zH A5;clear A5 hx;refine zm B0.1 ?_;refine mC 6 (bs 12 127) (Jt _ _ _ fl _ E5.1 (by omega)) ?_;rintro e G9 ⟨rfl,hx⟩;have E8:=zH (E9.1.step hx);have A2:=zH (B0.1.trans hx);clear hx;refine zm A2.1 ?_;refine zN Ac A2.1 (bs 12 4095) 7 8 9 10 11 _ (iV ((fl:Nat):Int)) (.bool true) (iV ((fl:Nat):Int)) (.bool true) ?_;refine wpAnyH_done kR ?_ _;have J6:IntKind.u8.wrap ((fl:Nat):Int)=((fl:Nat):Int):=IntWalk.u8_in _ (by omega);go_upto_region 7 with fail
 refine wl ?_;refine Dh Ac (iV ((fl:Nat):Int)) (.int .u8 ((fl:Nat):Int)) (.int .u8 ((fl:Nat):Int)) ?_;go_wp2_with fail
 go_ret
 exact⟨by rw[C2.1]<;>rfl,E8.1.ext⟩
theorem Sb (a b c d:Int×Int)(w:World)(ha:Du a)(hb:Du b)(hc:Du c)(hd:Du d):
  Calls Tryz.prog 183 #[.agg #[iV a.1,iV a.2],.agg #[iV b.1,iV b.2],.agg #[iV c.1,iV c.2],.agg #[iV d.1,iV d.2]] w fun e w'=>e= .returned (.tuple #[.agg #[iV (Aw a b c d).1.1,iV (Aw a b c d).1.2],iV (Aw a b c d).2])/\Aa w w':=by
 go_enter Tryz.func183,Tryz.ntmps183
 have H0:=zH (Hp.start w);go_upto_region 0 with fail
 refine wl ?_;refine Cm 52 [iV a.1,iV a.2] H0.1 ?_;intro X1 w2 H3 _;refine Cm 52 [iV b.1,iV b.2] H3.1 ?_;intro X6 w7 H8 _;refine Cm 52 [iV c.1,iV c.2] H8.1 ?_;intro A9 E8 C8 _;refine Cm 52 [iV d.1,iV d.2] C8.1 ?_;intro A4 E7 C7 _;refine Cm 52 [iV 0,iV 0] C7.1 ?_;intro A8 E6 B5 _;refine zq (iV 0) ?_;go_upto_region 1 with fail
 refine wl ?_;refine Bq B5.1 _ _ ?_;refine aC B5.1 (cA a b _ ha hb) ?_;intro E5 C6 _;refine Dh Ac _ _ _ ?_;refine Cy 0 [iV ((Gq a b).1),iV ((Gq a b).2)] C6.1 ?_;intro E4 C5 _;refine Cy 1 [iV ((Ex a b).1),iV ((Ex a b).2)] C5.1 ?_;intro E3 B4 _;go_upto_region 2 with fail
 refine wl ?_;refine Bq B4.1 _ _ ?_;refine aC B4.1 (cA c d _ hc hd) ?_;intro E2 C2 _;refine Dh Ac _ _ _ ?_;refine Cy 2 [iV ((Gq c d).1),iV ((Gq c d).2)] C2.1 ?_;intro E1 C1 _;refine Cy 3 [iV ((Ex c d).1),iV ((Ex c d).2)] C1.1 ?_;intro E0 B3 _;go_upto_region 3 with fail
 refine wl ?_;refine Bq B3.1 _ _ ?_;refine aC B3.1 (Ii (Gq a b) (Gq c d) _ (yB ha hb) (yB hc hd)) ?_;intro B7 A7 _;go_upto_if 24 with fail
 go_cut [] (fun wx=>Hp w wx [.blk X1 52 [iV ((Mh a b c d).1),iV ((Mh a b c d).2)],.blk X6 52 [iV ((Ex a b).1),iV ((Ex a b).2)],.blk A9 52 [iV ((Gq c d).1),iV ((Gq c d).2)],.blk A4 52 [iV ((Ex c d).1),iV ((Ex c d).2)],.blk A8 52 [iV 0,iV 0]]/\Af B7 wx)
 case first=>
  by_cases cj:Ei (Gq a b) (Gq c d)=true
  ·rw[cj]
   go_upto_region 4 with fail
   refine wl ?_;refine Cs A7.1 _ ?_;refine Cy 0 [iV ((Gq c d).1),iV ((Gq c d).2)] A7.1 ?_;intro D9 C0 D0;go_wp2_with fail
   go_meet
   exact⟨(by rw[show Mh a b c d=Gq c d from if_pos cj];exact C0.1),D0.1⟩
  rw[Bool.eq_false_iff.2 cj];go_wp2_with fail
  go_meet
  exact⟨(by rw[show Mh a b c d=Gq a b from if_neg cj];exact A7.1),(Af.refl _)⟩
 obtain⟨A2,A3⟩:=hcut;generalize wc=D8 at*
 have A6:=zH A2;have F0:=zH A3;clear A2 A3;go_upto_region 5 with fail
 refine wl ?_;refine zd A4 (0) [iV ((Ex c d).1),iV ((Ex c d).2)] (A6.1.range (i:=3) rR 0 2) Tryz.underlying52 ?_;refine zd X6 (0) [iV ((Ex a b).1),iV ((Ex a b).2)] (A6.1.range (i:=1) rR 0 2) Tryz.underlying52 ?_;refine aC A6.1 (Ii (Ex c d) (Ex a b) _ (yC hc hd) (yC ha hb)) ?_;intro B6 A5 _;go_upto_if 28 with fail
 go_cut [] (fun wx=>Hp w wx [.blk X1 52 [iV ((Mh a b c d).1),iV ((Mh a b c d).2)],.blk X6 52 [iV ((Sc a b c d).1),iV ((Sc a b c d).2)],.blk A9 52 [iV ((Gq c d).1),iV ((Gq c d).2)],.blk A4 52 [iV ((Ex c d).1),iV ((Ex c d).2)],.blk A8 52 [iV 0,iV 0]]/\Af B6 wx)
 case first=>
  by_cases cj:Ei (Ex c d) (Ex a b)=true
  ·rw[cj]
   go_upto_region 6 with fail
   refine wl ?_;refine zd A4 (0) [iV ((Ex c d).1),iV ((Ex c d).2)] (A5.1.range (i:=3) rR 0 2) Tryz.underlying52 ?_;refine Cy 1 [iV ((Ex c d).1),iV ((Ex c d).2)] A5.1 ?_;intro D7 B9 C9;go_wp2_with fail
   go_meet
   exact⟨(by rw[show Sc a b c d=Ex c d from if_pos cj];exact B9.1),C9.1⟩
  rw[Bool.eq_false_iff.2 cj];go_wp2_with fail
  go_meet
  exact⟨(by rw[show Sc a b c d=Ex a b from if_neg cj];exact A5.1),(Af.refl _)⟩
 obtain⟨A2,A3⟩:=hcut;generalize wc=D6 at*
 have A1:=zH A2;have E9:=zH A3;clear A2 A3;rcases Co (Ei (Sc a b c d) (Mh a b c d)=true)with C3|C3
 ·go_upto_region 7 with fail
  refine wl ?_;refine zd X6 (0) [iV ((Sc a b c d).1),iV ((Sc a b c d).2)] (A1.1.range (i:=1) rR 0 2) Tryz.underlying52 ?_;refine zd X1 (0) [iV ((Mh a b c d).1),iV ((Mh a b c d).2)] (A1.1.range (i:=0) rR 0 2) Tryz.underlying52 ?_;refine zc (Ii (Sc a b c d) (Mh a b c d) _ (xJ ha hb hc hd) (vP ha hb hc hd)) ?_;rintro e D5 ⟨rfl,hx⟩;have B8:=zH (A1.1.step hx);clear hx;refine⟨.bool true,by rw[C3.1],?_⟩;try simp only[Act.put,zA,zB,zC]
  refine zq (.bool true) ?_;go_upto_region 8 with fail
  refine wl ?_;refine Cs Ac _ ?_;refine Cy 4 [iV 0,iV 0] B8.1 ?_;intro D4 B2 _;refine zq (iV 0) ?_;go_wp2_with fail
  refine bodyPost_ret (v:= .tuple #[.agg #[iV 0,iV 0],iV 0]) ?_ rfl ⟨by rw[show Aw a b c d=((0,0),0)from by unfold Aw;exact if_pos C3.1],B2.1.ext⟩;exact Aq rfl rfl ((B2.1.blk (i:=4) rR).loadVar rfl rfl rR) rfl
 go_upto_region 7 with fail
 refine wl ?_;refine zd X6 (0) [iV ((Sc a b c d).1),iV ((Sc a b c d).2)] (A1.1.range (i:=1) rR 0 2) Tryz.underlying52 ?_;refine zd X1 (0) [iV ((Mh a b c d).1),iV ((Mh a b c d).2)] (A1.1.range (i:=0) rR 0 2) Tryz.underlying52 ?_;refine zc (Ii (Sc a b c d) (Mh a b c d) _ (xJ ha hb hc hd) (vP ha hb hc hd)) ?_;rintro e D3 ⟨rfl,hx⟩;have A0:=zH (A1.1.step hx);clear hx;refine⟨.bool false,by rw[Bool.eq_false_iff.2 C3.1],?_⟩;try simp only[Act.put,zA,zB,zC]
 refine zq (.bool false) ?_;rcases Co (Mh a b c d=Sc a b c d)with C4|C4
 ·go_upto_region 9 with fail
  refine wl ?_;refine zd X1 (0) [iV ((Mh a b c d).1),iV ((Mh a b c d).2)] (A0.1.range (i:=0) rR 0 2) Tryz.underlying52 ?_;refine zd X6 (0) [iV ((Sc a b c d).1),iV ((Sc a b c d).2)] (A0.1.range (i:=1) rR 0 2) Tryz.underlying52 ?_;refine zp (.bool true) (by exact Jy rR rR rR (Ob.2 C4.1)) ?_;refine zq (.bool true) ?_;go_upto_region 10 with fail
  refine wl ?_;refine zd X1 (0) [iV ((Mh a b c d).1),iV ((Mh a b c d).2)] (A0.1.range (i:=0) rR 0 2) Tryz.underlying52 ?_;refine Cy 4 [iV ((Mh a b c d).1),iV ((Mh a b c d).2)] A0.1 ?_;intro D2 B1 _;refine zq (iV 1) ?_;go_wp2_with fail
  refine bodyPost_ret (v:= .tuple #[.agg #[iV (Mh a b c d).1,iV (Mh a b c d).2],iV 1]) ?_ rfl ⟨by rw[show Aw a b c d=(Mh a b c d,1)from by unfold Aw;rw[if_neg C3.1];exact if_pos C4.1],B1.1.ext⟩;exact Aq rfl rfl ((B1.1.blk (i:=4) rR).loadVar rfl rfl rR) rfl
 go_upto_region 9 with fail
 refine wl ?_;refine zd X1 (0) [iV ((Mh a b c d).1),iV ((Mh a b c d).2)] (A0.1.range (i:=0) rR 0 2) Tryz.underlying52 ?_;refine zd X6 (0) [iV ((Sc a b c d).1),iV ((Sc a b c d).2)] (A0.1.range (i:=1) rR 0 2) Tryz.underlying52 ?_;refine zp (.bool false) (by exact Jy rR rR rR (Bool.eq_false_iff.2 (fun h_=>C4.1 (Ob.1 h_)))) ?_;refine zq (.bool false) ?_;go_upto_region 11 with fail
 refine wl ?_;refine Cs Ac _ ?_;refine Cy 4 [iV 0,iV 0] A0.1 ?_;intro D1 B0 _;refine zq (iV 2) ?_;go_wp2_with fail
 refine bodyPost_ret (v:= .tuple #[.agg #[iV 0,iV 0],iV 2]) ?_ rfl ⟨by rw[show Aw a b c d=((0,0),2)from by unfold Aw;rw[if_neg C3.1];exact if_neg C4.1],B0.1.ext⟩;exact Aq rfl rfl ((B0.1.blk (i:=4) rR).loadVar rfl rfl rR) rfl
end
section
attribute [local go_sem ↓] Go.wp_at_zero Go.wp_at_succ Dt Ds Aj Ai
theorem Uo (u:Value)(rs:List Av)(w:World)(hu:Cu w u rs)(hv:Ge rs=true)(hn:rs.length<=1048576):
  Calls Tryz.prog 121 #[u,.agg #[iV 0,iV 0]] w fun e w'=>∃v,e= .returned v/\Tr w.heap.size w' v rs/\Aa w w':=by
 have HT:=zH (Hi hv);have B7:∀r,r∈rs->r.length<=4096:=fun r hr=>by
  obtain⟨k,hk⟩:=List.mem_iff_getElem?.1 hr;have h1:=Ho hk;have h2:=Hn rs (k+1);have h3:=HT.1;omega
 have F8:=zH B7;have HV:=zH hv;have HC:=zH (fun W (hW:Aa w W)=>Cc u rs W (hu.ext hW) hn (fun r hr=>Ar (B7 r hr) (by decide)));have HU:=zH hu;obtain⟨Au,cu,rfl,_⟩:=hu;obtain⟨i0,hi,A8,A7,A6⟩:=info_parts wA;have HI:=zH (And.intro hi (And.intro A8 (And.intro A7 A6)));clear hi A8 A7 A6 B7;obtain⟨i1,hi,A8,A7,A6⟩:=info_parts vZ;have HJ:=zH (And.intro hi (And.intro A8 (And.intro A7 A6)));clear hi A8 A7 A6 hv;go_enter Tryz.func121,Tryz.ntmps121
 have hB:=Ad.new w 52 #[iV 0,iV 0];have hE:Aa w (w.alloc (.cells #[iV 0,iV 0] 52)):=Al.alloc _;go_upto_if 13 with(go_at_call 41;refine(HC.1 _ hE).mono ?_;rintro e w1 ⟨rfl,B6⟩)
 have F3:(!Ge rs)=false:=by rw[HV.1];rfl
 rw[F3];have E0:=zH (hE.trans B6);have C7:=zH (hB.ext B6);clear hB hE B6;generalize hX3:w.heap.size=X3 at C7⊢
 have G9:=zH hX3;clear hX3;go_wp2_with fail
 go_loopg [5,16] rs.length (fun c v i wr=>∃(k:Nat) (v2:Value),k<=rs.length/\c=rs.length-k/\i= iV k/\v2=v/\Tr w.heap.size wr v2 (rs.take k)/\Aa w wr/\Ad wr X3 52 #[iV 0,iV 0]/\v2.ownBlock≠some X3)
 case atStart=>exact⟨0,_,Nat.zero_le _,rfl,rfl,rfl,⟨[],Be.nil _ _ _ _,rfl,fun i r h=>by simp at h⟩,E0.1,C7.1,by simp[Value.ownBlock]⟩
 clear E0 C7;obtain⟨k,v,hk,rfl,rfl,rfl,D2,hx,D9,D0⟩:=hrel;have C2:=zH D2;have HX:=zH hx;have HB:=zH D9;have E1:=zH D0;clear D2 hx D9 D0;by_cases hlt:k<rs.length
 ·have E8:(k:Int)<(rs.length:Int):=by omega
  obtain⟨r,hr⟩:∃r,rs[k]?=some r:=⟨_,List.getElem?_eq_getElem hlt⟩;have E7:∃g A5,Au=some ⟨g,A5,none⟩/\∃B cb,w.cell? ⟨g,A5+k,none⟩=some (.slice B r.length cb)/\Gr w (.slice B r.length cb) r:=by
   obtain⟨A2,c2,A4,h2⟩:=HU.1;injection A4 with e1 _ _
   obtain⟨g,A5,h3,h4⟩:=h2 (by omega);obtain⟨B,cb,h5,h6⟩:=h4 k r hr;exact⟨g,A5,e1.trans h3,B,cb,h5,h6⟩
  obtain⟨g,A5,rfl,B,cb,D7,D5⟩:=E7;have c1:=HX.1.get D7;have HP:=zH (D5.ext HX.1);have F9:=zH hr;have G5:=F8.1 r (List.mem_of_getElem? hr);have C4:=zH hlt;have F6:=zH (show rs.take (k+1)=rs.take k++[r]by rw[List.take_succ_eq_append_getElem hlt];congr 1;obtain⟨_,h⟩:=List.getElem?_eq_some_iff.1 hr;rw[h]);have D6:(rs.take k).length=k:=by rw[List.length_take];omega
  have E3:=zH D6;clear D7 D5 hr hlt D6;generalize wr=W0 at*
  go_wp2_with fail
  go_loopg [8,22] r.length (fun c u i wx=>∃(j:Nat) (u2:Value),j<=r.length/\c=r.length-j/\i= iV j/\u2=u/\Be wx W0.heap.size 52 2 u2 (r.take j).length (Fw (r.take j))/\Aa W0 wx)
  case atStart=>exact⟨0,_,Nat.zero_le _,rfl,rfl,rfl,Be.nil _ _ _ _,Aa.refl _⟩
  clear c1;obtain⟨j,v8,hj,rfl,rfl,rfl,A9,C9⟩:=hrel;have A1:=zH A9;have B2:=zH C9;clear A9 C9;by_cases hjl:j<r.length
  ·have E9:(j:Int)<(r.length:Int):=by omega
   obtain⟨p,hp⟩:∃p,r[j]?=some p:=⟨_,List.getElem?_eq_getElem hjl⟩;have F2:∃gb ob,B=some ⟨gb,ob,none⟩/\wr.cell? ⟨gb,ob+j*2,none⟩=some (iV p.1)/\wr.cell? ⟨gb,ob+j*2+1,none⟩=some (iV p.2):=by
    obtain⟨A2,c2,A4,h2⟩:=HP.1;injection A4 with e1 _ _
    obtain⟨gb,ob,h3,h4⟩:=h2 (by rintro rfl;simp at hjl);obtain⟨h5,h6⟩:=(h4.ext B2.1) j hjl;have F1:r.getD j (0,0)=p:=by obtain⟨_,h⟩:=List.getElem?_eq_some_iff.1 hp;simp[List.getD,hjl,h]
    rw[F1]at h5 h6;exact⟨gb,ob,e1.trans h3,h5,h6⟩
   obtain⟨gb,ob,rfl,q1,q2⟩:=F2;have G1:=zH (vQ HV.1 F9.1 hp);have E4:=zH hjl;have F7:=zH (show r.take (j+1)=r.take j++[p]by rw[List.take_succ_eq_append_getElem hjl];congr 1;obtain⟨_,h⟩:=List.getElem?_eq_some_iff.1 hp;rw[h]);have B8:(r.take j).length=j:=by rw[List.length_take];omega
   have G3:=zH B8;have E2:=zH (show World.rangeAt wr gb (ob+j*2) [iV p.1,iV p.2]from fun i v hv=>by
    match i,hv with
    |0,hv=>simp at hv;rw[<-hv];exact q1
    |1,hv=>simp at hv;rw[<-hv];exact q2)
   rw[B8]at A1;clear hp hjl q1 q2 B8;go_upto_region 10 with fail
   refine wp_region_lit ?_;refine zq (.pointer (some ⟨gb,ob+j*2,none⟩)) ?_;refine Ci (by rfl) (wp_load_mid _ _ (by rfl) gb (ob+j*2) (by rfl) [iV p.1,iV p.2] _ E2.1 Tryz.underlying52 (by rfl) (by kernel_rfl) ?_);try simp only[Act.put,zA,zB,zC]
   refine zp (w':=wr.alloc (.cells #[iV 0,iV 0] 52)) (.pointer (some ⟨wr.heap.size,0,none⟩)) (by go_simp) ?_;refine pO #[iV p.1,iV p.2] (Ad.new wr _ _) rfl (by kernel_rfl) (all_oneCell_toArray (nU p)) ?_
   (try simp only[Act.put])
   obtain⟨B5,C8⟩:=Rh wr 52 #[iV 0,iV 0] #[iV p.1,iV p.2] rfl;generalize (wr.alloc (.cells #[iV 0,iV 0] 52)).setCells wr.heap.size 0 (#[iV p.1,iV p.2]:Array Value).toList=w4 at*
   generalize wr.heap.size=G8 at*
   have C1:=zH (B2.1.trans B5);have C6:=zH C8;have A3:=zH (A1.1.ext B5);clear B5 C8 E2 A1;go_upto_region 11 with fail
   refine wp_region_lit ?_;refine zq (v8) ?_;refine pL C6.1 Tryz.underlying52 (by kernel_rfl) ?_;try simp only[Act.put,zA,zB,zC]
   refine pL (HB.1.ext C1.1) Tryz.underlying52 (by kernel_rfl) ?_;try simp only[Act.put,zA,zB,zC]
   refine Gh (by rfl) (by go_simp) (qI p.1 p.2 _ G1.1) ?_;rintro e w5 ⟨rfl,hx⟩;have C5:=zH (show Aa w4 w5 from((Aa.refl w4)).trans hx);clear hx;refine⟨_,rfl,?_⟩;try simp only[Act.put,zA,zB,zC]
   have A0:Aa w4 (w5.alloc (.cells #[iV p.1,iV p.2] 52)):=C5.1.alloc _;have B0:=(C1.1.trans A0).size;have G7:j<=4096:=by omega
   refine zp (w':=(w5.alloc (.cells #[iV p.1,iV p.2] 52))) (.slice (some ⟨w5.heap.size,0,none⟩) 1 1) (by go_simp) ?_;refine Ci (by rfl) (Ek _ _ 53 (by rfl) W0.heap.size 52 i0 _ 2 16 Tryz.underlying53 HI.1.1 HI.1.2.1 HI.1.2.2.1 HI.1.2.2.2 rfl (by decide) nW _ j (Fw (r.take j)) (by rfl) (A3.1.ext A0) ⟨w5.heap.size,0,none⟩ 1 1 [iV p.1,iV p.2] (by rfl) rfl (qS _ _ _ _) (nU p) (sA p) (by decide) (by unfold maxLen;omega) (by omega) B0 ?_);intro gx cx w8 hf h2 h3 h4;try simp only[Act.put,zA,zB,zC]
   have C3:=zH (show Be w8 W0.heap.size 52 2 (.slice (some ⟨gx,0,none⟩) (j+1) cx) (r.take (j+1)).length (Fw (r.take (j+1)))by rw[F7.1,Xn,List.length_append,G3.1];exact h2);have C0:=zH (show Aa W0 w8 from(C1.1.trans A0).grown h3 (fun j hj=>(A3.1.ext A0).block j hj));clear h2 h3 h4 hf A0 B0;refine zp (w':=w8) (.slice (some ⟨gx,0,none⟩) (j+1) cx) (by go_simp) ?_;go_wp2_with fail
   go_roundg (r.length-(j+1))
   case measure=>have:=E4.1;omega
   case rel=>exact⟨j+1,_,E4.1,rfl,by go_num,rfl,C3.1,C0.1⟩
  obtain rfl:j=r.length:=by omega
  have F0:¬(r.length:Int)<(r.length:Int):=by omega
  obtain⟨Bn,cn,rfl,D4,D8⟩:=Be.pts (ps:=r) (by have h:=A1.1;rwa[List.take_of_length_le (Cj _)]at h);have G0:=zH D4;have E5:=zH D8;have B3:=zH (C2.1.ext B2.1);have B1:=zH (HX.1.trans B2.1);have E6:=zH (HB.1.ext B2.1);have G2:=zH (show∀A,Bn=some A->A.block<wr.heap.size from fun A hA=>by
   subst hA;obtain⟨_,⟨hv,_⟩|⟨g2,c2,r2,hv,_,B9,_⟩⟩:=A1.1
   ·cases hv
   injection hv with e1 _ _;injection e1 with e1;rw[e1];exact B9.lt)
  have F5:=zH (show∀j,v.ownBlock=some j->j<W0.heap.size from fun j hj=>by
   obtain⟨vs,h1,_⟩:=C2.1;obtain⟨_,⟨rfl,_⟩|⟨g2,c2,r2,rfl,_,B9,_⟩⟩:=h1
   ·simp[Value.ownBlock]at hj
   simp[Value.ownBlock]at hj;rw[<-hj];exact B9.lt)
  clear D4 D8 A1;go_upto_region 13 with fail
  refine wp_region_lit ?_;refine qV (v) ?_;refine zq (.slice Bn r.length cn) ?_;have A0:Aa wr (wr.alloc (.cells #[.slice Bn r.length cn] 53)):=Al.alloc _;obtain⟨vs,B4,A4,D1⟩:=B3.1.ext A0;have B0:=(B1.1.trans A0).size;have G6:k<=1048576:=by have:=C4.1;omega
  refine zp (w':=(wr.alloc (.cells #[.slice Bn r.length cn] 53))) (.slice (some ⟨wr.heap.size,0,none⟩) 1 1) (by go_simp) ?_;refine Ci (by rfl) (Ek _ _ 31 (by rfl) w.heap.size 53 i1 _ 1 24 Tryz.underlying31 HJ.1.1 HJ.1.2.1 HJ.1.2.2.1 HJ.1.2.2.2 rfl (by decide) nV _ k vs (by rfl) (by have h:=B4;rwa[E3.1]at h) ⟨wr.heap.size,0,none⟩ 1 1 [.slice Bn r.length cn] (by rfl) rfl (Gu _ _ _) (by simp[Value.oneCell']) (by intro x hx q;simp at hx;rw[hx];simp) (by decide) (by unfold maxLen;omega) (by omega) B0 ?_);intro gx cx w8 hf h2 h3 h4;try simp only[Act.put,zA,zB,zC]
  skip
  have D3:=Tr.snoc (B3.1.ext A0) E3.1 (r:=r) (s:= .slice Bn r.length cn) rfl (G0.1.ext A0) (fun A hA=>⟨fun e=>by have q1:=F5.1 _ e;have q2:=E5.1 A hA;omega,Nat.lt_of_lt_of_le (G2.1 A hA) A0.size⟩) (fun A hA=>by have q2:=E5.1 A hA;have q3:=HX.1.size;omega) vs ⟨vs,B4,A4,rfl,D1⟩ h2 h3 hf;have C3:=zH (show Tr w.heap.size w8 (.slice (some ⟨gx,0,none⟩) (k+1) cx) (rs.take (k+1))by rw[F6.1];exact D3);have C0:=zH (show Aa w w8 from(B1.1.trans A0).grown h3 (fun j hj=>B4.block j hj));have G4:=zH ((E6.1.ext A0).grown h3 E1.1);have F4:=zH (show(Value.slice (some ⟨gx,0,none⟩) (k+1) cx).ownBlock≠some X3 from fun e=>by simp[Value.ownBlock]at e;rcases hf with hf|hf;exact E1.1 (by rw[<-e];exact hf);have:=E6.1.lt;have:=A0.size;omega);clear h2 h3 h4 hf A0 B0 D3 B4 A4 D1;refine zp (w':=w8) (.slice (some ⟨gx,0,none⟩) (k+1) cx) (by go_simp) ?_;go_wp2_with fail
  go_roundg (rs.length-(k+1))
  case measure=>have:=C4.1;omega
  case rel=>exact⟨k+1,_,C4.1,rfl,by go_num,rfl,C3.1,C0.1,G4.1,F4.1⟩
 obtain rfl:k=rs.length:=by omega
 have F0:¬(rs.length:Int)<(rs.length:Int):=by omega
 have HR:=zH (show Tr w.heap.size wr v rs from by have h:=C2.1;rwa[List.take_of_length_le (Cj _)]at h);go_wp2_with fail
 go_ret
 exact⟨_,rfl,HR.1,HX.1⟩
end
section
def Lp (r:Av)(i:Nat):Option ((Int×Int)×(Int×Int)):=
  match r[i]?,r[(i+1)%r.length]?with
  |some a,some b=>if a=b then none else some (a,b)
  |_,_=>none
def Es (r:Av)(n:Nat):List ((Int×Int)×(Int×Int)):=(List.range n).filterMap (Lp r)
def Cd (rs:List Av):List ((Int×Int)×(Int×Int)):=rs.flatMap fun r=>Es r r.length
theorem cC {r:Av}{i:Nat}{a b:Int×Int}(ha:r[i]?=some a)(hb:r[(i+1)%r.length]?=some b):Lp r i=if a=b then none else some (a,b):=by
  unfold Lp;rw[ha,hb]
theorem Pi {r:Av}{n:Nat}(h:Lp r n=none):Es r (n+1)=Es r n:=by
  unfold Es;rw[List.range_succ,List.filterMap_append];simp[h]
theorem Ft {r:Av}{n:Nat}{e:(Int×Int)×(Int×Int)}(h:Lp r n=some e):Es r (n+1)=Es r n++[e]:=by
  unfold Es;rw[List.range_succ,List.filterMap_append];simp[h]
theorem iY {r:Av}{n m:Nat}(h:n<=m):Es r n<+:Es r m:=by
  unfold Es;obtain⟨d,rfl⟩:=Nat.exists_eq_add_of_le h;rw[List.range_add,List.filterMap_append];exact List.prefix_append _ _
theorem Qr {rs:List Av}{k:Nat}{r:Av}(h:rs[k]?=some r):Cd (rs.take (k+1))=Cd (rs.take k)++Es r r.length:=by
  unfold Cd;rw[List.take_add_one,h];simp
theorem Uu (rs:List Av)(k:Nat):Cd (rs.take k)<+:Cd rs:=by
  conv=>rhs;rw[<-List.take_append_drop k rs]
  unfold Cd;rw[List.flatMap_append];exact List.prefix_append _ _
theorem Py {rs:List Av}{k n:Nat}{r:Av}(h:rs[k]?=some r)(hn:n<=r.length):Cd (rs.take k)++Es r n<+:Cd rs:=by
  refine List.IsPrefix.trans ?_ (Uu rs (k+1));rw[Qr h];exact(List.prefix_append_right_inj _).2 (iY hn)
theorem dS (r:Av)(n:Nat):(Es r n).length<=n:=by
  unfold Es;have:=List.length_filterMap_le (Lp r) (List.range n);simpa using this
theorem kL (rs:List Av):∀n:Nat,rs.foldl (fun n r=>n+r.length) n=n+rs.foldl (fun n r=>n+r.length) 0:=by
  induction rs with
  |nil=>intro n;simp
  |cons r rs ih=>intro n;rw[List.foldl_cons,List.foldl_cons,ih (n+r.length),ih (0+r.length)];omega
theorem Ev (rs:List Av):(Cd rs).length<=Gm rs:=by
  unfold Gm;induction rs with
  |nil=>simp[Cd]
  | cons r rs ih=>
    have h1:=dS r r.length;have h2:Cd (r::rs)=Es r r.length++Cd rs:=by simp[Cd]
    rw[h2,List.length_append,List.foldl_cons,kL];omega
end
section
attribute [local go_sem ↓] Go.wp_at_zero Go.wp_at_succ Dt Ds
end
section
attribute [local go_sem ↓] Go.wp_at_zero Go.wp_at_succ Aj Ai
end
section
attribute [local go_sem ↓] Go.wp_at_zero Go.wp_at_succ
theorem Pt (n:Int)(w:World):Calls Tryz.prog 197 #[iV n] w fun e w'=>e= .returned (.bool false)/\Aa w w':=by
  have A0:(n != n)=false:=by simp
  go_enter Tryz.func197,Tryz.ntmps197
  go_wp2_with fail
  go_ret
  exact⟨by first|rfl|simp,Aa.refl _⟩
def Nf (a b:Int):Int:=if a<b then-1 else if b<a then 1 else 0
theorem cI (a b:Int)(w:World):Calls Tryz.prog 180 #[iV a,iV b] w fun e w'=>e= .returned (iV (Nf a b))/\Aa w w':=by
 by_cases h1:a<b
 ·have e:Nf a b= -1:=by unfold Nf;rw[if_pos h1]
  rw[e];go_enter Tryz.func180,Tryz.ntmps180
  go_wp2_with (go_at_call 197;refine(Pt _ _).mono ?_;rintro e w2 ⟨rfl,A0⟩)
  go_ret
  exact⟨rfl,Al.trans (by first|assumption|(apply Aa.trans<;>assumption))⟩
 by_cases h2:b<a
 ·have e:Nf a b=1:=by unfold Nf;rw[if_neg h1,if_pos h2]
  rw[e];go_enter Tryz.func180,Tryz.ntmps180
  go_wp2_with (go_at_call 197;refine(Pt _ _).mono ?_;rintro e w2 ⟨rfl,A0⟩)
  go_ret
  exact⟨rfl,Al.trans (by first|assumption|(apply Aa.trans<;>assumption))⟩
 have e:Nf a b=0:=by unfold Nf;rw[if_neg h1,if_neg h2]
 rw[e];go_enter Tryz.func180,Tryz.ntmps180
 go_wp2_with (go_at_call 197;refine(Pt _ _).mono ?_;rintro e w2 ⟨rfl,A0⟩)
 go_ret
 exact⟨rfl,Al.trans (by first|assumption|(apply Aa.trans<;>assumption))⟩
def vN (a b:Int):Int:=if a=0 then b else a
theorem vM (g off c:Nat)(a b:Int)(w:World)(h0:w.cell? ⟨g,off,none⟩=some (iV a))(h1:w.cell? ⟨g,off+1,none⟩=some (iV b)):
  Calls Tryz.prog 179 #[.slice (some ⟨g,off,none⟩) 2 c] w fun e w'=>e= .returned (iV (vN a b))/\Aa w w':=by
 go_enter Tryz.func179,Tryz.ntmps179
 go_wp2_with fail
 go_loopg [8] 2 (fun d i wr=>∃k:Nat,k<=2/\d=2-k/\i= iV k/\(0<k->a=0)/\(1<k->b=0)/\Aa w wr)
 case atStart=>exact⟨0,by omega,rfl,rfl,by omega,by omega,Aa.refl _⟩
 obtain⟨k,hk,rfl,rfl,ha,hb,hx⟩:=hrel;have HX:=zH hx;have k0:=hx.get h0;have k1:=hx.get h1;clear hx;rcases(show k=0\/k=1\/k=2 by omega)with rfl|rfl|rfl
 ·by_cases hz:a=0
  ·subst hz
   go_wp2_with fail
   go_roundg 1
   case measure=>omega
   case rel=>exact⟨1,by omega,rfl,by first|rfl|go_num,by simp,by omega,HX.1⟩
  clear ha hb;go_wp2_with fail
  go_ret
  exact⟨by simp[vN,hz],HX.1⟩
 ·have hz:=ha (by omega)
  subst hz;by_cases hz:b=0
  ·subst hz
   clear ha hb;go_wp2_with fail
   go_roundg 0
   case measure=>omega
   case rel=>exact⟨2,by omega,rfl,by first|rfl|go_num,by simp,by simp,HX.1⟩
  clear ha hb;go_wp2_with fail
  go_ret
  exact⟨by simp[vN],HX.1⟩
 have hz:=ha (by omega);have A0:=hb (by omega);subst hz;subst A0;clear ha hb;go_wp2_with fail
 go_ret
 exact⟨by simp[vN],HX.1⟩
end
section
attribute [local go_sem ↓] Go.wp_at_zero Go.wp_at_succ Aj Ai
def Oy (p:Rat)(i:Int)(q:Rat)(j:Int):Bool:=decide (p<q)||(decide (p=q)&&decide (j<i))
end
section
theorem cJ {a b:Int}:Nf a b<0↔a<b:=by
  unfold Nf;split
  · omega
  split<;>omega
theorem vL (p q:Rat)(i j:Int):decide (vN (Db p q) (Nf j i)<0)=Oy p i q j:=by
 unfold vN Oy;by_cases h1:Db p q=0
 ·have h2:=rcmp_eq.1 h1
  subst h2;rw[if_pos h1];have h3:¬p<p:=by grind
  by_cases h4:j<i
  ·have h5:Nf j i<0:=cJ.2 h4
   simp[h4,h5]
  have h5:¬Nf j i<0:=fun k=>h4 (cJ.1 k)
  simp[h3,h4,h5]
 have h2:¬p=q:=fun k=>h1 (rcmp_eq.2 k)
 rw[if_neg h1];by_cases h3:p<q
 ·have h4:=rcmp_lt.2 h3
  simp[h3,h4]
 have h4:¬Db p q<0:=fun k=>h3 (rcmp_lt.1 k)
 simp[h2,h3,h4]
abbrev QI:=Rat×Int
def sO (a b:QI):Bool:=Oy a.1 a.2 b.1 b.2
theorem Ol {a b:QI}:sO a b=true↔a.1<b.1\/(a.1=b.1/\b.2<a.2):=by
  unfold sO Oy;simp
theorem zP:Stb.Wk sO:=by
  refine⟨fun x y h=> ?_,fun x y z h1 h2=> ?_⟩
  · rw[Bool.eq_false_iff]
    intro k;have h:=Ol.1 h;have k:=Ol.1 k;grind
  rw[Bool.eq_false_iff]at h1 h2⊢;intro k;have k:=Ol.1 k;have h1:¬_:=fun q=>h1 (Ol.2 q)
  have h2:¬_:=fun q=>h2 (Ol.2 q)
  grind
end
namespace mrk
attribute [local go_sem ↓] Go.wp_at_zero Go.wp_at_succ Aj Ai
theorem insertion_any {α:Type}(enc:α->List Value)(hk:∀x,(enc x).length=5)(h1:∀x,∀v,v∈enc x->v.oneCell'=true)(lt:α->α->Bool)(W:Stb.Wk lt)(w0 w:World)(g cap a b N:Nat)(T:TypeId)(rest:List Value)(P X S:List α)(hc:(∀wr,Ba g w0 wr->∀x y:α,Calls Tryz.prog 178 #[.agg (enc x).toArray,.agg (enc y).toArray] wr fun e w'=>∃z:Int,e= .returned (iV z)/\(z<0↔lt x y=true)/\Aa wr w'))(hst:Sw w0 w g T enc rest (P++(X++S)))(ha:P.length=a)(hb:a+X.length=b)(hN:(P++(X++S)).length=N)(hsz:N<=100000):
  Calls Tryz.prog 207 #[.slice (some ⟨g,0,none⟩) N cap,iV a,iV b,.func (.func 178) #[] #[]] w fun e w'=>e= .returned (.tuple #[])/\Sw w0 w' g T enc rest (P++(Stb.stab lt X++S)):=by
 have A6:P.length+(X.length+S.length)=N:=by rw[<-hN];simp
 have HC:=zH hc;have B0:=zH (show Sw w0 w g T enc rest (P++(Stb.stab lt (X.take 1)++(X.drop 1++S)))by rw[Stb.stab_take1,<-List.append_assoc (X.take 1),List.take_append_drop];exact hst);have b1:a<=100000:=by omega
 have b2:b<=100000:=by omega
 have C7:=zH ha;have D0:=zH A6;have HB:=zH hb;clear hst hc ha hb hN A6;go_enter Tryz.func207,Tryz.ntmps207
 go_wp2_with fail
 go_loopg [8] (b+1-a) (fun c v wr=>∃t i:Nat,1<=t/\(t<=X.length\/t=1)/\i=a+t/\c=b+1-i+1/\v= iV i/\Sw w0 wr g T enc rest (P++(Stb.stab lt (X.take t)++(X.drop t++S))))
 case atStart=>exact⟨1,a+1,Cj _,Or.inr rfl,rfl,by have:=HB.1;omega,by go_num,B0.1⟩
 clear B0;obtain⟨t,i,D8,D1,hi,rfl,rfl,hst⟩:=hrel;have D4:=HB.1;have E0:i<=100001:=by have:=D0.1;have:=C7.1;omega
 by_cases hlt:i<b
 ·have D2:(i:Int)<(b:Int):=by omega
  have B5:t<X.length:=by omega
  obtain⟨y,hy⟩:∃y,X[t]=y:=⟨_,rfl⟩;have C4:X.drop t=y::X.drop (t+1):=by rw[<-hy];exact List.drop_eq_getElem_cons B5
  have C1:X.take (t+1)=X.take t++[y]:=by rw[List.take_succ_eq_append_getElem B5,hy]
  have C6:=zH (show Stb.stab lt (X.take (t+1))=Stb.ins lt (Stb.stab lt (X.take t)) y by rw[C1,Stb.stab_snoc]);have B1:=zH (Stb.stab_srt W (X.take t));have C5:(Stb.stab lt (X.take t)).length=t:=by rw[Stb.stab_len,List.length_take];omega
  rw[C4]at hst;generalize Stb.stab lt (X.take t)=L at*
  have B2:=zH C5;have B6:=zH B5;have HI:=zH hi;have A9:=zH (show Sw w0 wr g T enc rest (P++(L.take t++y::(L.drop t++(X.drop (t+1)++S))))by rw[List.take_of_length_le (by omega),List.drop_of_length_le (by omega)];exact hst);clear hst C4 C1 hy C5 hi D1 D4;go_wp2_with fail
  go_loopg [9] t (fun c v wr=>∃u j:Nat,u<=t/\c=0+u/\j=a+u/\v= iV j/\(∀z,z∈L.drop u->lt y z=true)/\Sw w0 wr g T enc rest (P++(L.take u++y::(L.drop u++(X.drop (t+1)++S)))))
  case atStart=>exact⟨t,i,Cj _,by omega,HI.1,rfl,by intro z hz;rw[List.drop_of_length_le (by have:=B2.1;omega)]at hz;simp at hz,A9.1⟩
  clear A9;obtain⟨u,j,hu,rfl,hj,rfl,A7,hst⟩:=hrel;have A3:=zH A7;have A0:=zH hst;have D9:j<=100000:=by have:=HI.1;omega
  have wj:IntKind.i64.wrap (j:Int)=(j:Int):=by rw[IntKind.wrap_i64];omega
  have C2:(P++(L.take u++y::(L.drop u++(X.drop (t+1)++S)))).length=N:=by
   have h1:=D0.1;have h2:=B6.1;have h3:=B2.1
   simp;omega
  have HJ:=zH hj;have HU:=zH hu;clear A7 hst;by_cases hu0:0<u
  ·obtain⟨p,hp⟩:∃p,p+1=j:=⟨j-1,by omega⟩
   obtain⟨q,hq⟩:∃q,q+1=u:=⟨u-1,by omega⟩;have C3:(a:Int)<(j:Int):=by omega
   have e1:(j:Int)-1=(p:Int):=by omega
   have wp:IntKind.i64.wrap (p:Int)=(p:Int):=by rw[IntKind.wrap_i64];omega
   have D5:=C7.1;have A5:q<L.length:=by have:=B2.1;omega
   have gx:(P++(L.take u++y::(L.drop u++(X.drop (t+1)++S))))[p]?=some L[q]:=by
    have h:=gR P (L.take u) (y::(L.drop u++(X.drop (t+1)++S))) q (by rw[List.length_take];omega);rw[show P.length+q=p by omega]at h;rw[h,List.getElem?_take,if_pos (by omega)];exact List.getElem?_eq_getElem A5
   have gy:(P++(L.take u++y::(L.drop u++(X.drop (t+1)++S))))[j]?=some y:=by
    rw[List.getElem?_append_right (by omega),List.getElem?_append_right (by rw[List.length_take];omega),List.length_take,show j-P.length-min u L.length=0 by have:=B2.1;omega];rfl
   have A8:=zH (show xF (P++(L.take u++y::(L.drop u++(X.drop (t+1)++S)))) j p=P++(L.take q++y::(L.drop q++(X.drop (t+1)++S)))by
    have h:=Va P L (X.drop (t+1)++S) y q A5;rw[show P.length+q=p by omega,hp,hq]at h;exact h)
   have D7:=zH (show∀z,z∈L.drop q->z=L[q]\/z∈L.drop u by
    intro z hz;rw[List.drop_eq_getElem_cons A5,hq]at hz;simpa using hz)
   have A2:=zH (fun h=>Stb.ins_stop W (y:=y) B1.1 A3.1 (by have:=B2.1;omega) (Or.inr ⟨q,hq,A5,h⟩));have bj:(j:Int)<(N:Int):=by rw[<-C2];have:=(List.getElem?_eq_some_iff.1 gy).1;omega
   have bp:(p:Int)<(N:Int):=by omega
   have HE:=zH (dB gy gx);have C9:=zH (List.getElem?_eq_some_iff.1 gy).1;have C8:=zH (List.getElem?_eq_some_iff.1 gx).1;have Hx:=zH gx;have Hy:=zH gy;generalize L[q]=x at*
   generalize hrow:P++(L.take u++y::(L.drop u++(X.drop (t+1)++S)))=row at*
   have HQ:=zH (And.intro hq hp);have B7:=zH hrow;clear gx gy A5 hu hq hp hj D5 hrow;go_upto_region 4 with fail
   refine wp_region_held_drew (S:=fun x=>Aa wr x) (by kernel_rfl) Al.drew (fun _=> ?_);refine zv 0 (bs 17 1) Al.drew ?_;refine zv 1 (bs 17 3) Al.drew ?_;refine zv 2 (bs 17 7) Al.drew ?_;refine zv 3 (bs 17 15) Al.drew ?_;refine zv 4 (bs 17 31) Al.drew ?_;refine zv 5 (bs 17 63) Al.drew ?_;refine zv 6 (bs 17 127) Al.drew ?_;refine zv 7 (bs 17 255) Al.drew ?_;refine Hq (i:=8) (listed':=(bs 17 511)) (by rfl) (by kernel_rfl) (by kernel_rfl) (by kernel_rfl) _ _ (by rfl) g (j*5) (enc y) _ (by intro _ _ _ h;exact h) (by rfl) (by rfl) (fun w1 hw1=>(A0.1.ext hw1).read Hy.1 hk) Tryz.underlying169 (by rfl) (by rw[hk];kernel_rfl) Al.drew (by kernel_rfl) ?_;try simp only[Act.put,zA,zB,zC]
   refine zv 9 (bs 17 1023) Al.drew ?_;refine zv 10 (bs 17 2047) Al.drew ?_;refine zv 11 (bs 17 4095) Al.drew ?_;refine zv 12 (bs 17 8191) Al.drew ?_;refine Hq (i:=13) (listed':=(bs 17 16383)) (by rfl) (by kernel_rfl) (by kernel_rfl) (by kernel_rfl) _ _ (by rfl) g (p*5) (enc x) _ (by intro _ _ _ h;exact h) (by rfl) (by rfl) (fun w1 hw1=>(A0.1.ext hw1).read Hx.1 hk) Tryz.underlying169 (by rfl) (by rw[hk];kernel_rfl) Al.drew (by kernel_rfl) ?_;try simp only[Act.put,zA,zB,zC]
   refine mC 14 (bs 17 32767) (HC.1 _ ((A0.1.ext Al.drew).own) y x) ?_;rintro e w2 ⟨z,rfl,hz,C0⟩;have A1:=zH (show Aa wr w2 from Al.drew.trans C0);clear C0;refine⟨_,rfl,A1.1,?_⟩;try simp only[Act.put,zA,zB,zC]
   by_cases hlt:lt y x=true
   ·have B8:=zH hlt
    have A4:z<0:=hz.2 hlt;have B4:decide (z<0)=true:=by simpa using A4
    clear hz;refine zv 15 (bs 17 65535) A1.1 ?_;refine zv 16 (bs 17 131071) A1.1 ?_;refine wpAnyH_done (by kernel_rfl) ?_ _;clear hlt A4 B4;have A0:=zH (A0.1.ext A1.1);clear A1;have E2:row.length=N:=C2;generalize w2=wr at*
    go_upto_region 6 with fail
    refine wp_region_held_drew (S:=fun x=>Ba g wr x) (by kernel_rfl) (Ba.refl _ _).drew (fun _=> ?_);refine zv 0 (bs 18 1) (Ba.refl _ _).drew ?_;refine zv 1 (bs 18 3) (Ba.refl _ _).drew ?_;refine zv 2 (bs 18 7) (Ba.refl _ _).drew ?_;refine zv 3 (bs 18 15) (Ba.refl _ _).drew ?_;refine zv 4 (bs 18 31) (Ba.refl _ _).drew ?_;refine zv 5 (bs 18 63) (Ba.refl _ _).drew ?_;refine zv 6 (bs 18 127) (Ba.refl _ _).drew ?_;refine zv 7 (bs 18 255) (Ba.refl _ _).drew ?_;refine zv 8 (bs 18 511) (Ba.refl _ _).drew ?_;refine zv 10 (bs 18 1535) (Ba.refl _ _).drew ?_;refine zv 11 (bs 18 3583) (Ba.refl _ _).drew ?_;refine zv 12 (bs 18 7679) (Ba.refl _ _).drew ?_;refine Vv (i:=9) (j:=13) (li:=(bs 18 8191)) (lj:=(bs 18 15871)) (listed':=(bs 18 16383)) (by rfl) (by rfl) (by kernel_rfl) (by kernel_rfl) (by kernel_rfl) (by kernel_rfl) (by kernel_rfl) (by kernel_rfl) (by kernel_rfl) 169 _ _ (by rfl) (by rfl) (by rfl) (by rfl) g (p*5) (j*5) (enc x) (enc y) _ Tryz.underlying169 (by rfl) (by rfl) (by rfl) (by rfl) (by rfl) (A0.1.ext Al.drew |>.read Hx.1 hk) (A0.1.ext Al.drew |>.read Hy.1 hk) (by rw[hk];kernel_rfl) (by rw[hk];kernel_rfl) (Ba.refl _ _).drew (by rfl) ?_;try simp only[Act.put,zA,zB,zC]
    refine zv 14 (bs 18 32767) (Ba.refl _ _).drew ?_;have B3:=(A0.1.ext Al.drew).put (i:=j) C9.1 hk x;have B9:=B3.put (i:=p) (by rw[List.length_set];exact C8.1) hk y;refine Lz (i:=15) (listed':=(bs 18 65535)) (by rfl) (by kernel_rfl) (by rfl) 169 _ _ (by rfl) g (j*5) (enc x) (by rfl) (by rfl) (by rw[hk];exact(A0.1.ext Al.drew).there C9.1 hk) (by rw[hk];kernel_rfl) (h1 x) (Ba.setCells_l _ _ (Ba.refl _ _).drew) (by kernel_rfl) ?_
    (try simp only[Act.put])
    refine zv 16 (bs 18 131071) (Ba.setCells_l _ _ (Ba.refl _ _).drew) ?_;refine Lz (i:=17) (listed':=(bs 18 262143)) (by rfl) (by kernel_rfl) (by rfl) 169 _ _ (by rfl) g (p*5) (enc y) (by rfl) (by rfl) (by rw[hk];exact B3.there (by rw[List.length_set];exact C8.1) hk) (by rw[hk];kernel_rfl) (h1 y) (Ba.setCells_l _ _ (Ba.setCells_l _ _ (Ba.refl _ _).drew)) (by kernel_rfl) ?_
    (try simp only[Act.put])
    refine wpAnyH_done (by kernel_rfl) ?_ _;have D6:=zH B9;clear B3 B9;generalize (World.setCells _ g (p*5) (enc y))=w3 at*
    go_wp2_with fail
    go_roundg q
    case measure=>have:=HQ.1.1;omega
    case rel=>exact⟨q,p,by have:=HQ.1;have:=HU.1;omega,by omega,by have:=HQ.1;have:=HJ.1;omega,rfl,fun z hz=>(D7.1 z hz).elim (fun h=>by rw[h];exact B8.1) (A3.1 z),by rw[<-A8.1,HE.1];exact D6.1⟩
   have B8:=zH (eq_false_of_ne_true hlt);have A4:¬z<0:=fun h=>hlt (hz.1 h)
   have B4:decide (z<0)=false:=by simpa using A4
   clear hz;refine zv 15 (bs 17 65535) A1.1 ?_;refine zv 16 (bs 17 131071) A1.1 ?_;refine wpAnyH_done (by kernel_rfl) ?_ _;clear hlt A4 B4;have HR:=zH (show Sw w0 w2 g T enc rest (P++(Stb.stab lt (X.take (t+1))++(X.drop (t+1)++S)))by rw[C6.1,A2.1 B8.1];have h:=A0.1.ext A1.1;rw[<-B7.1]at h;simpa using h);go_wp2_with fail
   go_roundg (b+1-(i+1)+1)
   case measure=>omega
   case rel=>exact⟨t+1,i+1,by omega,Or.inl B6.1,by have:=HI.1;omega,by omega,by go_num,HR.1⟩
  obtain rfl:u=0:=by omega
  have C3:¬(a:Int)<(j:Int):=by omega
  have D3:decide ((a:Int)<(j:Int))=false:=by simpa using C3
  have A2:=zH (Stb.ins_stop W (y:=y) B1.1 A3.1 (Nat.zero_le _) (Or.inl rfl));go_upto_region 4 with fail
  refine wp_region_held_drew (S:=fun x=>Aa wr x) (by kernel_rfl) Al.drew (fun _=> ?_);refine zv 0 (bs 17 1) Al.drew ?_;refine zv 1 (bs 17 3) Al.drew ?_;refine zv 2 (bs 17 7) Al.drew ?_;refine zv 3 (bs 17 15) Al.drew ?_;refine zs 4 (bs 17 31) Al.drew ?_;refine zs 5 (bs 17 63) Al.drew ?_;refine zs 6 (bs 17 127) Al.drew ?_;refine zs 7 (bs 17 255) Al.drew ?_;refine zs 8 (bs 17 511) Al.drew ?_;refine zs 9 (bs 17 1023) Al.drew ?_;refine zs 10 (bs 17 2047) Al.drew ?_;refine zs 11 (bs 17 4095) Al.drew ?_;refine zs 12 (bs 17 8191) Al.drew ?_;refine zs 13 (bs 17 16383) Al.drew ?_;refine zs 14 (bs 17 32767) Al.drew ?_;refine zs 15 (bs 17 65535) Al.drew ?_;refine zv 16 (bs 17 131071) Al.drew ?_;refine wpAnyH_done (by kernel_rfl) ?_ _;have HR:=zH (show Sw w0 wr.drew g T enc rest (P++(Stb.stab lt (X.take (t+1))++(X.drop (t+1)++S)))by rw[C6.1,A2.1];have h:=A0.1.ext Al.drew;simpa using h);go_wp2_with fail
  go_roundg (b+1-(i+1)+1)
  case measure=>omega
  case rel=>exact⟨t+1,i+1,by omega,Or.inl B6.1,by have:=HI.1;omega,by omega,by go_num,HR.1⟩
 have A0:=zH (show Sw w0 wr g T enc rest (P++(Stb.stab lt X++S))by rw[List.take_of_length_le (by omega),List.drop_of_length_le (by omega)]at hst;exact hst);have E1:¬(i:Int)<(b:Int):=by omega
 clear hst;go_wp2_with fail
 go_end0
 exact⟨rfl,A0.1⟩
theorem stable_any {α:Type}(enc:α->List Value)(hk:∀x,(enc x).length=5)(h1:∀x,∀v,v∈enc x->v.oneCell'=true)(lt:α->α->Bool)(W:Stb.Wk lt)(w0 w:World)(g cap N:Nat)(T:TypeId)(rest:List Value)(xs:List α)(hc:(∀wr,Ba g w0 wr->∀x y:α,Calls Tryz.prog 178 #[.agg (enc x).toArray,.agg (enc y).toArray] wr fun e w'=>∃z:Int,e= .returned (iV z)/\(z<0↔lt x y=true)/\Aa wr w'))(hst:Sw w0 w g T enc rest xs)(hN:xs.length=N)(hsz:N<20):
  Calls Tryz.prog 196 #[.slice (some ⟨g,0,none⟩) N cap,iV N,.func (.func 178) #[] #[]] w fun e w'=>e= .returned (.tuple #[])/\Sw w0 w' g T enc rest (Stb.stab lt xs):=by
 have HC:=zH hc;have A0:=zH hst;have HN:=zH hN;clear hst hc hN;go_enter Tryz.func196,Tryz.ntmps196
 have A4:¬(20:Int)<=(N:Int):=by omega
 have A3:¬(20:Int)<(N:Int):=by omega
 have A2:([]++(xs++[])).length=N:=by rw[List.nil_append,List.append_nil];exact HN.1
 have HB:=zH (insertion_any enc hk h1 lt W w0 w g cap 0 N N T rest [] xs [] HC.1 (by rw[List.nil_append,List.append_nil];exact A0.1) rfl ((Nat.zero_add _).trans HN.1) A2 (by omega));clear A0 A2;go_wp2_with fail
 refine wp_loop_rounds 1 ?_;rw[rounds_succ];go_wp2_with (go_at_call 207;refine HB.1.mono ?_;rintro e w2 ⟨rfl,A1⟩)
 refine wp_loop_rounds 1 ?_;rw[rounds_succ];go_wp2_with fail
 go_end0
 rw[List.nil_append,List.append_nil]at A1;exact⟨rfl,A1⟩
theorem sortStable_any {α:Type}(enc:α->List Value)(hk:∀x,(enc x).length=5)(h1:∀x,∀v,v∈enc x->v.oneCell'=true)(lt:α->α->Bool)(W:Stb.Wk lt)(w0 w:World)(g cap N:Nat)(T:TypeId)(rest:List Value)(xs:List α)(hc:(∀wr,Ba g w0 wr->∀x y:α,Calls Tryz.prog 178 #[.agg (enc x).toArray,.agg (enc y).toArray] wr fun e w'=>∃z:Int,e= .returned (iV z)/\(z<0↔lt x y=true)/\Aa wr w'))(hst:Sw w0 w g T enc rest xs)(hN:xs.length=N)(hsz:N<20):
  Calls Tryz.prog 177 #[.slice (some ⟨g,0,none⟩) N cap,.func (.func 178) #[] #[]] w fun e w'=>e= .returned (.tuple #[])/\Sw w0 w' g T enc rest (Stb.stab lt xs):=by
 have HB:=zH (stable_any enc hk h1 lt W w0 w g cap N T rest xs hc hst hN hsz);clear hc hst hN;go_enter Tryz.func177,Tryz.ntmps177
 go_wp2_with (go_at_call 196;refine HB.1.mono ?_;rintro e w2 ⟨rfl,A0⟩)
 go_end0
 exact⟨rfl,A0⟩
theorem insertion_none (v c:Value)(w:World):Calls Tryz.prog 207 #[v,iV 0,iV 0,c] w fun e w'=>e= .returned (.tuple #[])/\w=w':=by
  go_enter Tryz.func207,Tryz.ntmps207
  go_wp2_with fail
  refine wp_loop_rounds 1 ?_;rw[rounds_succ];go_wp2_with fail
  go_end0
  exact⟨rfl,rfl⟩
theorem stable_none (v c:Value)(w:World):Calls Tryz.prog 196 #[v,iV 0,c] w fun e w'=>e= .returned (.tuple #[])/\w=w':=by
  go_enter Tryz.func196,Tryz.ntmps196
  go_wp2_with fail
  refine wp_loop_rounds 1 ?_;rw[rounds_succ];go_wp2_with (go_at_call 207;refine(insertion_none _ _ _).mono ?_;rintro e w2 ⟨rfl,rfl⟩)
  refine wp_loop_rounds 1 ?_;rw[rounds_succ];go_wp2_with fail
  go_end0
  exact⟨rfl,rfl⟩
theorem sortStable_none (A:Option Addr)(cap:Nat)(c:Value)(w:World):Calls Tryz.prog 177 #[.slice A 0 cap,c] w fun e w'=>e= .returned (.tuple #[])/\w=w':=by
  go_enter Tryz.func177,Tryz.ntmps177
  go_wp2_with (go_at_call 196;refine(stable_none _ _ _).mono ?_;rintro e w2 ⟨rfl,rfl⟩)
  go_end0
  exact⟨rfl,rfl⟩
end mrk
section
open Go.RowKit Go.Shelf
section
variable {P:Program} {n l:Nat} {Q:Exit->Act->World->Prop}
theorem iU {row:String}{args:Array Value}{w:World}{R:Value->World->Prop}(h:Rows P row args w R):RowsIn (Fence.wide.inRound l) n P row args w R:=fun c cs _=>
  let ⟨v,w',r,s⟩:=h c cs
  ⟨v,w',r,stepsIn_wide.2 s⟩
theorem fT {o:Oper}{a:Act}{w:World}{K:Act->World->Prop}(ho:∀c,o.op≠ .defer c)(_hQ:¬LetsOut Q)(h:o.wp P a w K Q):o.wpIn (Fence.wide.inRound l) n P a w K Q:=by
 unfold Oper.wp at h;refine⟨fun _ _=>trivial,?_⟩;rw[Oper.semAt_eq _ _ _ ho];generalize (execOp a.eval o).run P w=r at h
 cases r with
 |ok x w'=>
  cases x<;>simp only[Oper.upon]at h<;>simp only[Oper.uponIn];case value=>exact h
  case skip=>exact h
  case defer=>exact h
  case enter=>exact⟨fun hd=>by simp[Fence.wide]at hd,CallsIn.inRound l (callsIn_wide.2 h)⟩
  case row=>exact⟨fun hd=>by simp[Fence.wide]at hd,iU h⟩
 |halt x w'=>cases x<;>simp only[Oper.upon]at h<;>simp only[Oper.uponIn]<;>exact h
def Km (ops:List Oper):Bool:=ops.all fun o=>match o.op with| .defer _=>false|_=>true
theorem Of {ops:List Oper}(h:Km ops=true){o:Oper}(ho:o∈ops):∀c,o.op≠ .defer c:=by
  intro c e;have:=List.all_eq_true.1 h o ho;rw[e]at this;cases this
theorem Oz {md:Region.Mode}{ops:Array Oper}(hd:Km ops.toList=true)(hQ:¬LetsOut Q):∀(fuel:Nat) (listed:Array Bool) (a:Act) (w:World),wpAny P md ops Q fuel listed a w->wpAnyIn (Fence.wide.inRound l) n P md ops Q fuel listed a w
  |0,_,_,_,h=>h
  | fuel+1,listed,a,w,h=>⟨h.1,fun i hi=>by
    have h2:=h.2 i hi;unfold wpOp at h2;unfold wpOpIn;cases ho:ops[i]?with
    |none=>rw[ho]at h2;exact Oz hd hQ fuel _ _ _ h2
    | some o=>
      rw[ho]at h2;simp only at h2⊢;split
      · rename_i hw
        rw[if_pos hw]at h2;rcases h2 with h2|⟨_,h3⟩
        · exact Oper.wpIn_mono (fun a' w' h4=>Oz hd hQ fuel _ _ _ h4) (fT (Of hd (by
            have h5:=Array.mem_of_getElem? ho;exact h5.1)) hQ h2)
        exact absurd h3 hQ
      rename_i hw;rw[if_neg hw]at h2;exact⟨fun _ _=>trivial,Oz hd hQ fuel _ _ _ h2⟩⟩
theorem Pr {ops:Array Oper}(hQ:¬LetsOut Q):∀(rest:List Oper) (_:Km rest=true) (a:Act) (w:World),wpList P ops Q rest a w->wpListIn (Fence.wide.inRound l) n P ops Q rest a w
 | [],_,_,_,h=>h
 |o::rest,hd,a,w,h=>by
  unfold wpList at h;unfold wpListIn;have hd2:Km rest=true:=by
   unfold Km at hd⊢;rw[List.all_cons,Bool.and_eq_true]at hd;exact hd.2
  split
  ·rename_i hw
   rw[if_pos hw]at h;rcases h with h|⟨_,h3⟩
   ·exact Oper.wpIn_mono (fun a' w' h4=>Pr hQ rest hd2 a' w' h4) (fT (Of hd (by simp)) hQ h)
   exact absurd h3 hQ
  rename_i hw;rw[if_neg hw]at h;exact⟨fun _ _=>trivial,Pr hQ rest hd2 _ _ h⟩
theorem Dx {id:Nat}{ops:Array Oper}{S:World->Prop}{a:Act}{w:World}(hm:P.follows .mixedOrders=true)(hd:Km ops.toList=true)(hQ:¬LetsOut Q)(hS:S w.drew)
    (h:S w.drew->wpAnyH P .any ops Q S ops.size (Array.replicate ops.size false) a w.drew):(Code.region id ops true).wpIn (Fence.wide.inRound l) n P Q a w:=
  wpIn_region_any hm (Oz hd hQ _ _ _ _ (wpAny_of_held _ _ _ _ (h hS)))
theorem Ab {id:Nat}{ops:List Oper}{a:Act}{w:World}(hd:Km ops=true)(hQ:¬LetsOut Q)(h:wpList P ops.toArray Q ops a w):(Code.region id ops.toArray false).wpIn (Fence.wide.inRound l) n P Q a w:=
  wpIn_region_lit (Pr hQ _ hd _ _ h)
end
end
section
structure Gc where
  a:RV
  q:Rat
  up:Int
def Gc.cells (e:Gc):List Value:=[.bool e.a.n,.slice e.a.p e.a.l e.a.c,.bool e.a.m,.slice e.a.p2 e.a.l2 e.a.c2,iV e.up]
theorem Gc.len (e:Gc):e.cells.length=5:=rfl
theorem Gc.one (e:Gc):∀v,v∈e.cells->v.oneCell'=true:=by simp[Gc.cells,Value.oneCell']
theorem Gc.noU (e:Gc):At e.cells:=by simp[At,Gc.cells]
def Gc.vl (e:Gc):QI:=(e.q,e.up)
def Gc.Ok (L:Nat)(w:World)(e:Gc):Prop:=e.a.Is w e.q/\Nm.rl e.q<=L/\ -1<=e.up/\e.up<=1
theorem Gc.Ok.dig {L:Nat}{w w':World}{e:Gc}(h:e.Ok L w)(d:Af w w'):e.Ok L w':=⟨h.1.dig d,h.2⟩
theorem sC (es:List Gc):At (es.flatMap Gc.cells):=by
  intro x hx;obtain⟨e,_,he⟩:=List.mem_flatMap.1 hx;exact Gc.noU e x he
theorem yL {α:Type}(f:α->QI):Stb.Wk (fun x y:α=>sO (f x) (f y)):=⟨fun _ _ h=>zP.1 _ _ h,fun _ _ _ h1 h2=>zP.2 _ _ _ h1 h2⟩
def kC (e f:Gc):Bool:=sO e.vl f.vl
theorem Af.kept {w w':World}{r:Option Nat}(hg:w.grownBy w' r)(hr:∀k,r=some k->∃o:Obj,w.heap[k]?=some o/\o.isCells=false):Af w w':=by
 intro v xs h;obtain⟨p,A1,rfl,hc,hd,hp⟩:=h;refine⟨p,A1,rfl,hc,hd,fun h0=> ?_⟩;obtain⟨b,o,rfl,hb⟩:=hp h0;refine⟨b,o,rfl,fun i hi=> ?_⟩;have h1:=hb i hi;have A0:¬(some b=r):=fun e=>by
  obtain⟨ob,h2,h3⟩:=hr b e.symm;cases ob with
  |cells cs t fz=>cases h3
  |_=>simp[World.cell?,h2]at h1
 rw[World.cell?_of_block (hg.block b (World.block_lt_of_cell? w ⟨b,o+i,none⟩ h1) A0)];exact h1
theorem Hp.kept {w0 w w':World}{m:List Dc}{r:Option Nat}(h:Hp w0 w m)(hg:w.grownBy w' r)(hr:∀k,r=some k->w0.heap.size<=k/\∃o:Obj,w.heap[k]?=some o/\o.isCells=false):Hp w0 w' m:=by
 refine⟨h.ext.grown hg (fun k hk=>(hr k hk).1),fun i e he=>(h.all i e he).kept hg (fun k hk hrk=> ?_),h.apart⟩;obtain⟨o,h2,h3⟩:=(hr k hrk).2;cases e with
 |blk g t cs=>
  injection hk with hk
  subst hk;have:=h.blk he;unfold Ad at this;rw[h2]at this;injection this with this
  rw[this]at h3;cases h3
 |row t size v n xs=>
  obtain⟨h4,⟨rfl,_⟩|⟨g,A0,rest,rfl,a,hb,c⟩⟩:=h.row he
  ·simp[Dc.own,Value.ownBlock]at hk
  have hk:g=k:=by simpa[Dc.own,Value.ownBlock]using hk
  subst hk;unfold Ad at hb;rw[h2]at hb;injection hb with hb
  rw[hb]at h3;cases h3
def Jl (y:Rat)(e:(Int×Int)×(Int×Int)):Option QI:=
  if (e.1.2:Rat)<y/\y<(e.2.2:Rat)then some (Fi e.1.1 e.1.2 e.2.1 e.2.2 y,1)
  else if (e.2.2:Rat)<y/\y<(e.1.2:Rat)then some (Fi e.1.1 e.1.2 e.2.1 e.2.2 y,-1)else none
def Tz (y:Rat)(rs:List Av):List QI:=(Cd rs).filterMap (Jl y)
def Eo (y:Rat)(rs:List Av):List QI:=Stb.stab sO (Tz y (if Ge rs=true then rs else[]))
theorem Le {ax ay bx bY:Int}{y:Rat}{L:Nat}(ha:Dk ax ay=true)(hb:Dk bx bY=true)(hy:Nm.rl y<=L):Nm.rl (Fi ax ay bx bY y)<=L+8:=by
 unfold Dk at ha hb;simp only[Bool.and_eq_true,decide_eq_true_eq]at ha hb;unfold Fi;have q1:=Nm.rl_sub y (ay:Rat);have q2:=Nm.rl_div ((1:Int):Rat) ((bY-ay:Int):Rat);have q3:=Nm.rl_mul (y-(ay:Rat)) (((1:Int):Rat)/((bY-ay:Int):Rat));have q4:=Nm.rl_mul ((y-(ay:Rat))*(((1:Int):Rat)/((bY-ay:Int):Rat))) ((bx-ax:Int):Rat);have q5:=Nm.rl_add (ax:Rat) ((y-(ay:Rat))*(((1:Int):Rat)/((bY-ay:Int):Rat))*((bx-ax:Int):Rat));have e1:=lI ax (by omega);have e2:=lI ay (by omega);have e3:=lI (bY-ay) (by omega);have e4:=lI (bx-ax) (by omega);have e5:=lI 1 (by omega);omega
theorem dH (L:Nat)(v:Value)(es:List Gc)(base:Nat)(w:World)(h:Be w base 169 5 v es.length (es.flatMap Gc.cells))(hok:∀e,e∈es->e.Ok L w)
  (hcmp:∀(w:World) (e f:Gc),e.Ok L w->f.Ok L w->Calls Tryz.prog 178 #[.agg e.cells.toArray,.agg f.cells.toArray] w fun x w'=>∃z:Int,x= .returned (iV z)/\(z<0↔kC e f=true)/\Aa w w')
  (hn:es.length<20):
  Calls Tryz.prog 177 #[v,.func (.func 178) #[] #[]] w fun e w'=>
   e= .returned (.tuple #[])/\Be w' base 169 5 v es.length ((Stb.stab kC es).flatMap Gc.cells)/\w.grownBy w' v.ownBlock:=by
 rcases h.2 with⟨rfl,h0⟩|⟨g,cap,rest,rfl,hb,hg,hc1,hc2,hc3,hc4⟩
 ·have:es=[]:=List.eq_nil_of_length_eq_zero h0
  subst this;refine(mrk.sortStable_none none 0 _ w).mono ?_;rintro e w' ⟨rfl,rfl⟩;exact⟨rfl,h,World.grownBy.refl _ _⟩
 have A4:∃xs:List {e:Gc//e.Ok L w},xs.map Subtype.val=es:=by
  clear h hg hc1 hc3 hn hc4;induction es with
  |nil=>exact⟨[],rfl⟩
  |cons e es ih=>
   obtain⟨xs,hx⟩:=ih (fun f hf=>hok f (by simp[hf]));exact⟨⟨e,hok e (by simp)⟩::xs,by rw[List.map_cons,hx]⟩
 obtain⟨xs,rfl⟩:=A4;have A5:xs.flatMap (fun x=>x.1.cells)=(xs.map Subtype.val).flatMap Gc.cells:=by rw[List.flatMap_map]
 have A0:xs.length=(xs.map Subtype.val).length:=by rw[List.length_map]
 refine(mrk.sortStable_any (fun x: {e:Gc//e.Ok L w}=>x.1.cells) (fun _=>rfl) (fun x=>x.1.one) (fun x y=>kC x.1 y.1) (yL (fun x: {e:Gc//e.Ok L w}=>x.1.vl)) w w g cap _ 169 rest xs (fun wr o x y=> ?_) ⟨by rw[A5];exact hg,Ba.refl _ _⟩ A0 hn).mono ?_
 ·have d:Af w wr:=Af.of_own hg hc4.arr o
  exact hcmp wr x.1 y.1 (x.2.dig d) (y.2.dig d)
 rintro e w' ⟨rfl,A2⟩;have hm:(Stb.stab (fun x y: {e:Gc//e.Ok L w}=>kC x.1 y.1) xs).map Subtype.val=Stb.stab kC (xs.map Subtype.val):=Nl Subtype.val (lt':=kC) (fun _ _=>rfl) xs;have A3:(Stb.stab kC (xs.map Subtype.val)).length=(xs.map Subtype.val).length:=Stb.stab_len _;have A1:∀es:List Gc,(es.flatMap Gc.cells).length=es.length*5:=fun es=>Dj Gc.len es
 refine⟨rfl,⟨by rw[A1,A3],Or.inr ⟨g,cap,rest,rfl,hb,?_,hc1,hc2,?_,?_⟩⟩,?_⟩
 ·have h3:=A2.blk
  rw[show(Stb.stab (fun x y: {e:Gc//e.Ok L w}=>kC x.1 y.1) xs).flatMap (fun x=>x.1.cells)=(Stb.stab kC (xs.map Subtype.val)).flatMap Gc.cells by rw[<-hm,List.flatMap_map]]at h3;exact h3
 ·rw[A1,A3,<-A1];exact hc3
 ·exact(sC _).app hc4.right
 have:=A2.own;simpa[Value.ownBlock,Ba]using this
end
section
theorem pR {y:Rat}{a b:Int×Int}(h:(a.2:Rat)<y/\y<(b.2:Rat)):Jl y (a,b)=some (Fi a.1 a.2 b.1 b.2 y,1):=if_pos h
theorem eX {y:Rat}{a b:Int×Int}(h:(b.2:Rat)<y/\y<(a.2:Rat)):Jl y (a,b)=some (Fi a.1 a.2 b.1 b.2 y,-1):=by
  unfold Jl;rw[if_neg (fun k=>by have h1:=h.1;have h2:=h.2;have k1:=k.1;have k2:=k.2;grind),if_pos h]
theorem pS {y:Rat}{a b:Int×Int}(h1:¬((a.2:Rat)<y/\y<(b.2:Rat)))(h2:¬((b.2:Rat)<y/\y<(a.2:Rat))):Jl y (a,b)=none:=by
  unfold Jl;rw[if_neg h1,if_neg h2]
theorem Xk (a b:Rat):a<b\/a=b\/b<a:=by grind
theorem Rg {p q:Rat}(h:p<q):Db p q= -1:=by
  have h1:=rcmp_lt.2 h;unfold Db at h1⊢;have:=Int.sign_trichotomy (p.num*q.den-q.num*p.den);omega
theorem Rf {p q:Rat}(h:q<p):Db p q=1:=by
  have h1:=Hg.2 h;unfold Db at h1⊢;have:=Int.sign_trichotomy (p.num*q.den-q.num*p.den);omega
theorem eW {p q y:Rat}(h1:¬(p<y/\y<q))(h2:¬(q<y/\y<p)):0<=Db p y*Db q y/\Db p y*Db q y<=1:=by
  rcases Xk p y with a|a|a
  · rw[Rg a]
    rcases Xk q y with b|b|b
    · rw[Rg b];decide
    · rw[rcmp_eq.2 b];decide
    exact absurd ⟨a,b⟩ h1
  · rw[rcmp_eq.2 a];simp
  rw[Rf a];rcases Xk q y with b|b|b
  · exact absurd ⟨b,a⟩ h2
  · rw[rcmp_eq.2 b];decide
  rw[Rf b];decide
theorem fG {y:Rat}{a b:Int}(h:((a:Rat)<y/\y<(b:Rat))\/((b:Rat)<y/\y<(a:Rat))):a≠b/\((min a b:Int):Rat)<=y/\y<=((max a b:Int):Rat):=by
  rcases h with⟨h1,h2⟩|⟨h1,h2⟩
  · have A0:a<b:=by exact_mod_cast (show(a:Rat)<(b:Rat)by grind)
    rw[Int.min_eq_left (by omega),Int.max_eq_right (by omega)];exact⟨by omega,by grind,by grind⟩
  have A0:b<a:=by exact_mod_cast (show(b:Rat)<(a:Rat)by grind)
  rw[Int.min_eq_right (by omega),Int.max_eq_left (by omega)];exact⟨by omega,by grind,by grind⟩
end
section
open Go.RowKit Go.Shelf
attribute [local go_sem] Oper.semAt_some
attribute [local go_sem ↓] Go.wp_at_zero Go.wp_at_succ Dt Ds Aj Ai
def Ib (x:Int×Int):Value:= .agg #[iV x.1,iV x.2]
def Fq (ok:Nat->Prop)(w:World)(v:Value)(rs:List Av):Prop:=
  ∃(A:Option Addr) (cap:Nat),v= .slice A rs.length cap/\(0<rs.length->∃g off,A=some ⟨g,off,none⟩/\ok g/\∀i r,rs[i]?=some r->∃B cb,w.cell? ⟨g,off+i,none⟩=some (.slice B r.length cb)/\Gr w (.slice B r.length cb) r/\∀A,B=some A->ok A.block)
theorem kT (m:Nat)(hm:1<=m)(l Bx N:Nat)(G:Nat->Prop)(u:Value)(rs:List Av)(J Jx:List ((Int×Int)×(Int×Int))->World->Prop)(w:World)
  (hcb:w.cell? ⟨Bx,0,none⟩=some u)(_hGb:¬G Bx)(hR:Fq (fun k=>¬G k) w u rs)(hrl:∀r,r∈rs->r.length<=4096)(hrs:rs.length<=1048576)
  (hJ:∀s A B,J s A->Aa A B->J s B)
  (hY:∀pre x W,J pre W->pre.length<N->x∈Cd rs->YieldAt Fence.wide (m-1) Tryz.prog l #[Ib x.1,Ib x.2] W fun e W'=>(e= .returned (.bool true)/\J (pre++[x]) W'/\Fr G W W')\/(e= .returned (.bool false)/\Jx (pre++[x]) W'))
  (hN:(Cd rs).length<=N)(h0:J [] w):
  CallsIn Fence.wide m Tryz.prog 122 #[.func (.yield l) #[] #[],.pointer (some ⟨Bx,0,none⟩)] w fun e W'=>(∃v,e= .returned v)/\
   ((∃ys,ys=Cd rs/\J ys W')\/(∃pre,pre<+:Cd rs/\Jx pre W')):=by
 obtain⟨A,D7,rfl,hA⟩:=hR;have HA:=zH hA;have HJ:=zH hJ;have HY:=zH hY;have D2:=zH hrl;clear hA hJ hY hrl;refine callsIn_of_wp Tryz.func122 rfl trivial ?_ rfl;simp only[Tryz.ntmps122,List.size_toArray,List.length_cons,List.length_nil,Nat.reduceAdd,Nat.reduceSub,Array.replicate_succ,Array.replicate_zero,List.push_toArray,List.append_toArray,List.nil_append,List.cons_append];gi_wp2
 gi_loopw [10] (fun i wr=>∃k:Nat,k<=rs.length/\i= iV k/\Fr G w wr/\J (Cd (rs.take k)) wr) (fun i _=>rs.length-(intOf i).toNat)
 case atStart=>exact⟨0,Nat.zero_le _,rfl,Fr.of_ext Al,h0⟩
 obtain⟨k,hk,rfl,A5,hj⟩:=hrel;have B7:=zH A5;have C1:=zH hj;clear A5 hj;by_cases hlt:k<rs.length
 ·obtain⟨r,hr⟩:∃r,rs[k]?=some r:=⟨_,List.getElem?_eq_getElem hlt⟩
  obtain⟨g,D3,rfl,hg,h1⟩:=HA.1 (by omega);obtain⟨B,cb,B9,B8,hB⟩:=h1 k r hr;have c1:=B7.1.cell B9 hg;have C7:(k:Int)<(rs.length:Int):=by omega
  have HP:=zH B8;have HB:=zH hB;have HR:=zH hr;have D4:=D2.1 r (List.mem_of_getElem? hr);clear h1 B9 B8 hB hr;gi_wp2
  generalize wr=W0 at*
  gi_loopw [16] (fun i wr=>∃j:Nat,j<=r.length/\i= iV j/\Fr G W0 wr/\J (Cd (rs.take k)++Es r j) wr) (fun i _=>r.length-(intOf i).toNat)
  case atStart=>exact⟨0,Nat.zero_le _,rfl,Fr.of_ext Al,by have h:=C1.1;rwa[show Es r 0=[]from rfl,List.append_nil]⟩
  obtain⟨j,D6,rfl,A5,hj⟩:=hrel;have B0:=zH A5;have B6:=zH hj;clear A5 hj;by_cases hjt:j<r.length
  ·have C9:(j:Int)<(r.length:Int):=by omega
   obtain⟨a,ha⟩:∃a,r[j]?=some a:=⟨_,List.getElem?_eq_getElem hjt⟩;have A4:(j+1)%r.length<r.length:=Nat.mod_lt _ (by omega);obtain⟨b,hb⟩:∃b,r[(j+1)%r.length]?=some b:=⟨_,List.getElem?_eq_getElem A4⟩;have C0:=zH (cC ha hb);have B1:∃g2 A0,B=some ⟨g2,A0,none⟩/\¬G g2/\Wv w g2 A0 r:=by
    obtain⟨A2,c2,C4,h2⟩:=HP.1;injection C4 with e1 _ _
    obtain⟨g2,A0,h3,h4⟩:=h2 (fun e=>by rw[e]at hjt;simp at hjt);exact⟨g2,A0,e1.trans h3,HB.1 _ (e1.trans h3),h4⟩
   obtain⟨g2,A0,rfl,A8,B2⟩:=B1;have A9:=zH (B7.1.trans B0.1);have B4:∀i p,r[i]?=some p->r.getD i (0,0)=p:=fun i p h=>by rw[List.getD_eq_getElem?_getD,h];rfl
   have A7:=B2 j hjt;have A6:=B2 _ A4;rw[B4 j a ha]at A7;rw[B4 _ b hb]at A6;have x0:=A9.1.cell A7.1 A8;have x1:=A9.1.cell A7.2 A8;have y0:=A9.1.cell A6.1 A8;have y1:=A9.1.cell A6.2 A8;have wj:IntKind.i64.wrap ((j:Int)+1)=(j:Int)+1:=by rw[IntKind.wrap_i64];omega
   have C5:((j:Int)+1).tmod (r.length:Int)=(((j+1)%r.length:Nat):Int):=by rw[Int.tmod_eq_emod_of_nonneg (by omega)];simp
   have D9:=zH ha;have D8:=zH hb;clear B2 A7 A6 ha hb B4;generalize hM:(j+1)%r.length=M at*
   clear hM;obtain⟨a0,a1⟩:=a;obtain⟨b0,b1⟩:=b;dsimp only at x0 x1 y0 y1
   by_cases hab:(a0,a1)=(b0,b1)
   ·injection hab with e0 e1
    subst e0;subst e1;have C6:(a0==a0&&a1==a1)=true:=by simp
    have A1:=zH (C0.1.trans (if_pos rfl));have C3:=((Aa.refl wr).alloc (.cells #[iV a0,iV a1] 52)).get y0;have C2:=((Aa.refl wr).alloc (.cells #[iV a0,iV a1] 52)).get y1;have A3:Aa wr ((wr.alloc (.cells #[iV a0,iV a1] 52)).alloc (.cells #[iV a0,iV a1] 52)):=((Aa.refl wr).alloc _).alloc _;gi_wp2
    refine⟨fun _ h=>(by cases h),?_⟩;gi_wp2
    go_roundw
    case rel=>exact⟨j+1,hjt,by go_num,B0.1.trans (Fr.of_ext A3),by rw[Pi A1.1];exact HJ.1 _ _ _ B6.1 A3⟩
    case measure=>simp[intOf];omega
   have C6:(a0==b0&&a1==b1)=false:=by
    rw[Bool.and_eq_false_iff,beq_eq_false_iff_ne,beq_eq_false_iff_ne];by_cases h0:a0=b0
    ·exact .inr fun h1=>hab (by rw[h0,h1])
    exact .inl h0
   have A1:=zH (C0.1.trans (if_neg hab));clear hab;have C3:=((Aa.refl wr).alloc (.cells #[iV a0,iV a1] 52)).get y0;have C2:=((Aa.refl wr).alloc (.cells #[iV a0,iV a1] 52)).get y1;have A3:Aa wr ((wr.alloc (.cells #[iV a0,iV a1] 52)).alloc (.cells #[iV b0,iV b1] 52)):=((Aa.refl wr).alloc _).alloc _;have B3:(Cd (rs.take k)++Es r j).length<N:=by
    have h1:=(Py HR.1 (show j+1<=r.length by omega)).length_le;rw[Ft A1.1]at h1;simp at h1⊢;omega
   obtain⟨fn,tmps,assign,body,hy,D0⟩:=HY.1 _ ((a0,a1),(b0,b1)) _ (HJ.1 _ _ _ B6.1 A3) B3 (by
    have h1:=Py HR.1 (show j+1<=r.length by omega);rw[Ft A1.1]at h1;exact h1.subset (by simp))
   dsimp only[Ib]at hy
   gi_wp2
   refine D0.mono ?_;rintro e W3 (⟨rfl,D1,C8⟩|⟨rfl,B5⟩)
   ·gi_wp2
    go_roundw
    case rel=>exact⟨j+1,hjt,by go_num,(B0.1.trans (Fr.of_ext A3)).trans C8,by rw[Ft A1.1,<-List.append_assoc];exact D1⟩
    case measure=>simp[intOf];omega
   gi_wp2
   refine bodyPost_ret (results_none rfl _ _ _) rfl ?_;exact⟨⟨_,rfl⟩,.inr ⟨_,by have h:=Py HR.1 (show j+1<=r.length by omega);rwa[Ft A1.1,<-List.append_assoc]at h,B5⟩⟩
  have D5:¬(j:Int)<(r.length:Int):=by omega
  gi_wp2
  go_roundw
  case rel=>exact⟨k+1,by omega,by go_num,B7.1.trans B0.1,by rw[Qr HR.1];have h:=B6.1;rwa[show j=r.length by omega]at h⟩
  case measure=>simp[intOf];omega
 gi_wp2
 go_end0
 have e:k=rs.length:=by omega
 subst e;exact⟨⟨_,rfl⟩,.inl ⟨_,rfl,by have h:=C1.1;rwa[List.take_of_length_le (Cj _)]at h⟩⟩
end
section
attribute [local go_sem ↓] Go.wp_at_zero Go.wp_at_succ Dt Ds Aj Ai
theorem Fq.ext {ok:Nat->Prop}{w w':World}{v:Value}{rs:List Av}(h:Fq ok w v rs)(x:Aa w w'):Fq ok w' v rs:=by
  obtain⟨A,A1,h1,h2⟩:=h;refine⟨A,A1,h1,fun h0=> ?_⟩;obtain⟨g,A0,h3,h4,h5⟩:=h2 h0;refine⟨g,A0,h3,h4,fun i r hr=> ?_⟩;obtain⟨B,cb,h6,h7,h8⟩:=h5 i r hr;exact⟨B,cb,x.get h6,h7.ext x,h8⟩
theorem Fq.imp {ok ok':Nat->Prop}{w:World}{v:Value}{rs:List Av}(h:Fq ok w v rs)(hi:∀k,ok k->ok' k):Fq ok' w v rs:=by
  obtain⟨A,A1,h1,h2⟩:=h;refine⟨A,A1,h1,fun h0=> ?_⟩;obtain⟨g,A0,h3,h4,h5⟩:=h2 h0;refine⟨g,A0,h3,hi _ h4,fun i r hr=> ?_⟩;obtain⟨B,cb,h6,h7,h8⟩:=h5 i r hr;exact⟨B,cb,h6,h7,fun A hA=>hi _ (h8 A hA)⟩
theorem Tr.ringsO {b0:Nat}{w:World}{v:Value}{rs:List Av}(h:Tr b0 w v rs):Fq (fun k=>b0<=k/\k<w.heap.size) w v rs:=by
 obtain⟨vs,h1,h2,h3⟩:=h;obtain⟨_,⟨rfl,hz⟩|⟨g,A0,rest,rfl,hb,hB,_⟩⟩:=h1
 ·exact⟨none,0,by rw[hz],fun h=>by omega⟩
 refine⟨_,A0,rfl,fun _=>⟨g,0,rfl,⟨hb,hB.lt⟩,fun i r hr=> ?_⟩⟩;obtain⟨B,cb,h4,h5,h6,h7⟩:=h3 i r hr;refine⟨B,cb,?_,h5,fun A hA=>⟨h7 A hA,(h6 A hA).2⟩⟩;rw[Nat.zero_add,hB.cell,List.getElem?_toArray,List.getElem?_append_left (by have:=(List.getElem?_eq_some_iff.1 h4).1;exact this)];exact h4
theorem Fq.nil (ok:Nat->Prop)(w:World):Fq ok w (.slice none 0 0) []:=⟨none,0,rfl,fun h=>by simp at h⟩
theorem Wz (u:Value)(rs:List Av)(w:World)(hu:Cu w u rs)(hv:Ge rs=false)(hn:rs.length<=1048576)(hr:∀r,r∈rs->r.length<=1048576):
  Calls Tryz.prog 121 #[u,.agg #[iV 0,iV 0]] w fun e w'=>e= .returned (.slice none 0 0)/\Aa w w':=by
 have HC:=zH (fun W (hW:Aa w W)=>Cc u rs W (hu.ext hW) hn hr);have HV:=zH hv;obtain⟨Au,cu,rfl,_⟩:=hu;clear hv hr;go_enter Tryz.func121,Tryz.ntmps121
 have hE:Aa w (w.alloc (.cells #[iV 0,iV 0] 52)):=Al.alloc _;go_upto_if 13 with(go_at_call 41;refine(HC.1 _ hE).mono ?_;rintro e w1 ⟨rfl,A0⟩)
 have A1:(!Ge rs)=true:=by rw[HV.1];rfl
 rw[A1];go_wp2_with fail
 go_ret
 exact⟨rfl,hE.trans A0⟩
theorem Qa (u:Value)(rs:List Av)(w:World)(hu:Cu w u rs)(hn:rs.length<=1048576)(hr:∀r,r∈rs->r.length<=1048576):
  Calls Tryz.prog 82 #[u] w fun e w'=>∃Bx v,e= .returned (.func (.func 122) #[] #[.pointer (some ⟨Bx,0,none⟩)])/\w.heap.size<=Bx/\Bx<w'.heap.size/\
   w'.cell? ⟨Bx,0,none⟩=some v/\Fq (fun k=>w.heap.size<=k/\k<w'.heap.size) w' v (if Ge rs=true then rs else[])/\Aa w w':=by
 have HC:Calls Tryz.prog 121 #[u,.agg #[iV 0,iV 0]] w fun e w'=>∃A n c,e= .returned (.slice A n c)/\Fq (fun k=>w.heap.size<=k/\k<w'.heap.size) w' (.slice A n c) (if Ge rs=true then rs else[])/\Aa w w':=by
  by_cases h:Ge rs=true
  ·rw[if_pos h]
   refine(Uo u rs w hu h hn).mono ?_;rintro e w' ⟨v,rfl,h2,h3⟩;have h4:=h2.ringsO;obtain⟨A,c,rfl,_⟩:=id h4;exact⟨A,_,c,rfl,h4,h3⟩
  rw[if_neg h];refine(Wz u rs w hu (by simpa using h) hn hr).mono ?_;rintro e w' ⟨rfl,h3⟩;exact⟨none,0,0,rfl,Fq.nil _ _,h3⟩
 generalize (if Ge rs=true then rs else[])=qs at HC⊢
 have A1:=zH HC;clear HC hu hr;go_enter Tryz.func82,Tryz.ntmps82
 go_wp2_with (go_at_call 121;refine A1.1.mono ?_;rintro e w1 ⟨A,n,c,rfl,hR,hx⟩)
 go_ret
 have A0:Aa w1 (w1.alloc (.cells #[.slice A n c] 31)):=Al.alloc _;refine⟨_,_,rfl,hx.size,by simp,?_,(hR.ext A0).imp (fun k h=>⟨h.1,Nat.lt_of_lt_of_le h.2 A0.size⟩),hx.trans A0⟩;exact(Ad.new w1 _ _).cell 0
end
section
open Go.RowKit Go.Shelf
attribute [local go_sem] Oper.semAt_some
abbrev Dw:=(Int×Int)×(Int×Int)
def yO (e:Dw):Prop:=Dk e.1.1 e.1.2=true/\Dk e.2.1 e.2.2=true
abbrev Uj:={e:Dw//yO e}
def wN (x:Uj):Array Value:=#[Ib x.1.1,Ib x.1.2]
theorem pF {rs:List Av}(h:Ge rs=true):∀e,e∈Cd rs->yO e:=by
 intro e he;obtain⟨r,hr,h2⟩:=List.mem_flatMap.1 he;obtain⟨i,_,h3⟩:=List.mem_filterMap.1 h2;unfold Ge at h;rw[Bool.and_eq_true]at h;have h4:=List.all_eq_true.1 h.2 r hr;unfold De at h4;have hp:∀(j:Nat) (p:Int×Int),r[j]?=some p->Dk p.1 p.2=true:=fun j p hj=>List.all_eq_true.1 h4 p (List.mem_of_getElem? hj)
 unfold Lp at h3;split at h3
 ·rename_i a b ha hb
  split at h3
  ·cases h3
  injection h3 with h3
  subst h3;exact⟨hp _ _ ha,hp _ _ hb⟩
 cases h3
theorem Fr.putObj {G:Nat->Prop}(W:World)(l:Nat)(o':Obj)(h:G l\/W.heap.size<=l):Fr G W (W.putObj l o'):=
  Fr.trans_new (Fr.of_ext (Aa.refl W)) (grownBy_putObj' W l o') (fun j hj=>by injection hj with hj;subst hj;exact h)
theorem Na {n p0 p1 N:Nat}{g:Operand}{assign body:Code}{Q:Exit->Act->World->Prop}{a:Act}{W1:World}(hn:2<=n)(G:Nat->Prop)(Bx:Nat)(u:Value)(rs:List Av)
  (hg:a.eval g= .func (.func 122) #[] #[.pointer (some ⟨Bx,0,none⟩)])(hcb:W1.cell? ⟨Bx,0,none⟩=some u)(hGb:¬G Bx)(hR:Fq (fun k=>¬G k) W1 u rs)(hrs:rs.length<=1048576)(hok:Ge rs=true)(hN:(Cd rs).length<=N)
  (hG:∀k,W1.heap.size<=k->G k)
  (I:List Uj->World->Prop)(hI:OwnFrom W1.heap.size I)(h0:I [] W1)(Ax:Uj->Act->World->Prop)(hAx:∀x a',OwnFrom W1.heap.size (fun(_:Unit) W=>Ax x a' W))
  (hassign:∀(l:Nat) (pre:List Uj) (x:Uj) (W:World) (K:Act->World->Prop),I pre W->(∀a' W',KeepsFrom W1.heap.size W W'->Fr G W W'->I pre W'->Ax x a' W'->K a' W')->
   assign.wpIn (Fence.wide.inRound l) (n-1-1) Tryz.prog (Exit.then K (fun _ _ _=>False)) {tmps:=(a.tmps.setIfInBounds p0 (Ib x.1.1)).setIfInBounds p1 (Ib x.1.2),defers:=[]} W)
  (hbody:∀(l:Nat) (pre:List Uj) (x:Uj) (a':Act) (W:World),I pre W->Ax x a' W->pre.length<N->
   body.wpIn (Fence.wide.inRound l) (n-1-1) Tryz.prog (ownPostG W1.heap.size (Fr G) I (fun _ _ _=>False) (pre++[x]) W) a' W)
  (hdone:∀(D:Nat) (xs:List Uj) (W:World),W1.heap.size<=D->xs.map Subtype.val=Cd rs->I xs W->W.heap[D]?=some (.deferred (some []))->Q .normal {a with defers:={target:= .collected D,args:=#[]}::a.defers} W):
  (Code.rangeFunc g #[p0,p1] assign body).wpIn Fence.wide n Tryz.prog Q a W1:=by
 have A0:SeqStopsK Fence.wide (n-1) Tryz.prog 122 #[.pointer (some ⟨Bx,0,none⟩)] wN (Fr G) (fun xs=>xs.map Subtype.val=Cd rs) (fun pre=>pre.map Subtype.val<+:Cd rs) N W1:=by
  intro l J Jx W hW A6 A5 hY A7;have hx:Aa W1 W:=hW;have A4:=hR.ext hx;have A3:∀r,r∈rs->r.length<=4096:=fun r hr=>by
   obtain⟨k,hk⟩:=List.mem_iff_getElem?.1 hr;have h1:=Ho hk;have h2:=Hn rs (k+1);have h3:=Hi hok;omega
  have A8:∀(s:List Uj) (A B:World),J s A->Aa A B->J s B:=fun s A B h x=>A6 s A B none h (Cq _ x) (fun r e=>by cases e)
  refine(kT (n-1) (by omega) l Bx N G u rs (fun s W=>∃xs:List Uj,xs.map Subtype.val=s/\J xs W) (fun s W=>∃xs:List Uj,xs.map Subtype.val=s/\Jx xs W) W (hx.get hcb) hGb A4 A3 hrs
   (fun s A B h x=>by obtain⟨xs,h1,h2⟩:=h;exact⟨xs,h1,A8 _ _ _ h2 x⟩) ?_ hN ⟨[],rfl,A7⟩).mono ?_
  ·rintro pre x W2 ⟨xs,rfl,h2⟩ A2 A1
   refine(hY xs ⟨x,pF hok x A1⟩ W2 h2 (by simpa using A2)).mono ?_;rintro e W3 (⟨rfl,h3,h4⟩|⟨rfl,h3⟩)
   ·exact .inl ⟨rfl,⟨_,by simp,h3⟩,h4⟩
   exact .inr ⟨rfl,⟨_,by simp,h3⟩⟩
  rintro e W2 ⟨h1,⟨ys,rfl,xs,h2,h3⟩|⟨pre,h2,xs,h3,h4⟩⟩
  ·exact⟨h1,.inl ⟨xs,h2,h3⟩⟩
  exact⟨h1,.inr ⟨xs,by show xs.map Subtype.val<+:Cd rs;rw[h3];exact h2,h4⟩⟩
 refine wpIn_rangeFunc_ownH rfl (by omega) (gf:=122) (lb:=#[.pointer (some ⟨Bx,0,none⟩)]) hg trivial (enters_of Tryz.func122 kR rfl)
  A0 (fun h k=>Fr.trans h k) (fun W l o o' hl _ _ _=>Fr.putObj W l o' (.inl (hG l hl))) (Below.refl _ _) (fun _=>rfl) I (fun _ _ _=>False) hI (fun _ _ _ _ _ hs _ _=>hs) h0 Ax hAx ?assign ?body ?done ?stop
 case assign=>
  intro l pre x W K hi hK;have e:((#[p0,p1]:Array Tmp).zip (wN x)).foldl (fun t (p,v)=>t.setIfInBounds p v) a.tmps=(a.tmps.setIfInBounds p0 (Ib x.1.1)).setIfInBounds p1 (Ib x.1.2):=by simp[wN]
  rw[e];exact hassign l pre x W K hi hK
 case body=>exact fun l pre x a' W _ _ hi ha hlt=>hbody l pre x a' W hi ha hlt
 case done=>exact fun D xs W hD hs hi hK=>hdone D xs W hD hs hi hK
 case stop=>exact fun D c pre W _ _ h _=>h.elim
theorem KeepsFrom.of_fr {B:Nat}{G:Nat->Prop}{W W':World}(h:Fr G W W')(hG:∀k,G k->∀o:Obj,W.heap[k]?=some o->o.isCells=true):KeepsFrom B W W':=
  ⟨h.size,fun k o _ hk ho=>by
    have A0:k<W.heap.size:=(Array.getElem?_eq_some_iff.1 hk).1;rw[h.block k A0 (fun g=>by rw[hG k g o hk]at ho;cases ho)];exact hk⟩
theorem Fr.imp {G G':Nat->Prop}{W W':World}(h:Fr G W W')(hG:∀k,G k->G' k):Fr G' W W':=⟨h.os,h.tape,h.output,h.size,fun k hk hn=>h.block k hk (fun g=>hn (hG k g))⟩
theorem Hp.cells {w0 w:World}{m:List Dc}{i k:Nat}{e:Dc}(h:Hp w0 w m)(hi:m[i]?=some e)(hk:e.own=some k):∀o:Obj,w.heap[k]?=some o->o.isCells=true:=by
 intro o ho;cases e with
 |blk g t cs=>
  injection hk with hk
  subst hk;have:=h.blk hi;unfold Ad at this;rw[this]at ho;injection ho with ho
  rw[<-ho];rfl
 |row t size v n xs=>
  obtain⟨h4,⟨rfl,_⟩|⟨g,A0,rest,rfl,a,hb,c⟩⟩:=h.row hi
  ·simp[Dc.own,Value.ownBlock]at hk
  have hk:g=k:=by simpa[Dc.own,Value.ownBlock]using hk
  subst hk;unfold Ad at hb;rw[hb]at ho;injection ho with ho
  rw[<-ho];rfl
def Dc.typ:Dc->TypeId
  | .blk _ t _=>t
  | .row t _ _ _ _=>t
theorem Hp.typ {w0 w:World}{m:List Dc}{i g:Nat}{e:Dc}{T:TypeId}{cs:Array Value}(h:Hp w0 w m)(hi:m[i]?=some e)(hb:Ad w g T cs)(hk:e.own=some g):e.typ=T:=by
 unfold Ad at hb;cases e with
 |blk g' t cs'=>
  injection hk with hk
  subst hk;have:=h.blk hi;unfold Ad at this;rw[this]at hb;injection hb with hb
  injection hb with _ hb _
 |row t size v n xs=>
  obtain⟨h4,⟨rfl,_⟩|⟨g',A1,rest,rfl,a,A0,c⟩⟩:=h.row hi
  ·simp[Dc.own,Value.ownBlock]at hk
  have hk:g'=g:=by simpa[Dc.own,Value.ownBlock]using hk
  subst hk;unfold Ad at A0;rw[A0]at hb;injection hb with hb
  injection hb with _ hb _
theorem Hp.addTyp2 {w0 w:World}{m:List Dc}{X Y:Nat}{T:TypeId}{zs us:List Value}(h:Hp w0 w m)(B1:Ad w X T zs.toArray)(B2:Ad w Y T us.toArray)(hne:X≠Y)(z1:w0.heap.size<=X)(z2:w0.heap.size<=Y)(n1:At zs)(n2:At us)
  (ht:∀e,e∈m->e.typ≠T):Hp w0 w (m++[.blk X T zs]++[.blk Y T us]):=by
 have h1:Hp w0 w (m++[.blk X T zs]):=h.add ⟨z1,B1,n1⟩ (fun i f hf k hk e=>by
  injection e with e
  subst e;exact ht f (List.mem_of_getElem? hf) (h.typ hf B1 hk))
 refine h1.add ⟨z2,B2,n2⟩ (fun i f hf k hk e=> ?_);injection e with e
 subst e;rcases List.mem_append.1 (List.mem_of_getElem? hf)with hm|hm
 ·obtain⟨j,hj⟩:=List.mem_iff_getElem?.1 hm
  exact ht f hm (h.typ hj B2 hk)
 simp at hm;subst hm;injection hk with hk
 exact hne hk
theorem Ad.kept {w w':World}{g:Nat}{t:TypeId}{cs:Array Value}{r:Option Nat}(h:Ad w g t cs)(hg:w.grownBy w' r)(hr:∀k,r=some k->∃o:Obj,w.heap[k]?=some o/\o.isCells=false):Ad w' g t cs:=
  h.grown hg (fun e=>by
    obtain⟨o,h2,h3⟩:=hr g e;unfold Ad at h;rw[h]at h2;injection h2 with h2
    rw[<-h2]at h3;cases h3)
end
section
attribute [local go_sem ↓] Go.wp_at_zero Go.wp_at_succ Aj Ai
theorem bX {ρ:Operand->Value}{o:Oper}{w:World}{a b c d:Int}{bb:Bool}{t':TypeId}{x y:Operand}(ho:o.op= .binOp .neq 52 x y t')(hx:ρ x= .agg #[iV a,iV b])(hy:ρ y= .agg #[iV c,iV d])(h:(!(a==c&&b==d))=bb):
    (execOp ρ o).run Tryz.prog w= .ok (.value (.bool bb)) w:=by
  subst h;unfold execOp;simp only[ho,hx,hy];simp[go_sem,Ds]
def pG (e:Dw):List Value:=[iV e.1.1,iV e.1.2,iV e.2.1,iV e.2.2]
theorem tT (e:Dw):(pG e).length=4:=rfl
theorem Lx {w:World}{g o:Nat}{v:Value}(h:w.cell? ⟨g,o,none⟩=some v):w.rangeAt g o [v]:=by
  intro j u hj;match j,hj with
  |0,hj=>injection hj with hj;rw[<-hj];exact h
  |k+1,hj=>simp at hj
def Dq (rs:List Av):List Dw:=Cd (if Ge rs=true then rs else[])
theorem Wj {rs:List Av}(h:Ge rs=true):Dq rs=Cd rs:=by unfold Dq;rw[if_pos h]
theorem rP {w0 w:World}{m:List Dc}{X i:Nat}{a b c d:Int×Int}(h:Hp w0 w m)(h1:m[i]?=some (.blk X 52 [iV a.1,iV a.2,iV b.1,iV b.2,iV c.1,iV c.2,iV d.1,iV d.2])):Gr w (.slice (some ⟨X,0,none⟩) 4 4) [a,b,c,d]:=by
 refine⟨_,4,rfl,fun _=>⟨X,0,rfl,fun i hi=> ?_⟩⟩;have hi:i<4:=hi;have:i=0\/i=1\/i=2\/i=3:=by omega
 rcases this with rfl|rfl|rfl|rfl
 ·exact⟨h.cell h1 0 rfl,h.cell h1 1 rfl⟩
 ·exact⟨h.cell h1 2 rfl,h.cell h1 3 rfl⟩
 ·exact⟨h.cell h1 4 rfl,h.cell h1 5 rfl⟩
 exact⟨h.cell h1 6 rfl,h.cell h1 7 rfl⟩
theorem Iy {w0 w:World}{m:List Dc}{X i:Nat}{a b:Int×Int}(h:Hp w0 w m)(h1:m[i]?=some (.blk X 52 [iV a.1,iV a.2,iV b.1,iV b.2])):Gr w (.slice (some ⟨X,0,none⟩) 2 2) [a,b]:=by
  refine⟨_,2,rfl,fun _=>⟨X,0,rfl,fun i hi=> ?_⟩⟩;have hi:i<2:=hi;have:i=0\/i=1:=by omega
  rcases this with rfl|rfl
  · exact⟨h.cell h1 0 rfl,h.cell h1 1 rfl⟩
  exact⟨h.cell h1 2 rfl,h.cell h1 3 rfl⟩
theorem Vb (a b c d:Int×Int):0<=(Aw a b c d).2/\(Aw a b c d).2<=2:=by
  unfold Aw;split
  · exact⟨by decide,by decide⟩
  split
  · exact⟨(show(0:Int)<=1 by decide),(show(1:Int)<=2 by decide)⟩
  exact⟨by decide,by decide⟩
theorem Pf {a b c d:Int×Int}(ha:Du a)(hb:Du b)(hc:Du c)(hd:Du d):Du (Aw a b c d).1:=by
  unfold Aw;split
  · exact(show Dk 0 0=true by decide)
  split
  · exact vP ha hb hc hd
  exact(show Dk 0 0=true by decide)
def Kh (a b c d:Int×Int):Rat:=((cr (dv a c) (dv c d):Int):Rat)/((cr (dv a b) (dv c d):Int):Rat)
def Qu (a b c d:Int×Int):Rat:=((cr (dv a c) (dv a b):Int):Rat)/((cr (dv a b) (dv c d):Int):Rat)
def sY (x:Rat):Prop:=¬x<(((0):Int):Rat)/\¬(((1):Int):Rat)<x
instance yE (x:Rat):Decidable (sY x):=inferInstanceAs (Decidable (_/\_))
def Cl (a b c d:Int×Int):Int×Int:=if dv a b=(0,0)then dv c d else dv a b
def Gd (a b c d:Int×Int):Int:=
  if cr (dv a b) (dv c d)≠0 then(if sY (Kh a b c d)/\sY (Qu a b c d)then 1 else 0)
  else if cr (Cl a b c d) (dv a c)≠0\/(Cl a b c d=(0,0)/\a≠c)then 0 else(Aw a b c d).2
def dM (a b c d:Int×Int):Rat:=if cr (dv a b) (dv c d)≠0 then(a.1:Rat)+Kh a b c d*((b.1-a.1:Int):Rat)else(((Aw a b c d).1.1:Int):Rat)
def Pg (a b c d:Int×Int):Rat:=if cr (dv a b) (dv c d)≠0 then(a.2:Rat)+Kh a b c d*((b.2-a.2:Int):Rat)else(((Aw a b c d).1.2:Int):Rat)
def Ni (a b c d:Int×Int)(w:World)(e:Ending)(w':World):Prop:=
  ((∃r s:RV,Gd a b c d=1/\e= .returned (.tuple #[.agg #[.bool r.n,.slice r.p r.l r.c,.bool r.m,.slice r.p2 r.l2 r.c2],.agg #[.bool s.n,.slice s.p s.l s.c,.bool s.m,.slice s.p2 s.l2 s.c2],iV 1])/\r.Is w' (dM a b c d)/\s.Is w' (Pg a b c d))\/
    (Gd a b c d≠1/\e= .returned (.tuple #[.agg z4,.agg z4,iV (Gd a b c d)])))/\Aa w w'
theorem Zr (a b:Int)(h1: -9223372036854775808<=a/\a<=9223372036854775807)(h2: -9223372036854775808<=b/\b<=9223372036854775807):Nm.rl ((a:Rat)/(b:Rat))<=8:=by
  have h:=Nm.rl_div (a:Rat) (b:Rat);have h3:=Bk a h1.1 h1.2;have h4:=Bk b h2.1 h2.2;omega
theorem Ns (a b c d:Int×Int)(w:World)(ha:Du a)(hb:Du b)(hc:Du c)(hd:Du d):
  Calls Tryz.prog 166 #[.agg #[iV a.1,iV a.2],.agg #[iV b.1,iV b.2],.agg #[iV c.1,iV c.2],.agg #[iV d.1,iV d.2]] w (Ni a b c d w):=by
 have R3:=zH (show De [a,b,c,d]=true from by simp[De,ha,hb,hc,hd]);have l4:=Wn (Fn ha hb) (Fn hc hd);have l3:=Wn (Fn ha hc) (Fn hc hd);have l1:=Wn (Fn ha hc) (Fn ha hb);have oa:=Bi ha;have ob:=Bi hb;have oc:=Bi hc;have od:=Bi hd;go_enter Tryz.func166,Tryz.ntmps166
 have H0:=zH (Hp.start w);go_upto_region 0 with fail
 refine wl ?_;refine Cm 52 [iV a.1,iV a.2] H0.1 ?_;intro D0 j9 i5 _;refine Cm 52 [iV b.1,iV b.2] i5.1 ?_;intro D6 j8 i4 _;refine Cm 52 [iV c.1,iV c.2] i4.1 ?_;intro H5 j7 i3 _;refine Cm 52 [iV d.1,iV d.2] i3.1 ?_;intro O0 j6 i2 _;refine Cm 26 rz i2.1 ?_;intro E6 j5 i1 _;refine Cm 26 rz i1.1 ?_;intro E5 j4 Z3 _;refine zq (iV 0) ?_;go_upto_region 1 with fail
 refine wl ?_;refine Ej Z3.1 _ _ _ _ ?_;refine cS 4 52 [iV a.1,iV a.2,iV b.1,iV b.2,iV c.1,iV c.2,iV d.1,iV d.2] Z3.1 ?_;intro P3 j0 Z2 _;refine zc (Hk (.slice (some ⟨P3,0,none⟩) 4 4) [a,b,c,d] _ (rP Z2.1 (i:=6) rR) (by simp)) ?_;rintro e H4 ⟨rfl,hx⟩;have R5:=zH (Z2.1.step hx);clear hx;refine⟨.bool true,by rw[R3.1],?_⟩;try simp only[Act.put,zA,zB,zC]
 refine zq (.bool false) ?_;go_upto_region 3 with fail
 refine zy ?_;have i0:=zH (R5.1.step (Aa.refl H4).drew);refine qP R5.1 zb (bs 15 219) 0 1 3 4 6 7 _ _ _ _ _ _ ?_;refine FN.go3 (j1:=⟨9,some 11,52,[iV 0,iV 0]⟩) (j2:=⟨10,some 12,52,[iV 0,iV 0]⟩) (j3:=⟨11,some 13,52,[iV 0,iV 0]⟩) (b:=H4) ?_ zb;refine gN 2 (bs 15 223) (fk (fk (fk trivial))) zb.size (fun xq B1=>Rs b a _ hb ha) (by rintro x_ e H3 ⟨rfl,hx⟩;exact hx) ?_;rintro xq e i9 B1 ⟨rfl,hx⟩;replace hx:=B1.trans hx;clear B1;have g9:=zH (i0.1.step hx);have Z1:=zH (zb.trans hx);clear hx;refine⟨_,rfl,?_⟩;try simp only[Act.put,zA,zB,zC]
 refine gN 5 (bs 15 255) (fk (fk (fk trivial))) Z1.1.size (fun xq B1=>Rs d c _ hd hc) (by rintro x_ e H3 ⟨rfl,hx⟩;exact hx) ?_;rintro xq e i8 B1 ⟨rfl,hx⟩;replace hx:=B1.trans hx;clear B1;have g8:=zH (g9.1.step hx);have Z0:=zH (Z1.1.trans hx);clear hx;refine⟨_,rfl,?_⟩;try simp only[Act.put,zA,zB,zC]
 refine gN 8 (bs 15 511) (fk (fk (fk trivial))) Z0.1.size (fun xq B1=>Rs c a _ hc ha) (by rintro x_ e H3 ⟨rfl,hx⟩;exact hx) ?_;rintro xq e i7 B1 ⟨rfl,hx⟩;replace hx:=B1.trans hx;clear B1;have g7:=zH (g8.1.step hx);have Q0:=zH (Z0.1.trans hx);clear hx;refine⟨_,rfl,?_⟩;try simp only[Act.put,zA,zB,zC]
 refine aAD (bs 15 4095) (fk (fk (fk trivial))) Q0.1.size R5.1 g7.1 ?_;intro F2 F1 C4 P0 hx hh I6 I5 Y9 hs;have W4:=hN hh;have P9:=zH (show Aa H4 P0 from hs);have W9:=zH (show H4.heap.size<=F2 from I6);have W8:=zH (show H4.heap.size<=F1 from I5);have W7:=zH (show H4.heap.size<=C4 from Y9);clear hh hx hs I6 I5 Y9;try simp only[Act.put,zA,zB,zC]
 refine bS 7 12 (bs 15 8191) [iV ((dv a b).1),iV ((dv a b).2)] W4.1 P9.1 W9.1 ?_;intro f3 W3 _ P8;refine bS 8 13 (bs 15 16383) [iV ((dv c d).1),iV ((dv c d).2)] W3.1 P8.1 W8.1 ?_;intro f2 W2 _ P7;refine bS 9 14 (bs 15 32767) [iV ((dv a c).1),iV ((dv a c).2)] W2.1 P7.1 W7.1 ?_;intro f1 L3 _ g5;refine wpAnyH_done kR ?_ _;go_upto_region 4 with fail
 refine wl ?_;refine Bq L3.1 _ _ ?_;refine aC L3.1 (Gk (dv a b) (dv c d) _ (Fn ha hb) (Fn hc hd)) ?_;intro D3 D5 _;refine zq (iV (cr (dv a b) (dv c d))) ?_;rcases Co (cr (dv a b) (dv c d)≠0)with HNZ|HNZ
 ·go_upto_region 5 with fail
  refine wl ?_;refine zq (iV (cr (dv a b) (dv c d))) ?_;refine zp (.bool true) (by exact Jn (e:=(Ae HNZ.1))) ?_;go_upto_region 6 with fail
  refine zy ?_;have W1:=zH (D5.1.step (Aa.refl D3).drew);refine qP D5.1 zb (bs 14 363) 0 1 3 5 6 8 _ _ (iV (cr (dv a b) (dv c d))) _ _ (iV (cr (dv a b) (dv c d))) ?_;refine FN.go2 (j1:=⟨10,some 15,26,[.bool false,.slice none 0 0,.bool false,.slice none 0 0]⟩) (j2:=⟨11,some 16,26,[.bool false,.slice none 0 0,.bool false,.slice none 0 0]⟩) (b:=D3) ?_ zb;refine gN 2 (bs 14 367) (fk (fk trivial)) zb.size (fun xq B1=>Gk (dv a c) (dv c d) _ (Fn ha hc) (Fn hc hd)) (by rintro x_ e H3 ⟨rfl,hx⟩;exact hx) ?_;rintro xq e f0 B1 ⟨rfl,hx⟩;replace hx:=B1.trans hx;clear B1;have W0:=zH (W1.1.step hx);have K8:=zH (zb.trans hx);clear hx;refine⟨_,rfl,?_⟩;try simp only[Act.put,zA,zB,zC]
  refine gN 4 (bs 14 383) (fk (fk trivial)) K8.1.size (fun xq B1=>Ng (cr (dv a c) (dv c d)) (cr (dv a b) (dv c d)) _ (by omega) (by omega) (by omega) (by omega) HNZ.1) (by rintro x_ e H3 ⟨c_,rfl,B2,hx⟩;exact hx) ?_;rintro xq e d9 B1 ⟨c_,rfl,B2,hx⟩;replace hx:=B1.trans hx;clear B1;have V9:=zH (W0.1.step hx);have K7:=zH (K8.1.trans hx);obtain⟨A0,rfl,A3⟩:=B2;have F6:=zH A3;have H2:=zH (Zr (cr (dv a c) (dv c d)) (cr (dv a b) (dv c d)) (by omega) (by omega));clear A3 hx;refine⟨_,rfl,?_⟩;try simp only[Act.put,zA,zB,zC]
  refine gN 7 (bs 14 511) (fk (fk trivial)) K7.1.size (fun xq B1=>Gk (dv a c) (dv a b) _ (Fn ha hc) (Fn ha hb)) (by rintro x_ e H3 ⟨rfl,hx⟩;exact hx) ?_;rintro xq e d8 B1 ⟨rfl,hx⟩;replace hx:=B1.trans hx;clear B1;have V8:=zH (V9.1.step hx);have N8:=zH (Af.of_ext hx);have K6:=zH (K7.1.trans hx);clear hx;refine⟨_,rfl,?_⟩;try simp only[Act.put,zA,zB,zC]
  refine gN 9 (bs 14 1023) (fk (fk trivial)) K6.1.size (fun xq B1=>Ng (cr (dv a c) (dv a b)) (cr (dv a b) (dv c d)) _ (by omega) (by omega) (by omega) (by omega) HNZ.1) (by rintro x_ e H3 ⟨c_,rfl,B2,hx⟩;exact hx) ?_;rintro xq e d7 B1 ⟨c_,rfl,B2,hx⟩;replace hx:=B1.trans hx;clear B1;have V7:=zH (V8.1.step hx);have N7:=zH (Af.of_ext hx);have P6:=zH (K6.1.trans hx);obtain⟨A1,rfl,A3⟩:=B2;have R2:=zH A3;have Y8:=zH (Zr (cr (dv a c) (dv a b)) (cr (dv a b) (dv c d)) (by omega) (by omega));clear A3 hx;refine⟨_,rfl,?_⟩;try simp only[Act.put,zA,zB,zC]
  refine zS (bs 14 4095) (fk (fk trivial)) P6.1.size D5.1 V7.1 ?_;intro C8 I8 O9 hx hh I6 I5 hs;have V6:=hN hh;have G9:=zH (Af.of_ext hx);have P5:=zH (show Aa D3 O9 from hs);have W6:=zH (show D3.heap.size<=C8 from I6);have W5:=zH (show D3.heap.size<=I8 from I5);clear hh hx hs I6 I5;try simp only[Act.put,zA,zB,zC]
  refine bS 10 12 (bs 14 8191) (rc A0) V6.1 P5.1 W6.1 ?_;intro d6 V5 G8 P4;refine bS 11 13 (bs 14 16383) (rc A1) V5.1 P4.1 W5.1 ?_;intro d5 L2 G7 g4;refine wpAnyH_done kR ?_ _;go_upto_region 7 with fail
  refine wl ?_;refine Bq L2.1 _ _ ?_;refine cS 2 26 [.bool A0.n,.slice A0.p A0.l A0.c,.bool A0.m,.slice A0.p2 A0.l2 A0.c2,.bool A1.n,.slice A1.p A1.l A1.c,.bool A1.m,.slice A1.p2 A1.l2 A1.c2] L2.1 ?_;intro D7 O8 L1 G6;refine Bq Ac _ _ ?_;go_wp2_with fail
  go_loopg [59] (2) (fun cq P1 wr=>∃(k:Nat),cq=2-k/\P1= iV (k:Int)/\(k<=2)/\(1<=k->sY (Kh a b c d))/\(2<=k->sY (Qu a b c d))/\Hp w wr [.blk D0 52 [iV a.1,iV a.2],.blk D6 52 [iV b.1,iV b.2],.blk H5 52 [iV c.1,iV c.2],.blk O0 52 [iV d.1,iV d.2],.blk E6 26 [.bool false,.slice none 0 0,.bool false,.slice none 0 0],.blk E5 26 [.bool false,.slice none 0 0,.bool false,.slice none 0 0],.blk P3 52 [iV a.1,iV a.2,iV b.1,iV b.2,iV c.1,iV c.2,iV d.1,iV d.2],.blk F2 52 [iV ((dv a b).1),iV ((dv a b).2)],.blk F1 52 [iV ((dv c d).1),iV ((dv c d).2)],.blk C4 52 [iV ((dv a c).1),iV ((dv a c).2)],.blk C8 26 [.bool A0.n,.slice A0.p A0.l A0.c,.bool A0.m,.slice A0.p2 A0.l2 A0.c2],.blk I8 26 [.bool A1.n,.slice A1.p A1.l A1.c,.bool A1.m,.slice A1.p2 A1.l2 A1.c2],.blk D7 26 [.bool A0.n,.slice A0.p A0.l A0.c,.bool A0.m,.slice A0.p2 A0.l2 A0.c2,.bool A1.n,.slice A1.p A1.l A1.c,.bool A1.m,.slice A1.p2 A1.l2 A1.c2]]/\Af O8 wr)
  case atStart=>exact⟨0,rfl,rfl,(by decide),(fun h_=>absurd h_ (by decide)),(fun h_=>absurd h_ (by decide)),L1.1,Af.refl _⟩
  obtain⟨k,rfl,rfl,H8,I0,H9,I4,I7⟩:=hrel;generalize wr=B0 at*
  have HK:=zH H8;clear H8;have H0:=zH I0;clear I0;have H1:=zH H9;clear H9;have A2:=zH I4;have E4:=zH I7;clear I4 I7 L1;rcases Co (k<2)with HLT|HLT
  ·have M6:=tD (tD (tD (tD (tD (tD N8 N7) G9) G8) G7) G6) E4
   have M5:=tD (tD (tD (tD G9 G8) G7) G6) E4;have I3:k=0\/k=1:=by have h_:=HLT.1;omega
   have H6:=zH I3;clear I3;obtain⟨rk,D4⟩:∃r:RV,r=if k=0 then A0 else A1:=⟨_,rfl⟩
   obtain⟨xk,C5⟩:∃x:Rat,x=if k=0 then Kh a b c d else Qu a b c d:=⟨_,rfl⟩
   have O1:=zH C5;have K9:=zH (show rk.Is B0 xk from by rcases H6.1 with h_|h_;rw[D4,C5,if_pos h_,if_pos h_];exact(F6.1.dig M6.1);rw[D4,C5,if_neg (by omega),if_neg (by omega)];exact(R2.1.dig M5.1));have L0:=zH (show Nm.rl xk<=8 from by rcases H6.1 with h_|h_;rw[C5,if_pos h_];exact H2.1;rw[C5,if_neg (by omega)];exact Y8.1);have g6:=zH (show World.rangeAt B0 D7 (k*4) [.bool rk.n,.slice rk.p rk.l rk.c,.bool rk.m,.slice rk.p2 rk.l2 rk.c2]from by rcases H6.1 with h_|h_;rw[D4,if_pos h_,h_];exact A2.1.range (i:=12) (by rfl) 0 4;have g2:k=1:=h_;rw[D4,if_neg (by omega),g2];exact A2.1.range (i:=12) (by rfl) 4 4);clear D4 C5;go_upto_region 8 with fail
   refine wl ?_;refine zp (.bool true) (by exact Dv (e:=(Ae (by have B4:=HLT.1;omega)))) ?_;go_upto_region 9 with fail
   refine wl ?_;refine zp (.pointer (some ⟨D7,k*4,none⟩)) (by exact Jo (k:=k) Tryz.underlying105 (l:=HLT.1) (f:=(Nat.zero_add _).symm)) ?_;refine zd D7 (k*4) (rc rk) g6.1 Tryz.underlying26 ?_;refine Cm 26 rz A2.1 ?_;intro g3 d4 V4 E3;refine Cy 13 (rc rk) V4.1 ?_;intro B6 C3 E2;rcases Co (xk<(((0):Int):Rat))with C1|C1
   ·go_upto_region 10 with fail
    refine zy ?_;have V3:=zH (C3.1.step (Aa.refl B6).drew);have Y2:=zH (Af.of_ext (w:=B6) zb);refine Rp C3.1 zb (bs 10 1) 0 _ ?_;refine mC 1 (bs 10 3) (Cx 0 _ (by have B4:=HLT.1;omega) (by have B4:=HLT.1;omega)) ?_;rintro e O7 ⟨c_,rfl,B2,hx⟩;have V2:=zH (V3.1.step hx);have Y1:=zH (show Af B6.drew O7 from Af.of_ext hx);have K5:=zH (zb.trans hx);obtain⟨f8,rfl,A3⟩:=B2;have R1:=zH A3;have Y7:=zH (Bk 0 (by have B4:=HLT.1;omega) (by have B4:=HLT.1;omega));clear A3 hx;refine zm K5.1 ?_;have M4:=tD (tD (tD E3 E2) Y2) Y1;refine mC 2 (bs 10 7) (Fk (L:=60000) (RV.Is.nin (K9.1.dig M4.1) (Ar L0.1 (by omega))) (RV.Is.nin R1.1 (Ar Y7.1 (by omega))) (by omega)) ?_;rintro e d3 ⟨rfl,hx⟩;have V1:=zH (V2.1.step hx);have F5:=zH (K5.1.trans hx);clear hx;refine zm F5.1 ?_;refine zu 3 (bs 10 15) (v:= .bool true) F5.1 ?_ (hv:=by intro w N9;exact Dv (e:=(Ae (rcmp_lt.2 C1.1))));refine qP Ac F5.1 (bs 10 1023) 4 5 6 7 8 9 (.bool true) _ _ _ _ (.bool true) ?_;refine wpAnyH_done kR ?_ _;go_upto_region 11 with fail
    refine wl ?_;refine Bq Ac _ _ ?_;refine Cy 4 rz V1.1 ?_;intro d2 V0 _;refine Cy 5 rz V0.1 ?_;intro d1 G5 _;refine zq (iV 0) ?_;have B5:=zH (show Gd a b c d=0 from by unfold Gd;rw[if_pos HNZ.1,if_neg (fun h_=>by have e_:=O1.1;rcases H6.1 with k_|k_;rw[if_pos k_]at e_;exact h_.1.1 (e_▸C1.1);rw[if_neg (by omega)]at e_;exact h_.2.1 (e_▸C1.1))]);go_wp2_with fail
    refine bodyPost_ret (v:= .tuple #[.agg z4,.agg z4,iV 0]) ?_ rfl ⟨.inr ⟨by rw[B5.1];decide,by rw[B5.1]⟩,G5.1.ext⟩;exact Ck rfl rfl rfl ((G5.1.blk (i:=4) rR).loadVar rfl rfl rR) ((G5.1.blk (i:=5) rR).loadVar rfl rfl rR) rfl
   rcases Co ((((1):Int):Rat)<xk)with C2|C2
   ·go_upto_region 10 with fail
    refine zy ?_;have U9:=zH (C3.1.step (Aa.refl B6).drew);have Y0:=zH (Af.of_ext (w:=B6) zb);refine Rp C3.1 zb (bs 10 1) 0 _ ?_;refine mC 1 (bs 10 3) (Cx 0 _ (by have B4:=HLT.1;omega) (by have B4:=HLT.1;omega)) ?_;rintro e O6 ⟨c_,rfl,B2,hx⟩;have U8:=zH (U9.1.step hx);have X9:=zH (show Af B6.drew O6 from Af.of_ext hx);have K4:=zH (zb.trans hx);obtain⟨f7,rfl,A3⟩:=B2;have R0:=zH A3;have Y6:=zH (Bk 0 (by have B4:=HLT.1;omega) (by have B4:=HLT.1;omega));clear A3 hx;refine zm K4.1 ?_;have E9:=tD (tD (tD E3 E2) Y0) X9;refine mC 2 (bs 10 7) (Fk (L:=60000) (RV.Is.nin (K9.1.dig E9.1) (Ar L0.1 (by omega))) (RV.Is.nin R0.1 (Ar Y6.1 (by omega))) (by omega)) ?_;rintro e d0 ⟨rfl,hx⟩;have U7:=zH (U8.1.step hx);have X8:=zH (Af.of_ext hx);have D9:=zH (K4.1.trans hx);clear hx;refine zm D9.1 ?_;refine zu 3 (bs 10 15) (v:= .bool false) D9.1 ?_ (hv:=by intro w N9;exact Dv (e:=(Ah (fun hh=>C1.1 (rcmp_lt.1 hh)))));refine Ra C3.1 D9.1 (bs 10 63) 4 5 (.bool false) _ ?_;refine mC 6 (bs 10 127) (Cx 1 _ (by have B4:=HLT.1;omega) (by have B4:=HLT.1;omega)) ?_;rintro e c9 ⟨c_,rfl,B2,hx⟩;have U6:=zH (U7.1.step hx);have X7:=zH (Af.of_ext hx);have K3:=zH (D9.1.trans hx);obtain⟨f6,rfl,A3⟩:=B2;have Q9:=zH A3;have Y5:=zH (Bk 1 (by have B4:=HLT.1;omega) (by have B4:=HLT.1;omega));clear A3 hx;refine zm K3.1 ?_;have M3:=tD (tD E9 X8) X7;refine mC 7 (bs 10 255) (Fk (L:=60000) (RV.Is.nin (K9.1.dig M3.1) (Ar L0.1 (by omega))) (RV.Is.nin Q9.1 (Ar Y5.1 (by omega))) (by omega)) ?_;rintro e c8 ⟨rfl,hx⟩;have U5:=zH (U6.1.step hx);have F4:=zH (K3.1.trans hx);clear hx;refine zm F4.1 ?_;refine zu 8 (bs 10 511) (v:= .bool true) F4.1 ?_ (hv:=by intro w N9;exact Tw (e:=(Ae (Hg.2 C2.1))));refine zx 9 (bs 10 1023) (.bool true) F4.1 ?_;refine wpAnyH_done kR ?_ _;go_upto_region 11 with fail
    refine wl ?_;refine Bq Ac _ _ ?_;refine Cy 4 rz U5.1 ?_;intro c7 U4 _;refine Cy 5 rz U4.1 ?_;intro c6 G4 _;refine zq (iV 0) ?_;have B5:=zH (show Gd a b c d=0 from by unfold Gd;rw[if_pos HNZ.1,if_neg (fun h_=>by have e_:=O1.1;rcases H6.1 with k_|k_;rw[if_pos k_]at e_;exact h_.1.2 (e_▸C2.1);rw[if_neg (by omega)]at e_;exact h_.2.2 (e_▸C2.1))]);go_wp2_with fail
    refine bodyPost_ret (v:= .tuple #[.agg z4,.agg z4,iV 0]) ?_ rfl ⟨.inr ⟨by rw[B5.1];decide,by rw[B5.1]⟩,G4.1.ext⟩;exact Ck rfl rfl rfl ((G4.1.blk (i:=4) rR).loadVar rfl rfl rR) ((G4.1.blk (i:=5) rR).loadVar rfl rfl rR) rfl
   go_upto_region 10 with fail
   refine zy ?_;have U3:=zH (C3.1.step (Aa.refl B6).drew);have N6:=zH (Af.of_ext (w:=B6) zb);refine Rp C3.1 zb (bs 10 1) 0 _ ?_;refine mC 1 (bs 10 3) (Cx 0 _ (by have B4:=HLT.1;omega) (by have B4:=HLT.1;omega)) ?_;rintro e O5 ⟨c_,rfl,B2,hx⟩;have U2:=zH (U3.1.step hx);have N5:=zH (show Af B6.drew O5 from Af.of_ext hx);have K2:=zH (zb.trans hx);obtain⟨f5,rfl,A3⟩:=B2;have Q8:=zH A3;have Y4:=zH (Bk 0 (by have B4:=HLT.1;omega) (by have B4:=HLT.1;omega));clear A3 hx;refine zm K2.1 ?_;have E8:=tD (tD (tD E3 E2) N6) N5;refine mC 2 (bs 10 7) (Fk (L:=60000) (RV.Is.nin (K9.1.dig E8.1) (Ar L0.1 (by omega))) (RV.Is.nin Q8.1 (Ar Y4.1 (by omega))) (by omega)) ?_;rintro e c5 ⟨rfl,hx⟩;have U1:=zH (U2.1.step hx);have N4:=zH (Af.of_ext hx);have D8:=zH (K2.1.trans hx);clear hx;refine zm D8.1 ?_;refine zu 3 (bs 10 15) (v:= .bool false) D8.1 ?_ (hv:=by intro w N9;exact Dv (e:=(Ah (fun hh=>C1.1 (rcmp_lt.1 hh)))));refine Ra C3.1 D8.1 (bs 10 63) 4 5 (.bool false) _ ?_;refine mC 6 (bs 10 127) (Cx 1 _ (by have B4:=HLT.1;omega) (by have B4:=HLT.1;omega)) ?_;rintro e c4 ⟨c_,rfl,B2,hx⟩;have U0:=zH (U1.1.step hx);have N3:=zH (Af.of_ext hx);have K1:=zH (D8.1.trans hx);obtain⟨f4,rfl,A3⟩:=B2;have Q7:=zH A3;have Y3:=zH (Bk 1 (by have B4:=HLT.1;omega) (by have B4:=HLT.1;omega));clear A3 hx;refine zm K1.1 ?_;have M2:=tD (tD E8 N4) N3;refine mC 7 (bs 10 255) (Fk (L:=60000) (RV.Is.nin (K9.1.dig M2.1) (Ar L0.1 (by omega))) (RV.Is.nin Q7.1 (Ar Y3.1 (by omega))) (by omega)) ?_;rintro e c3 ⟨rfl,hx⟩;have T9:=zH (U0.1.step hx);have X6:=zH (Af.of_ext hx);have F3:=zH (K1.1.trans hx);clear hx;refine zm F3.1 ?_;refine zu 8 (bs 10 511) (v:= .bool false) F3.1 ?_ (hv:=by intro w N9;exact Tw (e:=(Ah (fun hh=>C2.1 (Hg.1 hh)))));refine zx 9 (bs 10 1023) (.bool false) F3.1 ?_;refine wpAnyH_done kR ?_ _;go_upto_region 12 with fail
   refine wl ?_;refine zp (iV ((k+1:Nat):Int)) (by exact Hm (by have B4:=HLT.1;omega)) ?_;refine zq (iV ((k+1:Nat):Int)) ?_;have M1:=tD (tD (tD (tD (tD (tD (tD E4 E3) E2) N6) N5) N4) N3) X6;go_wp2_with fail
   go_roundg (2-(k+1))
   case measure=>exact(by have B4:=HLT.1;omega)
   case rel=>exact⟨k+1,rfl,(by go_num),(by have h_:=HLT.1;omega),(fun _=>by rcases H6.1 with k_|k_;have e_:=O1.1;rw[if_pos k_]at e_;rw[<-e_];exact⟨C1.1,C2.1⟩;exact H0.1 (by omega)),(fun g1=>by have e_:=O1.1;rw[if_neg (by omega)]at e_;rw[<-e_];exact⟨C1.1,C2.1⟩),T9.1.take 13,M1.1⟩
  obtain rfl:k=2:=by have h_:=HLT.1;have g1:=HK.1;omega
  have B5:=zH (show Gd a b c d=1 from by unfold Gd;rw[if_pos HNZ.1,if_pos ⟨H0.1 (by decide),H1.1 (by decide)⟩]);go_upto_region 8 with fail
  refine wl ?_;refine zp (.bool false) (by exact Dv (e:=(Ah dC))) ?_;go_upto_region 13 with fail
  refine wp_region_held_drew (S:=fun x=>Fr (fun kz=>kz=E6\/kz=E5) B0 x) kR (Fr.of_ext zb) (fun _=> ?_);have T8:=zH (A2.1.step (Aa.refl B0).drew);have X5:=zH (Af.of_ext (w:=B0) zb);refine zx 0 (bs 15 1) (.pointer (some ⟨D0,0,none⟩)) (Fr.of_ext zb) ?_;refine Ec (g:=D0) (o:=0) (v:= iV a.1) (i:=1) (listed':=(bs 15 3)) rR kR kR kR (by intro _ _ _ h;exact h) rR (fun x hx=>Fr.cell hx (show World.cell? B0 ⟨D0,0,none⟩=some (iV a.1)from Ak (A2.1.range (i:=0) rR 0 1)) (fun hk=>hk.elim (A2.1.offBlk (i:=0) (j:=4) rR rR dC rR) (A2.1.offBlk (i:=0) (j:=5) rR rR dC rR))) (by intro x hq;go_simp<;>with_reducible rfl) (Fr.of_ext zb) kR ?_;try simp only[Act.put,zA,zB,zC]
  refine zx 2 (bs 15 7) (.pointer (some ⟨D6,0,none⟩)) (Fr.of_ext zb) ?_;refine Ec (g:=D6) (o:=0) (v:= iV b.1) (i:=3) (listed':=(bs 15 15)) rR kR kR kR (by intro _ _ _ h;exact h) rR (fun x hx=>Fr.cell hx (show World.cell? B0 ⟨D6,0,none⟩=some (iV b.1)from Ak (A2.1.range (i:=1) rR 0 1)) (fun hk=>hk.elim (A2.1.offBlk (i:=1) (j:=4) rR rR dC rR) (A2.1.offBlk (i:=1) (j:=5) rR rR dC rR))) (by intro x hq;go_simp<;>with_reducible rfl) (Fr.of_ext zb) kR ?_;refine zr 4 (bs 15 31) C8 (0) [.bool A0.n,.slice A0.p A0.l A0.c,.bool A0.m,.slice A0.p2 A0.l2 A0.c2] (fun x hx=>Fr.range hx (show World.rangeAt B0 C8 (0) [.bool A0.n,.slice A0.p A0.l A0.c,.bool A0.m,.slice A0.p2 A0.l2 A0.c2]from(A2.1.range (i:=10) rR 0 4)) (fun hk=>hk.elim (A2.1.offBlk (i:=10) (j:=4) rR rR dC rR) (A2.1.offBlk (i:=10) (j:=5) rR rR dC rR))) Tryz.underlying26 (Fr.of_ext zb) ?_;refine zx 6 (bs 15 95) (.pointer (some ⟨D0,1,none⟩)) (Fr.of_ext zb) ?_;refine Ec (g:=D0) (o:=1) (v:= iV a.2) (i:=7) (listed':=(bs 15 223)) rR kR kR kR (by intro _ _ _ h;exact h) rR (fun x hx=>Fr.cell hx (show World.cell? B0 ⟨D0,1,none⟩=some (iV a.2)from Ak (A2.1.range (i:=0) rR 1 1)) (fun hk=>hk.elim (A2.1.offBlk (i:=0) (j:=4) rR rR dC rR) (A2.1.offBlk (i:=0) (j:=5) rR rR dC rR))) (by intro x hq;go_simp<;>with_reducible rfl) (Fr.of_ext zb) kR ?_;try simp only[Act.put,zA,zB,zC]
  refine zx 8 (bs 15 479) (.pointer (some ⟨D6,1,none⟩)) (Fr.of_ext zb) ?_;refine Ec (g:=D6) (o:=1) (v:= iV b.2) (i:=9) (listed':=(bs 15 991)) rR kR kR kR (by intro _ _ _ h;exact h) rR (fun x hx=>Fr.cell hx (show World.cell? B0 ⟨D6,1,none⟩=some (iV b.2)from Ak (A2.1.range (i:=1) rR 1 1)) (fun hk=>hk.elim (A2.1.offBlk (i:=1) (j:=4) rR rR dC rR) (A2.1.offBlk (i:=1) (j:=5) rR rR dC rR))) (by intro x hq;go_simp<;>with_reducible rfl) (Fr.of_ext zb) kR ?_;refine zr 10 (bs 15 2015) C8 (0) [.bool A0.n,.slice A0.p A0.l A0.c,.bool A0.m,.slice A0.p2 A0.l2 A0.c2] (fun x hx=>Fr.range hx (show World.rangeAt B0 C8 (0) [.bool A0.n,.slice A0.p A0.l A0.c,.bool A0.m,.slice A0.p2 A0.l2 A0.c2]from(A2.1.range (i:=10) rR 0 4)) (fun hk=>hk.elim (A2.1.offBlk (i:=10) (j:=4) rR rR dC rR) (A2.1.offBlk (i:=10) (j:=5) rR rR dC rR))) Tryz.underlying26 (Fr.of_ext zb) ?_;have E7:=tD (tD (tD (tD (tD (tD (tD N8 N7) G9) G8) G7) G6) E4) X5;refine mC 5 (bs 15 2047) (Mf 20 a.1 b.1 _ (((cr (dv a c) (dv c d):Int):Rat)/((cr (dv a b) (dv c d):Int):Rat)) _ (RV.Is.nin (F6.1.dig E7.1) (Ar H2.1 (by omega))) dC dC ⟨(by omega),(by omega)⟩ ⟨(by omega),(by omega)⟩) ?_;rintro e H7 ⟨c_,rfl,B2,hx⟩;have T7:=zH (T8.1.step hx);have X4:=zH (show Af B0.drew H7 from Af.of_ext hx);have K0:=zH (show Fr (fun kz=>kz=E6\/kz=E5) B0 H7 from(Fr.of_ext zb).trans (Fr.of_ext hx));obtain⟨A9,rfl,A3⟩:=B2;have Q6:=zH A3;clear A3 hx;refine zm K0.1 ?_;have M0:=tD E7 X4;refine mC 11 (bs 15 4095) (Mf 20 a.2 b.2 _ (((cr (dv a c) (dv c d):Int):Rat)/((cr (dv a b) (dv c d):Int):Rat)) _ (RV.Is.nin (F6.1.dig M0.1) (Ar H2.1 (by omega))) dC dC ⟨(by omega),(by omega)⟩ ⟨(by omega),(by omega)⟩) ?_;rintro e c1 ⟨c_,rfl,B2,hx⟩;have T6:=zH (T7.1.step hx);have X3:=zH (Af.of_ext hx);have J9:=zH (K0.1.trans (Fr.of_ext hx));obtain⟨A8,rfl,A3⟩:=B2;have Q5:=zH A3;clear A3 hx;refine zm J9.1 ?_;refine Ea (i:=12) (listed':=(bs 15 8191)) rR kR rR kR _ _ _ rR T6.1 (ix:=4) rR 0 [.bool A9.n,.slice A9.p A9.l A9.c,.bool A9.m,.slice A9.p2 A9.l2 A9.c2] rR rR (by simp) kR (by simp[Value.oneCell']) (by simp[At]) ?_;intro c0 hh hd ho;have T5:=hN hh;have N2:=zH (hd);have J8:=zH (Fr.trans_new J9.1 ho (fun j hj=> .inl (.inl (by injection hj with hj;exact hj.symm))));clear hh hd ho;refine⟨J8.1,?_⟩
  (try simp only[Act.put])
  refine Ea (i:=13) (listed':=(bs 15 16383)) rR kR rR kR _ _ _ rR T5.1 (ix:=5) rR 0 [.bool A8.n,.slice A8.p A8.l A8.c,.bool A8.m,.slice A8.p2 A8.l2 A8.c2] rR rR (by simp) kR (by simp[Value.oneCell']) (by simp[At]) ?_;intro b9 hh hd ho;have G3:=hN hh;have N1:=zH (hd);have J7:=zH (Fr.trans_new J8.1 ho (fun j hj=> .inl (.inr (by injection hj with hj;exact hj.symm))));clear hh hd ho;refine⟨J7.1,?_⟩
  (try simp only[Act.put])
  refine zx 14 (bs 15 32767) (iV 1) J7.1 ?_;refine wpAnyH_done kR ?_ _;have L9:=tD (tD X3 N2) N1;have L8:=tD N2 N1;go_wp2_with fail
  refine bodyPost_ret (v:= .tuple #[.agg #[.bool A9.n,.slice A9.p A9.l A9.c,.bool A9.m,.slice A9.p2 A9.l2 A9.c2],.agg #[.bool A8.n,.slice A8.p A8.l A8.c,.bool A8.m,.slice A8.p2 A8.l2 A8.c2],iV 1]) ?_ rfl ⟨.inl ⟨A9,A8,B5.1,rfl,by unfold dM;rw[if_pos HNZ.1];exact(Q6.1.dig L9.1),by unfold Pg;rw[if_pos HNZ.1];exact(Q5.1.dig L8.1)⟩,G3.1.ext⟩;exact Ck rfl rfl rfl ((G3.1.blk (i:=4) rR).loadVar rfl rfl rR) ((G3.1.blk (i:=5) rR).loadVar rfl rfl rR) rfl
 go_upto_region 5 with fail
 refine wl ?_;refine zq (iV (cr (dv a b) (dv c d))) ?_;refine zp (.bool false) (by exact Jn (e:=(Ah HNZ.1))) ?_;go_upto_region 14 with fail
 refine wl ?_;refine Cs D5.1 _ ?_;refine Cm 52 [iV 0,iV 0] D5.1 ?_;intro B7 b8 T4 _;refine Cy 10 [iV ((dv a b).1),iV ((dv a b).2)] T4.1 ?_;intro O4 E1 _;go_upto_region 15 with fail
 refine wl ?_;refine Bq E1.1 _ _ ?_;refine zp (.bool ((dv a b).1==0&&(dv a b).2==0)) (by exact Jy rR rR rR rfl) ?_;go_upto_if 91 with fail
 go_cut [] (fun wx=>Hp w wx [.blk D0 52 [iV a.1,iV a.2],.blk D6 52 [iV b.1,iV b.2],.blk H5 52 [iV c.1,iV c.2],.blk O0 52 [iV d.1,iV d.2],.blk E6 26 [.bool false,.slice none 0 0,.bool false,.slice none 0 0],.blk E5 26 [.bool false,.slice none 0 0,.bool false,.slice none 0 0],.blk P3 52 [iV a.1,iV a.2,iV b.1,iV b.2,iV c.1,iV c.2,iV d.1,iV d.2],.blk F2 52 [iV ((dv a b).1),iV ((dv a b).2)],.blk F1 52 [iV ((dv c d).1),iV ((dv c d).2)],.blk C4 52 [iV ((dv a c).1),iV ((dv a c).2)],.blk B7 52 [iV ((Cl a b c d).1),iV ((Cl a b c d).2)]]/\Af O4 wx)
 case first=>
  by_cases cj:((dv a b).1==0&&(dv a b).2==0)=true
  ·rw[cj]
   go_upto_region 16 with fail
   refine wl ?_;refine Cs E1.1 _ ?_;refine Cy 10 [iV ((dv c d).1),iV ((dv c d).2)] E1.1 ?_;intro b7 T3 X2;go_wp2_with fail
   go_meet
   exact⟨(by rw[show Cl a b c d=dv c d from if_pos ((Ob (a:=dv a b) (b:=(0,0))).1 cj)];exact T3.1),X2.1⟩
  rw[Bool.eq_false_iff.2 cj];go_wp2_with fail
  go_meet
  exact⟨(by rw[show Cl a b c d=dv a b from if_neg (fun h_=>cj ((Ob (a:=dv a b) (b:=(0,0))).2 h_))];exact E1.1),(Af.refl _)⟩
 obtain⟨I4,I7⟩:=hcut;generalize wc=b6 at*
 have B3:=zH I4;have i6:=zH I7;clear I4 I7;have HL:=zH (show Cl a b c d=Cl a b c d from rfl);have I1:(-2097152<=(Cl a b c d).1/\(Cl a b c d).1<=2097152)/\(-2097152<=(Cl a b c d).2/\(Cl a b c d).2<=2097152):=by unfold Cl;split;exact Fn hc hd;exact Fn ha hb
 have l0:=Wn I1 (Fn ha hc);rcases Co (cr (Cl a b c d) (dv a c)≠0)with HX|HX
 ·go_upto_region 17 with fail
  refine wl ?_;refine zd B7 (0) [iV ((Cl a b c d).1),iV ((Cl a b c d).2)] (B3.1.range (i:=10) rR 0 2) Tryz.underlying52 ?_;refine zd C4 (0) [iV ((dv a c).1),iV ((dv a c).2)] (B3.1.range (i:=9) rR 0 2) Tryz.underlying52 ?_;refine aC B3.1 (Gk (Cl a b c d) (dv a c) _ I1 (Fn ha hc)) ?_;intro b5 T2 _;refine zp (.bool true) (by exact Jn (e:=(Ae HX.1))) ?_;refine Hf Ac (.bool true) _ _ _ _ _ _ _ ?_;refine zk ?_;refine zq (.bool true) ?_;go_upto_region 18 with fail
  refine wl ?_;refine Bq Ac _ _ ?_;refine Cy 4 rz T2.1 ?_;intro b4 T1 _;refine Cy 5 rz T1.1 ?_;intro b3 G2 _;refine zq (iV 0) ?_;have B5:=zH (show Gd a b c d=0 from by unfold Gd;rw[if_neg HNZ.1,HL.1];exact if_pos (.inl HX.1));go_wp2_with fail
  refine bodyPost_ret (v:= .tuple #[.agg z4,.agg z4,iV 0]) ?_ rfl ⟨.inr ⟨by rw[B5.1];decide,by rw[B5.1]⟩,G2.1.ext⟩;exact Ck rfl rfl rfl ((G2.1.blk (i:=4) rR).loadVar rfl rfl rR) ((G2.1.blk (i:=5) rR).loadVar rfl rfl rR) rfl
 rcases Co (Cl a b c d=(0,0))with HL0|HL0
 ·rcases Co (a≠c)with HAC|HAC
  ·go_upto_region 17 with fail
   refine wl ?_;refine zd B7 (0) [iV ((Cl a b c d).1),iV ((Cl a b c d).2)] (B3.1.range (i:=10) rR 0 2) Tryz.underlying52 ?_;refine zd C4 (0) [iV ((dv a c).1),iV ((dv a c).2)] (B3.1.range (i:=9) rR 0 2) Tryz.underlying52 ?_;refine aC B3.1 (Gk (Cl a b c d) (dv a c) _ I1 (Fn ha hc)) ?_;intro b2 E0 _;refine zp (.bool false) (by exact Jn (e:=(Ah HX.1))) ?_;refine qV (.bool false) ?_;refine zd B7 (0) [iV ((Cl a b c d).1),iV ((Cl a b c d).2)] (E0.1.range (i:=10) rR 0 2) Tryz.underlying52 ?_;refine Cs Ac _ ?_;refine zp (.bool true) (by exact Jy rR rR rR ((Ob (a:=Cl a b c d) (b:=(0,0))).2 HL0.1)) ?_;refine qV (.bool true) ?_;refine zd D0 (0) [iV a.1,iV a.2] (E0.1.range (i:=0) rR 0 2) Tryz.underlying52 ?_;refine zd H5 (0) [iV c.1,iV c.2] (E0.1.range (i:=2) rR 0 2) Tryz.underlying52 ?_;refine zp (.bool true) (by exact bX rR rR rR (by rw[Bool.not_eq_true',Bool.eq_false_iff];exact fun h_=>HAC.1 (Ob.1 h_))) ?_;refine Bq Ac (.bool true) (.bool true) ?_;go_upto_region 18 with fail
   refine wl ?_;refine Bq Ac _ _ ?_;refine Cy 4 rz E0.1 ?_;intro b1 T0 _;refine Cy 5 rz T0.1 ?_;intro b0 G1 _;refine zq (iV 0) ?_;have B5:=zH (show Gd a b c d=0 from by unfold Gd;rw[if_neg HNZ.1,HL.1];exact if_pos (.inr ⟨HL0.1,HAC.1⟩));go_wp2_with fail
   refine bodyPost_ret (v:= .tuple #[.agg z4,.agg z4,iV 0]) ?_ rfl ⟨.inr ⟨by rw[B5.1];decide,by rw[B5.1]⟩,G1.1.ext⟩;exact Ck rfl rfl rfl ((G1.1.blk (i:=4) rR).loadVar rfl rfl rR) ((G1.1.blk (i:=5) rR).loadVar rfl rfl rR) rfl
  have HR:=zH (show¬(Cl a b c d=(0,0)/\a≠c)from fun h_=>HAC.1 h_.2);go_upto_region 17 with fail
  refine wl ?_;refine zd B7 (0) [iV ((Cl a b c d).1),iV ((Cl a b c d).2)] (B3.1.range (i:=10) rR 0 2) Tryz.underlying52 ?_;refine zd C4 (0) [iV ((dv a c).1),iV ((dv a c).2)] (B3.1.range (i:=9) rR 0 2) Tryz.underlying52 ?_;refine aC B3.1 (Gk (Cl a b c d) (dv a c) _ I1 (Fn ha hc)) ?_;intro a9 C0 _;refine zp (.bool false) (by exact Jn (e:=(Ah HX.1))) ?_;refine qV (.bool false) ?_;refine zd B7 (0) [iV ((Cl a b c d).1),iV ((Cl a b c d).2)] (C0.1.range (i:=10) rR 0 2) Tryz.underlying52 ?_;refine Cs Ac _ ?_;refine zp (.bool true) (by exact Jy rR rR rR ((Ob (a:=Cl a b c d) (b:=(0,0))).2 HL0.1)) ?_;refine qV (.bool true) ?_;refine zd D0 (0) [iV a.1,iV a.2] (C0.1.range (i:=0) rR 0 2) Tryz.underlying52 ?_;refine zd H5 (0) [iV c.1,iV c.2] (C0.1.range (i:=2) rR 0 2) Tryz.underlying52 ?_;refine zp (.bool false) (by exact bX rR rR rR (by rw[Bool.not_eq_false'];exact Ob.2 (Classical.not_not.1 HAC.1))) ?_;refine Bq Ac (.bool false) (.bool false) ?_;go_upto_region 19 with fail
  refine wl ?_;refine zd D0 (0) [iV a.1,iV a.2] (C0.1.range (i:=0) rR 0 2) Tryz.underlying52 ?_;refine zd D6 (0) [iV b.1,iV b.2] (C0.1.range (i:=1) rR 0 2) Tryz.underlying52 ?_;refine zd H5 (0) [iV c.1,iV c.2] (C0.1.range (i:=2) rR 0 2) Tryz.underlying52 ?_;refine zd O0 (0) [iV d.1,iV d.2] (C0.1.range (i:=3) rR 0 2) Tryz.underlying52 ?_;refine aC C0.1 (Sb a b c d _ ha hb hc hd) ?_;intro a8 S9 _;refine Dh Ac _ _ (iV ((Aw a b c d).2)) ?_;refine Cm 52 [iV 0,iV 0] S9.1 ?_;intro C7 a7 S8 _;refine Cy 11 [iV ((Aw a b c d).1.1),iV ((Aw a b c d).1.2)] S8.1 ?_;intro D2 B9 _;refine zq (iV ((Aw a b c d).2)) ?_;have B5:=zH (show Gd a b c d=(Aw a b c d).2 from by unfold Gd;rw[if_neg HNZ.1,HL.1];exact if_neg (fun h_=>h_.elim (fun h_=>HX.1 h_) (fun h_=>HR.1 h_)));have g0:=Vb a b c d;rcases Co ((Aw a b c d).2≠1)with HK1|HK1
  ·go_upto_region 20 with fail
   refine wl ?_;refine zq (iV ((Aw a b c d).2)) ?_;refine zp (.bool true) (by exact Jn (e:=(Ae HK1.1))) ?_;go_upto_region 21 with fail
   refine wl ?_;refine Dh Ac _ _ (iV ((Aw a b c d).2)) ?_;refine Cy 4 rz B9.1 ?_;intro a6 S7 _;refine Cy 5 rz S7.1 ?_;intro a5 G0 _;refine zq (iV ((Aw a b c d).2)) ?_;go_wp2_with fail
   refine bodyPost_ret (v:= .tuple #[.agg z4,.agg z4,iV (Aw a b c d).2]) ?_ rfl ⟨.inr ⟨by rw[B5.1];exact HK1.1,by rw[B5.1]⟩,G0.1.ext⟩;exact Ck rfl rfl rfl ((G0.1.blk (i:=4) rR).loadVar rfl rfl rR) ((G0.1.blk (i:=5) rR).loadVar rfl rfl rR) rfl
  have F0:(Aw a b c d).2=1:=by have h_:=HK1.1;omega
  have P2:=Pf ha hb hc hd;have f9:=Bi P2;go_upto_region 20 with fail
  refine wl ?_;refine zq (iV ((Aw a b c d).2)) ?_;refine zp (.bool false) (by exact Jn (e:=(Ah HK1.1))) ?_;go_upto_region 22 with fail
  refine wp_region_held_drew (S:=fun x=>Fr (fun kz=>kz=E6\/kz=E5) D2 x) kR (Fr.of_ext zb) (fun _=> ?_);have S6:=zH (B9.1.step (Aa.refl D2).drew);refine zx 0 (bs 9 1) (.pointer (some ⟨C7,0,none⟩)) (Fr.of_ext zb) ?_;refine Ec (g:=C7) (o:=0) (v:= iV ((Aw a b c d).1.1)) (i:=1) (listed':=(bs 9 3)) rR kR kR kR (by intro _ _ _ h;exact h) rR (fun x hx=>Fr.cell hx (show World.cell? D2 ⟨C7,0,none⟩=some (iV ((Aw a b c d).1.1))from Ak (B9.1.range (i:=11) rR 0 1)) (fun hk=>hk.elim (B9.1.offBlk (i:=11) (j:=4) rR rR dC rR) (B9.1.offBlk (i:=11) (j:=5) rR rR dC rR))) (by intro x hq;go_simp<;>with_reducible rfl) (Fr.of_ext zb) kR ?_;try simp only[Act.put,zA,zB,zC]
  refine zx 3 (bs 9 11) (.pointer (some ⟨C7,1,none⟩)) (Fr.of_ext zb) ?_;refine Ec (g:=C7) (o:=1) (v:= iV ((Aw a b c d).1.2)) (i:=4) (listed':=(bs 9 27)) rR kR kR kR (by intro _ _ _ h;exact h) rR (fun x hx=>Fr.cell hx (show World.cell? D2 ⟨C7,1,none⟩=some (iV ((Aw a b c d).1.2))from Ak (B9.1.range (i:=11) rR 1 1)) (fun hk=>hk.elim (B9.1.offBlk (i:=11) (j:=4) rR rR dC rR) (B9.1.offBlk (i:=11) (j:=5) rR rR dC rR))) (by intro x hq;go_simp<;>with_reducible rfl) (Fr.of_ext zb) kR ?_;try simp only[Act.put,zA,zB,zC]
  refine mC 2 (bs 9 31) (Cx ((Aw a b c d).1.1) _ (by omega) (by omega)) ?_;rintro e O3 ⟨c_,rfl,B2,hx⟩;have S5:=zH (S6.1.step hx);have J6:=zH (show Fr (fun kz=>kz=E6\/kz=E5) D2 O3 from(Fr.of_ext zb).trans (Fr.of_ext hx));obtain⟨A7,rfl,A3⟩:=B2;have Q4:=zH A3;clear A3 hx;refine zm J6.1 ?_;refine mC 5 (bs 9 63) (Cx ((Aw a b c d).1.2) _ (by omega) (by omega)) ?_;rintro e a4 ⟨c_,rfl,B2,hx⟩;have S4:=zH (S5.1.step hx);have X1:=zH (Af.of_ext hx);have J5:=zH (J6.1.trans (Fr.of_ext hx));obtain⟨A6,rfl,A3⟩:=B2;have Q3:=zH A3;clear A3 hx;refine zm J5.1 ?_;refine Ea (i:=6) (listed':=(bs 9 127)) rR kR rR kR _ _ _ rR S4.1 (ix:=4) rR 0 [.bool A7.n,.slice A7.p A7.l A7.c,.bool A7.m,.slice A7.p2 A7.l2 A7.c2] rR rR (by simp) kR (by simp[Value.oneCell']) (by simp[At]) ?_;intro a3 hh hd ho;have S3:=hN hh;have N0:=zH (hd);have J4:=zH (Fr.trans_new J5.1 ho (fun j hj=> .inl (.inl (by injection hj with hj;exact hj.symm))));clear hh hd ho;refine⟨J4.1,?_⟩
  (try simp only[Act.put])
  refine Ea (i:=7) (listed':=(bs 9 255)) rR kR rR kR _ _ _ rR S3.1 (ix:=5) rR 0 [.bool A6.n,.slice A6.p A6.l A6.c,.bool A6.m,.slice A6.p2 A6.l2 A6.c2] rR rR (by simp) kR (by simp[Value.oneCell']) (by simp[At]) ?_;intro a2 hh hd ho;have F9:=hN hh;have M9:=zH (hd);have J3:=zH (Fr.trans_new J4.1 ho (fun j hj=> .inl (.inr (by injection hj with hj;exact hj.symm))));clear hh hd ho;refine⟨J3.1,?_⟩
  (try simp only[Act.put])
  refine zx 8 (bs 9 511) (iV 1) J3.1 ?_;refine wpAnyH_done kR ?_ _;have L7:=tD (tD X1 N0) M9;have L6:=tD N0 M9;go_wp2_with fail
  refine bodyPost_ret (v:= .tuple #[.agg #[.bool A7.n,.slice A7.p A7.l A7.c,.bool A7.m,.slice A7.p2 A7.l2 A7.c2],.agg #[.bool A6.n,.slice A6.p A6.l A6.c,.bool A6.m,.slice A6.p2 A6.l2 A6.c2],iV 1]) ?_ rfl ⟨.inl ⟨A7,A6,B5.1.trans F0,rfl,by unfold dM;rw[if_neg HNZ.1];exact(Q4.1.dig L7.1),by unfold Pg;rw[if_neg HNZ.1];exact(Q3.1.dig L6.1)⟩,F9.1.ext⟩;exact Ck rfl rfl rfl ((F9.1.blk (i:=4) rR).loadVar rfl rfl rR) ((F9.1.blk (i:=5) rR).loadVar rfl rfl rR) rfl
 have HR:=zH (show¬(Cl a b c d=(0,0)/\a≠c)from fun h_=>HL0.1 h_.1);go_upto_region 17 with fail
 refine wl ?_;refine zd B7 (0) [iV ((Cl a b c d).1),iV ((Cl a b c d).2)] (B3.1.range (i:=10) rR 0 2) Tryz.underlying52 ?_;refine zd C4 (0) [iV ((dv a c).1),iV ((dv a c).2)] (B3.1.range (i:=9) rR 0 2) Tryz.underlying52 ?_;refine aC B3.1 (Gk (Cl a b c d) (dv a c) _ I1 (Fn ha hc)) ?_;intro a1 C9 _;refine zp (.bool false) (by exact Jn (e:=(Ah HX.1))) ?_;refine qV (.bool false) ?_;refine zd B7 (0) [iV ((Cl a b c d).1),iV ((Cl a b c d).2)] (C9.1.range (i:=10) rR 0 2) Tryz.underlying52 ?_;refine Cs Ac _ ?_;refine zp (.bool false) (by exact Jy rR rR rR (Bool.eq_false_iff.2 (fun h_=>HL0.1 ((Ob (a:=Cl a b c d) (b:=(0,0))).1 h_)))) ?_;refine Pc Ac (.bool false) _ _ _ (.bool false) (.bool false) ?_;go_upto_region 19 with fail
 refine wl ?_;refine zd D0 (0) [iV a.1,iV a.2] (C9.1.range (i:=0) rR 0 2) Tryz.underlying52 ?_;refine zd D6 (0) [iV b.1,iV b.2] (C9.1.range (i:=1) rR 0 2) Tryz.underlying52 ?_;refine zd H5 (0) [iV c.1,iV c.2] (C9.1.range (i:=2) rR 0 2) Tryz.underlying52 ?_;refine zd O0 (0) [iV d.1,iV d.2] (C9.1.range (i:=3) rR 0 2) Tryz.underlying52 ?_;refine aC C9.1 (Sb a b c d _ ha hb hc hd) ?_;intro a0 S2 _;refine Dh Ac _ _ (iV ((Aw a b c d).2)) ?_;refine Cm 52 [iV 0,iV 0] S2.1 ?_;intro C6 Z9 S1 _;refine Cy 11 [iV ((Aw a b c d).1.1),iV ((Aw a b c d).1.2)] S1.1 ?_;intro D1 B8 _;refine zq (iV ((Aw a b c d).2)) ?_;have B5:=zH (show Gd a b c d=(Aw a b c d).2 from by unfold Gd;rw[if_neg HNZ.1,HL.1];exact if_neg (fun h_=>h_.elim (fun h_=>HX.1 h_) (fun h_=>HR.1 h_)));have g0:=Vb a b c d;rcases Co ((Aw a b c d).2≠1)with HK1|HK1
 ·go_upto_region 20 with fail
  refine wl ?_;refine zq (iV ((Aw a b c d).2)) ?_;refine zp (.bool true) (by exact Jn (e:=(Ae HK1.1))) ?_;go_upto_region 21 with fail
  refine wl ?_;refine Dh Ac _ _ (iV ((Aw a b c d).2)) ?_;refine Cy 4 rz B8.1 ?_;intro Z8 S0 _;refine Cy 5 rz S0.1 ?_;intro Z7 F8 _;refine zq (iV ((Aw a b c d).2)) ?_;go_wp2_with fail
  refine bodyPost_ret (v:= .tuple #[.agg z4,.agg z4,iV (Aw a b c d).2]) ?_ rfl ⟨.inr ⟨by rw[B5.1];exact HK1.1,by rw[B5.1]⟩,F8.1.ext⟩;exact Ck rfl rfl rfl ((F8.1.blk (i:=4) rR).loadVar rfl rfl rR) ((F8.1.blk (i:=5) rR).loadVar rfl rfl rR) rfl
 have F0:(Aw a b c d).2=1:=by have h_:=HK1.1;omega
 have P2:=Pf ha hb hc hd;have f9:=Bi P2;go_upto_region 20 with fail
 refine wl ?_;refine zq (iV ((Aw a b c d).2)) ?_;refine zp (.bool false) (by exact Jn (e:=(Ah HK1.1))) ?_;go_upto_region 22 with fail
 refine wp_region_held_drew (S:=fun x=>Fr (fun kz=>kz=E6\/kz=E5) D1 x) kR (Fr.of_ext zb) (fun _=> ?_);have R9:=zH (B8.1.step (Aa.refl D1).drew);refine zx 0 (bs 9 1) (.pointer (some ⟨C6,0,none⟩)) (Fr.of_ext zb) ?_;refine Ec (g:=C6) (o:=0) (v:= iV ((Aw a b c d).1.1)) (i:=1) (listed':=(bs 9 3)) rR kR kR kR (by intro _ _ _ h;exact h) rR (fun x hx=>Fr.cell hx (show World.cell? D1 ⟨C6,0,none⟩=some (iV ((Aw a b c d).1.1))from Ak (B8.1.range (i:=11) rR 0 1)) (fun hk=>hk.elim (B8.1.offBlk (i:=11) (j:=4) rR rR dC rR) (B8.1.offBlk (i:=11) (j:=5) rR rR dC rR))) (by intro x hq;go_simp<;>with_reducible rfl) (Fr.of_ext zb) kR ?_;try simp only[Act.put,zA,zB,zC]
 refine zx 3 (bs 9 11) (.pointer (some ⟨C6,1,none⟩)) (Fr.of_ext zb) ?_;refine Ec (g:=C6) (o:=1) (v:= iV ((Aw a b c d).1.2)) (i:=4) (listed':=(bs 9 27)) rR kR kR kR (by intro _ _ _ h;exact h) rR (fun x hx=>Fr.cell hx (show World.cell? D1 ⟨C6,1,none⟩=some (iV ((Aw a b c d).1.2))from Ak (B8.1.range (i:=11) rR 1 1)) (fun hk=>hk.elim (B8.1.offBlk (i:=11) (j:=4) rR rR dC rR) (B8.1.offBlk (i:=11) (j:=5) rR rR dC rR))) (by intro x hq;go_simp<;>with_reducible rfl) (Fr.of_ext zb) kR ?_;try simp only[Act.put,zA,zB,zC]
 refine mC 2 (bs 9 31) (Cx ((Aw a b c d).1.1) _ (by omega) (by omega)) ?_;rintro e O2 ⟨c_,rfl,B2,hx⟩;have R8:=zH (R9.1.step hx);have J2:=zH (show Fr (fun kz=>kz=E6\/kz=E5) D1 O2 from(Fr.of_ext zb).trans (Fr.of_ext hx));obtain⟨A5,rfl,A3⟩:=B2;have Q2:=zH A3;clear A3 hx;refine zm J2.1 ?_;refine mC 5 (bs 9 63) (Cx ((Aw a b c d).1.2) _ (by omega) (by omega)) ?_;rintro e Z6 ⟨c_,rfl,B2,hx⟩;have R7:=zH (R8.1.step hx);have X0:=zH (Af.of_ext hx);have J1:=zH (J2.1.trans (Fr.of_ext hx));obtain⟨A4,rfl,A3⟩:=B2;have Q1:=zH A3;clear A3 hx;refine zm J1.1 ?_;refine Ea (i:=6) (listed':=(bs 9 127)) rR kR rR kR _ _ _ rR R7.1 (ix:=4) rR 0 [.bool A5.n,.slice A5.p A5.l A5.c,.bool A5.m,.slice A5.p2 A5.l2 A5.c2] rR rR (by simp) kR (by simp[Value.oneCell']) (by simp[At]) ?_;intro Z5 hh hd ho;have R6:=hN hh;have M8:=zH (hd);have J0:=zH (Fr.trans_new J1.1 ho (fun j hj=> .inl (.inl (by injection hj with hj;exact hj.symm))));clear hh hd ho;refine⟨J0.1,?_⟩
 (try simp only[Act.put])
 refine Ea (i:=7) (listed':=(bs 9 255)) rR kR rR kR _ _ _ rR R6.1 (ix:=5) rR 0 [.bool A4.n,.slice A4.p A4.l A4.c,.bool A4.m,.slice A4.p2 A4.l2 A4.c2] rR rR (by simp) kR (by simp[Value.oneCell']) (by simp[At]) ?_;intro Z4 hh hd ho;have F7:=hN hh;have M7:=zH (hd);have I9:=zH (Fr.trans_new J0.1 ho (fun j hj=> .inl (.inr (by injection hj with hj;exact hj.symm))));clear hh hd ho;refine⟨I9.1,?_⟩
 (try simp only[Act.put])
 refine zx 8 (bs 9 511) (iV 1) I9.1 ?_;refine wpAnyH_done kR ?_ _;have L5:=tD (tD X0 M8) M7;have L4:=tD M8 M7;go_wp2_with fail
 refine bodyPost_ret (v:= .tuple #[.agg #[.bool A5.n,.slice A5.p A5.l A5.c,.bool A5.m,.slice A5.p2 A5.l2 A5.c2],.agg #[.bool A4.n,.slice A4.p A4.l A4.c,.bool A4.m,.slice A4.p2 A4.l2 A4.c2],iV 1]) ?_ rfl ⟨.inl ⟨A5,A4,B5.1.trans F0,rfl,by unfold dM;rw[if_neg HNZ.1];exact(Q2.1.dig L5.1),by unfold Pg;rw[if_neg HNZ.1];exact(Q1.1.dig L4.1)⟩,F7.1.ext⟩;exact Ck rfl rfl rfl ((F7.1.blk (i:=4) rR).loadVar rfl rfl rR) ((F7.1.blk (i:=5) rR).loadVar rfl rfl rR) rfl
def Pb (C:Prop)(q:Rat)(w:World)(e:Ending)(w':World):Prop:=
  ((∃r:RV,C/\e= .returned (.tuple #[.agg #[.bool r.n,.slice r.p r.l r.c,.bool r.m,.slice r.p2 r.l2 r.c2],.bool true])/\r.Is w' q)\/
    (¬C/\e= .returned (.tuple #[.agg z4,.bool false])))/\Aa w w'
def cU (a b:Int×Int)(x:Int):Prop:=Du a/\Du b/\a.1≠b.1/\min a.1 b.1<=x/\x<=max a.1 b.1
def Nj (a b:Int×Int)(x:Int):Rat:=(a.2:Rat)+((x-a.1:Int):Rat)/((b.1-a.1:Int):Rat)*((b.2-a.2:Int):Rat)
theorem Xw {a b:Int×Int}:De [a,b]=true↔Du a/\Du b:=by simp[De,Du]
theorem Rb (a b:Int×Int)(x:Int)(w:World)(hx0: -9223372036854775808<=x/\x<=9223372036854775807):
  Calls Tryz.prog 155 #[.agg #[iV a.1,iV a.2],.agg #[iV b.1,iV b.2],iV x] w (Pb (cU a b x) (Nj a b x) w):=by
 go_enter Tryz.func155,Tryz.ntmps155
 have H0:=zH (Hp.start w);go_upto_region 0 with fail
 refine wl ?_;refine Cm 52 [iV a.1,iV a.2] H0.1 ?_;intro X1 w2 H3 _;refine Cm 52 [iV b.1,iV b.2] H3.1 ?_;intro X6 w7 H8 _;refine Cm 26 rz H8.1 ?_;intro D1 G1 A4 _;refine zq (.bool false) ?_;rcases Co (De [a,b]=true)with HB|HB
 ·have A3:=HB
  have B5:=Xw.1 HB.1;have oa:=Bi B5.1;have ob:=Bi B5.2;have D2:=zH B5;rcases Co (a.1=b.1)with C1|C1
  ·go_upto_region 1 with fail
   refine wl ?_;refine Bq A4.1 _ _ ?_;refine cS 2 52 [iV a.1,iV a.2,iV b.1,iV b.2] A4.1 ?_;intro F0 G0 D9 _;refine zc (Hk (.slice (some ⟨F0,0,none⟩) 2 2) [a,b] _ (Iy D9.1 (i:=3) rR) (by simp)) ?_;rintro e F9 ⟨rfl,hx⟩;have D8:=zH (D9.1.step hx);clear hx;refine⟨.bool true,by rw[A3.1],?_⟩;try simp only[Act.put,zA,zB,zC]
   refine Pc D8.1 (.bool false) (.bool false) _ _ _ _ ?_;refine zp (.bool true) (by exact bQ (e:=(Ae C1.1))) ?_;refine Hf Ac (.bool true) (.bool true) _ _ _ _ _ _ ?_;refine Hf Ac _ (.bool true) (.bool true) _ _ _ _ _ ?_;refine Dh Ac _ _ (.bool true) ?_;go_upto_region 2 with fail
   refine wl ?_;refine zq (.agg z4) ?_;refine Cy 2 rz D8.1 ?_;intro F8 D7 _;refine zq (.bool false) ?_;go_wp2_with fail
   refine bodyPost_ret (v:= .tuple #[.agg z4,.bool false]) ?_ rfl ⟨.inr ⟨fun h=>h.2.2.1 C1.1,rfl⟩,D7.1.ext⟩;exact Aq rfl rfl ((D7.1.blk (i:=2) rR).loadVar rfl rfl rR) rfl
  rcases Co (x<min a.1 b.1)with C2|C2
  ·go_upto_region 1 with fail
   refine wl ?_;refine Bq A4.1 _ _ ?_;refine cS 2 52 [iV a.1,iV a.2,iV b.1,iV b.2] A4.1 ?_;intro E9 F7 D6 _;refine zc (Hk (.slice (some ⟨E9,0,none⟩) 2 2) [a,b] _ (Iy D6.1 (i:=3) rR) (by simp)) ?_;rintro e F6 ⟨rfl,hx⟩;have C4:=zH (D6.1.step hx);clear hx;refine⟨.bool true,by rw[A3.1],?_⟩;try simp only[Act.put,zA,zB,zC]
   refine Pc C4.1 (.bool false) (.bool false) _ _ _ _ ?_;refine zp (.bool false) (by exact bQ (e:=(Ah C1.1))) ?_;refine Hf C4.1 (.bool false) (.bool false) (iV x) _ _ _ _ (iV (min a.1 b.1)) ?_;refine zp (.bool true) (by exact Dv (e:=(Ae C2.1))) ?_;refine Hf Ac (.bool true) (.bool true) _ _ _ _ _ _ ?_;refine zk ?_;refine zq (.bool true) ?_;go_upto_region 2 with fail
   refine wl ?_;refine zq (.agg z4) ?_;refine Cy 2 rz C4.1 ?_;intro F5 D5 _;refine zq (.bool false) ?_;go_wp2_with fail
   refine bodyPost_ret (v:= .tuple #[.agg z4,.bool false]) ?_ rfl ⟨.inr ⟨fun h=>by have h1:=h.2.2.2.1;have h2:=C2.1;omega,rfl⟩,D5.1.ext⟩;exact Aq rfl rfl ((D5.1.blk (i:=2) rR).loadVar rfl rfl rR) rfl
  rcases Co (max a.1 b.1<x)with C3|C3
  ·go_upto_region 1 with fail
   refine wl ?_;refine Bq A4.1 _ _ ?_;refine cS 2 52 [iV a.1,iV a.2,iV b.1,iV b.2] A4.1 ?_;intro E8 F4 D4 _;refine zc (Hk (.slice (some ⟨E8,0,none⟩) 2 2) [a,b] _ (Iy D4.1 (i:=3) rR) (by simp)) ?_;rintro e F3 ⟨rfl,hx⟩;have B3:=zH (D4.1.step hx);clear hx;refine⟨.bool true,by rw[A3.1],?_⟩;try simp only[Act.put,zA,zB,zC]
   refine Pc B3.1 (.bool false) (.bool false) _ _ _ _ ?_;refine zp (.bool false) (by exact bQ (e:=(Ah C1.1))) ?_;refine Hf B3.1 (.bool false) (.bool false) (iV x) _ _ _ _ (iV (min a.1 b.1)) ?_;refine zp (.bool false) (by exact Dv (e:=(Ah C2.1))) ?_;refine Hf B3.1 (.bool false) (.bool false) (iV x) _ _ _ _ (iV (max a.1 b.1)) ?_;refine zp (.bool true) (by exact Tw (e:=(Ae C3.1))) ?_;refine zq (.bool true) ?_;go_upto_region 2 with fail
   refine wl ?_;refine zq (.agg z4) ?_;refine Cy 2 rz B3.1 ?_;intro F2 D3 _;refine zq (.bool false) ?_;go_wp2_with fail
   refine bodyPost_ret (v:= .tuple #[.agg z4,.bool false]) ?_ rfl ⟨.inr ⟨fun h=>by have h1:=h.2.2.2.2;have h2:=C3.1;omega,rfl⟩,D3.1.ext⟩;exact Aq rfl rfl ((D3.1.blk (i:=2) rR).loadVar rfl rfl rR) rfl
  go_upto_region 1 with fail
  refine wl ?_;refine Bq A4.1 _ _ ?_;refine cS 2 52 [iV a.1,iV a.2,iV b.1,iV b.2] A4.1 ?_;intro B8 E5 B2 _;refine zc (Hk (.slice (some ⟨B8,0,none⟩) 2 2) [a,b] _ (Iy B2.1 (i:=3) rR) (by simp)) ?_;rintro e A2 ⟨rfl,hx⟩;have A1:=zH (B2.1.step hx);clear hx;refine⟨.bool true,by rw[A3.1],?_⟩;try simp only[Act.put,zA,zB,zC]
  refine Pc A1.1 (.bool false) (.bool false) _ _ _ _ ?_;refine zp (.bool false) (by exact bQ (e:=(Ah C1.1))) ?_;refine Hf A1.1 (.bool false) (.bool false) (iV x) _ _ _ _ (iV (min a.1 b.1)) ?_;refine zp (.bool false) (by exact Dv (e:=(Ah C2.1))) ?_;refine Hf A1.1 (.bool false) (.bool false) (iV x) _ _ _ _ (iV (max a.1 b.1)) ?_;refine zp (.bool false) (by exact Tw (e:=(Ah C3.1))) ?_;refine zq (.bool false) ?_;have F1:=zH (show b.1-a.1≠0 from fun h=>C1.1 (by omega));have G2: -1048576<=x/\x<=1048576:=by have h2:=C2.1;have h3:=C3.1;omega
  go_upto_region 3 with fail
  refine wp_region_held_drew (S:=fun x=>Fr (fun kz=>kz=D1) A2 x) kR (Fr.of_ext zb) (fun _=> ?_);have C8:=zH (A1.1.step (Aa.refl A2).drew);refine zx 0 (bs 17 1) (.pointer (some ⟨X1,1,none⟩)) (Fr.of_ext zb) ?_;refine Ec (g:=X1) (o:=1) (v:= iV a.2) (i:=1) (listed':=(bs 17 3)) rR kR kR kR (by intro _ _ _ h;exact h) rR (fun x hx=>Fr.cell hx (show World.cell? A2 ⟨X1,1,none⟩=some (iV a.2)from Ak (A1.1.range (i:=0) rR 1 1)) (A1.1.offBlk (i:=0) (j:=2) rR rR dC rR)) (by intro x hq;go_simp<;>with_reducible rfl) (Fr.of_ext zb) kR ?_;try simp only[Act.put,zA,zB,zC]
  refine zx 2 (bs 17 7) (.pointer (some ⟨X6,1,none⟩)) (Fr.of_ext zb) ?_;refine Ec (g:=X6) (o:=1) (v:= iV b.2) (i:=3) (listed':=(bs 17 15)) rR kR kR kR (by intro _ _ _ h;exact h) rR (fun x hx=>Fr.cell hx (show World.cell? A2 ⟨X6,1,none⟩=some (iV b.2)from Ak (A1.1.range (i:=1) rR 1 1)) (A1.1.offBlk (i:=1) (j:=2) rR rR dC rR)) (by intro x hq;go_simp<;>with_reducible rfl) (Fr.of_ext zb) kR ?_;try simp only[Act.put,zA,zB,zC]
  refine zx 4 (bs 17 31) (iV x) (Fr.of_ext zb) ?_;refine zx 5 (bs 17 63) (.pointer (some ⟨X1,0,none⟩)) (Fr.of_ext zb) ?_;refine Ec (g:=X1) (o:=0) (v:= iV a.1) (i:=6) (listed':=(bs 17 127)) rR kR kR kR (by intro _ _ _ h;exact h) rR (fun x hx=>Fr.cell hx (show World.cell? A2 ⟨X1,0,none⟩=some (iV a.1)from Ak (A1.1.range (i:=0) rR 0 1)) (A1.1.offBlk (i:=0) (j:=2) rR rR dC rR)) (by intro x hq;go_simp<;>with_reducible rfl) (Fr.of_ext zb) kR ?_;try simp only[Act.put,zA,zB,zC]
  refine zu 7 (bs 17 255) (v:= iV (x-a.1)) (Fr.of_ext zb) ?_ (hv:=by intro w E7;exact Tx (by omega));refine zx 8 (bs 17 511) (.pointer (some ⟨X6,0,none⟩)) (Fr.of_ext zb) ?_;refine Ec (g:=X6) (o:=0) (v:= iV b.1) (i:=9) (listed':=(bs 17 1023)) rR kR kR kR (by intro _ _ _ h;exact h) rR (fun x hx=>Fr.cell hx (show World.cell? A2 ⟨X6,0,none⟩=some (iV b.1)from Ak (A1.1.range (i:=1) rR 0 1)) (A1.1.offBlk (i:=1) (j:=2) rR rR dC rR)) (by intro x hq;go_simp<;>with_reducible rfl) (Fr.of_ext zb) kR ?_;try simp only[Act.put,zA,zB,zC]
  refine zx 10 (bs 17 2047) (.pointer (some ⟨X1,0,none⟩)) (Fr.of_ext zb) ?_;refine Ec (g:=X1) (o:=0) (v:= iV a.1) (i:=11) (listed':=(bs 17 4095)) rR kR kR kR (by intro _ _ _ h;exact h) rR (fun x hx=>Fr.cell hx (show World.cell? A2 ⟨X1,0,none⟩=some (iV a.1)from Ak (A1.1.range (i:=0) rR 0 1)) (A1.1.offBlk (i:=0) (j:=2) rR rR dC rR)) (by intro x hq;go_simp<;>with_reducible rfl) (Fr.of_ext zb) kR ?_;try simp only[Act.put,zA,zB,zC]
  refine zu 12 (bs 17 8191) (v:= iV (b.1-a.1)) (Fr.of_ext zb) ?_ (hv:=by intro w E7;exact Tx (by omega));refine mC 13 (bs 17 16383) (Ng (x-a.1) (b.1-a.1) _ (by omega) (by omega) (by omega) (by omega) F1.1) ?_;rintro e B4 ⟨c_,rfl,B6,hx⟩;have C7:=zH (C8.1.step hx);have A8:=zH (show Fr (fun kz=>kz=D1) A2 B4 from(Fr.of_ext zb).trans (Fr.of_ext hx));obtain⟨E6,rfl,A5⟩:=B6;have C0:=zH A5;have D0:=zH (Zr (x-a.1) (b.1-a.1) (by omega) (by omega));clear A5 hx;refine zm A8.1 ?_;refine mC 14 (bs 17 32767) (Mf 20 a.2 b.2 _ (((x-a.1:Int):Rat)/((b.1-a.1:Int):Rat)) _ (RV.Is.nin C0.1 (Ar D0.1 (by omega))) dC dC ⟨(by omega),(by omega)⟩ ⟨(by omega),(by omega)⟩) ?_;rintro e E4 ⟨c_,rfl,B6,hx⟩;have C6:=zH (C7.1.step hx);have A7:=zH (A8.1.trans (Fr.of_ext hx));obtain⟨A0,rfl,A5⟩:=B6;have B9:=zH A5;clear A5 hx;refine zm A7.1 ?_;refine Ea (i:=15) (listed':=(bs 17 65535)) rR kR rR kR _ _ _ rR C6.1 (ix:=2) rR 0 [.bool A0.n,.slice A0.p A0.l A0.c,.bool A0.m,.slice A0.p2 A0.l2 A0.c2] rR rR (by simp) kR (by simp[Value.oneCell']) (by simp[At]) ?_;intro E3 hh hd ho;have B1:=hN hh;have C9:=zH (hd);have A6:=zH (Fr.trans_new A7.1 ho (fun j hj=> .inl (by simpa using hj.symm)));clear hh hd ho;refine⟨A6.1,?_⟩
  (try simp only[Act.put])
  refine zx 16 (bs 17 131071) (.bool true) A6.1 ?_;refine wpAnyH_done kR ?_ _;go_wp2_with fail
  refine bodyPost_ret (v:= .tuple #[.agg #[.bool A0.n,.slice A0.p A0.l A0.c,.bool A0.m,.slice A0.p2 A0.l2 A0.c2],.bool true]) ?_ rfl ⟨.inl ⟨A0,⟨D2.1.1,D2.1.2,C1.1,by have h2:=C2.1;omega,by have h3:=C3.1;omega⟩,rfl,(B9.1.dig C9.1)⟩,B1.1.ext⟩;exact Aq rfl rfl ((B1.1.blk (i:=2) rR).loadVar rfl rfl rR) rfl
 have A3:=zH (Bool.eq_false_iff.2 HB.1);go_upto_region 1 with fail
 refine wl ?_;refine Bq A4.1 _ _ ?_;refine cS 2 52 [iV a.1,iV a.2,iV b.1,iV b.2] A4.1 ?_;intro B7 E2 B0 _;refine zc (Hk (.slice (some ⟨B7,0,none⟩) 2 2) [a,b] _ (Iy B0.1 (i:=3) rR) (by simp)) ?_;rintro e E1 ⟨rfl,hx⟩;have C5:=zH (B0.1.step hx);clear hx;refine⟨.bool false,by rw[A3.1],?_⟩;try simp only[Act.put,zA,zB,zC]
 refine Hf Ac (.bool true) (.bool true) _ _ _ _ _ (.bool true) ?_;refine Hf Ac (.bool true) _ _ _ _ _ _ _ ?_;refine Hf Ac (.bool true) (.bool true) _ _ _ _ _ _ ?_;refine zk ?_;refine zq (.bool true) ?_;go_upto_region 2 with fail
 refine wl ?_;refine zq (.agg z4) ?_;refine Cy 2 rz C5.1 ?_;intro E0 A9 _;refine zq (.bool false) ?_;go_wp2_with fail
 refine bodyPost_ret (v:= .tuple #[.agg z4,.bool false]) ?_ rfl ⟨.inr ⟨fun h=>HB.1 (Xw.2 ⟨h.1,h.2.1⟩),rfl⟩,A9.1.ext⟩;exact Aq rfl rfl ((A9.1.blk (i:=2) rR).loadVar rfl rfl rR) rfl
end
end Go.Proofs.YtlipfipniibpoaaGreat
