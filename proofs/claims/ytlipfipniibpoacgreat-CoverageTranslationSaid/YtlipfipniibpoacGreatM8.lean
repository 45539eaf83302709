import Derived.Test.YtlipfipniibpoacGreatM7
set_option maxRecDepth 100000
set_option maxHeartbeats 4000000
namespace Go.Proofs.YtlipfipniibpoacGreat
open Go.RowKit
open Go.Proofs.Tryz
section
attribute [local go_sem ↓] Go.wp_at_zero Go.wp_at_succ Aj Ai
theorem Vm (v:Value)(L a:Nat)(w:World)(hv:Bk L w v a)(hL:L<=1000000):
    Calls prog 109 #[.bool false,v] w fun e w'=>∃p l c,e= .returned (.agg #[.bool false,.slice p l c])/\Bq w' (.slice p l c) a/\Aa w w':=by
  refine(Ib false v L a w hv hL).mono ?_;rintro e w' ⟨n,u,rfl,h1,hx⟩;obtain⟨p,l,c,rfl⟩:=h1.form;have h2:n=false:=by rw[h1.1];simp[sg]
  subst h2;exact⟨p,l,c,rfl,by have h3:=h1.2;rwa[Up]at h3,hx⟩
theorem uR (u v:Value)(L a b:Nat)(w:World)(hu:Bk L w u a)(hv:Bk L w v b)(hL:L<=300000)(hb:b≠0):
    Calls prog 113 #[u,v] w fun e w'=>∃p l c p2 l2 c2,e= .returned (.tuple #[.slice p l c,.slice p2 l2 c2,iV 0])/\Bq w' (.slice p l c) (a/b)/\Bq w' (.slice p2 l2 c2) (a%b)/\Aa w w':=by
  refine(Oo u v L a b w hu hv hL hb).mono ?_;rintro e w' ⟨q,r,rfl,h1,h2,hx⟩;obtain⟨p,c,rfl⟩:=h1.form;obtain⟨p2,c2,rfl⟩:=h2.form;exact⟨p,_,c,p2,_,c2,rfl,h1,h2,hx⟩
theorem tO (n m:Bool)(u v:Value)(L:Nat)(y z:Int)(w:World)(hu:Ci L w n u y)(hv:Ci L w m v z)(hL:L<=150000):
    Calls prog 86 #[.agg #[.bool n,u],.agg #[.bool m,v]] w fun e w'=>∃k p l c,e= .returned (.agg #[.bool k,.slice p l c])/\Cz w' k (.slice p l c) (y*z)/\Aa w w':=by
  refine(Il n m u v L y z w hu hv hL).mono ?_;rintro e w' ⟨k,x,rfl,h1,hx⟩;obtain⟨p,l,c,rfl⟩:=h1.form;exact⟨k,p,l,c,rfl,h1,hx⟩
theorem rH (n m:Bool)(u v:Value)(L:Nat)(y z:Int)(w:World)(hu:Ci L w n u y)(hv:Ci L w m v z)(hL:L<=150000):
    Calls prog 100 #[.agg #[.bool n,u],.agg #[.bool m,v]] w fun e w'=>∃k p l c,e= .returned (.agg #[.bool k,.slice p l c])/\Aa w w':=by
  refine(Vt n m u v L y z w hu hv hL).mono ?_;rintro e w' ⟨k,x,rfl,h1,hx⟩;obtain⟨p,l,c,rfl⟩:=h1.form;exact⟨k,p,l,c,rfl,hx⟩
theorem Rg {L a:Nat}{w:World}{v:Value}(h:Bk L w v a):Ci L w false v ((a:Nat):Int):=⟨a,h,rfl⟩
theorem Bq.digD {w w':World}{v:Value}{n:Nat}(h:Bq w v n)(d:Af w w'):Bq w' v n:=d _ _ h
theorem Bk.digD {L:Nat}{w w':World}{v:Value}{n:Nat}(h:Bk L w v n)(d:Af w w'):Bk L w' v n:=by obtain⟨xs,h1,h2⟩:=h;exact⟨xs,d _ _ h1,h2⟩
theorem cU (X:Nat)(v:Value)(L a:Nat)(w:World)(hc:w.cell? ⟨X,0,none⟩=some (.bool false))(hv:Bk L w v a)(hL:L<=1000000):
  Calls prog 146 #[v,.pointer (some ⟨X,0,none⟩)] w fun e w'=>∃p l c,e= .returned (.agg #[.bool false,.slice p l c])/\Bq w' (.slice p l c) a/\Aa w w':=by
 have HC:=zH hc;have A2:=zH hv;clear hc hv;go_enter func146,ntmps146
 have H0:=zH (Hp.start w);go_upto_region 0 with fail;apply wl;apply Cn 31 [.bool false,.slice none 0 0] H0.1;intro X1 w2 H3 _;go_upto_region 1 with fail;apply wl;refine ze X 0 (.bool false) (Lj (H3.1.ext.get HC.1)) ?_;refine qV (v) ?_;refine zc (Vm v L a _ (A2.1.ext H3.1.ext) hL) ?_;rintro e w7 ⟨p,l,c,rfl,A0,hx⟩;have H8:=zH (H3.1.step hx);have HN:=zH A0;clear A0 hx;refine zn ?_;apply Dc 0 [.bool false,.slice p l c] H8.1;intro A4 A1 A3;go_wp2_with fail
 refine bodyPost_ret (v:= .agg #[.bool false,.slice p l c]) ?_ rfl ⟨p,l,c,rfl,(A3.1 _ _ HN.1),A1.1.ext⟩;exact Ak rfl rfl ((A1.1.blk (i:=0) rR).loadVar rfl rfl rR)
theorem gR (w:World):Calls prog 115 #[.bool false] w fun e w'=>∃X,e= .returned (.func (.func 146) #[] #[.pointer (some ⟨X,0,none⟩)])/\w'.cell? ⟨X,0,none⟩=some (.bool false)/\Aa w w':=by
 go_enter func115,ntmps115;have H0:=zH (Hp.start w);go_upto_region 0 with fail;apply wl;apply Cn 4 [.bool false] H0.1;intro A1 A2 A0 _;apply zq (.nilFunc);go_upto_region 1 with fail;apply wl;refine Cc Ah _ _ ?_;go_wp2_with fail;go_ret;exact⟨A1,rfl,Ae (A0.1.range (i:=0) (by rfl) 0 1),A0.1.ext⟩
theorem eW (p1 p2:Option Addr)(l1 c1 l2 c2 a b L:Nat)(w:World)(hu:Bk L w (.slice p1 l1 c1) a)(hv:Bk L w (.slice p2 l2 c2) b)(hL:L<=70000)(hb:b≠0):
  Calls prog 83 #[.agg #[.bool false,.slice p1 l1 c1],.agg #[.bool false,.slice p2 l2 c2]] w fun e w'=>∃(p:Option Addr) (l c:Nat) (k:Bool) (p3:Option Addr) (l3 c3:Nat),e= .returned (.tuple #[.agg #[.bool false,.slice p l c],.agg #[.bool k,.slice p3 l3 c3],iV 0])/\Bq w' (.slice p l c) (a/b)/\Aa w w':=by
 have I0:=zH hu;have H9:=zH hv;have BA:=hu.nl;have BB:=hv.nl;have BQ:Nm.nl (a/b)<=L:=Av (Nm.nl_mono (Nat.div_le_self a b)) BA;clear hu hv;go_enter func83,ntmps83
 have H0:=zH (Hp.start w);go_upto_region 0 with fail;apply wl;apply Cn 31 [.bool false,.slice p1 l1 c1] H0.1;intro A7 K1 I9 _;apply Cn 31 [.bool false,.slice p2 l2 c2] I9.1;intro A6 K0 I8 _;apply Cn 31 [.bool false,.slice none 0 0] I8.1;intro F7 J9 I7 _;apply Cn 31 [.bool false,.slice none 0 0] I7.1;intro F6 B2 C9 _;apply zq (iV 0);go_upto_region 1 with fail;refine Lt (S:=fun x=>Aa B2 x) [10,11] kR ?_;have G4:=zH (C9.1.step (Aa.refl B2).drew);refine Fu (ds:=[1,4,9,10,11]) (i:=0) (listed':=(bs 12 1)) (v:= .pointer (some ⟨A7,0,none⟩)) rR kR kR kR (by intro _ _ _ h;exact h) (Ko rR (by intro w D9;go_simp<;>with_reducible rfl)) zb kR ?_;try simp only[ζ]
 refine Fu (ds:=[4,9,10,11]) (i:=1) (listed':=(bs 12 3)) (v:= .bool false) rR kR kR kR (by intro _ _ _ h;exact h) (cG (g:=A7) (o:=0) rR (fun x hx=>Aa.get hx (show World.cell? B2 ⟨A7,0,none⟩=some (.bool false)from Ae (C9.1.range (i:=0) rR 0 1))) (by intro x hq;go_simp<;>with_reducible rfl)) zb kR ?_;try simp only[ζ]
 refine Fu (ds:=[3,4,9,10,11]) (i:=2) (listed':=(bs 12 7)) (v:= .pointer (some ⟨A7,1,none⟩)) rR kR kR kR (by intro _ _ _ h;exact h) (Ko rR (by intro w D9;go_simp<;>with_reducible rfl)) zb kR ?_;try simp only[ζ]
 refine Fu (ds:=[4,9,10,11]) (i:=3) (listed':=(bs 12 15)) (v:= .slice p1 l1 c1) rR kR kR kR (by intro _ _ _ h;exact h) (cG (g:=A7) (o:=1) rR (fun x hx=>Aa.get hx (show World.cell? B2 ⟨A7,1,none⟩=some (.slice p1 l1 c1)from Ae (C9.1.range (i:=0) rR 1 1))) (by intro x hq;go_simp<;>with_reducible rfl)) zb kR ?_;try simp only[ζ]
 refine Fu (ds:=[6,9,10,11]) (i:=5) (listed':=(bs 12 47)) (v:= .pointer (some ⟨A6,0,none⟩)) rR kR kR kR (by intro _ _ _ h;exact h) (Ko rR (by intro w D9;go_simp<;>with_reducible rfl)) zb kR ?_;try simp only[ζ]
 refine Fu (ds:=[9,10,11]) (i:=6) (listed':=(bs 12 111)) (v:= .bool false) rR kR kR kR (by intro _ _ _ h;exact h) (cG (g:=A6) (o:=0) rR (fun x hx=>Aa.get hx (show World.cell? B2 ⟨A6,0,none⟩=some (.bool false)from Ae (C9.1.range (i:=1) rR 0 1))) (by intro x hq;go_simp<;>with_reducible rfl)) zb kR ?_;try simp only[ζ]
 refine Fu (ds:=[8,9,10,11]) (i:=7) (listed':=(bs 12 239)) (v:= .pointer (some ⟨A6,1,none⟩)) rR kR kR kR (by intro _ _ _ h;exact h) (Ko rR (by intro w D9;go_simp<;>with_reducible rfl)) zb kR ?_;try simp only[ζ]
 refine Fu (ds:=[9,10,11]) (i:=8) (listed':=(bs 12 495)) (v:= .slice p2 l2 c2) rR kR kR kR (by intro _ _ _ h;exact h) (cG (g:=A6) (o:=1) rR (fun x hx=>Aa.get hx (show World.cell? B2 ⟨A6,1,none⟩=some (.slice p2 l2 c2)from Ae (C9.1.range (i:=1) rR 1 1))) (by intro x hq;go_simp<;>with_reducible rfl)) zb kR ?_;try simp only[ζ]
 refine Tm (hist:=by rfl) (i:=4) (listed':=(bs 12 511)) rR kR rR (by go_simp) (Vm (.slice p1 l1 c1) L a _ (I0.1.digD G4.1.dig0) ω) kR ?_;rintro e J8 ⟨B5,B8,C2,rfl,A4,hx⟩;have G3:=zH (G4.1.step hx);have F8:=zH (zb.trans hx);have G1:=zH A4;clear A4 hx;refine⟨_,rfl,F8.1,?_⟩;try simp only[ζ]
 refine Tm (hist:=by rfl) (i:=9) (listed':=(bs 12 1023)) rR kR rR (by go_simp) (Vm (.slice p2 l2 c2) L b _ (H9.1.digD G3.1.dig0) ω) kR ?_;rintro e J7 ⟨B4,B7,C1,rfl,A4,hx⟩;have I6:=zH (G3.1.step hx);have J0:=zH (Af.of_ext hx);have H6:=zH (F8.1.trans hx);have G0:=zH A4;clear A4 hx;refine⟨_,rfl,H6.1,?_⟩;try simp only[ζ]
 refine eI kR ?_;refine Ei (i:=10) (listed':=(bs 12 2047)) rR kR rR kR _ _ _ rR I6.1 (ix:=0) rR 0 [.bool false,.slice B5 B8 C2] rR rR (by simp) kR (by simp[Value.oneCell']) (by simp[Aq]) ?_;intro J6 hh hd ho;have I5:=hN hh;have G8:=zH (hd);clear hh hd ho;refine⟨trivial,?_⟩
 (try simp only[Act.put])
 refine Ei (i:=11) (listed':=(bs 12 4095)) rR kR rR kR _ _ _ rR I5.1 (ix:=1) rR 0 [.bool false,.slice B4 B7 C1] rR rR (by simp) kR (by simp[Value.oneCell']) (by simp[Aq]) ?_;intro J5 hh hd ho;have G2:=hN hh;have G7:=zH (hd);clear hh hd ho;refine⟨trivial,?_⟩
 (try simp only[Act.put])
 refine wpAnyH_done kR ?_ _;go_upto_region 2 with fail;apply wl;refine Fg G2.1 _ _ _ _ ?_;have D1:=tD (tD J0 G8) G7;have D0:=tD G8 G7;refine zc (uR (.slice B5 B8 C2) (.slice B4 B7 C1) L a b _ (Bq.isIn (D1.1 _ _ G1.1) BA) (Bq.isIn (D0.1 _ _ G0.1) BB) ω hb) ?_;rintro e J4 ⟨H3,H4,H5,K2,K3,K4,rfl,C0,F5,hx⟩;have E3:=zH (G2.1.step hx);have G6:=zH (Af.of_ext hx);have H7:=zH C0;have K5:=zH F5;clear C0 F5 hx;refine zn ?_;refine qS Ah _ _ _ _ _ _ _ ?_;go_upto_region 3 with fail
 apply wl;apply zq (iV 0);apply zp (.bool false) (by exact Nq (e:=(Al ω)));go_upto_region 5 with fail;apply wl;refine Jb E3.1 _ _ _ _ (.bool false) (.bool false) _ _ ?_;refine zk ?_;apply zq (.bool false);go_upto_region 7 with fail;apply wl;refine Ly E3.1 _ _ _ _ (.bool false) ?_;refine zc (gR _) ?_;rintro e J3 ⟨X,rfl,F4,hx⟩;have I4:=zH (E3.1.step hx);have E9:=zH (Af.of_ext hx);have H8:=zH F4;clear F4 hx;refine zn ?_;refine Cs Ah _ ?_;refine zc (cU X (.slice H3 H4 H5) L (a/b) _ H8.1 (Bq.isIn (E9.1 _ _ H7.1) BQ) ω) ?_;rintro e J2 ⟨A2,A3,A5,rfl,A4,hx⟩;have I3:=zH (I4.1.step hx);have G5:=zH (Af.of_ext hx);have F9:=zH A4;clear A4 hx;refine zn ?_;apply Cn 31 [.bool false,.slice none 0 0] I3.1;intro D6 J1 I1 E8;apply Dc 4 [.bool false,.slice A2 A3 A5] I1.1;intro A1 A0 B1;go_upto_region 8 with fail
 refine wp_region_held_drew (S:=fun x=>Fr (fun kz=>kz=F7\/kz=F6) A1 x) kR (Fr.of_ext zb) (fun _=> ?_);have E7:=zH (A0.1.step (Aa.refl A1).drew);have B0:=zH (Af.of_ext (w:=A1) zb);refine mR 0 (bs 9 1) D6 (0) [.bool false,.slice A2 A3 A5] (fun x hx=>Fr.range hx (show World.rangeAt A1 D6 (0) [.bool false,.slice A2 A3 A5]from(A0.1.range (i:=4) rR 0 2)) (fun hk=>hk.elim (A0.1.offBlk (i:=4) (j:=2) rR rR dC rR) (A0.1.offBlk (i:=4) (j:=3) rR rR dC rR))) underlying31 (Fr.of_ext zb) ?_;refine mR 1 (bs 9 3) A7 (0) [.bool false,.slice B5 B8 C2] (fun x hx=>Fr.range hx (show World.rangeAt A1 A7 (0) [.bool false,.slice B5 B8 C2]from(A0.1.range (i:=0) rR 0 2)) (fun hk=>hk.elim (A0.1.offBlk (i:=0) (j:=2) rR rR dC rR) (A0.1.offBlk (i:=0) (j:=3) rR rR dC rR))) underlying31 (Fr.of_ext zb) ?_;refine zr 2 (bs 9 7) D6 (0) [.bool false,.slice A2 A3 A5] (fun x hx=>Fr.range hx (show World.rangeAt A1 D6 (0) [.bool false,.slice A2 A3 A5]from(A0.1.range (i:=4) rR 0 2)) (fun hk=>hk.elim (A0.1.offBlk (i:=4) (j:=2) rR rR dC rR) (A0.1.offBlk (i:=4) (j:=3) rR rR dC rR))) underlying31 (Fr.of_ext zb) ?_;refine zr 3 (bs 9 15) A6 (0) [.bool false,.slice B4 B7 C1] (fun x hx=>Fr.range hx (show World.rangeAt A1 A6 (0) [.bool false,.slice B4 B7 C1]from(A0.1.range (i:=1) rR 0 2)) (fun hk=>hk.elim (A0.1.offBlk (i:=1) (j:=2) rR rR dC rR) (A0.1.offBlk (i:=1) (j:=3) rR rR dC rR))) underlying31 (Fr.of_ext zb) ?_;have A8:=tD (tD E8 B1) B0;have D4:=tD (tD (tD (tD (tD (tD D0 G6) E9) G5) E8) B1) B0;refine mC 4 (bs 9 31) (tO false false (.slice A2 A3 A5) (.slice B4 B7 C1) L _ _ _ (Rg (Bq.isIn (A8.1 _ _ F9.1) BQ)) (Rg (Bq.isIn (D4.1 _ _ G0.1) BB)) ω) ?_;rintro e B3 ⟨E1,D7,D8,E0,rfl,C0,hx⟩;have E6:=zH (E7.1.step hx);have D5:=zH (show Af A1.drew B3 from Af.of_ext hx);have C8:=zH (show Fr (fun kz=>kz=F7\/kz=F6) A1 B3 from(Fr.of_ext zb).trans (Fr.of_ext hx));have E2:=zH C0;clear C0;have F3:=Eu _ _ L L (show Nm.nl ((((a/b):Nat):Int)).natAbs<=L from by rw[nQQ];exact BQ) (show Nm.nl (((b:Nat):Int)).natAbs<=L from by rw[nQQ];exact BB);clear hx;apply zm C8.1;have D3:=tD (tD (tD (tD (tD (tD (tD D1 G6) E9) G5) E8) B1) B0) D5;refine mC 5 (bs 9 63) (rH false E1 (.slice B5 B8 C2) (.slice D7 D8 E0) (L+L) _ _ _ (Rg (((Bq.isIn (D3.1 _ _ G1.1) BA)).mono ω)) (Cz.isIn E2.1 F3) ω) ?_;rintro e H2 ⟨C4,B6,B9,C3,rfl,hx⟩;have E5:=zH (E6.1.step hx);have F2:=zH (Af.of_ext hx);have C7:=zH (C8.1.trans (Fr.of_ext hx));clear hx;apply zm C7.1;refine Ei (i:=6) (listed':=(bs 9 127)) rR kR rR kR _ _ _ rR E5.1 (ix:=2) rR 0 [.bool false,.slice A2 A3 A5] rR rR (by simp) kR (by simp[Value.oneCell']) (by simp[Aq]) ?_;intro H1 hh hd ho;have E4:=hN hh;have F1:=zH (hd);have C6:=zH (Fr.trans_new C7.1 ho (fun j hj=> .inl (.inl (by injection hj with hj;exact hj.symm))));clear hh hd ho;refine⟨C6.1,?_⟩
 (try simp only[Act.put])
 refine Ei (i:=7) (listed':=(bs 9 255)) rR kR rR kR _ _ _ rR E4.1 (ix:=3) rR 0 [.bool C4,.slice B6 B9 C3] rR rR (by simp) kR (by simp[Value.oneCell']) (by simp[Aq]) ?_;intro G9 hh hd ho;have A9:=hN hh;have F0:=zH (hd);have C5:=zH (Fr.trans_new C6.1 ho (fun j hj=> .inl (.inr (by injection hj with hj;exact hj.symm))));clear hh hd ho;refine⟨C5.1,?_⟩
 (try simp only[Act.put])
 refine zx 8 (bs 9 511) (iV 0) C5.1 ?_;refine wpAnyH_done kR ?_ _;have D2:=tD (tD (tD (tD A8 D5) F2) F1) F0;go_wp2_with fail
 refine bodyPost_ret (v:= .tuple #[.agg #[.bool false,.slice A2 A3 A5],.agg #[.bool C4,.slice B6 B9 C3],iV 0]) ?_ rfl ⟨_,_,_,_,_,_,_,rfl,(D2.1 _ _ F9.1),A9.1.ext⟩;exact Co rfl rfl rfl ((A9.1.blk (i:=2) rR).loadVar rfl rfl rR) ((A9.1.blk (i:=3) rR).loadVar rfl rfl rR) rfl
theorem pJ (r:RV)(q:Rat)(L:Nat)(w:World)(hr:r.In L w q)(hl:Nm.rl q<=L)(h0:0<=q)(hL:L<=70000):
  Calls prog 49 #[(rg r)] w fun e w'=>∃(p:Option Addr) (l c:Nat),e= .returned (.agg #[.bool false,.slice p l c])/\Bq w' (.slice p l c) (q.num.natAbs/q.den)/\Aa w w':=by
 have HR:=zH hr;have E4:Nm.nl q.num.natAbs<=L:=Av (Nat.le_max_left _ _) hl;have E3:Nm.nl q.den<=L:=Av (Nat.le_max_right _ _) hl;have F0:=Rat.num_nonneg.2 h0;clear hr hl;go_enter func49,ntmps49
 have H0:=zH (Hp.start w);go_upto_region 0 with fail;apply wl;apply Cn 33 (rc r) H0.1;intro A5 E0 C0 _;apply Cn 31 [.bool false,.slice none 0 0] C0.1;intro E7 D9 A4 _;go_upto_region 1 with fail;apply wl;refine Cs A4.1 _ ?_;refine zc (tB (L:=L) (RV.In.nin (HR.1.dig A4.1.dig0)) ω) ?_;rintro e D8 ⟨c_,rfl,E2,hx⟩;have B9:=zH (A4.1.step hx);obtain⟨⟨n,p1,l1,c1,m,p2,l2,c2⟩,rfl,E1⟩:=E2;obtain⟨⟨C8,C7⟩,C9,C6⟩:=E1;obtain rfl:n=false:=by rw[show n=decide (q.num<0)from C8];simp;omega
 obtain rfl:m=false:=by rw[show m=decide (((q.den:Nat):Int)<0)from C9];simp
 have E9:=zH (show Bq _ (.slice p1 l1 c1) q.num.natAbs from C7);have E8:=zH (show Bq _ (.slice p2 l2 c2) q.den from C6);clear C8 C7 C9 C6 hx;refine zn ?_;apply Dc 0 [.bool false,.slice p1 l1 c1,.bool false,.slice p2 l2 c2] B9.1;intro D7 A3 A9;go_upto_region 2 with fail
 apply wl;refine Cs Ah _ ?_;refine zd A5 (0) [.bool false,.slice p1 l1 c1] (A3.1.range (i:=0) rR 0 2) underlying31 ?_;refine Cs Ah _ ?_;refine zd A5 (2) [.bool false,.slice p2 l2 c2] (A3.1.range (i:=0) rR 2 2) underlying31 ?_;refine zc (eW _ _ _ _ _ _ q.num.natAbs q.den L _ (Bq.isIn (A9.1 _ _ E9.1) E4) (Bq.isIn (A9.1 _ _ E8.1) E3) hL q.den_nz) ?_;rintro e D6 ⟨A0,A1,A2,B3,B0,B1,B2,rfl,D0,hx⟩;have B8:=zH (A3.1.step hx);have B4:=zH D0;clear D0 hx;refine zn ?_;refine Fg Ah _ _ _ _ ?_;apply Cn 31 [.bool false,.slice none 0 0] B8.1;intro E6 D5 B7 C5;apply Cn 31 [.bool false,.slice none 0 0] B7.1;intro E5 D4 B6 C4;apply Dc 2 [.bool false,.slice A0 A1 A2] B6.1;intro D3 B5 C3;apply Dc 3 [.bool B3,.slice B0 B1 B2] B5.1;intro D2 A7 C2;apply zq (iV 0);go_upto_region 3 with fail
 apply wl;refine Cs A7.1 _ ?_;apply Dc 1 [.bool false,.slice A0 A1 A2] A7.1;intro D1 A6 C1;have A8:=tD (tD (tD (tD C5 C4) C3) C2) C1;go_wp2_with fail
 refine bodyPost_ret (v:= .agg #[.bool false,.slice A0 A1 A2]) ?_ rfl ⟨_,_,_,rfl,(A8.1 _ _ B4.1),A6.1.ext⟩;exact Ak rfl rfl ((A6.1.blk (i:=1) rR).loadVar rfl rfl rR)
theorem iA (v:Value)(a:Nat)(w:World)(h:Bq w v a)(ha:a<4294967296):
  Calls prog 81 #[v] w fun e w'=>∃(p:Option Addr) (l c:Nat),e= .returned (.slice p l c)/\Aa w w'/\Bq w' (.slice p l c) a/\((a=0/\l=0)\/(a≠0/\l=1/\∃g o,p=some ⟨g,o,none⟩)):=by
 have hl:Nm.nl a<=1:=Nm.nl_le ω;refine(Gx v 1 a w (h.isIn hl) dC).mono ?_;rintro e w' ⟨u,rfl,h1,hx⟩;have hn:=h1;obtain⟨p,c,rfl,h2,h3,h4⟩:=h1;refine⟨p,_,c,rfl,hx,hn,?_⟩;by_cases h0:a=0
 ·subst h0;exact .inl ⟨rfl,by rw[Nm.digs_zero];rfl⟩
 right;have hd:=Nm.digs_one h0 ha;rw[hd]at h4⊢;obtain⟨b,o,rfl,hb⟩:=h4 (by simp);exact⟨h0,rfl,b,o,rfl⟩
theorem oE {a:Nat}(ha:a<4294967296):bits .or .u64 0 ((a:Nat):Int)=((a:Nat):Int):=by
  have e1:bits .or .u64 0 ((a:Nat):Int)=IntKind.u64.wrap (((0#64|||BitVec.ofInt 64 ((a:Nat):Int):BitVec 64).toNat:Nat):Int):=rfl;rw[e1,BitVec.zero_or,IntKind.wrap_u64];simp;omega
theorem oH {g o l c a:Nat}{w:World}(h:Bq w (.slice (some ⟨g,o,none⟩) l c) a)(h0:a≠0)(ha:a<4294967296):w.cell? ⟨g,o,none⟩=some (.int .u32 ((a:Nat):Int)):=by
  obtain⟨p,c',he,h2,h3,h4⟩:=h;have hd:=Nm.digs_one h0 ha;rw[hd]at h4;obtain⟨b,o',A0,hb⟩:=h4 (by simp);cases he;cases A0;have h5:=hb 0 (by simp);simpa using h5
theorem mA (p0:Option Addr)(l0 c0 a:Nat)(w:World)(h:Bq w (.slice p0 l0 c0) a)(ha:a<4294967296):
  Calls prog 48 #[.agg #[.bool false,.slice p0 l0 c0]] w fun e w'=>e= .returned (.tuple #[iV (a:Nat),.bool true])/\Aa w w':=by
 have B4:=zH h;have C1:(0:Nat)|||a=a:=Nat.zero_or a;have C2:bits .or .u64 0 ((a:Nat):Int)=((a:Nat):Int):=oE ha;have C0:IntKind.u64.wrap 0=0:=by decide
 have B7:IntKind.i64.wrap 0=0:=by decide
 have B9:IntKind.u64.wrap ((a:Nat):Int)=((a:Nat):Int):=by rw[IntKind.wrap_u64];omega
 have B8:IntKind.i64.wrap ((a:Nat):Int)=((a:Nat):Int):=by rw[IntKind.wrap_i64];omega
 clear h;go_enter func48,ntmps48;have H0:=zH (Hp.start w);go_upto_region 0 with fail;apply wl;apply Cn 31 [.bool false,.slice p0 l0 c0] H0.1;intro X1 w2 H3 _;refine Cc Ah _ (.bool false) ?_;go_upto_region 1 with fail;apply wl;refine Cc H3.1 _ _ ?_;refine zc (iA (.slice p0 l0 c0) a _ (B4.1.digD H3.1.dig0) ha) ?_;rintro e w9 ⟨p1,l1,c1,rfl,hx,A2,A8⟩;have A4:=zH (H3.1.step hx);have HC:=zH A8;have B5:=zH A2;clear A8 A2 hx;refine zn ?_;refine Cs Ah _ ?_;go_upto_region 2 with fail
 apply wl;apply zq (.int .u64 0);rcases Cy (a=0)with HZ|HZ
 ·obtain⟨hz,hl⟩:a=0/\l1=0:=by rcases HC.1 with h_|h_;exact h_;exact absurd HZ.1 h_.1
  subst hz hl;go_upto_region 3 with fail;apply wl;refine Cc Ah _ _ ?_;apply zp (iV (-1)) (by exact Zd ω);apply zq (iV (-1));go_wp2_with fail;go_loopg [5,6] (1) (fun cq B3 v20 wr=>∃(k:Nat) (zv:Int) (iv:Int),cq=1-k/\B3= .int .u64 zv/\v20= iV iv/\(k<=1)/\(zv=0/\iv= -1)/\Hp w wr [.blk X1 31 [.bool false,.slice p0 l0 c0]]/\Af w9 wr)
  case atStart=>exact⟨0,0,-1,rfl,rfl,rfl,(by decide),⟨rfl,rfl⟩,A4.1,Af.refl _⟩
  obtain⟨k,zv,iv,rfl,rfl,rfl,A0,A1,A3,A2⟩:=hrel;generalize wr=A7 at*;have A9:=zH A0;clear A0;have HI:=zH A1;clear A1;have B0:=zH A3;have C3:=zH A2;clear A3 A2 A4;obtain⟨rfl,rfl⟩:zv=0/\iv= -1:=HI.1;go_upto_region 4 with fail
  apply wl;apply zq (iV (-1));apply zp (.bool false) (by exact Nv (e:=(Al ω)));refine Ly Ah (.bool false) _ _ _ (.bool false) ?_;go_upto_region 7 with fail;apply wl;refine Cc Ah _ _ ?_;apply zp (.bool false) (by exact Rq (e:=(Al ω)));refine Cc Ah (.bool false) (.int .u64 0) ?_;refine zp (w':=A7) (.bool false) (by go_simp<;>omega) ?_;refine Dv Ah (.bool false) (.bool false) (.int .u64 0) ?_;refine zp (w':=A7) (.bool false) (by go_simp<;>omega) ?_;refine qS Ah (.bool false) _ _ _ (.bool false) (.bool false) (.bool false) ?_;go_upto_region 9 with fail;apply wl;refine Dv B0.1 _ _ (.bool false) ?_;go_upto_region 11 with fail;apply wl;refine Fg Ah (.int .u64 0) (iV ((0:Nat):Int)) (iV ((0:Nat):Int)) (.bool true) ?_;go_wp2_with fail;refine bodyPost_ret (results_tmp2 rfl _ _ _) rfl ⟨rfl,B0.1.ext⟩
 obtain⟨hl,gd,od,rfl⟩:l1=1/\∃g o,p1=some ⟨g,o,none⟩:=by rcases HC.1 with h_|h_;exact absurd h_.1 HZ.1;exact h_.2
 subst hl;go_upto_region 3 with fail;apply wl;refine Cc Ah _ _ ?_;apply zp (iV 0) (by exact Zd ω);apply zq (iV 0);go_wp2_with fail;go_loopg [5,6] (1) (fun cq B2 v53 wr=>∃(k:Nat) (zv:Int) (iv:Int),cq=1-k/\B2= .int .u64 zv/\v53= iV iv/\(k<=1)/\((k=0/\zv=0/\iv=0)\/(k=1/\zv=((a:Nat):Int)/\iv= -1))/\Hp w wr [.blk X1 31 [.bool false,.slice p0 l0 c0]]/\Af w9 wr)
 case atStart=>exact⟨0,0,0,rfl,rfl,rfl,(by decide),(.inl ⟨rfl,rfl,rfl⟩),A4.1,Af.refl _⟩
 obtain⟨k,zv,iv,rfl,rfl,rfl,A0,A1,A3,A2⟩:=hrel;generalize wr=A6 at*;have A9:=zH A0;clear A0;have HI:=zH A1;clear A1;have A5:=zH A3;have B1:=zH A2;clear A3 A2 A4;rcases Cy (k=0/\zv=0/\iv=0)with HK0|HK0
 ·obtain⟨rfl,rfl,rfl⟩:k=0/\zv=0/\iv=0:=HK0.1
  go_upto_region 4 with fail;apply wl;apply zq (iV 0);apply zp (.bool true) (by exact Nv (e:=(Ar ω)));refine Dv Ah (.bool true) _ _ ?_;apply zp (.bool true) (by exact Qe (e:=(Ar ω)));apply zq (.bool true);go_upto_region 6 with fail;apply wl;refine Fg Ah (.int .u64 0) (.int .u64 0) _ _ ?_;apply zp (.pointer (some ⟨gd,od,none⟩)) (by exact Iu (k:=0) underlying29 (l:=dC) (f:=(show od=od+0*1 by omega)));refine ze gd od (.int .u32 ((a:Nat):Int)) (Lj (oH (B1.1 _ _ B5.1) HZ.1 ha)) ?_;refine Dv Ah (.int .u64 ((a:Nat):Int)) (.int .u64 ((a:Nat):Int)) (.int .u64 ((a:Nat):Int)) ?_;go_upto_region 5 with fail;apply wl;apply zq (iV 0);apply zp (iV (-1)) (by exact Zd ω);apply zq (iV (-1));go_wp2_with fail;go_roundg (1-(1))
  case measure=>exact(by have B6:=A9.1;omega)
  case rel=>exact⟨1,((a:Nat):Int),-1,rfl,rfl,rfl,(by decide),(.inr ⟨rfl,rfl,rfl⟩),A5.1,B1.1⟩
 obtain⟨rfl,rfl,rfl⟩:k=1/\zv=((a:Nat):Int)/\iv= -1:=by rcases HI.1 with h_|h_;exact absurd h_ HK0.1;exact h_
 go_upto_region 4 with fail;apply wl;apply zq (iV (-1));apply zp (.bool false) (by exact Nv (e:=(Al ω)));refine Ly Ah (.bool false) _ _ _ (.bool false) ?_;go_upto_region 7 with fail;apply wl;refine Cc Ah _ _ ?_;apply zp (.bool false) (by exact Rq (e:=(Al ω)));refine Cc Ah (.bool false) (.int .u64 ((a:Nat):Int)) ?_;refine zp (w':=A6) (.bool false) (by go_simp<;>omega) ?_;refine Dv Ah (.bool false) (.bool false) (.int .u64 ((a:Nat):Int)) ?_;refine zp (w':=A6) (.bool false) (by go_simp<;>omega) ?_;refine qS Ah (.bool false) _ _ _ (.bool false) (.bool false) (.bool false) ?_;go_upto_region 9 with fail;apply wl;refine Dv A5.1 _ _ (.bool false) ?_;go_upto_region 11 with fail;apply wl;refine Fg Ah (.int .u64 ((a:Nat):Int)) (iV ((a:Nat):Int)) (iV ((a:Nat):Int)) (.bool true) ?_;go_wp2_with fail;refine bodyPost_ret (results_tmp2 rfl _ _ _) rfl ⟨rfl,A5.1.ext⟩
def Mr (q:Rat):Int:=if q<=0 then 0 else if 1<=q then 255 else(((q*((255:Int):Rat)+((1:Int):Rat)/((2:Int):Rat)).num.natAbs/(q*((255:Int):Rat)+((1:Int):Rat)/((2:Int):Rat)).den:Nat):Int)
theorem uC {q:Rat}{n:Nat}(h0:0<=q)(h:q<(((n+1:Nat):Int):Rat)):q.num.natAbs/q.den<=n:=by
 have hn:=Rat.num_nonneg.2 h0;refine Nat.le_of_lt_succ ((Nat.div_lt_iff_lt_mul q.den_pos).2 ?_);have e:q=(q.num:Rat)/(((q.den:Nat):Int):Rat):=by rw[<-Rat.divInt_eq_div];exact(Rat.num_divInt_den q).symm
 have hd:(0:Rat)<(((q.den:Nat):Int):Rat):=by exact_mod_cast q.den_pos
 have h2:(q.num:Rat)<(((n+1:Nat):Int):Rat)*(((q.den:Nat):Int):Rat):=by
  have h3:=Rat.mul_lt_mul_of_pos_right h hd;have h4:q*(((q.den:Nat):Int):Rat)=(q.num:Rat):=by
   have k:=Rat.inv_mul_cancel _ (show(((q.den:Nat):Int):Rat)≠0 by grind);rw[Rat.div_def]at e;generalize (((q.den:Nat):Int):Rat)=u at*;generalize (q.num:Rat)=v at*;rw[e];grind
  rwa[h4]at h3
 rw[<-Rat.intCast_mul,<-gQQ]at h2;have h5:q.num<(((n+1)*q.den:Nat):Int):=by exact_mod_cast h2
 show _<(n+1)*q.den;omega
theorem zF (q:Rat):0<=Mr q/\Mr q<=255:=by
 unfold Mr;by_cases h1:q<=0
 ·rw[if_pos h1];decide
 rw[if_neg h1];by_cases h2:1<=q
 ·rw[if_pos h2];decide
 rw[if_neg h2];have e1:((1:Int):Rat)/((2:Int):Rat)<1:=by decide+kernel
 have e2:0<=((1:Int):Rat)/((2:Int):Rat):=by decide+kernel
 have e3:((255:Int):Rat)=255:=rfl;have e4:(((255+1:Nat):Int):Rat)=256:=rfl;generalize ((1:Int):Rat)/((2:Int):Rat)=hf at*
 have:=uC (q:=q*((255:Int):Rat)+hf) (n:=255) (by rw[e3];grind) (by rw[e3,e4];grind);exact⟨Int.natCast_nonneg _,Int.ofNat_le.2 this⟩
theorem Lo (r:RV)(q:Rat)(w:World)(hr:r.In 55000 w q):
  Calls prog 22 #[(rg r)] w fun e w'=>e= .returned (.int .u8 (Mr q))/\Aa w w':=by
 have HR:=zH hr;clear hr;go_enter func22,ntmps22;have H0:=zH (Hp.start w);go_upto_region 0 with fail;apply wl;apply Cn 33 (rc r) H0.1;intro X1 w2 H3 _;apply zq (.int .u8 0);go_upto_region 1 with fail;apply wl;refine zc ((Yp 1 2 _ dC dC dC dC dC)) ?_;rintro e w7 ⟨c_,rfl,A1,hx⟩;have H9:=zH (H3.1.step hx);obtain⟨r8,rfl,A0⟩:=A1;have R8:=zH A0;have B8:=zH (show Nm.rl (((1:Int):Rat)/((2:Int):Rat))<=8 from by decide+kernel);clear A0 hx;refine zn ?_;refine Dv Ah _ _ _ ?_;refine Cn 33 rz H9.1 ?_;intro K3 J1 G2 H7;apply Dc 1 (rc r8) G2.1;intro A5 A7 H6;apply zq (iV 0);rcases Cy (q<=0)with H1|H1
 ·go_upto_region 2 with fail
  refine zy ?_;have G1:=zH (A7.1.step (Aa.refl A5).drew);refine Xo A7.1 zb (bs 5 1) 0 _ ?_;refine mC 1 (bs 5 3) (Da 0 _ ω ω) ?_;rintro e J0 ⟨c_,rfl,A1,hx⟩;have D4:=zH (G1.1.step hx);have C6:=zH (zb.trans hx);obtain⟨J7,rfl,A0⟩:=A1;have E9:=zH A0;have I3:=zH (Bu 0 ω ω);clear A0 hx;apply zm C6.1;refine mC 2 (bs 5 7) (Gd (L:=60000) (RV.In.nin (RV.In.mono (HR.1.dig D4.1.dig0) ω)) (RV.Is.nin E9.1 (Av I3.1 ω)) ω) ?_;rintro e I9 ⟨rfl,hx⟩;have G0:=zH (D4.1.step hx);have B5:=zH (C6.1.trans hx);clear hx;apply zm B5.1;refine zu 3 (bs 5 15) (v:= .bool true) B5.1 ?_ (hv:=by intro w B1;exact Qe (e:=(Ar (Yk.2 H1.1))));refine zx 4 (bs 5 31) (.bool true) B5.1 ?_;refine wpAnyH_done kR ?_ _;go_upto_region 3 with fail
  apply wl;apply zq (.int .u8 0);go_wp2_with fail;go_ret;exact⟨by rw[show Mr q=0 from if_pos H1.1]<;>rfl,G0.1.ext⟩
 go_upto_region 2 with fail;refine zy ?_;have F9:=zH (A7.1.step (Aa.refl A5).drew);have H5:=zH (Af.of_ext (w:=A5) zb);refine Xo A7.1 zb (bs 5 1) 0 _ ?_;refine mC 1 (bs 5 3) (Da 0 _ ω ω) ?_;rintro e E0 ⟨c_,rfl,A1,hx⟩;have D3:=zH (F9.1.step hx);have H4:=zH (show Af A5.drew E0 from Af.of_ext hx);have C5:=zH (zb.trans hx);obtain⟨J6,rfl,A0⟩:=A1;have E8:=zH A0;have I1:=zH (Bu 0 ω ω);clear A0 hx;apply zm C5.1;refine mC 2 (bs 5 7) (Gd (L:=60000) (RV.In.nin (RV.In.mono (HR.1.dig D3.1.dig0) ω)) (RV.Is.nin E8.1 (Av I1.1 ω)) ω) ?_;rintro e A4 ⟨rfl,hx⟩;have A6:=zH (D3.1.step hx);have G9:=zH (Af.of_ext hx);have B4:=zH (C5.1.trans hx);clear hx;apply zm B4.1;refine zu 3 (bs 5 15) (v:= .bool false) B4.1 ?_ (hv:=by intro w B1;exact Qe (e:=(Al (fun hh=>H1.1 (Yk.1 hh)))));refine zx 4 (bs 5 31) (.bool false) B4.1 ?_;refine wpAnyH_done kR ?_ _;rcases Cy (1<=q)with H2|H2
 ·go_upto_region 4 with fail
  refine zy ?_;have F8:=zH (A6.1.step (Aa.refl A4).drew);refine Xo A6.1 zb (bs 5 1) 0 _ ?_;refine mC 1 (bs 5 3) (Da 1 _ ω ω) ?_;rintro e I8 ⟨c_,rfl,A1,hx⟩;have D2:=zH (F8.1.step hx);have C4:=zH (zb.trans hx);obtain⟨J5,rfl,A0⟩:=A1;have E7:=zH A0;have I0:=zH (Bu 1 ω ω);clear A0 hx;apply zm C4.1;refine mC 2 (bs 5 7) (Gd (L:=60000) (RV.In.nin (RV.In.mono (HR.1.dig D2.1.dig0) ω)) (RV.Is.nin E7.1 (Av I0.1 ω)) ω) ?_;rintro e I7 ⟨rfl,hx⟩;have F7:=zH (D2.1.step hx);have B3:=zH (C4.1.trans hx);clear hx;apply zm B3.1;refine zu 3 (bs 5 15) (v:= .bool true) B3.1 ?_ (hv:=by intro w B1;exact Nv (e:=(Ar (Yl.2 H2.1))));refine zx 4 (bs 5 31) (.bool true) B3.1 ?_;refine wpAnyH_done kR ?_ _;go_upto_region 5 with fail
  apply wl;apply zq (.int .u8 255);go_wp2_with fail;go_ret;exact⟨by rw[show Mr q=255 from(if_neg H1.1).trans (if_pos H2.1)]<;>rfl,F7.1.ext⟩
 go_upto_region 4 with fail;refine zy ?_;have F6:=zH (A6.1.step (Aa.refl A4).drew);have G8:=zH (Af.of_ext (w:=A4) zb);refine Xo A6.1 zb (bs 5 1) 0 _ ?_;refine mC 1 (bs 5 3) (Da 1 _ ω ω) ?_;rintro e D9 ⟨c_,rfl,A1,hx⟩;have D1:=zH (F6.1.step hx);have G7:=zH (show Af A4.drew D9 from Af.of_ext hx);have C3:=zH (zb.trans hx);obtain⟨J4,rfl,A0⟩:=A1;have E6:=zH A0;have H8:=zH (Bu 1 ω ω);clear A0 hx;apply zm C3.1;refine mC 2 (bs 5 7) (Gd (L:=60000) (RV.In.nin (RV.In.mono (HR.1.dig D1.1.dig0) ω)) (RV.Is.nin E6.1 (Av H8.1 ω)) ω) ?_;rintro e A8 ⟨rfl,hx⟩;have D0:=zH (D1.1.step hx);have G6:=zH (Af.of_ext hx);have B2:=zH (C3.1.trans hx);clear hx;apply zm B2.1;refine zu 3 (bs 5 15) (v:= .bool false) B2.1 ?_ (hv:=by intro w B1;exact Nv (e:=(Al (fun hh=>H2.1 (Yl.1 hh)))));refine zx 4 (bs 5 31) (.bool false) B2.1 ?_;refine wpAnyH_done kR ?_ _;have F1:=zH (show 0<=(q*(((255):Int):Rat)+(((1:Int):Rat)/((2:Int):Rat)))from by have e2:(0:Rat)<=(((1:Int):Rat)/((2:Int):Rat)):=(by decide+kernel);have B9:=H1.1;have e3:((255:Int):Rat)=255:=rfl;rw[e3];generalize (((1:Int):Rat)/((2:Int):Rat))=hf at*;grind);obtain⟨fl,B0⟩:∃fl:Nat,fl=(q*(((255):Int):Rat)+(((1:Int):Rat)/((2:Int):Rat))).num.natAbs/(q*(((255):Int):Rat)+(((1:Int):Rat)/((2:Int):Rat))).den:=⟨_,rfl⟩;have C7:=zH (show Mr q=((fl:Nat):Int)from by rw[B0];exact(if_neg H1.1).trans (if_neg H2.1));have K1:fl<256:=by have B9:=zF q;rw[C7.1]at B9;omega
 have F2:=zH B0;clear B0;go_upto_region 6 with fail;refine zy ?_;have F5:=zH (D0.1.step (Aa.refl A8).drew);have G5:=zH (Af.of_ext (w:=A8) zb);refine Xn D0.1 zb (bs 12 9) 0 3 _ _ ?_;refine mC 1 (bs 12 11) (Da 255 _ ω ω) ?_;rintro e D8 ⟨c_,rfl,A1,hx⟩;have C9:=zH (F5.1.step hx);have G4:=zH (show Af A8.drew D8 from Af.of_ext hx);have C2:=zH (zb.trans hx);obtain⟨J3,rfl,A0⟩:=A1;have E5:=zH A0;have D7:=zH (Bu 255 ω ω);clear A0 hx;apply zm C2.1;refine mC 2 (bs 12 15) (aJ (L:=60000) (RV.In.nin (RV.In.mono (HR.1.dig C9.1.dig0) ω)) (RV.Is.nin E5.1 (Av D7.1 ω)) ω) ?_;rintro e I6 ⟨c_,rfl,A1,hx⟩;have C8:=zH (C9.1.step hx);have G3:=zH (Af.of_ext hx);have C1:=zH (C2.1.trans hx);obtain⟨J2,rfl,A0⟩:=A1;have E4:=zH A0;clear A0;have D6:=zH (show Nm.rl (q*(((255):Int):Rat))<=55000+2 from by have h1:=(show Nm.rl q<=55000 from by have h:=(HR.1.dig C8.1.dig0).rl;omega);have h2:=D7.1;have h3:=Nm.rl_mul q (((255):Int):Rat);omega);clear hx;apply zm C1.1;have B7:=tD (tD (tD (tD (tD (tD (tD (tD (tD (tD H7 H6) H5) H4) G9) G8) G7) G6) G5) G4) G3;refine mC 4 (bs 12 31) (oC (L:=60000) (RV.Is.nin E4.1 (Av D6.1 ω)) (RV.Is.nin (R8.1.dig B7.1) (Av B8.1 ω)) ω) ?_;rintro e I5 ⟨c_,rfl,A1,hx⟩;have F4:=zH (C8.1.step hx);have C0:=zH (C1.1.trans hx);obtain⟨E2,rfl,A0⟩:=A1;have E3:=zH A0;clear A0;have D5:=zH (show Nm.rl ((q*(((255):Int):Rat))+(((1:Int):Rat)/((2:Int):Rat)))<=(55000+2)+8+1 from by have h1:=D6.1;have h2:=B8.1;have h3:=Nm.rl_add (q*(((255):Int):Rat)) (((1:Int):Rat)/((2:Int):Rat));omega);clear hx;apply zm C0.1;refine mC 5 (bs 12 63) (pJ E2 ((q*(((255):Int):Rat))+(((1:Int):Rat)/((2:Int):Rat))) 60000 _ (E3.1.isIn (Av D5.1 ω)) (Av D5.1 ω) F1.1 dC) ?_;rintro e I4 ⟨J8,J9,K2,rfl,A9,hx⟩;have F3:=zH (F4.1.step hx);have A3:=zH (C0.1.trans hx);rw[<-F2.1]at A9;have F0:=zH A9;clear A9 hx;apply zm A3.1;refine mC 6 (bs 12 127) (mA _ _ _ fl _ F0.1 ω) ?_;rintro e E1 ⟨rfl,hx⟩;have B6:=zH (F3.1.step hx);have A2:=zH (A3.1.trans hx);clear hx;apply zm A2.1;refine aFT Ah A2.1 (bs 12 4095) 7 8 9 10 11 _ (iV ((fl:Nat):Int)) (.bool true) (iV ((fl:Nat):Int)) (.bool true) ?_;refine wpAnyH_done kR ?_ _;have K0:IntKind.u8.wrap ((fl:Nat):Int)=((fl:Nat):Int):=IntWalk.u8_in _ ω;go_upto_region 7 with fail
 apply wl;refine Dv Ah (iV ((fl:Nat):Int)) (.int .u8 ((fl:Nat):Int)) (.int .u8 ((fl:Nat):Int)) ?_;go_wp2_with fail;go_ret;exact⟨by rw[C7.1]<;>rfl,B6.1.ext⟩
def Fw (rule:Int)(rs:List Ac)(x y:Int):Int:=if (Gt rule (Bd x y) (Je x y) rs)=0 then Mr (Gq rule (Bd x y) (Je x y) rs/((65536:Int):Rat))else 0
theorem Wg (A:Option Addr)(cap:Nat)(rs:List Ac)(rule x y:Int)(w:World)(hu:Cm w (.slice A rs.length cap) rs)(hn:rs.length<=1048576)(hr:∀r,r∈rs->r.length<=1048576)(hs:En rs=true->Ga rs<=16)(hru: -9223372036854775808<=rule/\rule<=9223372036854775807):
  Calls prog 23 #[.slice A rs.length cap,iV rule,iV x,iV y] w fun e w'=>e= .returned (.int .u8 (Fw rule rs x y))/\Aa w w':=by
 have HU:=zH hu;have HN:=zH hn;have A5:=zH hr;clear hu hr;have A0:=zH hs;have A4:=zH hru;clear hs hru;go_enter func23,ntmps23
 have H0:=zH (Hp.start w);go_upto_region 0 with fail;apply wl;apply zq (.int .u8 0);rcases Cy ((Gt rule (Bd x y) (Je x y) rs)=0)with HE0|HE0
 ·go_upto_region 1 with fail
  apply wl;refine Fg Ah _ (iV rule) (iV x) (iV y) ?_;refine zc ((Yo A cap rs rule x y _ (HU.1.ext H0.1.ext) HN.1 A5.1 A0.1 A4.1).mono (fun _ _ h_=>Wp.ok h_ HE0.1)) ?_;rintro e w7 ⟨r8,rfl,A3,A2,hx⟩;have H9:=zH (H0.1.step hx);have R8:=zH A3;have B8:=zH A2;clear A3 A2 hx;refine zn ?_;refine Dv Ah _ _ _ ?_;refine Cn 33 rz H9.1 ?_;intro C2 C0 B1 B3;apply Dc 0 (rc r8) B1.1;intro B9 A6 B2;apply zq (iV 0);go_upto_region 2 with fail
  apply wl;apply zq (iV 0);apply zp (.bool false) (by exact Nq (e:=(Al ω)));go_upto_region 4 with fail;apply wl;refine Cs A6.1 _ ?_;have A1:=tD B3 B2;refine aC A6.1 (Lo r8 (Gq rule (Bd x y) (Je x y) rs/((65536:Int):Rat)) _ ((R8.1.dig A1.1).isIn (Av B8.1 ω))) ?_;intro B7 B0 _;apply zq (.int .u8 (Mr (Gq rule (Bd x y) (Je x y) rs/((65536:Int):Rat))));go_wp2_with fail
  go_ret;exact⟨by rw[show Fw rule rs x y=Mr (Gq rule (Bd x y) (Je x y) rs/((65536:Int):Rat))from if_pos HE0.1]<;>rfl,B0.1.ext⟩
 go_upto_region 1 with fail;apply wl;refine Fg Ah _ (iV rule) (iV x) (iV y) ?_;refine aC H0.1 ((Yo A cap rs rule x y _ (HU.1.ext H0.1.ext) HN.1 A5.1 A0.1 A4.1).mono (fun _ _ h_=>Wp.bad h_ HE0.1)) ?_;intro B6 A9 _;refine Dv Ah _ _ (iV (Gt rule (Bd x y) (Je x y) rs)) ?_;refine Cn 33 rz A9.1 ?_;intro C1 B5 A8 _;refine Dc 0 rz A8.1 ?_;intro B4 A7 _;apply zq (iV (Gt rule (Bd x y) (Je x y) rs));go_upto_region 2 with fail;apply wl;apply zq (iV (Gt rule (Bd x y) (Je x y) rs));apply zp (.bool true) (by exact Nq (e:=(Ar HE0.1)));go_upto_region 3 with fail;apply wl;apply zq (.int .u8 0);go_wp2_with fail;go_ret;exact⟨by rw[show Fw rule rs x y=0 from if_neg HE0.1]<;>rfl,A7.1.ext⟩
end
section
theorem Hp.swap {w0 w:World}{m:List De}{a b:De}(h:Hp w0 w (m++[a]++[b])):Hp w0 w (m++[b]++[a]):=by
 have hm:Hp w0 w m:=by have h1:=h.take m.length;simpa using h1
 have ia:(m++[a]++[b])[m.length]?=some a:=by simp
 have ib:(m++[a]++[b])[m.length+1]?=some b:=by simp
 have im:∀i f,m[i]?=some f->i<m.length/\(m++[a]++[b])[i]?=some f:=fun i f hf=>by
  have hl:=(List.getElem?_eq_some_iff.1 hf).1;exact⟨hl,by rw[kXX,dQQ hl];exact hf⟩
 have h1:Hp w0 w (m++[b]):=hm.add (h.all _ b ib) (fun i f hf=>h.apart i _ f b (im i f hf).2 ib (by have:=(im i f hf).1;omega));refine h1.add (h.all _ a ia) (fun i f hf=> ?_);rcases Nat.lt_or_ge i m.length with hl|hl
 ·rw[dQQ hl]at hf
  exact h.apart i _ f a (im i f hf).2 ia (ω)
 rw[cZZ hl]at hf;rcases Nat.eq_zero_or_pos (i-m.length)with h0|h0
 ·rw[h0]at hf
  simp at hf;subst hf;exact h.apart _ _ b a ib ia (ω)
 rw[jZZ (by simp;omega)]at hf;cases hf
section
variable {P:Program} {l:List Oper} {Q:Exit->Act->World->Prop} {md:Region.Mode} {S:World->Prop} {j i:Nat} {dj:Option Tmp} {T:TypeId} {zs:List Value} {b w0:World} {m:List De} {fuel:Nat} {listed li lj:Array Bool} {a:Act} {w:World} {oi oj:Oper}
theorem aDK {Φ:World->Value->World->Prop}(E:World->Value->World->De)(hi:l[i]?=some oi)(hj:l[j]?=some oj)(hs:Region.noSelect l.toArray=true)(hlj:listed.setIfInBounds j true=lj)
  (hr:((Region.ready md l.toArray listed).all fun k=>k==i||k==j)=true)(hne:(Region.ready md l.toArray listed).isEmpty=false)(hr2:Region.ready md l.toArray lj=[i])(hij:i≠j)(hoff:Gn l oi dj=true)(hdj:oj.dst=dj)(hgj:oj.guard=none)
  (hvj:∀(ρ:Operand->Value) (x:World),(execOp ρ oj).run P x= .ok (.value (.pointer (some ⟨x.heap.size,0,none⟩))) (x.alloc (.cells zs.toArray T)))
  (hSx:∀x y,S x->Aa x y->S y)(hb:b.heap.size<=w.heap.size)(hH:Hp w0 w m)(hn:Aq zs)(hSw:S w)
  (hw:Region.wanted oi (yielded l.toArray a.tmps)=true)(hl:listed.setIfInBounds i true=li)
  (hc:∀x,Aa w x->∃v x',(execOp a.eval oi).run P x= .ok (.value v) x'/\Φ x v x'/\Aa x x')
  (ha:∀x v x' m1,Φ x v x'->Aa x x'->Hp w0 x m1->Hp w0 x' (m1++[E x v x']))
  (h:∀x v x',Aa w x->Φ x v x'->Aa x x'->Hp w0 x' (m++[E x v x'])->Fl P md l Q S j dj T zs b w0 (m++[E x v x']) fuel li (a.put oi.dst v) x'):Fl P md l Q S j dj T zs b w0 m (fuel+1) listed a w:=by
 obtain⟨o1,o2⟩:=Fj hoff;have A0:=fun cs b=>Region.noSelect_spec hs i oi cs b (by rw[aZZ];exact hi)
 have done:∀X y,Aa w y->Hp w0 y (m++[.blk X T zs])->S y->b.heap.size<=X->wpAnyH P md l.toArray Q S (fuel+1) (listed.setIfInBounds j true) (a.put dj (.pointer (some ⟨X,0,none⟩))) y:=by
  intro X y x A3 A2 hX;rw[hlj];obtain⟨v,y',h1,h2,h3⟩:=hc y x;refine Mj hi hr2 (by rw[wanted_put oi a dj _ o1];exact hw) (by rw[execOp_put oi A0 a dj _ o1];exact h1) (hSx _ _ A2 h3) rfl ?_;have h4:=(h y v y' x h2 h3 (ha y v y' m h2 h3 (hH.step x))).2 X y' An (ha y v y' _ h2 h3 A3).swap (hSx _ _ A2 h3) hX;rw[Act.put_comm a v _ (fun d e=>fun e2=>(o2 d e2) e)]at h4;rw[<-hlj,Array.setIfInBounds_comm _ _ (Ne.symm hij),hl];exact h4
 refine⟨?_,done⟩;have x1:Aa w (w.alloc (.cells zs.toArray T)):=(Aa.refl w).alloc _;refine wpAnyH_ready rfl (fun e=>by rw[e]at hne;cases hne) (fun k hk=> ?_);have A1:=List.all_eq_true.1 hr k hk;simp only[Bool.or_eq_true,beq_iff_eq]at A1;rcases A1 with rfl|rfl
 ·refine wpOp_step (by rw[aZZ];exact hi) (fun K' hK=> ?_)
  rw[if_pos hw];obtain⟨v,x',h1,h2,h3⟩:=hc w (Aa.refl w);unfold Oper.wp;rw[h1];refine hK _ _ ⟨hSx _ _ hSw h3,?_⟩;rw[hl];exact(h w v x' (Aa.refl w) h2 h3 (ha w v x' m h2 h3 hH)).1
 refine wpOp_step (by rw[aZZ];exact hj) (fun K' hK=> ?_);rw[if_pos (by simp[Region.wanted,hgj])];unfold Oper.wp;rw[hvj];refine hK _ _ ⟨hSx _ _ hSw x1,?_⟩;rw[hdj];exact done _ _ x1 (hH.alloc T zs hn) (hSx _ _ hSw x1) hb
end
section
variable {P:Program} {l:List Oper} {Q:Exit->Act->World->Prop} {md:Region.Mode} {S:World->Prop} {i ix fuel:Nat} {listed listed':Array Bool} {a:Act} {w w0:World} {m:List De} {oi:Oper}
theorem iG {α:Type}{f:α->List Value}(hli:l[i]?=some oi)(hr:Region.ready md l.toArray listed=[i])(hw:Region.wanted oi (yielded l.toArray a.tmps)=true)(hlt:listed.setIfInBounds i true=listed')(ty:TypeId)(x y:Operand)(ho:oi.op= .store ty x y){g n cap:Nat}{t:TypeId}{es:List α}(hH:Hp w0 w m)(hi:m[ix]?=some (.row t 1 (.slice (some ⟨g,0,none⟩) n cap) n (es.flatMap f)))
  (hc:∀x,(f x).length=1)(k:Nat)(z:α)(hk:k<es.length)(v:Value)(hf:f z=[v])(o:Nat)(hko:o=k*1)(hx:a.eval x= .pointer (some ⟨g,o,none⟩))(hy:a.eval y=v)(hz:(P.info? ty).map (·.size)=some 1)(hcc:v.cells=#[v])(h1:v.oneCell'=true)(hn:Aq [v])
  (h:∀w',Hp w0 w' (m.set ix (.row t 1 (.slice (some ⟨g,0,none⟩) n cap) n ((es.set k z).flatMap f)))->Af w w'->Bj g w w'->S w'/\wpAnyH P md l.toArray Q S fuel listed' (a.put oi.dst undef) w'):wpAnyH P md l.toArray Q S (fuel+1) listed a w:=by
 subst hko;have hl:k*1+1<=(es.flatMap f).length:=by rw[Do hc];omega
 refine Du hli hr (fun K hK=> ?_);rw[if_pos hw];refine Kh ty x y ho g (k*1) v hx hy ((hH.row hi).there (k*1) 1 hl) hz hcc h1 ?_;have h2:=hH.storeRow hi (k*1) [v] hl hn;have h5:=eY hc es k hk z;rw[hf]at h5;obtain⟨k1,k2⟩:=h _ (by rw[<-h5];exact h2) (hH.storeRowDig hi (k*1) [v]) (Dk w g (k*1) [v]);exact hK.out _ _ k1 (fun _=>by rw[hlt];exact k2)
end
theorem lI {P:Program}{o:Oper}{ρ:Operand->Value}{w:World}{A B:Int}{b:Bool}{t t':TypeId}{x y:Operand}(ho:o.op= .binOp .neq t x y t')(hx:ρ x= .int .u8 A)(hy:ρ y= .int .u8 B)(hE:decide (A≠B)=b):(execOp ρ o).run P w= .ok (.value (.bool b)) w:=by
  subst hE;unfold execOp;simp only[ho,hx,hy];simp[go_sem];by_cases h:A=B<;>simp[h]
theorem lJ {P:Program}{o:Oper}{ρ:Operand->Value}{w:World}{A B:Int}{b:Bool}{t t':TypeId}{x y:Operand}(ho:o.op= .binOp .eql t x y t')(hx:ρ x= .int .u8 A)(hy:ρ y= .int .u8 B)(hE:decide (A=B)=b):(execOp ρ o).run P w= .ok (.value (.bool b)) w:=by
  subst hE;unfold execOp;simp only[ho,hx,hy];simp[go_sem];by_cases h:A=B<;>simp[h]
theorem aFU {P:Program}{o:Oper}{ρ:Operand->Value}{p:Addr}{v:Value}(h:∀x:World,x.cell? p=some v->(execOp ρ o).run P x= .ok (.value v) x)(w:World)(hc:w.cell? p=some v):(execOp ρ o).run P w= .ok (.value v) w:=h w hc
section
variable {P:Program} {l:List Oper} {Q:Exit->Act->World->Prop} {md:Region.Mode} {S:World->Prop} {j i:Nat} {dj:Option Tmp} {u v:Value} {b:World} {fuel:Nat} {listed li lj:Array Bool} {a:Act} {w w':World} {oi oj:Oper}
theorem aDL (hi:l[i]?=some oi)(hj:l[j]?=some oj)(hs:Region.noSelect l.toArray=true)(hlj:listed.setIfInBounds j true=lj)
  (hr:((Region.ready md l.toArray listed).all fun k=>k==i||k==j)=true)(hne:(Region.ready md l.toArray listed).isEmpty=false)(hr2:Region.ready md l.toArray lj=[i])(hij:i≠j)(hoff:Gn l oi dj=true)(hdj:oj.dst=dj)(hgj:oj.guard=none)
  (hSx:∀x,Aa b x->S x)(hb:Aa b w)(hvj:∀x,Aa b x->(execOp a.eval oj).run P x= .ok (.value u) x)
  (hw:Region.wanted oi (yielded l.toArray a.tmps)=true)(hv:(execOp a.eval oi).run P w= .ok (.value v) w')(hx:Aa w w')(hl:listed.setIfInBounds i true=li)
  (h:Fd P md l Q S j dj u fuel li (a.put oi.dst v) w'):Fd P md l Q S j dj u (fuel+1) listed a w:=by
 obtain⟨o1,o2⟩:=Fj hoff;have A0:=fun cs b=>Region.noSelect_spec hs i oi cs b (by rw[aZZ];exact hi)
 have done:wpAnyH P md l.toArray Q S (fuel+1) (listed.setIfInBounds j true) (a.put dj u) w:=by
  rw[hlj];refine Mj hi hr2 (by rw[wanted_put oi a dj _ o1];exact hw) (by rw[execOp_put oi A0 a dj _ o1];exact hv) (hSx _ (hb.trans hx)) rfl ?_;have h3:=h.2;rw[Act.put_comm a v _ (fun d e=>fun e2=>(o2 d e2) e)]at h3;rw[<-hlj,Array.setIfInBounds_comm _ _ (Ne.symm hij),hl];exact h3
 refine⟨?_,done⟩;refine wpAnyH_ready rfl (fun e=>by rw[e]at hne;cases hne) (fun k hk=> ?_);have A1:=List.all_eq_true.1 hr k hk;simp only[Bool.or_eq_true,beq_iff_eq]at A1;rcases A1 with rfl|rfl
 ·refine wpOp_step (by rw[aZZ];exact hi) (fun K' hK=> ?_)
  rw[if_pos hw];unfold Oper.wp;rw[hv];refine hK _ _ ⟨hSx _ (hb.trans hx),?_⟩;rw[hl];exact h.1
 refine wpOp_step (by rw[aZZ];exact hj) (fun K' hK=> ?_);rw[if_pos (by simp[Region.wanted,hgj])];unfold Oper.wp;rw[hvj w hb];refine hK _ _ ⟨hSx _ hb,?_⟩;rw[hdj];exact done
end
theorem aEW:Zo prog 47 5 1 1:=Zo.of (z:= .int .u8 0) underlying47 (by kernel_rfl) rfl (by simp[Aq,Value.cells]) (by decide)
theorem aBS:(prog.info? 5).map (fun i=>(i.zero,i.size,i.bytes))=some (some (.int .u8 0),1,1):=by kernel_rfl
def Bp (x:Int):List Value:=[.int .u8 x]
theorem Jk:∀x,(Bp x).length=1:=fun _=>rfl
theorem lG (n:Nat):List.flatMap Bp (List.replicate n 0)=List.replicate n (Value.int .u8 0):=by
  induction n with
  |zero=>rfl
  |succ n ih=>rw[List.replicate_succ,List.flatMap_cons,ih,List.replicate_succ];rfl
theorem aBR (n:Nat):madeCells #[Value.int .u8 0] n=(List.flatMap Bp (List.replicate n 0)).toArray:=by
  rw[lG];apply Array.ext
  · rw[size_madeCells];simp
  intro i h1 h2;simp[madeCells,Nat.mod_one]
theorem aDH (n:Nat)(hn:n<=4000000)(w:World):
    (Instr.makeSlice 47 (iV (n:Int)) (iV (n:Int))).run prog w= .ok (.slice (some ⟨w.heap.size,0,none⟩) n n) (w.alloc (.cells (List.flatMap Bp (List.replicate n 0)).toArray 5)):=by
  rw[<-aBR];exact run_make_row' 47 5 (.int .u8 0) 1 underlying47 aBS rfl .i64 .i64 n ω ω w
theorem yQ {o:Oper}{ρ:Operand->Value}{w:World}{n:Nat}{x y:Operand}(ho:o.op= .makeSlice 47 x y)(hx:ρ x= iV (n:Int))(hy:ρ y= iV (n:Int))(hn:n<=4000000):
    (execOp ρ o).run prog w= .ok (.value (.slice (some ⟨w.heap.size,0,none⟩) n n)) (w.alloc (.cells (List.flatMap Bp (List.replicate n 0)).toArray 5)):=by
  have h:=aDH n hn w;unfold execOp;simp only[ho,hx,hy];simp[go_sem,h]
theorem Be.u8 (w:World)(n:Nat)(hn:n<=maxLen):Be (w.alloc (.cells (List.flatMap Bp (List.replicate n 0)).toArray 5)) w.heap.size 5 1 (.slice (some ⟨w.heap.size,0,none⟩) n n) n (List.flatMap Bp (List.replicate n 0)):=by
  rw[lG];refine⟨by simp,.inr ⟨w.heap.size,n,[],rfl,Ck _,by rw[gZZ];exact Ad.new w _ _,Ck _,hn,by simp,?_⟩⟩;intro x hx;rw[gZZ]at hx;rw[List.eq_of_mem_replicate hx];intro k h;cases h
end
section
def Db (t p:Int×Int):Int×Int:=(p.1+t.1,p.2+t.2)
theorem Qh (t a b:Int×Int):dv (Db t a) (Db t b)=dv a b:=by unfold dv Db;exact Prod.ext (by dsimp only;omega) (by dsimp only;omega)
theorem Qa (t a b:Int×Int):Dw (Db t a) (Db t b)=Dw a b:=by
  rw[Bool.eq_iff_iff,Nb,Nb];unfold Db;dsimp only
  omega
theorem Ub {t a b:Int×Int}:Db t a=Db t b↔a=b:=by
  unfold Db;constructor
  · intro h;injection h with h1 h2;exact Prod.ext ω (ω)
  intro h;rw[h]
theorem lM (t a b:Int×Int):Gb (Db t a) (Db t b)=Db t (Gb a b):=by unfold Gb;rw[Qa];split<;>rfl
theorem lN (t a b:Int×Int):Er (Db t a) (Db t b)=Db t (Er a b):=by unfold Er;rw[Qa];split<;>rfl
theorem aAT (t a b c d:Int×Int):Lf (Db t a) (Db t b) (Db t c) (Db t d)=Db t (Lf a b c d):=by
  unfold Lf;rw[lM,lM,Qa];split<;>rfl
theorem aAU (t a b c d:Int×Int):Pd (Db t a) (Db t b) (Db t c) (Db t d)=Db t (Pd a b c d):=by
  unfold Pd;rw[lN,lN,Qa];split<;>rfl
theorem Xz (t a b c d:Int×Int):(Ay (Db t a) (Db t b) (Db t c) (Db t d)).2=(Ay a b c d).2/\((Ay a b c d).2=1->(Ay (Db t a) (Db t b) (Db t c) (Db t d)).1=Db t (Ay a b c d).1):=by
 unfold Ay;rw[aAT,aAU,Qa];by_cases h:Dw (Pd a b c d) (Lf a b c d)=true
 ·rw[if_pos h,if_pos h];exact⟨rfl,fun k=>by cases k⟩
 rw[if_neg h,if_neg h];by_cases k:Lf a b c d=Pd a b c d
 ·rw[if_pos k,if_pos (Ub.2 k)];exact⟨rfl,fun _=>rfl⟩
 rw[if_neg k,if_neg (fun e=>k (Ub.1 e))];exact⟨rfl,fun k=>by cases k⟩
theorem kD (t a b c d:Int×Int):Ig (Db t a) (Db t b) (Db t c) (Db t d)=Ig a b c d:=by unfold Ig;rw[Qh,Qh,Qh]
theorem wO (t a b c d:Int×Int):Lg (Db t a) (Db t b) (Db t c) (Db t d)=Lg a b c d:=by unfold Lg;rw[Qh,Qh,Qh]
theorem wP (t a b c d:Int×Int):Ff (Db t a) (Db t b) (Db t c) (Db t d)=Ff a b c d:=by
  unfold Ff Cl;rw[kD,wO,(Xz t a b c d).1];simp only[Qh,ne_eq,Ub]
theorem wN {t a b c d:Int×Int}(h:Ff a b c d=1):Xc (Db t a) (Db t b) (Db t c) (Db t d)=Xc a b c d+(t.1:Rat)/\Kj (Db t a) (Db t b) (Db t c) (Db t d)=Kj a b c d+(t.2:Rat):=by
 unfold Xc Kj;rw[Qh,Qh];by_cases h0:cr (dv a b) (dv c d)=0
 ·rw[if_neg (by simpa using h0),if_neg (by simpa using h0),if_neg (by simpa using h0),if_neg (by simpa using h0)]
  rw[Ur h0]at h;by_cases k:Oe a b c d
  ·rw[if_pos k]at h;cases h
  rw[if_neg k]at h;rw[(Xz t a b c d).2 h];unfold Db;dsimp only
  rw[Rat.intCast_add,Rat.intCast_add];exact⟨rfl,rfl⟩
 rw[if_pos h0,if_pos h0,if_pos h0,if_pos h0,kD];have e1:(Db t b).1-(Db t a).1=b.1-a.1:=by unfold Db;dsimp only;omega
 have e2:(Db t b).2-(Db t a).2=b.2-a.2:=by unfold Db;dsimp only;omega
 rw[e1,e2];unfold Db;dsimp only
 rw[Rat.intCast_add,Rat.intCast_add];exact⟨by grind,by grind⟩
def Pb (t:Int×Int)(e:Cx):Cx:=(Db t e.1,Db t e.2)
def Kp (t:Int×Int)(rs:List Ac):List Ac:=rs.map fun r=>r.map (Db t)
theorem pW (t:Int×Int)(r:Ac)(i:Nat):Ji (r.map (Db t)) i=(Ji r i).map (Pb t):=by
  unfold Ji;rw[dZZ,kQQ,kQQ];cases r[i]?with
  |none=>rfl
  | some a=>
    cases r[(i+1)%r.length]?with
    |none=>rfl
    | some b=>
      show(if Db t a=Db t b then none else some (Db t a,Db t b))=Option.map (Pb t) (if a=b then none else some (a,b));by_cases h:a=b
      · rw[if_pos h,if_pos (by rw[h])];rfl
      rw[if_neg h,if_neg (fun e=>h (Ub.1 e))];rfl
theorem nK (t:Int×Int)(r:Ac)(n:Nat):Eh (r.map (Db t)) n=(Eh r n).map (Pb t):=by
  unfold Eh;rw[List.map_filterMap];congr 1;funext i;exact pW t r i
theorem Rv (t:Int×Int)(rs:List Ac):Ba (Kp t rs)=(Ba rs).map (Pb t):=by
  unfold Ba Kp;rw[List.flatMap_map,List.map_flatMap];congr 1;funext r;rw[dZZ,nK]
theorem vV (t:Int×Int)(e:Cx)(y:Rat):aCK (Pb t e) (y+(t.2:Rat))=aCK e y+(t.1:Rat):=by
  unfold aCK Fe Pb Db;dsimp only
  rw[show e.2.2+t.2-(e.1.2+t.2)=e.2.2-e.1.2 from ω,show e.2.1+t.1-(e.1.1+t.1)=e.2.1-e.1.1 from ω,Rat.intCast_add,Rat.intCast_add];grind
theorem qC (t:Int×Int)(e:Cx)(y:Rat):Fv (y+(t.2:Rat)) (Pb t e)=(Fv y e).map fun m=>(m.1+(t.1:Rat),m.2):=by
 have hx:=vV t e y;unfold aCK at hx;unfold Fv;have e1:(((Pb t e).1.2:Int):Rat)=(e.1.2:Rat)+(t.2:Rat):=by unfold Pb Db;dsimp only;rw[Rat.intCast_add]
 have e2:(((Pb t e).2.2:Int):Rat)=(e.2.2:Rat)+(t.2:Rat):=by unfold Pb Db;dsimp only;rw[Rat.intCast_add]
 rw[e1,e2,hx];have p1:((e.1.2:Rat)+(t.2:Rat)<y+(t.2:Rat)/\y+(t.2:Rat)<(e.2.2:Rat)+(t.2:Rat))↔((e.1.2:Rat)<y/\y<(e.2.2:Rat)):=by constructor<;>rintro⟨a,b⟩<;>constructor<;>grind
 have p2:((e.2.2:Rat)+(t.2:Rat)<y+(t.2:Rat)/\y+(t.2:Rat)<(e.1.2:Rat)+(t.2:Rat))↔((e.2.2:Rat)<y/\y<(e.1.2:Rat)):=by constructor<;>rintro⟨a,b⟩<;>constructor<;>grind
 by_cases a:(e.1.2:Rat)<y/\y<(e.2.2:Rat)
 ·rw[if_pos a,if_pos (p1.2 a)];rfl
 rw[if_neg a,if_neg (fun h=>a (p1.1 h))];by_cases b:(e.2.2:Rat)<y/\y<(e.1.2:Rat)
 ·rw[if_pos b,if_pos (p2.2 b)];rfl
 rw[if_neg b,if_neg (fun h=>b (p2.1 h))];rfl
theorem iU {t:Int×Int}{rs:List Ac}(h1:En rs=true)(h2:En (Kp t rs)=true):Dl (Kp t rs)=(Dl rs).map (Pb t):=by rw[Nh h1,Nh h2,Rv]
theorem oS {t:Int×Int}{rs:List Ac}(h1:En rs=true)(h2:En (Kp t rs)=true)(y:Rat):Dp (y+(t.2:Rat)) (Kp t rs)=(Dp y rs).map fun m=>(m.1+(t.1:Rat),m.2):=by
 rw[Gf,Gf,iU h1 h2,List.filterMap_map];rw[mI (fun m:QI=>(m.1+(t.1:Rat),m.2)) (lt':=oU) _ (fun x _ z _=>by
  rw[Bool.eq_iff_iff,Jz,Jz];constructor
  ·rintro(h|⟨h,k⟩)
   ·exact .inl (by grind)
   exact .inr ⟨by grind,k⟩
  rintro(h|⟨h,k⟩)
  ·exact .inl (by grind)
  exact .inr ⟨by grind,k⟩),List.map_filterMap]
 congr 2;funext e;exact qC t e y
theorem Ri (y:Rat)(rs:List Ac):(Dp y rs).Pairwise (fun a b=>a.1<=b.1):=by
  rw[Gf];refine(Stb.stab_srt aEI _).imp (fun {a b} h=> ?_);have h2:¬oU b a=true:=by rw[h];decide
  rw[Jz]at h2;exact Rat.not_lt.1 (fun c=>h2 (.inl c))
theorem Pa (rule:Int)(a b:Int×Int)(rs:List Ac)(y:Rat):Hg rule a b rs y=Ed (a.1:Rat) (b.1:Rat) (Tg rule (Gw 0 (Dp y rs))):=by
  unfold Hg Ld;rw[iE _ _ (mY rule (Ri y rs))]
theorem aAW (c:Rat)(rule:Int)(ms:List QI):Tg rule (Gw 0 (ms.map fun m=>(m.1+c,m.2)))=(Tg rule (Gw 0 ms)).map fun p=>(p.1+c,p.2+c):=by
  have h1:=kB (fun x:Rat=>x+c) rule ms;have h2:=kB (fun x:Rat=>x) rule ms;rw[List.map_id'' (fun _=>rfl)]at h2;rw[h1,h2,List.map_map];rfl
theorem xY (f t c:Rat)(p:QQ):Ev (f+c) (t+c) (p.1+c,p.2+c)=Ev f t p:=by
 unfold Ev;dsimp only
 have e1:(if p.1+c<f+c then f+c else p.1+c)=(if p.1<f then f else p.1)+c:=by
  by_cases h:p.1<f
  ·rw[if_pos h,if_pos (by grind)]
  rw[if_neg h,if_neg (by grind)]
 have e2:(if t+c<p.2+c then t+c else p.2+c)=(if t<p.2 then t else p.2)+c:=by
  by_cases h:t<p.2
  ·rw[if_pos h,if_pos (by grind)]
  rw[if_neg h,if_neg (by grind)]
 rw[e1,e2];generalize (if p.1<f then f else p.1)=u;generalize (if t<p.2 then t else p.2)=v;by_cases h:u<v
 ·rw[if_pos h,if_pos (by grind)];grind
 rw[if_neg h,if_neg (by grind)]
theorem kW (f t c:Rat):∀l:List QQ,Ed (f+c) (t+c) (l.map fun p=>(p.1+c,p.2+c))=Ed f t l
  | []=>rfl
  |p::l=>by rw[List.map_cons,Cd,Cd,xY,kW f t c l]
theorem vX {t:Int×Int}{rs:List Ac}(rule:Int)(a b:Int×Int)(h1:En rs=true)(h2:En (Kp t rs)=true)(y:Rat):Hg rule (Db t a) (Db t b) (Kp t rs) (y+(t.2:Rat))=Hg rule a b rs y:=by
  rw[Pa,Pa,oS h1 h2,aAW];have e1:(((Db t a).1:Int):Rat)=(a.1:Rat)+(t.1:Rat):=by unfold Db;dsimp only;rw[Rat.intCast_add]
  have e2:(((Db t b).1:Int):Rat)=(b.1:Rat)+(t.1:Rat):=by unfold Db;dsimp only;rw[Rat.intCast_add]
  rw[e1,e2,kW]
theorem Wn {W V:Rat->Rat}{c:Rat}(h:∀y,W (y+c)=V y):∀l:List Rat,Cv W (l.map (· +c))=Cv V l
 | []=>rfl
 | [x]=>rfl
 |x::y::l=>by
  have ih:=Wn h (y::l);show W ((x+c+(y+c))/2)*(y+c-(x+c))+Cv W ((y::l).map (· +c))=V ((x+y)/2)*(y-x)+Cv V (y::l);rw[ih,<-h];have e:(x+c+(y+c))/2=(x+y)/2+c:=by
   rw[Rat.div_def,Rat.div_def];have e2:(2:Rat)⁻¹+(2:Rat)⁻¹=1:=by decide+kernel
   generalize (2:Rat)⁻¹=i at*;grind
  rw[e];grind
theorem kK (c y:Rat):∀l:List Rat,Kk (l.map (· +c)) (y+c)=(Kk l y).map (· +c)
  | []=>rfl
  | x::l=>by
    have ih:=kK c y l;rw[List.map_cons];unfold Kk;by_cases h:x<y
    · rw[if_pos h,if_pos (by grind),ih];rfl
    rw[if_neg h,if_neg (by grind)];by_cases k:x=y
    · rw[if_pos k,if_pos (by grind)];rfl
    rw[if_neg k,if_neg (by grind)];rfl
theorem aK (c lo hi:Rat):∀all l:List Rat,Rb (lo+c) (hi+c) (l.map (· +c)) (all.map (· +c))=(Rb lo hi l all).map (· +c)
  | [],l=>rfl
  | x::all,l=>by
    show Rb (lo+c) (hi+c) (if lo+c<x+c/\x+c<hi+c then Kk (l.map (· +c)) (x+c)else l.map (· +c)) (all.map (· +c))=(Rb lo hi (if lo<x/\x<hi then Kk l x else l) all).map (· +c);by_cases h:lo<x/\x<hi
    · rw[if_pos h,if_pos (by constructor<;>grind),kK,aK]
    rw[if_neg h,if_neg (fun k=>h (by constructor<;>grind)),aK]
theorem wQ (t:Int×Int)(o e:Cx):Ks (Pb t o) (Pb t e)=(Ks o e).map (· +(t.2:Rat)):=by
  unfold Ks Pb;dsimp only
  rw[wP];split
  · rename_i h;rw[(wN h).2];rfl
  rfl
theorem jK {t:Int×Int}{e:Cx}{x:Int}(h1:Dj e.1/\Dj e.2)(h2:Dj (Db t e.1)/\Dj (Db t e.2)):Kg (Pb t e) (x+t.1)=(Kg e x).map (· +(t.2:Rat)):=by
 unfold Kg Pb;dsimp only
 have hc:Oy (Db t e.1) (Db t e.2) (x+t.1)↔Oy e.1 e.2 x:=by
  unfold Oy;constructor
  ·rintro⟨_,_,a,b,c⟩
   refine⟨h1.1,h1.2,?_⟩;unfold Db at a b c;dsimp only at a b c
   omega
  rintro⟨_,_,a,b,c⟩;refine⟨h2.1,h2.2,?_⟩;unfold Db;dsimp only
  omega
 have hq:Kn (Db t e.1) (Db t e.2) (x+t.1)=Kn e.1 e.2 x+(t.2:Rat):=by
  unfold Kn Db;dsimp only
  rw[show x+t.1-(e.1.1+t.1)=x-e.1.1 from ω,show e.2.1+t.1-(e.1.1+t.1)=e.2.1-e.1.1 from ω,show e.2.2+t.2-(e.1.2+t.2)=e.2.2-e.1.2 from ω,Rat.intCast_add];grind
 by_cases k:Oy e.1 e.2 x
 ·rw[if_pos k,if_pos (hc.2 k),hq];rfl
 rw[if_neg k,if_neg (fun z=>k (hc.1 z))];rfl
theorem kH (t a b:Int×Int):∀(l p:List Cx),(∀e,e∈l->(Dj e.1/\Dj e.2)/\Dj (Db t e.1)/\Dj (Db t e.2))->Jm (Db t a) (Db t b) (p.map (Pb t)) (l.map (Pb t))=(Jm a b p l).map (· +(t.2:Rat))
  | [],p,_=>rfl
  | x::l,p,h=>by
    have ih:=kH t a b l (p++[x]) fun e he=>h e (cXX _ he)
    obtain⟨k1,k2⟩:=h x dXX;show Ea (Db t a) (Db t b) (p.map (Pb t)) (Pb t x)++Jm (Db t a) (Db t b) (p.map (Pb t)++[Pb t x]) (l.map (Pb t))=(Ea a b p x++Jm a b (p++[x]) l).map (· +(t.2:Rat));rw[fXX,List.map_cons,List.map_nil]at ih;rw[ih,fXX];congr 1;unfold Ea;have e1:=jK (x:=a.1) k1 k2;have e2:=jK (x:=b.1) k1 k2;show(p.map (Pb t)).flatMap (fun o=>Ks (Pb t x) o)++Kg (Pb t x) (a.1+t.1)++Kg (Pb t x) (b.1+t.1)=_;rw[e1,e2,fXX,fXX,List.flatMap_map,List.map_flatMap];congr 3;funext o;exact wQ t x o
theorem kG (t:Int×Int):∀rs:List Ac,Su (Kp t rs)=(Su rs).map (· +(t.2:Rat))
  | []=>rfl
  | r::rs=>by
    have ih:=kG t rs;show(r.map (Db t)).map (fun p=>(p.2:Rat))++Su (Kp t rs)=(r.map (fun p=>(p.2:Rat))++Su rs).map (· +(t.2:Rat));rw[ih,fXX,List.map_map,List.map_map];congr 2;funext p;show(((p.2+t.2:Int)):Rat)=(p.2:Rat)+(t.2:Rat);rw[Rat.intCast_add]
theorem wW {t a b:Int×Int}{rs:List Ac}(h1:En rs=true)(h2:En (Kp t rs)=true)(ha:Dj a)(hb:Dj b)(ha2:Dj (Db t a))(hb2:Dj (Db t b)):Dx (Db t a) (Db t b) (Kp t rs)=(Dx a b rs).map (· +(t.2:Rat)):=by
 have e1:(((Db t a).2:Int):Rat)=(a.2:Rat)+(t.2:Rat):=by unfold Db;dsimp only;rw[Rat.intCast_add]
 have e2:(((Db t b).2:Int):Rat)=(b.2:Rat)+(t.2:Rat):=by unfold Db;dsimp only;rw[Rat.intCast_add]
 unfold Dx;by_cases c:a.2<b.2
 ·rw[if_pos (show Kv a b rs from⟨h1,ha,hb,c⟩),if_pos (show Kv (Db t a) (Db t b) (Kp t rs)from⟨h2,ha2,hb2,by unfold Db;dsimp only;omega⟩),e1,e2,<-aK]
  congr 1;unfold Lh;rw[fXX,kG,Rv];congr 1;refine kH t a b (Ba rs) [] fun e he=> ?_
  have hm:Pb t e∈Ba (Kp t rs):=by rw[Rv];exact List.mem_map_of_mem he
  obtain⟨r,hr,x1,x2⟩:=Kx he;obtain⟨r',A0,y1,y2⟩:=Kx hm;exact⟨⟨Ia h1 hr x1,Ia h1 hr x2⟩,Ia h2 A0 y1,Ia h2 A0 y2⟩
 have n1:¬Kv a b rs:=fun k=>c k.2.2.2
 have n2:¬Kv (Db t a) (Db t b) (Kp t rs):=fun k=>c (by have h:=k.2.2.2;unfold Db at h;dsimp only at h;omega)
 rw[if_neg n1,if_neg n2];rfl
theorem zL {t a b:Int×Int}{rs:List Ac}(rule:Int)(h1:En rs=true)(h2:En (Kp t rs)=true)(ha:Dj a)(hb:Dj b)(ha2:Dj (Db t a))(hb2:Dj (Db t b)):Gq rule (Db t a) (Db t b) (Kp t rs)=Gq rule a b rs:=by
  unfold Gq;have e:((Db t b).1<=(Db t a).1\/(Db t b).2<=(Db t a).2)↔(b.1<=a.1\/b.2<=a.2):=by unfold Db;dsimp only;omega
  simp only[e];rw[wW h1 h2 ha hb ha2 hb2,Wn fun y=>vX rule a b h1 h2 y]
theorem Tx {a b:Int×Int}(_:a.2≠b.2)(y:Rat):Fe a.1 a.2 b.1 b.2 y=(a.1:Rat)+(y-(a.2:Rat))*(((b.1:Rat)-a.1)/((b.2:Rat)-a.2)):=by
  unfold Fe;rw[Rat.div_def,Rat.div_def,Rat.intCast_sub,Rat.intCast_sub,show((1:Int):Rat)=1 from rfl];grind
theorem lY {a b:Int×Int}(h:a.2≠b.2)(y:Rat):Fe b.1 b.2 a.1 a.2 y=(a.1:Rat)+(y-(a.2:Rat))*(((b.1:Rat)-a.1)/((b.2:Rat)-a.2)):=by
 rw[Tx (Ne.symm h)];have h1:(b.2:Rat)-a.2≠0:=by
  intro c;have:(a.2:Rat)=(b.2:Rat):=by grind
  exact h (by exact_mod_cast this)
 have h2:(a.2:Rat)-b.2≠0:=by grind
 have k1:=Rat.mul_inv_cancel _ h1;have k2:=Rat.mul_inv_cancel _ h2;rw[Rat.div_def,Rat.div_def];have e:((a.2:Rat)-b.2)⁻¹= -(((b.2:Rat)-a.2)⁻¹):=by
  generalize ((b.2:Rat)-a.2)⁻¹=i at*;generalize ((a.2:Rat)-b.2)⁻¹=j at*;generalize (a.2:Rat)=p at*;generalize (b.2:Rat)=q at*;have:i+j=0:=by
   have:(i+j)*((q-p)*(p-q))=0:=by grind
   rcases Rat.mul_eq_zero.1 this with h|h
   ·exact h
   rcases Rat.mul_eq_zero.1 h with h|h<;>contradiction
  grind
 rw[e];generalize ((b.2:Rat)-a.2)⁻¹=i at*;generalize (a.2:Rat)=p at*;generalize (b.2:Rat)=q at*;generalize (a.1:Rat)=u at*;generalize (b.1:Rat)=v at*;grind
theorem jO {p q:Int×Int}{f t y:Rat}(h:((p.2:Rat)<y/\y<(q.2:Rat))\/((q.2:Rat)<y/\y<(p.2:Rat)))(hp:f<=(p.1:Rat)/\(p.1:Rat)<=t)(hq:f<=(q.1:Rat)/\(q.1:Rat)<=t):f<=Fe p.1 p.2 q.1 q.2 y/\Fe p.1 p.2 q.1 q.2 y<=t:=by
 have ne:p.2≠q.2:=fun c=>by rw[c]at h;grind
 rw[Tx ne];have h1:(q.2:Rat)-p.2≠0:=by grind
 have k1:=Rat.mul_inv_cancel _ h1;rw[Rat.div_def];obtain⟨s,hs⟩:∃s,s=(y-(p.2:Rat))*((q.2:Rat)-p.2)⁻¹:=⟨_,rfl⟩;have e1:s*((q.2:Rat)-p.2)=y-(p.2:Rat):=by rw[hs];generalize ((q.2:Rat)-p.2)⁻¹=i at*;grind
 have b1:0<=s:=by
  refine Rat.not_lt.1 (fun c=> ?_);rcases h with h|h
  ·have:=Rat.mul_lt_mul_of_pos_right c (show 0<(q.2:Rat)-p.2 by grind);grind
  have:=Rat.mul_lt_mul_of_pos_right c (show 0<(p.2:Rat)-q.2 by grind);grind
 have b2:s<=1:=by
  refine Rat.not_lt.1 (fun c=> ?_);have c':0<s-1:=by grind
  rcases h with h|h
  ·have:=Rat.mul_lt_mul_of_pos_right c' (show 0<(q.2:Rat)-p.2 by grind);grind
  have:=Rat.mul_lt_mul_of_pos_right c' (show 0<(p.2:Rat)-q.2 by grind);grind
 have e2:(p.1:Rat)+(y-(p.2:Rat))*(((q.1:Rat)-p.1)*((q.2:Rat)-p.2)⁻¹)=(1-s)*(p.1:Rat)+s*(q.1:Rat):=by rw[hs];grind
 rw[e2];have m1:=Rat.mul_nonneg b1 (show 0<=(q.1:Rat)-f by grind);have m2:=Rat.mul_nonneg (show 0<=1-s by grind) (show 0<=(p.1:Rat)-f by grind);have m3:=Rat.mul_nonneg b1 (show 0<=t-(q.1:Rat)by grind);have m4:=Rat.mul_nonneg (show 0<=1-s by grind) (show 0<=t-(p.1:Rat)by grind);grind
end
section
theorem kT {a b:Int}(h:(a:Rat)<(b:Rat)):a<b:=by exact_mod_cast h
theorem kY {a b:Int}(h:a<=b):(a:Rat)<=(b:Rat):=by exact_mod_cast h
theorem vE {q:Int×Int}:∀{l:List (Int×Int)} {m:(Int×Int)×(Int×Int)},(q∈l\/(m.1.1<=q.1/\q.1<=m.2.1/\m.1.2<=q.2/\q.2<=m.2.2))->(l.foldl iC m).1.1<=q.1/\q.1<=(l.foldl iC m).2.1/\(l.foldl iC m).1.2<=q.2/\q.2<=(l.foldl iC m).2.2
  | [],m,h=>by rcases h with h|h;(cases h);exact h
  | p::l,m,h=>by
    refine vE (l:=l) (m:=iC m p) ?_;rcases h with h|h
    · rcases List.mem_cons.1 h with e|e
      · subst e;right;unfold iC;simp only;omega
      exact .inl e
    right;unfold iC;simp only;omega
theorem vC {rs:List Ac}{q:Int×Int}(h:q∈rs.flatten):(Fx rs).1.1<=q.1/\q.1<=(Fx rs).2.1/\(Fx rs).1.2<=q.2/\q.2<=(Fx rs).2.2:=vE (.inl h)
theorem Pz {y:Rat}{rs:List Ac}{m:QI}(h:m∈Dp y rs):((Fx rs).1.2:Rat)<y/\y<((Fx rs).2.2:Rat)/\((Fx rs).1.1:Rat)<=m.1/\m.1<=((Fx rs).2.1:Rat):=by
 rw[Gf,Stb.mem_stab]at h;obtain⟨e,he,h⟩:=List.mem_filterMap.1 h;have A0:e∈Ba rs:=by
  unfold Dl at he;split at he
  ·exact he
  simp[Ba]at he
 obtain⟨r,hr,p1,p2⟩:=Kx A0;have b1:=vC (List.mem_flatten.2 ⟨r,hr,p1⟩);have b2:=vC (List.mem_flatten.2 ⟨r,hr,p2⟩);have c1:((Fx rs).1.1:Rat)<=(e.1.1:Rat):=by exact_mod_cast b1.1
 have c2:(e.1.1:Rat)<=((Fx rs).2.1:Rat):=by exact_mod_cast b1.2.1
 have c3:((Fx rs).1.2:Rat)<=(e.1.2:Rat):=by exact_mod_cast b1.2.2.1
 have c4:(e.1.2:Rat)<=((Fx rs).2.2:Rat):=by exact_mod_cast b1.2.2.2
 have d1:((Fx rs).1.1:Rat)<=(e.2.1:Rat):=by exact_mod_cast b2.1
 have d2:(e.2.1:Rat)<=((Fx rs).2.1:Rat):=by exact_mod_cast b2.2.1
 have d3:((Fx rs).1.2:Rat)<=(e.2.2:Rat):=by exact_mod_cast b2.2.2.1
 have d4:(e.2.2:Rat)<=((Fx rs).2.2:Rat):=by exact_mod_cast b2.2.2.2
 unfold Fv at h;split at h
 ·rename_i c
  have k:=jO (.inl c) ⟨c1,c2⟩ ⟨d1,d2⟩;injection h with h;rw[<-h]
  exact⟨by grind,by grind,k.1,k.2⟩
 split at h
 ·rename_i c
  have k:=jO (.inr c) ⟨c1,c2⟩ ⟨d1,d2⟩;injection h with h;rw[<-h]
  exact⟨by grind,by grind,k.1,k.2⟩
 cases h
theorem Vs {f t:Rat}:∀{l:List QQ},(∀p,p∈l->(p.1<=f/\p.2<=f)\/(t<=p.1/\t<=p.2)\/p.1=p.2)->Ed f t l=0
  | [],_=>rfl
  | p::l,h=>by
    have h1:Ev f t p=0:=by have:=h p dXX;unfold Ev;grind
    rw[Cd,h1,Vs fun q hq=>h q (cXX _ hq)];grind
def R4.In (b:R4)(x y:Int):Prop:=(b.y0<=y/\y<b.y1)/\b.x0<=x/\x<b.x1
theorem vW {rule x y:Int}{rs:List Ac}(h:¬(Lk rs).In x y){z:Rat}(z1:((y*256:Int):Rat)<z)(z2:z<((y*256+256:Int):Rat)){b:Int×Int}(hb:b.1=x*256+256){a:Int×Int}(ha:a.1=x*256):Hg rule a b rs z=0:=by
 unfold Hg;by_cases hm:∀m,m∉Dp z rs
 ·have e:Dp z rs=[]:=List.eq_nil_iff_forall_not_mem.2 hm
  rw[e];refine Vs fun p hp=> ?_
  have:=(Kr (P:=fun _=>False) (rule:=rule) (ms:=[]) (fun m hm=>by cases hm) p hp).1;exact this.elim
 obtain⟨m,hm⟩:∃m,m∈Dp z rs:=Classical.byContradiction fun c=>hm fun m k=>c ⟨m,k⟩
 have k:=Pz hm;have k1:((Fx rs).1.2:Rat)<((y*256+256:Int):Rat):=by grind
 have k2:((y*256:Int):Rat)<((Fx rs).2.2:Rat):=by grind
 have k3:((Fx rs).1.2:Rat)<((Fx rs).2.2:Rat):=by grind
 have l1:(Fx rs).1.2<y*256+256:=kT k1;have l2:y*256<(Fx rs).2.2:=kT k2;have l3:(Fx rs).1.2<(Fx rs).2.2:=by exact_mod_cast k3
 have k4:((Fx rs).1.1:Rat)<=((Fx rs).2.1:Rat):=by grind
 have l4:(Fx rs).1.1<=(Fx rs).2.1:=by exact_mod_cast k4
 have hx:(Fx rs).1.1=(Fx rs).2.1\/(Fx rs).2.1<=x*256\/x*256+256<=(Fx rs).1.1:=by
  refine Classical.byContradiction fun c=>h ?_
  have hf:rs.flatten≠ []:=fun e=>by
   have:Fx rs=((0,0),(0,0)):=by unfold Fx;rw[e];rfl
   rw[this]at l3;exact absurd l3 (by decide)
  have e1:¬(Wu rs).x1<=(Wu rs).x0:=by unfold Wu;simp only;omega
  have e2:¬(Wu rs).y1<=(Wu rs).y0:=by unfold Wu;simp only;omega
  have e3:Lk rs=Wu rs:=(if_neg hf).trans ((if_neg e1).trans (if_neg e2));rw[e3];unfold R4.In Wu;simp only;omega
 refine Vs fun p hp=> ?_
 rw[ha,hb];rcases hx with hx|hx|hx
 ·have q:((Fx rs).1.1:Rat)=((Fx rs).2.1:Rat):=by rw[hx]
  have:=Kr (P:=fun r=>r=((Fx rs).1.1:Rat)) (rule:=rule) (ms:=Dp z rs) (fun m hm=>by have:=Pz hm;grind) p hp;right;right;rw[this.1,this.2]
 ·have q:((Fx rs).2.1:Rat)<=((x*256:Int):Rat):=kY hx
  have:=Kr (P:=fun r=>r<=((x*256:Int):Rat)) (rule:=rule) (ms:=Dp z rs) (fun m hm=>by have:=Pz hm;grind) p hp;exact .inl this
 have q:((x*256+256:Int):Rat)<=((Fx rs).1.1:Rat):=kY hx;have:=Kr (P:=fun r=>((x*256+256:Int):Rat)<=r) (rule:=rule) (ms:=Dp z rs) (fun m hm=>by have:=Pz hm;grind) p hp;exact .inr (.inl this)
theorem lT {x y:Int}(h:Dh (Bd x y).1 (Bd x y).2=true):Bd x y=(x*256,y*256):=by
  unfold Bd at h⊢;split
  · rename_i c;rw[if_pos c]at h;exact absurd h (by decide)
  rfl
theorem aBE {x y:Int}(h:Dh (Bd x y).1 (Bd x y).2=true)(h2:Dh (Je x y).1 (Je x y).2=true):Je x y=(x*256+256,y*256+256):=by
  have e:Je x y=Bd (x+1) (y+1):=if_pos h;rw[e]at h2⊢;rw[lT h2];refine Prod.ext ?_ ?_<;>simp only<;>omega
theorem vI {rule x y:Int}{rs:List Ac}(he:Gt rule (Bd x y) (Je x y) rs=0)(h:¬(Lk rs).In x y):Gq rule (Bd x y) (Je x y) rs=0:=by
 obtain⟨h1,_,h2,h3⟩:=Nd.1 he;have e1:=lT h2;have e2:=aBE h2 h3;have oa:Dj (Bd x y):=h2;have ob:Dj (Je x y):=h3;rw[e1]at oa⊢;rw[e2]at ob⊢;have k:Kv (x*256,y*256) (x*256+256,y*256+256) rs:=⟨h1,oa,ob,by simp only;omega⟩;rw[vJ k.2.2.2 (by simp only;omega)];obtain⟨u,l,e3,e4,e5⟩:=nN k;rw[lV (c:=0) (dL k).srt ?_]
 ·exact Rx (fun _=>rfl) _
 intro z z1 z2;rw[e3]at z1 z2;exact vW h (by have:=z1 u rfl;rw[e4]at this;exact this) (z2 _ e5) rfl rfl
theorem zD {rule x y:Int}{rs:List Ac}(h:¬(Lk rs).In x y):Fw rule rs x y=0:=by
  unfold Fw;by_cases he:Gt rule (Bd x y) (Je x y) rs=0
  · rw[if_pos he,vI he h]
    have e:(0:Rat)/((65536:Int):Rat)=0:=by grind
    rw[e];exact if_pos Rat.le_refl
  exact if_neg he
def R4.at (r:R4)(x y:Int):Nat:=((y-r.y0)*(r.x1-r.x0)+x-r.x0).toNat
def La (r:R4)(v:Int->Int->Int)(es:List Int):Prop:=(es.length:Int)=(r.x1-r.x0)*(r.y1-r.y0)/\∀x y,r.In x y->es[r.at x y]?=some (v x y)
theorem Ja {r:R4}{x y:Int}(h:r.In x y):((r.at x y:Nat):Int)=(y-r.y0)*(r.x1-r.x0)+x-r.x0:=by
  unfold R4.at;have h1:0<=(y-r.y0)*(r.x1-r.x0):=Int.mul_nonneg (by have:=h.1.1;omega) (by have:=h.2;omega);have:=h.2;omega
theorem qP {r:R4}{x y x' y':Int}(h:r.In x y)(k:r.In x' y')(e:r.at x y=r.at x' y'):x=x'/\y=y':=by
 have e1:=Ja h;have e2:=Ja k;rw[e]at e1;have e3:=e1.symm.trans e2;obtain⟨⟨a1,a2⟩,a3,a4⟩:=h;obtain⟨⟨b1,b2⟩,b3,b4⟩:=k;have W:∃n:Nat,r.x1-r.x0=(n:Int):=⟨(r.x1-r.x0).toNat,ω⟩;obtain⟨n,hn⟩:=W;have hy:y=y':=by
  rcases Int.lt_trichotomy y y' with c|c|c
  ·have:(y'-r.y0)*(r.x1-r.x0)=(y-r.y0)*(r.x1-r.x0)+(y'-y)*(r.x1-r.x0):=by rw[<-Int.add_mul];congr 1;omega
   have h2:(r.x1-r.x0)<=(y'-y)*(r.x1-r.x0):=by
    have:=Int.mul_le_mul_of_nonneg_right (show(1:Int)<=y'-y by omega) (show 0<=r.x1-r.x0 by omega);rwa[Int.one_mul]at this
   omega
  ·exact c
  have:(y-r.y0)*(r.x1-r.x0)=(y'-r.y0)*(r.x1-r.x0)+(y-y')*(r.x1-r.x0):=by rw[<-Int.add_mul];congr 1;omega
  have h2:(r.x1-r.x0)<=(y-y')*(r.x1-r.x0):=by
   have:=Int.mul_le_mul_of_nonneg_right (show(1:Int)<=y-y' by omega) (show 0<=r.x1-r.x0 by omega);rwa[Int.one_mul]at this
  omega
 subst hy;exact⟨ω,rfl⟩
theorem fU {r:R4}{x y:Int}(h:r.In x y):((r.at x y:Nat):Int)<(r.x1-r.x0)*(r.y1-r.y0):=by
  rw[Ja h];obtain⟨⟨a1,a2⟩,a3,a4⟩:=h;have h2:(y-r.y0+1)*(r.x1-r.x0)<=(r.y1-r.y0)*(r.x1-r.x0):=Int.mul_le_mul_of_nonneg_right ω ω;rw[Int.add_mul,Int.one_mul]at h2;rw[Int.mul_comm (r.x1-r.x0)];omega
theorem qO {r:R4}{k:Nat}(h:(k:Int)<(r.x1-r.x0)*(r.y1-r.y0))(hx:r.x0<=r.x1)(hy:r.y0<=r.y1):∃x y,r.In x y/\r.at x y=k:=by
 obtain⟨n,hn⟩:∃n:Nat,r.x1-r.x0=(n:Int):=⟨(r.x1-r.x0).toNat,ω⟩;obtain⟨m,hm⟩:∃m:Nat,r.y1-r.y0=(m:Int):=⟨(r.y1-r.y0).toNat,ω⟩;rw[hn,hm]at h;have h1:k<n*m:=by exact_mod_cast h
 have A0:0<n:=Nat.pos_of_ne_zero fun e=>by rw[e]at h1;simp at h1
 have h2:k%n<n:=Nat.mod_lt _ A0;have h3:k/n<m:=(Nat.div_lt_iff_lt_mul A0).2 (by rw[lZZ];exact h1);have h4:=Nat.div_add_mod k n;obtain⟨u,hu⟩:∃u,u=k%n:=⟨_,rfl⟩;obtain⟨v,hv⟩:∃v,v=k/n:=⟨_,rfl⟩;rw[<-hu]at h2 h4;rw[<-hv]at h3 h4;clear hu hv;have A1:r.In (r.x0+((u:Nat):Int)) (r.y0+((v:Nat):Int)):=⟨⟨ω,ω⟩,ω,ω⟩;refine⟨_,_,A1,?_⟩;have h5:=Ja A1;have h6:((k:Nat):Int)=(n:Int)*((v:Nat):Int)+((u:Nat):Int):=by exact_mod_cast h4.symm
 rw[hn]at h5;have e1:(r.y0+((v:Nat):Int)-r.y0)*(n:Int)=(n:Int)*((v:Nat):Int):=by rw[Int.mul_comm];congr 1;omega
 rw[e1]at h5;omega
theorem La.zero {r:R4}{N:Nat}(h:(N:Int)=(r.x1-r.x0)*(r.y1-r.y0)):La r (fun _ _=>0) (List.replicate N 0):=
  ⟨by rw[List.length_replicate];exact h,fun x y hi=>by
    have:=fU hi;rw[List.getElem?_replicate,if_pos ω]⟩
theorem La.lt {r:R4}{v:Int->Int->Int}{es:List Int}(h:La r v es){x y:Int}(hi:r.In x y):r.at x y<es.length:=by
  have:=fU hi;rw[<-h.1]at this;omega
theorem La.congr {r:R4}{v u:Int->Int->Int}{es:List Int}(h:La r v es)(e:∀x y,r.In x y->v x y=u x y):La r u es:=⟨h.1,fun x y hi=>by rw[h.2 x y hi,e x y hi]⟩
theorem La.set {r:R4}{v u:Int->Int->Int}{es:List Int}{c:Int}(h:La r v es){x y:Int}(hi:r.In x y)(hx:u x y=c)(he:∀x' y',r.In x' y'->¬(x'=x/\y'=y)->u x' y'=v x' y'):La r u (es.set (r.at x y) c):=by
  refine⟨by rw[fQQ];exact h.1,fun x' y' hi'=> ?_⟩;by_cases e:x'=x/\y'=y
  · obtain⟨rfl,rfl⟩:=e
    rw[List.getElem?_set,if_pos rfl,if_pos (h.lt hi),hx]
  rw[List.getElem?_set,if_neg (fun k=>e (by have:=qP hi hi' k;exact⟨this.1.symm,this.2.symm⟩)),h.2 x' y' hi',he x' y' hi' e]
theorem La.ext {r:R4}{v:Int->Int->Int}{es fs:List Int}(h:La r v es)(k:La r v fs)(hx:r.x0<=r.x1)(hy:r.y0<=r.y1):es=fs:=by
  refine List.ext_getElem? fun i=> ?_
  have hl:es.length=fs.length:=by have h1:=h.1;rw[<-k.1]at h1;omega
  rcases Nat.lt_or_ge i es.length with c|c
  · obtain⟨x,y,hi,rfl⟩:=qO (r:=r) (k:=i) (by rw[<-h.1];omega) hx hy
    rw[h.2 x y hi,k.2 x y hi]
  rw[jZZ c,jZZ ω]
instance (b:R4) (x y:Int):Decidable (b.In x y):=by unfold R4.In;infer_instance
def Qi (b:R4)(c:Int->Int->Int)(y:Int)(x' y':Int):Int:=if y'<y/\b.In x' y' then c x' y' else 0
def fH (b:R4)(c:Int->Int->Int)(y x:Int)(x' y':Int):Int:=if (y'<y\/(y'=y/\x'<x))/\b.In x' y' then c x' y' else 0
section
variable {q b:R4} {c:Int->Int->Int} {y x:Int} {es:List Int}
theorem iX (h:La q (fun _ _=>0) es):La q (Qi b c q.y0) es:=h.congr fun x' y' k=>(if_neg (fun k2=>by have:=k.1.1;have:=k2.1;omega)).symm
theorem Tu {P Q:Prop}[Decidable P][Decidable Q]{u:Int}(h:P↔Q):(if P then u else 0)=(if Q then u else 0):=by
  by_cases p:P
  · rw[if_pos p,if_pos (h.1 p)]
  rw[if_neg p,if_neg (fun q=>p (h.2 q))]
theorem Zf (h:La q (Qi b c y) es)(k:y<b.y0\/b.y1<=y):La q (Qi b c (y+1)) es:=h.congr fun x' y' _=>Tu ⟨fun e=>⟨ω,e.2⟩,fun e=>⟨by have:=e.2.1;have:=e.1;omega,e.2⟩⟩
theorem uN (h:La q (Qi b c y) es):La q (fH b c y (max q.x0 b.x0)) es:=h.congr fun x' y' k=>Tu ⟨fun e=>⟨.inl e.1,e.2⟩,fun e=>⟨by have:=e.2.2;have:=e.1;have:=k.2;omega,e.2⟩⟩
theorem uO (h:La q (fH b c y x) es)(hq:q.In x y)(hb:b.In x y):La q (fH b c y (x+1)) (es.set (q.at x y) (c x y)):=
  h.set hq (if_pos ⟨.inr ⟨rfl,ω⟩,hb⟩) fun x' y' _ e=>Tu ⟨fun k=>⟨by have:=k.1;omega,k.2⟩,fun k=>⟨by have:=k.1;omega,k.2⟩⟩
theorem uP (h:La q (fH b c y x) es)(k:min q.x1 b.x1<=x):La q (Qi b c (y+1)) es:=h.congr fun x' y' i=>Tu ⟨fun e=>⟨by have:=e.1;omega,e.2⟩,fun e=>⟨by have:=e.1;have:=i.2;have:=e.2.2;omega,e.2⟩⟩
theorem uQ (h:La q (Qi b c y) es)(k:q.y1<=y)(h0:∀x y,¬b.In x y->c x y=0):La q c es:=h.congr fun x' y' i=>by
  unfold Qi;by_cases e:b.In x' y'
  · exact if_pos ⟨by have:=i.1;omega,e⟩
  rw[if_neg (fun k=>e k.2),h0 x' y' e]
end
end
section
attribute [local go_sem ↓] Go.wp_at_zero Go.wp_at_succ Aj Ai
def Gs (rule:Int)(rs:List Ac)(r:R4):Int:=if En rs=true then(if rule=1\/rule=2 then(if r.ok=true then(if r.area<=65536 then 0 else 5)else 6)else 2)else 12
def Fz (E:Int)(r:R4)(v:Int->Int->Int)(w:World)(e:Ending)(w':World):Prop:=
  ∃ (q:R4) (A:Option Addr) (n c:Nat) (es:List Int),e= .returned (.tuple #[.agg #[iV q.x0,iV q.y0,iV q.x1,iV q.y1,.slice A n c],iV E])/\n=es.length/\Be w' w.heap.size 5 1 (.slice A n c) n (List.flatMap Bp es)/\
    (E=0->q=r.can/\La r.can v es/\r.area<=65536)/\(E≠0->q=R4.zero/\es=[])/\Aa w w'
theorem Fz.ok {E:Int}{r:R4}{v:Int->Int->Int}{w w':World}{e:Ending}(h:Fz E r v w e w')(h0:E=0):∃(A:Option Addr) (n c:Nat) (es:List Int),e= .returned (.tuple #[.agg #[iV r.can.x0,iV r.can.y0,iV r.can.x1,iV r.can.y1,.slice A n c],iV 0])/\n=es.length/\Be w' w.heap.size 5 1 (.slice A n c) n (List.flatMap Bp es)/\La r.can v es/\r.area<=65536/\Aa w w':=by
  obtain⟨q,A,n,c,es,rfl,h1,h2,h3,_,hx⟩:=h;obtain⟨rfl,h4,h5⟩:=h3 h0;exact⟨A,n,c,es,by rw[h0],h1,h2,h4,h5,hx⟩
theorem Fz.bad {E:Int}{r:R4}{v:Int->Int->Int}{w w':World}{e:Ending}(h:Fz E r v w e w')(h0:E≠0):∃(A:Option Addr) (c:Nat),e= .returned (.tuple #[.agg #[iV 0,iV 0,iV 0,iV 0,.slice A 0 c],iV E])/\Be w' w.heap.size 5 1 (.slice A 0 c) 0 (List.flatMap Bp [])/\Aa w w':=by
  obtain⟨q,A,n,c,es,rfl,h1,h2,_,h3,hx⟩:=h;obtain⟨rfl,rfl⟩:=h3 h0;have h1:n=0:=h1;subst h1;exact⟨A,c,rfl,h2,hx⟩
theorem Wq (r:R4):r.can.can=r.can:=by
  unfold R4.can;by_cases c:r.emp=true
  · rw[if_pos c,if_pos (show R4.zero.emp=true by decide)]
  rw[if_neg c,if_neg c]
theorem fS {q:R4}{x y:Int}(ho:q.ok=true)(h:q.In x y):q.ix x y=((q.at x y:Nat):Int):=by
  have h1:q.has x y=true:=by
    unfold R4.has R4.emp;obtain⟨⟨a,b⟩,c,d⟩:=h;simp[ho];omega
  rw[Ja h];exact if_pos h1
theorem R4.can_ok (r:R4):r.can.ok=true:=No.2 (by have:=r.can_bd;exact this.1)
set_option maxRecDepth 200000 in
theorem Ge (A:Option Addr)(cap:Nat)(rs:List Ac)(rule:Int)(r:R4)(w:World)(hu:Cm w (.slice A rs.length cap) rs)(hn:rs.length<=1048576)(hr:∀r,r∈rs->r.length<=1048576)(hs:En rs=true->r.ok=true->Ga rs<=16)(hru: -9223372036854775808<=rule/\rule<=9223372036854775807):
  Calls prog 13 #[.slice A rs.length cap,iV rule,.agg #[iV r.x0,iV r.y0,iV r.x1,iV r.y1]] w (Fz (Gs rule rs r) r (Fw rule rs) w):=by
 have HU:=zH hu;have HN:=zH hn;have D0:=zH hr;clear hu hr;have E3:=zH hs;have K1:=zH hru;clear hs hru;go_enter func13,ntmps13
 have H0:=zH (Hp.start w);go_upto_region 0 with fail;apply wl;apply Cn 26 [iV r.x0,iV r.y0,iV r.x1,iV r.y1] H0.1;intro X1 w2 H3 _;apply Cn 49 [iV 0,iV 0,iV 0,iV 0,.slice none 0 0] H3.1;intro X6 w7 H8 _;apply zq (iV 0);rcases Cy (En rs=true)with HV|HV
 ·go_upto_region 1 with fail
  refine wp_scope_straight ?_;go_upto_region 1 with fail;apply wl;refine Cs Ah _ ?_;refine zc (Cg _ rs _ (HU.1.ext H8.1.ext) HN.1 D0.1) ?_;rintro e J4 ⟨rfl,hx⟩;have F6:=zH (H8.1.step hx);clear hx;refine⟨.bool true,by rw[HV.1],?_⟩;try simp only[ζ]
  refine Cc Ah (.bool false) (.bool false) ?_;rcases Cy (rule=1\/rule=2)with HRL|HRL
  ·go_upto_region 3 with fail
   go_cut [17] (fun v20 wx=>v20= .bool false/\Hp w wx [.blk X1 26 [iV r.x0,iV r.y0,iV r.x1,iV r.y1],.blk X6 49 [iV 0,iV 0,iV 0,iV 0,.slice none 0 0]]/\Af J4 wx)
   case first=>
    rcases Cy (rule=1)with H1|H1
    ·apply wl
     apply zq (iV rule);apply zp (.bool false) (by exact Nq (e:=(Al (fun h_=>h_ H1.1))));refine Ly Ah (.bool false) _ _ (.bool false) (.bool false) ?_;go_wp2_with fail;go_meet
     exact⟨rfl,F6.1,(Af.refl _)⟩
    apply wl;apply zq (iV rule);apply zp (.bool true) (by exact Nq (e:=(Ar H1.1)));refine Cc Ah (.bool true) (iV rule) ?_;apply zp (.bool false) (by exact Nq (e:=(Al (fun h_=>h_ (HRL.1.resolve_left H1.1)))));refine Cc Ah (.bool false) (.bool false) ?_;go_wp2_with fail;go_meet
    exact⟨rfl,F6.1,(Af.refl _)⟩
   obtain⟨rfl,B0,B1⟩:=hcut;generalize wc=M6 at*;have D4:=zH B0;have O0:=zH B1;clear B0 B1;rcases Cy (r.ok=true)with HRO|HRO
   ·go_upto_region 5 with fail
    apply wl;refine zd X1 (0) [iV r.x0,iV r.y0,iV r.x1,iV r.y1] (D4.1.range (i:=0) rR 0 4) underlying26 ?_;refine aC D4.1 ((Sh r _).mono fun _ _ h_=>(⟨h_.1.trans (by rw[HRO.1]),h_.2⟩:_=Ending.returned (.bool true)/\Aa _ _)) ?_;intro M5 D3 _;refine Cc Ah (.bool false) (.bool false) ?_;rcases Cy (r.area<=65536)with HA|HA
    ·go_upto_region 7 with fail
     apply wl;refine zd X1 (0) [iV r.x0,iV r.y0,iV r.x1,iV r.y1] (D3.1.range (i:=0) rR 0 4) underlying26 ?_;refine aC D3.1 (Pp r _) ?_;intro M4 H7 _;apply zp (.bool false) (by exact Rq (e:=(Al (by have h_:=HA.1;omega))));apply zq (.bool false);go_upto_region 9 with fail;apply wl;refine zd X1 (0) [iV r.x0,iV r.y0,iV r.x1,iV r.y1] (H7.1.range (i:=0) rR 0 4) underlying26 ?_;refine aC H7.1 (Uy r _) ?_;intro M3 L6 _;apply Dc 0 [iV r.can.x0,iV r.can.y0,iV r.can.x1,iV r.can.y1] L6.1;intro C9 H6 _;generalize hq_:r.can=q at*;have HQ:=zH hq_;have hb:=r.can_bd;have D7:=r.can_ok;have E0:=HA.1;unfold R4.area at E0;rw[hq_]at hb D7 E0;clear hq_;have K2:=zH D7;have J6:0<=(q.x1-q.x0)*(q.y1-q.y0):=Int.mul_nonneg ω ω;obtain⟨N,G4⟩:∃N:Nat,(N:Int)=(q.x1-q.x0)*(q.y1-q.y0):=⟨((q.x1-q.x0)*(q.y1-q.y0)).toNat,ω⟩;have G9:=zH (show N<=65536 by omega);have G8:=zH G4;have HB:=zH hb;have N8:=HB.1.1.1;have N7:=HB.1.1.2.1;have N6:=HB.1.1.2.2.1;have N5:=HB.1.1.2.2.2;have N4:=HB.1.2;clear hb D7 E0 J6 G4;have L0:=zH (show q.area=((N:Nat):Int)from by unfold R4.area;rw[show q.can=q from by rw[<-HQ.1];exact Wq r];exact G8.1.symm);go_upto_region 10 with fail
     refine zy ?_;have F0:=zH (H6.1.step (Aa.refl C9).drew);refine Xn H6.1 zb (bs 7 3) 0 1 _ _ ?_;refine gG 5 (some 8) 49 [iV 0,iV 0,iV 0,iV 0,.slice none 0 0] C9 F0.1 ?_;refine gL 2 (bs 7 35) (bs 7 7) zb.size F0.1 zb (fun xq B2=>(Pp q _).mono fun _ _ h_=>(⟨h_.1.trans (by rw[L0.1]),h_.2⟩:_=Ending.returned (iV ((N:Nat):Int))/\Aa _ _)) (by rintro x_ e H9 ⟨rfl,hx⟩;exact hx) ?_;rintro xq e M2 B2 ⟨rfl,hx⟩;replace hx:=B2.trans hx;clear B2;have L5:=zH (F0.1.step hx);have E2:=zH (zb.trans hx);clear hx;refine⟨_,rfl,?_⟩;try simp only[ζ]
     refine aDK (Φ:=fun x v x'=>v= .slice (some ⟨x.heap.size,0,none⟩) N N/\Be x' x.heap.size 5 1 v N (List.flatMap Bp (List.replicate N 0))) (fun x _ _=> .row 5 1 (.slice (some ⟨x.heap.size,0,none⟩) N N) N (List.flatMap Bp (List.replicate N 0))) (i:=3) (lj:=(bs 7 39)) (li:=(bs 7 15)) rR rR kR kR kR kR kR dC kR rR rR (by intro r_ x_;go_simp) (fun x y h1 h2=>h1.trans h2) E2.1.size L5.1 (by simp[Aq]) E2.1 rR kR (fun xq B2=>⟨_,_,yQ (n:=N) rR rR rR (Av G9.1 (show(65536:Nat)<=4000000 by decide)),⟨rfl,Be.u8 _ _ (Av (Av G9.1 (show(65536:Nat)<=4000000 by decide)) (show(4000000:Nat)<=maxLen by decide))⟩,An.alloc _⟩) (by rintro x_ v_ H9 M7 ⟨rfl,B3⟩ hx hh;exact hh.addRow hx B3) ?_;rintro xq v_ M1 B2 ⟨rfl,B3⟩ hx hh;replace hx:=B2.trans hx;clear B3 B2;simp only[jQQ,fZZ]at hh⊢;generalize xq.heap.size=A3 at hh⊢;have L4:=hN hh;have E1:=zH (E2.1.trans hx);clear hh hx;try simp only[ζ]
     refine gK 4 (bs 7 47) (bs 7 31) _ E1.1 ?_;refine gE (bs 7 63) E1.1.size L4.1 E1.1 ?_;intro B5 I3 hx hh hs D9;have L3:=hN hh;have J9:=zH (show Aa C9 I3 from hs);have L7:=zH (show C9.heap.size<=B5 from D9);clear hh hx D9 hs;try simp only[ζ]
     refine bS 3 6 (bs 7 127) [iV q.x0,iV q.y0,iV q.x1,iV q.y1,.slice (some ⟨A3,0,none⟩) N N] L3.1 J9.1 L7.1 ?_;intro M0 H5 _ N9;refine wpAnyH_done kR ?_ _;go_upto_region 11 with fail;apply wl;refine Cs Ah _ ?_;refine aC H5.1 (dZ A cap rs _ (HU.1.ext H5.1.ext) HN.1 D0.1 HV.1) ?_;intro L9 L2 _;apply Cn 26 [iV 0,iV 0,iV 0,iV 0] L2.1;intro G5 L8 L1 _;apply Dc 4 [iV ((Lk rs).x0),iV ((Lk rs).y0),iV ((Lk rs).x1),iV ((Lk rs).y1)] L1.1;intro I1 E9 _;go_wp2_with fail;go_step3
     go_upto_region 12 with fail;apply wl;refine Dv E9.1 _ _ (iV q.y0) ?_;obtain⟨NY,B7⟩:∃NY:Nat,(NY:Int)=q.y1-q.y0:=⟨(q.y1-q.y0).toNat,ω⟩;have G7:=zH B7;clear B7;have K6:=zH (show La q (Qi (Lk rs) (Fw rule rs) q.y0) (List.replicate N 0)from iX (La.zero G8.1));go_wp2_with fail
     go_loopg [10] (NY) (fun cq J5 wr=>∃(k:Nat) (y:Int) (es:List Int),cq=NY-k/\J5= iV y/\(y=q.y0+(k:Int)/\k<=NY)/\(es.length=N)/\(La q (Qi (Lk rs) (Fw rule rs) y) es)/\Hp w wr [.blk X1 26 [iV q.x0,iV q.y0,iV q.x1,iV q.y1],.blk X6 49 [iV 0,iV 0,iV 0,iV 0,.slice none 0 0],.row 5 1 (.slice (some ⟨A3,0,none⟩) N N) (N) (List.flatMap Bp es),.blk B5 49 [iV q.x0,iV q.y0,iV q.x1,iV q.y1,.slice (some ⟨A3,0,none⟩) N N],.blk G5 26 [iV ((Lk rs).x0),iV ((Lk rs).y0),iV ((Lk rs).x1),iV ((Lk rs).y1)]]/\Af I1 wr)
     case atStart=>exact⟨0,q.y0,List.replicate N 0,rfl,rfl,⟨ω,eXX _⟩,List.length_replicate,K6.1,E9.1,Af.refl _⟩
     obtain⟨k,y,es,rfl,rfl,A6,A4,A5,B0,B1⟩:=hrel;generalize wr=I0 at*;have H2:=zH A6;clear A6;have D1:=zH A4;clear A4;have D2:=zH A5;clear A5;have A0:=zH B0;have F8:=zH B1;clear B0 B1 E9;rcases Cy (y<q.y1)with HLT|HLT
     ·have E6:=True.intro
      have J8:=H2.1;have J7:=G7.1;have N2:=HLT.1;go_upto_region 13 with fail
      apply wl;refine Dv A0.1 (iV y) _ _ ?_;apply zp (.bool true) (by exact Eg (e:=(Ar ω)));rcases Cy (y<(Lk rs).y0)with HY1|HY1
      ·go_upto_region 15 with fail
       apply wl;refine Dv A0.1 (iV y) _ _ ?_;apply zp (.bool true) (by exact Eg (e:=(Ar HY1.1)));refine Ta Ah (.bool true) _ _ _ _ (.bool true) ?_;go_upto_region 14 with fail;apply wl;apply zq (iV y);apply zp (iV (y+1)) (by exact He ω);apply zq (iV (y+1));go_wp2_with fail;go_roundg (NY-(k+1))
       case measure=>exact(ω)
       case rel=>exact⟨k+1,y+1,es,rfl,(by go_num),⟨ω,ω⟩,D1.1,(Zf D2.1 (.inl HY1.1)),A0.1,F8.1⟩
      rcases Cy ((Lk rs).y1<=y)with HY2|HY2
      ·go_upto_region 15 with fail
       apply wl;refine Dv A0.1 (iV y) _ _ ?_;apply zp (.bool false) (by exact Eg (e:=(Al HY1.1)));refine Fg A0.1 (.bool false) (iV y) _ _ ?_;apply zp (.bool true) (by exact Nv (e:=(Ar HY2.1)));apply zq (.bool true);go_upto_region 14 with fail;apply wl;apply zq (iV y);apply zp (iV (y+1)) (by exact He ω);apply zq (iV (y+1));go_wp2_with fail;go_roundg (NY-(k+1))
       case measure=>exact(ω)
       case rel=>exact⟨k+1,y+1,es,rfl,(by go_num),⟨ω,ω⟩,D1.1,(Zf D2.1 (.inr HY2.1)),A0.1,F8.1⟩
      go_upto_region 15 with fail;apply wl;refine Dv A0.1 (iV y) _ _ ?_;apply zp (.bool false) (by exact Eg (e:=(Al HY1.1)));refine Fg A0.1 (.bool false) (iV y) _ _ ?_;apply zp (.bool false) (by exact Nv (e:=(Al HY2.1)));apply zq (.bool false);go_upto_region 16 with fail;apply wl;refine Ta A0.1 _ _ _ _ (iV (max q.x0 ((Lk rs).x0))) (iV (max q.x0 ((Lk rs).x0))) ?_;obtain⟨NX,B8⟩:∃NX:Nat,NX=(min q.x1 (Lk rs).x1-max q.x0 (Lk rs).x0).toNat:=⟨_,rfl⟩;have K4:=zH B8;clear B8;go_wp2_with fail
      go_loopg [11] (NX) (fun cq D6 wr=>∃(j:Nat) (x:Int) (fs:List Int),cq=NX-j/\D6= iV x/\(x=max q.x0 (Lk rs).x0+(j:Int)/\j<=NX)/\(fs.length=N)/\(La q (fH (Lk rs) (Fw rule rs) y x) fs)/\Hp w wr [.blk X1 26 [iV q.x0,iV q.y0,iV q.x1,iV q.y1],.blk X6 49 [iV 0,iV 0,iV 0,iV 0,.slice none 0 0],.row 5 1 (.slice (some ⟨A3,0,none⟩) N N) (N) (List.flatMap Bp fs),.blk B5 49 [iV q.x0,iV q.y0,iV q.x1,iV q.y1,.slice (some ⟨A3,0,none⟩) N N],.blk G5 26 [iV ((Lk rs).x0),iV ((Lk rs).y0),iV ((Lk rs).x1),iV ((Lk rs).y1)]]/\Af I0 wr)
      case atStart=>exact⟨0,_,es,rfl,rfl,⟨ω,eXX _⟩,D1.1,(uN D2.1),A0.1,Af.refl _⟩
      obtain⟨j,x,fs,rfl,rfl,A7,A8,A9,B0,B1⟩:=hrel;generalize wr=A1 at*;have K7:=zH A7;clear A7;have E7:=zH A8;clear A8;have E8:=zH A9;clear A9;have A2:=zH B0;have C8:=zH B1;clear B0 B1 A0;rcases Cy (x<min q.x1 (Lk rs).x1)with HXL|HXL
      ·have N3:=K7.1
       have M8:=HXL.1;have N1:=K4.1;have N0:max q.x0 (Lk rs).x0<=x:=ω
       have M9:q.x0<=x/\x<q.x1:=ω;go_upto_region 17 with fail;apply wl;refine Ta A2.1 (iV x) _ _ _ _ (iV (min q.x1 ((Lk rs).x1))) ?_;apply zp (.bool true) (by exact Eg (e:=(Ar HXL.1)));have E4:=zH (show q.In x y from⟨⟨ω,HLT.1⟩,ω,ω⟩);have K9:=zH (show(Lk rs).In x y from⟨⟨by have:=HY1.1;omega,by have:=HY2.1;omega⟩,ω,ω⟩);have H4:=zH (fS K2.1 E4.1);have E5:=zH (E8.1.lt E4.1);have G6:=zH (uO E8.1 E4.1 K9.1);obtain⟨kk,G3⟩:∃kk,q.at x y=kk:=⟨_,rfl⟩;rw[G3]at H4 E5 G6;have K8:=zH (show kk<N from by have h_:=E5.1;rw[E7.1]at h_;exact h_);clear G3;go_upto_region 19 with fail
       refine Lt (S:=fun x=>Aa A1 x) [12] kR ?_;have F7:=zH (A2.1.step (Aa.refl A1).drew);have G2:=zH (Af.of_ext (w:=A1) zb);refine Fu (ds:=[1,11,12]) (i:=0) (listed':=(bs 13 1)) (v:= .pointer (some ⟨B5,4,none⟩)) rR kR kR kR (by intro _ _ _ h;exact h) (Ko rR (by intro w B4;go_simp<;>with_reducible rfl)) zb kR ?_;try simp only[ζ]
       refine Fu (ds:=[11,12]) (i:=1) (listed':=(bs 13 3)) (v:= .slice (some ⟨A3,0,none⟩) N N) rR kR kR kR (by intro _ _ _ h;exact h) (cG (g:=B5) (o:=4) rR (fun x hx=>Aa.get hx (show World.cell? A1 ⟨B5,4,none⟩=some (.slice (some ⟨A3,0,none⟩) N N)from Ae (A2.1.range (i:=3) rR 4 1))) (by intro x hq;go_simp<;>with_reducible rfl)) zb kR ?_;try simp only[ζ]
       refine Fu (ds:=[5,10,11,12]) (i:=2) (listed':=(bs 13 7)) (v:= .agg #[iV q.x0,iV q.y0,iV q.x1,iV q.y1]) rR kR kR kR (by intro _ _ _ h;exact h) (aEB rR _ _ rR X1 (0) [iV q.x0,iV q.y0,iV q.x1,iV q.y1] rR (fun x hx=>Bg (show World.rangeAt A1 X1 (0) [iV q.x0,iV q.y0,iV q.x1,iV q.y1]from(A2.1.range (i:=0) rR 0 4)) hx) underlying26 rR kR) zb kR ?_;try simp only[ζ]
       refine Fu (ds:=[5,10,11,12]) (i:=3) (listed':=(bs 13 15)) (v:= iV x) rR kR kR kR (by intro _ _ _ h;exact h) (Ko rR (by intro w B4;go_simp<;>with_reducible rfl)) zb kR ?_;try simp only[ζ]
       refine Fu (ds:=[5,10,11,12]) (i:=4) (listed':=(bs 13 31)) (v:= iV y) rR kR kR kR (by intro _ _ _ h;exact h) (Ko rR (by intro w B4;go_simp<;>with_reducible rfl)) zb kR ?_;try simp only[ζ]
       refine Fu (ds:=[10,12]) (i:=6) (listed':=(bs 13 95)) (v:= .slice A rs.length cap) rR kR kR kR (by intro _ _ _ h;exact h) (Ko rR (by intro w B4;go_simp<;>with_reducible rfl)) zb kR ?_;try simp only[ζ]
       refine Fu (ds:=[10,12]) (i:=7) (listed':=(bs 13 223)) (v:= iV rule) rR kR kR kR (by intro _ _ _ h;exact h) (Ko rR (by intro w B4;go_simp<;>with_reducible rfl)) zb kR ?_;try simp only[ζ]
       refine Fu (ds:=[10,12]) (i:=8) (listed':=(bs 13 479)) (v:= iV x) rR kR kR kR (by intro _ _ _ h;exact h) (Ko rR (by intro w B4;go_simp<;>with_reducible rfl)) zb kR ?_;try simp only[ζ]
       refine Fu (ds:=[10,12]) (i:=9) (listed':=(bs 13 991)) (v:= iV y) rR kR kR kR (by intro _ _ _ h;exact h) (Ko rR (by intro w B4;go_simp<;>with_reducible rfl)) zb kR ?_;try simp only[ζ]
       refine Tm (hist:=by rfl) (i:=5) (listed':=(bs 13 1023)) rR kR rR (by go_simp) ((sL q x y _).mono fun _ _ h_=>(⟨h_.1.trans (by rw[H4.1]),h_.2⟩:_=Ending.returned (iV ((kk:Nat):Int))/\Aa _ _)) kR ?_;rintro e D5 ⟨rfl,hx⟩;have C5:=zH (F7.1.step hx);have G1:=zH (show Af A1.drew D5 from Af.of_ext hx);have C0:=zH (zb.trans hx);clear hx;refine⟨_,rfl,C0.1,?_⟩;try simp only[ζ]
       refine Tm (hist:=by rfl) (i:=10) (listed':=(bs 13 2047)) rR kR rR (by go_simp) (Wg A cap rs rule x y _ (HU.1.ext C5.1.ext) HN.1 D0.1 (fun h_=>E3.1 h_ HRO.1) K1.1) kR ?_;rintro e J3 ⟨rfl,hx⟩;have F5:=zH (C5.1.step hx);have G0:=zH (Af.of_ext hx);have B9:=zH (C0.1.trans hx);clear hx;refine⟨_,rfl,B9.1,?_⟩;try simp only[ζ]
       refine Fu (ds:=[12]) (i:=11) (listed':=(bs 13 4095)) (v:= .pointer (some ⟨A3,kk*1,none⟩)) rR kR kR kR (by intro _ _ _ h;exact h) (Ko rR (by intro w B4;exact Iu (k:=kk) underlying47 (l:=K8.1) (f:=(eZZ _).symm))) B9.1 kR ?_;try simp only[ζ]
       refine eI kR ?_;refine iG (f:=Bp) (i:=12) (listed':=(bs 13 8191)) rR kR rR kR _ _ _ rR F5.1 (ix:=2) rR Jk kk (Fw rule rs x y) E5.1 (.int .u8 (Fw rule rs x y)) rR (kk*1) rR rR rR kR (by simp[Value.cells]) (by simp[Value.oneCell']) (by simp[Aq]) ?_;intro J2 hh hd ho;have F4:=hN hh;have F9:=zH (hd);clear hh hd ho;refine⟨trivial,?_⟩
       (try simp only[Act.put])
       refine wpAnyH_done kR ?_ _;go_upto_region 18 with fail;apply wl;apply zq (iV x);apply zp (iV (x+1)) (by exact He ω);apply zq (iV (x+1));have C7:=tD (tD (tD (tD C8 G2) G1) G0) F9;go_wp2_with fail
       go_roundg (NX-(j+1))
       case measure=>exact(ω)
       case rel=>exact⟨j+1,x+1,(fs.set kk (Fw rule rs x y)),rfl,(by go_num),⟨ω,ω⟩,(by rw[fQQ];exact E7.1),G6.1,F4.1,C7.1⟩
      go_upto_region 17 with fail;apply wl;refine Ta A2.1 (iV x) _ _ _ _ (iV (min q.x1 ((Lk rs).x1))) ?_;apply zp (.bool false) (by exact Eg (e:=(Al HXL.1)));go_upto_region 14 with fail;apply wl;apply zq (iV y);apply zp (iV (y+1)) (by exact He ω);apply zq (iV (y+1));have C6:=tD F8 C8;go_wp2_with fail
      go_roundg (NY-(k+1))
      case measure=>exact(ω)
      case rel=>exact⟨k+1,y+1,fs,rfl,(by go_num),⟨ω,ω⟩,E7.1,(uP E8.1 (by have h_:=HXL.1;omega)),A2.1,C6.1⟩
     have E6:=zH (show q.y1<=y from by have:=HLT.1;omega);have J8:=H2.1;have J7:=G7.1;have D9:=E6.1;go_upto_region 13 with fail
     apply wl;refine Dv A0.1 (iV y) _ _ ?_;apply zp (.bool false) (by exact Eg (e:=(Al ω)));go_upto_region 20 with fail;apply wl;refine zd B5 (0) [iV q.x0,iV q.y0,iV q.x1,iV q.y1,.slice (some ⟨A3,0,none⟩) N N] (A0.1.range (i:=3) rR 0 5) underlying49 ?_;apply Dc 1 [iV q.x0,iV q.y0,iV q.x1,iV q.y1,.slice (some ⟨A3,0,none⟩) N N] A0.1;intro J1 B6 _;apply zq (iV 0);have K5:=zH (show La r.can (Fw rule rs) es from by rw[HQ.1];exact uQ D2.1 E6.1 (fun _ _ h_=>zD h_));have HE:=zH (show Gs rule rs r=0 from(if_pos HV.1).trans ((if_pos HRL.1).trans ((if_pos HRO.1).trans (if_pos HA.1))));have D8:=D1.1;go_wp2_with fail
     refine bodyPost_ret (v:= .tuple #[.agg #[iV q.x0,iV q.y0,iV q.x1,iV q.y1,.slice (some ⟨A3,0,none⟩) N N],iV 0]) ?_ rfl ⟨q,_,_,_,es,by rw[HE.1],D8.symm,B6.1.row (i:=2) rR,fun _=>⟨HQ.1.symm,K5.1,HA.1⟩,fun h_=>absurd HE.1 h_,B6.1.ext⟩;exact Aw rfl rfl ((B6.1.blk (i:=1) rR).loadVar rfl rfl rR) rfl
    go_upto_region 7 with fail;apply wl;refine zd X1 (0) [iV r.x0,iV r.y0,iV r.x1,iV r.y1] (D3.1.range (i:=0) rR 0 4) underlying26 ?_;refine aC D3.1 (Pp r _) ?_;intro J0 F3 _;apply zp (.bool true) (by exact Rq (e:=(Ar (by have h_:=HA.1;omega))));apply zq (.bool true);go_upto_region 8 with fail;apply wl;refine Cs Ah _ ?_;apply Dc 1 [iV 0,iV 0,iV 0,iV 0,.slice none 0 0] F3.1;intro I9 C4 _;apply zq (iV 5);have HE:=zH (show Gs rule rs r=5 from(if_pos HV.1).trans ((if_pos HRL.1).trans ((if_pos HRO.1).trans (if_neg HA.1))));go_wp2_with fail
    refine bodyPost_ret (v:= .tuple #[.agg #[iV 0,iV 0,iV 0,iV 0,.slice none 0 0],iV 5]) ?_ rfl ⟨R4.zero,none,0,0,[],by rw[HE.1]<;>rfl,rfl,Be.nil _ _ _ _,fun h_=>absurd h_ (by rw[HE.1];decide),fun _=>⟨rfl,rfl⟩,C4.1.ext⟩;exact Aw rfl rfl ((C4.1.blk (i:=1) rR).loadVar rfl rfl rR) rfl
   have K3:=zH (Bool.eq_false_iff.2 HRO.1);go_upto_region 5 with fail;apply wl;refine zd X1 (0) [iV r.x0,iV r.y0,iV r.x1,iV r.y1] (D4.1.range (i:=0) rR 0 4) underlying26 ?_;refine aC D4.1 ((Sh r _).mono fun _ _ h_=>(⟨h_.1.trans (by rw[K3.1]),h_.2⟩:_=Ending.returned (.bool false)/\Aa _ _)) ?_;intro I8 F2 _;refine Cc Ah (.bool true) (.bool true) ?_;go_upto_region 6 with fail;apply wl;refine Cs Ah _ ?_;apply Dc 1 [iV 0,iV 0,iV 0,iV 0,.slice none 0 0] F2.1;intro I7 C3 _;apply zq (iV 6);have HE:=zH (show Gs rule rs r=6 from(if_pos HV.1).trans ((if_pos HRL.1).trans (if_neg HRO.1)));go_wp2_with fail
   refine bodyPost_ret (v:= .tuple #[.agg #[iV 0,iV 0,iV 0,iV 0,.slice none 0 0],iV 6]) ?_ rfl ⟨R4.zero,none,0,0,[],by rw[HE.1]<;>rfl,rfl,Be.nil _ _ _ _,fun h_=>absurd h_ (by rw[HE.1];decide),fun _=>⟨rfl,rfl⟩,C3.1.ext⟩;exact Aw rfl rfl ((C3.1.blk (i:=1) rR).loadVar rfl rfl rR) rfl
  go_upto_region 3 with fail;apply wl;apply zq (iV rule);apply zp (.bool true) (by exact Nq (e:=(Ar (fun h_=>HRL.1 (.inl h_)))));refine Cc Ah (.bool true) (iV rule) ?_;apply zp (.bool true) (by exact Nq (e:=(Ar (fun h_=>HRL.1 (.inr h_)))));refine Cc Ah (.bool true) (.bool true) ?_;go_upto_region 4 with fail;apply wl;refine Cs Ah _ ?_;apply Dc 1 [iV 0,iV 0,iV 0,iV 0,.slice none 0 0] F6.1;intro I6 C2 _;apply zq (iV 2);have HE:=zH (show Gs rule rs r=2 from(if_pos HV.1).trans (if_neg HRL.1));go_wp2_with fail
  refine bodyPost_ret (v:= .tuple #[.agg #[iV 0,iV 0,iV 0,iV 0,.slice none 0 0],iV 2]) ?_ rfl ⟨R4.zero,none,0,0,[],by rw[HE.1]<;>rfl,rfl,Be.nil _ _ _ _,fun h_=>absurd h_ (by rw[HE.1];decide),fun _=>⟨rfl,rfl⟩,C2.1.ext⟩;exact Aw rfl rfl ((C2.1.blk (i:=1) rR).loadVar rfl rfl rR) rfl
 have K0:=zH (Bool.eq_false_iff.2 HV.1);go_upto_region 1 with fail;refine wp_scope_straight ?_;go_upto_region 1 with fail;apply wl;refine Cs Ah _ ?_;refine zc (Cg _ rs _ (HU.1.ext H8.1.ext) HN.1 D0.1) ?_;rintro e I5 ⟨rfl,hx⟩;have F1:=zH (H8.1.step hx);clear hx;refine⟨.bool false,by rw[K0.1],?_⟩;try simp only[ζ]
 apply qV (.bool true);apply zq (.bool true);go_upto_region 2 with fail;apply wl;refine Cs Ah _ ?_;apply Dc 1 [iV 0,iV 0,iV 0,iV 0,.slice none 0 0] F1.1;intro I4 C1 _;apply zq (iV 12);have HE:=zH (show Gs rule rs r=12 from if_neg HV.1);go_wp2_with fail
 refine bodyPost_ret (v:= .tuple #[.agg #[iV 0,iV 0,iV 0,iV 0,.slice none 0 0],iV 12]) ?_ rfl ⟨R4.zero,none,0,0,[],by rw[HE.1]<;>rfl,rfl,Be.nil _ _ _ _,fun h_=>absurd h_ (by rw[HE.1];decide),fun _=>⟨rfl,rfl⟩,C1.1.ext⟩;exact Aw rfl rfl ((C1.1.blk (i:=1) rR).loadVar rfl rfl rR) rfl
def aDO (v:Int->Int->Int)(b:R4)(p:Int×Int):R4:=if v p.1 p.2=0 then b else b.uni ⟨p.1,p.2,p.1+1,p.2+1⟩
def qJ (v:Int->Int->Int)(l:List (Int×Int)):R4:=l.foldl (aDO v) R4.zero
def fP (v:Int->Int->Int)(q:R4):R4:=qJ v (Sv q)
theorem Zj (v:Int->Int->Int)(l:List (Int×Int))(p:Int×Int):qJ v (l++[p])=aDO v (qJ v l) p:=by unfold qJ;rw[List.foldl_append];rfl
def hO (q:R4)(k:Nat):List (Int×Int):=((Ho q.y0 q.y1).take k).flatMap (gV q)
def Pt (q:R4)(k:Nat)(y:Int)(j:Nat):List (Int×Int):=hO q k++((Ho q.x0 q.x1).take j).map (fun x=>(x,y))
theorem nZ {q:R4}{k:Nat}(h:q.y0+(k:Int)<q.y1):hO q (k+1)=Pt q k (q.y0+(k:Int)) (Ho q.x0 q.x1).length:=by
  unfold hO Pt;rw[Nc h,List.flatMap_append,lXX];simp[hO,gV]
theorem hF {q:R4}{k j:Nat}{y:Int}(h:q.x0+(j:Int)<q.x1):Pt q k y (j+1)=Pt q k y j++[(q.x0+(j:Int),y)]:=by
  unfold Pt;rw[Nc h,fXX,kXX];rfl
theorem sZ {q:R4}{k:Nat}(h:q.y1<=q.y0+(k:Int)):hO q k=Sv q:=by
  unfold hO Sv;rw[cQQ (by rw[Ik];omega)]
def zK (rule:Int)(rs:List Ac)(r:R4):R4:=if Gs rule rs r=0 then fP (Fw rule rs) r.can else R4.zero
def aCW (E:Int)(b:R4)(w:World)(e:Ending)(w':World):Prop:=e= .returned (.tuple #[.agg #[iV b.x0,iV b.y0,iV b.x1,iV b.y1],iV E])/\Aa w w'
set_option maxRecDepth 200000 in
theorem zJ (A:Option Addr)(cap:Nat)(rs:List Ac)(rule:Int)(r:R4)(w:World)(hu:Cm w (.slice A rs.length cap) rs)(hn:rs.length<=1048576)(hr:∀r,r∈rs->r.length<=1048576)(hs:En rs=true->r.ok=true->Ga rs<=16)(hru: -9223372036854775808<=rule/\rule<=9223372036854775807):
  Calls prog 20 #[.slice A rs.length cap,iV rule,.agg #[iV r.x0,iV r.y0,iV r.x1,iV r.y1]] w (aCW (Gs rule rs r) (zK rule rs r) w):=by
 have HU:=zH hu;have HN:=zH hn;have E7:=zH hr;clear hu hr;have B2:=zH hs;have E6:=zH hru;clear hs hru;go_enter func20,ntmps20
 have H0:=zH (Hp.start w);go_upto_region 0 with fail;apply wl;apply Cn 26 [iV r.x0,iV r.y0,iV r.x1,iV r.y1] H0.1;intro X1 w2 H3 _;apply Cn 26 [iV 0,iV 0,iV 0,iV 0] H3.1;intro X6 w7 H8 _;apply zq (iV 0);rcases Cy (Gs rule rs r=0)with HE|HE
 ·go_upto_region 1 with fail
  apply wl;refine Dv H8.1 _ (iV rule) _ ?_;refine zc ((Ge A cap rs rule r _ (HU.1.ext H8.1.ext) HN.1 E7.1 B2.1 E6.1).mono (fun _ _ h_=>Fz.ok h_ HE.1)) ?_;rintro e F9 ⟨Am,nm,cm,em,rfl,E4,A0,E3,E2,hx⟩;have H5:=zH E4;have H6:=zH E3;have K5:=zH E2;have HA:=zH (show 0<nm->∃g,Am=some ⟨g,0,none⟩from by obtain⟨A_,c_,e_,k_⟩:=Be.form A0;injection e_ with e1_ e2_ e3_;subst e1_;exact k_);have I6:=zH (show Hp w F9 [.blk X1 26 [iV r.x0,iV r.y0,iV r.x1,iV r.y1],.blk X6 26 [iV 0,iV 0,iV 0,iV 0],ro 5 1 Am nm cm Bp em]from H8.1.addRow hx A0);clear A0 E4 E3 E2 hx;refine zn ?_;refine Dv Ah _ _ _ ?_;apply Cn 49 [iV 0,iV 0,iV 0,iV 0,.slice none 0 0] I6.1;intro B8 J5 I5 _;apply Dc 3 [iV r.can.x0,iV r.can.y0,iV r.can.x1,iV r.can.y1,.slice Am nm cm] I5.1;intro J4 I4 _;apply zq (iV 0);go_upto_region 2 with fail
  apply wl;apply zq (iV 0);apply zp (.bool false) (by exact Nq (e:=(Al (fun h_=>h_ rfl))));generalize hq_:r.can=q at*;have HQ:=zH hq_;have hb:=r.can_bd;have C2:=r.can_ok;rw[hq_]at hb C2;clear hq_;have F0:=zH (show La q (Fw rule rs) em from H6.1);have H4:=zH C2;have HB:=zH hb;have K4:=HB.1.1.1;have K3:=HB.1.1.2.1;have K2:=HB.1.1.2.2.1;have K1:=HB.1.1.2.2.2;have K0:=HB.1.2;clear hb C2;go_upto_region 4 with fail
  apply wl;apply Cn 26 [iV 0,iV 0,iV 0,iV 0] I4.1;intro B7 F8 D1 _;go_upto_region 5 with fail;apply wl;refine Fg D1.1 _ _ _ (iV q.y0) ?_;obtain⟨NY,B0⟩:∃NY:Nat,(NY:Int)=q.y1-q.y0:=⟨(q.y1-q.y0).toNat,ω⟩;have E8:=zH B0;obtain⟨NX,B1⟩:∃NX:Nat,(NX:Int)=q.x1-q.x0:=⟨(q.x1-q.x0).toNat,ω⟩;have E9:=zH B1;clear B0 B1;go_wp2_with fail
  go_loopg [11] (NY) (fun cq G6 wr=>∃(k:Nat) (y:Int) (b1:R4),cq=NY-k/\G6= iV y/\(y=q.y0+(k:Int)/\k<=NY)/\(b1=qJ (Fw rule rs) (hO q k))/\Hp w wr [.blk X1 26 [iV r.x0,iV r.y0,iV r.x1,iV r.y1],.blk X6 26 [iV 0,iV 0,iV 0,iV 0],.row 5 1 (.slice Am nm cm) (nm) (List.flatMap Bp em),.blk B8 49 [iV q.x0,iV q.y0,iV q.x1,iV q.y1,.slice Am nm cm],.blk B7 26 [iV b1.x0,iV b1.y0,iV b1.x1,iV b1.y1]]/\Af F8 wr)
  case atStart=>exact⟨0,q.y0,R4.zero,rfl,rfl,⟨ω,eXX _⟩,rfl,D1.1,Af.refl _⟩
  obtain⟨k,y,b1,rfl,rfl,A2,A5,A8,A9⟩:=hrel;generalize wr=F7 at*;have C5:=zH A2;clear A2;have F3:=zH A5;clear A5;have A6:=zH A8;have J2:=zH A9;clear A8 A9 D1;rcases Cy (y<q.y1)with HLT|HLT
  ·have F2:=True.intro
   have D9:=C5.1;have G8:=E8.1;have J8:=HLT.1;have J6:=D9.1;go_upto_region 6 with fail
   apply wl;refine Fg A6.1 (iV y) _ _ _ ?_;apply zp (.bool true) (by exact Eg (e:=(Ar ω)));go_upto_region 8 with fail;apply wl;refine Fg A6.1 _ _ _ (iV q.x0) ?_;go_wp2_with fail;go_loopg [12] (NX) (fun cq G5 wr=>∃(j:Nat) (x:Int) (b2:R4),cq=NX-j/\G5= iV x/\(x=q.x0+(j:Int)/\j<=NX)/\(b2=qJ (Fw rule rs) (Pt q k y j))/\Hp w wr [.blk X1 26 [iV r.x0,iV r.y0,iV r.x1,iV r.y1],.blk X6 26 [iV 0,iV 0,iV 0,iV 0],.row 5 1 (.slice Am nm cm) (nm) (List.flatMap Bp em),.blk B8 49 [iV q.x0,iV q.y0,iV q.x1,iV q.y1,.slice Am nm cm],.blk B7 26 [iV b2.x0,iV b2.y0,iV b2.x1,iV b2.y1]]/\Af F7 wr)
   case atStart=>exact⟨0,q.x0,b1,rfl,rfl,⟨ω,eXX _⟩,(by rw[F3.1];simp[Pt]),A6.1,Af.refl _⟩
   obtain⟨j,x,b2,rfl,rfl,A3,A4,A8,A9⟩:=hrel;generalize wr=A7 at*;have C6:=zH A3;clear A3;have D0:=zH A4;clear A4;have A1:=zH A8;have D7:=zH A9;clear A8 A9 A6;rcases Cy (x<q.x1)with HXL|HXL
   ·have H1:=C6.1
    have G7:=HXL.1;have G9:=E9.1;have J7:q.x0<=x/\x<q.x1:=ω
    go_upto_region 9 with fail;apply wl;refine Fg A1.1 (iV x) _ _ _ ?_;apply zp (.bool true) (by exact Eg (e:=(Ar ω)));have C8:=zH (show q.In x y from⟨⟨ω,HLT.1⟩,ω,ω⟩);have C7:=zH (fS H4.1 C8.1);have F1:=zH (F0.1.lt C8.1);have C9:=zH (F0.1.2 x y C8.1);obtain⟨kk,E1⟩:∃kk,q.at x y=kk:=⟨_,rfl⟩;rw[E1]at C7 F1 C9;have H7:=zH (show kk<nm from by rw[H5.1];exact F1.1);clear E1;have E0:=H7.1;obtain⟨gm,C3⟩:=HA.1 ω;subst C3;have E5:=zH (show Pt q k y (j+1)=Pt q k y j++[(x,y)]from by rw[hF ω,<-C6.1.1]);rcases Cy (Fw rule rs x y=0)with HZ|HZ
    ·go_upto_region 11 with fail
     refine zy ?_;have I3:=zH (A1.1.step (Aa.refl A7).drew);have J1:=zH (Af.of_ext (w:=A7) zb);refine vS A1.1 zb (bs 10 7) 0 1 2 _ _ _ ?_;refine zg 3 (bs 10 15) B8 (0) [iV q.x0,iV q.y0,iV q.x1,iV q.y1] (A1.1.range (i:=3) rR 0 4) underlying26 zb ?_;refine Xn Ah zb (bs 10 63) 4 5 (iV x) (iV y) ?_;refine mC 6 (bs 10 127) ((sL q x y _).mono fun _ _ h_=>(⟨h_.1.trans (by rw[C7.1]),h_.2⟩:_=Ending.returned (iV ((kk:Nat):Int))/\Aa _ _)) ?_;rintro e F6 ⟨rfl,hx⟩;have I1:=zH (I3.1.step hx);have J0:=zH (show Af A7.drew F6 from Af.of_ext hx);have C0:=zH (zb.trans hx);clear hx;apply zm C0.1;refine zu 7 (bs 10 255) (v:= .pointer (some ⟨gm,kk*1,none⟩)) C0.1 ?_ (hv:=by intro w C4;exact Iu (k:=kk) underlying47 (l:=E0) (f:=(eZZ _).symm));refine zf 8 (bs 10 511) gm (kk*1) (.int .u8 (Fw rule rs x y)) (A1.1.elem (f:=Bp) (i:=2) rR Jk C9.1) C0.1 ?_;refine zu 9 (bs 10 1023) (v:= .bool false) C0.1 ?_ (hv:=by intro w C4;exact lI rR rR rR (Al (fun h_=>h_ HZ.1)));refine wpAnyH_done kR ?_ _;go_upto_region 10 with fail
     apply wl;apply zq (iV x);apply zp (iV (x+1)) (by exact He ω);apply zq (iV (x+1));have D6:=tD (tD D7 J1) J0;go_wp2_with fail
     go_roundg (NX-(j+1))
     case measure=>exact(ω)
     case rel=>exact⟨j+1,x+1,b2,rfl,(by go_num),⟨ω,ω⟩,(by rw[E5.1,Zj,<-D0.1];exact(if_pos HZ.1).symm),I1.1,D6.1⟩
    go_upto_region 11 with fail;refine zy ?_;have I0:=zH (A1.1.step (Aa.refl A7).drew);have I9:=zH (Af.of_ext (w:=A7) zb);refine vS A1.1 zb (bs 10 7) 0 1 2 _ _ _ ?_;refine zg 3 (bs 10 15) B8 (0) [iV q.x0,iV q.y0,iV q.x1,iV q.y1] (A1.1.range (i:=3) rR 0 4) underlying26 zb ?_;refine Xn Ah zb (bs 10 63) 4 5 (iV x) (iV y) ?_;refine mC 6 (bs 10 127) ((sL q x y _).mono fun _ _ h_=>(⟨h_.1.trans (by rw[C7.1]),h_.2⟩:_=Ending.returned (iV ((kk:Nat):Int))/\Aa _ _)) ?_;rintro e F5 ⟨rfl,hx⟩;have F4:=zH (I0.1.step hx);have I8:=zH (show Af A7.drew F5 from Af.of_ext hx);have B9:=zH (zb.trans hx);clear hx;apply zm B9.1;refine zu 7 (bs 10 255) (v:= .pointer (some ⟨gm,kk*1,none⟩)) B9.1 ?_ (hv:=by intro w C4;exact Iu (k:=kk) underlying47 (l:=E0) (f:=(eZZ _).symm));refine zf 8 (bs 10 511) gm (kk*1) (.int .u8 (Fw rule rs x y)) (A1.1.elem (f:=Bp) (i:=2) rR Jk C9.1) B9.1 ?_;refine zu 9 (bs 10 1023) (v:= .bool true) B9.1 ?_ (hv:=by intro w C4;exact lI rR rR rR (Ar HZ.1));refine wpAnyH_done kR ?_ _;go_upto_region 12 with fail
    apply wl;refine zd B7 (0) [iV b2.x0,iV b2.y0,iV b2.x1,iV b2.y1] (F4.1.range (i:=4) rR 0 4) underlying26 ?_;refine Dv Ah (iV x) (iV y) (iV x) ?_;apply zp (iV (x+1)) (by exact He ω);apply zq (iV y);apply zp (iV (y+1)) (by exact He ω);apply qV (.agg #[iV x,iV y,iV (x+1),iV (y+1)]);refine aC F4.1 (aAX b2 ⟨x,y,x+1,y+1⟩ _) ?_;intro J3 H9 I7;apply Dc 4 [iV ((b2.uni ⟨x,y,x+1,y+1⟩).x0),iV ((b2.uni ⟨x,y,x+1,y+1⟩).y0),iV ((b2.uni ⟨x,y,x+1,y+1⟩).x1),iV ((b2.uni ⟨x,y,x+1,y+1⟩).y1)] H9.1;intro G4 D5 D8;go_upto_region 10 with fail;apply wl;apply zq (iV x);apply zp (iV (x+1)) (by exact He ω);apply zq (iV (x+1));have B6:=tD (tD (tD (tD D7 I9) I8) I7) D8;go_wp2_with fail
    go_roundg (NX-(j+1))
    case measure=>exact(ω)
    case rel=>exact⟨j+1,x+1,(b2.uni ⟨x,y,x+1,y+1⟩),rfl,(by go_num),⟨ω,ω⟩,(by rw[E5.1,Zj,<-D0.1];exact(if_neg HZ.1).symm),D5.1,B6.1⟩
   have H1:=C6.1;have G7:=HXL.1;have G9:=E9.1;go_upto_region 9 with fail
   apply wl;refine Fg A1.1 (iV x) _ _ _ ?_;apply zp (.bool false) (by exact Eg (e:=(Al ω)));go_upto_region 7 with fail;apply wl;apply zq (iV y);apply zp (iV (y+1)) (by exact He ω);apply zq (iV (y+1));have B5:=tD J2 D7;go_wp2_with fail
   go_roundg (NY-(k+1))
   case measure=>exact(ω)
   case rel=>exact⟨k+1,y+1,b2,rfl,(by go_num),⟨ω,ω⟩,(by rw[D0.1,nZ ω,Ik,show(q.x1-q.x0).toNat=j by omega,<-C5.1.1]),A1.1,B5.1⟩
  have F2:=zH (show q.y1<=y from by have:=HLT.1;omega);have D9:=C5.1;have G8:=E8.1;have J9:=F2.1;go_upto_region 6 with fail
  apply wl;refine Fg A6.1 (iV y) _ _ _ ?_;apply zp (.bool false) (by exact Eg (e:=(Al ω)));go_upto_region 13 with fail;apply wl;refine zd B7 (0) [iV b1.x0,iV b1.y0,iV b1.x1,iV b1.y1] (A6.1.range (i:=4) rR 0 4) underlying26 ?_;apply Dc 1 [iV b1.x0,iV b1.y0,iV b1.x1,iV b1.y1] A6.1;intro G3 B4 _;apply zq (iV 0);go_wp2_with fail;refine bodyPost_ret (v:= .tuple #[.agg #[iV b1.x0,iV b1.y0,iV b1.x1,iV b1.y1],iV 0]) ?_ rfl ⟨by unfold zK;(try rw[if_pos HE.1]);(try rw[HE.1]);(try rw[HQ.1]);rw[show fP (Fw rule rs) q=b1 from by rw[F3.1];unfold fP;rw[sZ ω]]<;>rfl,B4.1.ext⟩;exact Aw rfl rfl ((B4.1.blk (i:=1) rR).loadVar rfl rfl rR) rfl
 go_upto_region 1 with fail;apply wl;refine Dv H8.1 _ (iV rule) _ ?_;refine zc ((Ge A cap rs rule r _ (HU.1.ext H8.1.ext) HN.1 E7.1 B2.1 E6.1).mono (fun _ _ h_=>Fz.bad h_ HE.1)) ?_;rintro e C1 ⟨Am,cm,rfl,A0,hx⟩;have D4:=zH (show Hp w C1 [.blk X1 26 [iV r.x0,iV r.y0,iV r.x1,iV r.y1],.blk X6 26 [iV 0,iV 0,iV 0,iV 0],ro 5 1 Am 0 cm Bp ([])]from H8.1.addRow hx A0);clear A0 hx;refine zn ?_;refine Dv Ah _ _ (iV (Gs rule rs r)) ?_;apply Cn 49 [iV 0,iV 0,iV 0,iV 0,.slice none 0 0] D4.1;intro H2 G2 D3 _;apply Dc 3 [iV 0,iV 0,iV 0,iV 0,.slice Am 0 cm] D3.1;intro G1 D2 _;apply zq (iV (Gs rule rs r));go_upto_region 2 with fail
 apply wl;apply zq (iV (Gs rule rs r));apply zp (.bool true) (by exact Nq (e:=(Ar HE.1)));go_upto_region 3 with fail;apply wl;refine Cc Ah _ (iV (Gs rule rs r)) ?_;apply Dc 1 [iV 0,iV 0,iV 0,iV 0] D2.1;intro G0 B3 _;apply zq (iV (Gs rule rs r));go_wp2_with fail;refine bodyPost_ret (v:= .tuple #[.agg #[iV 0,iV 0,iV 0,iV 0],iV (Gs rule rs r)]) ?_ rfl ⟨by unfold zK;(try rw[if_neg HE.1])<;>rfl,B3.1.ext⟩;exact Aw rfl rfl ((B3.1.blk (i:=1) rR).loadVar rfl rfl rR) rfl
end
section
def Jp (px:Int)(x:Rat):Rat:=if x-((px:Int):Rat)<((0:Int):Rat)then((0:Int):Rat)else if ((256:Int):Rat)<x-((px:Int):Rat)then((256:Int):Rat)else x-((px:Int):Rat)
def bM (a b:Int×Int)(lo hi x:Int):Prop:=(a.1≠b.1/\min a.1 b.1<=x/\x<=max a.1 b.1)/\((lo:Int):Rat)<Kn a b x/\Kn a b x<((hi:Int):Rat)
instance (a b:Int×Int) (lo hi x:Int):Decidable (bM a b lo hi x):=by unfold bM;infer_instance
def Xk (a b:Int×Int)(lo hi x:Int):List Rat:=if bM a b lo hi x then[Kn a b x]else[]
def iM (x:Rat):List Rat->List Rat
  | []=>[x]
  |y::l=>if x<=y then x::y::l else y::iM x l
def mJ:List Rat->List Rat
  | []=>[]
  |x::l=>iM x (mJ l)
theorem Rm (x:Rat):∀l:List Rat,(iM x l).Perm (x::l)
  | []=>List.Perm.refl _
  | y::l=>by
    unfold iM;split
    · exact List.Perm.refl _
    exact((Rm x l).cons y).trans (List.Perm.swap x y l)
theorem Iy:∀l:List Rat,(mJ l).Perm l
  | []=>List.Perm.refl _
  |x::l=>(Rm x (mJ l)).trans ((Iy l).cons x)
theorem eV (x:Rat):∀l:List Rat,l.Pairwise (· <= ·)->(iM x l).Pairwise (· <= ·)
  | [],_=>by unfold iM;exact List.pairwise_singleton _ _
  | y::l,h=>by
    obtain⟨h1,h2⟩:=List.pairwise_cons.1 h;unfold iM;split
    · rename_i c
      refine List.pairwise_cons.2 ⟨fun z hz=> ?_,h⟩;rcases List.mem_cons.1 hz with e|e
      · rw[e];exact c
      have:=h1 z e;grind
    rename_i c;refine List.pairwise_cons.2 ⟨fun z hz=> ?_,eV x l h2⟩;rcases List.mem_cons.1 ((Rm x l).mem_iff.1 hz)with e|e
    · rw[e];grind
    exact h1 z e
theorem cQ:∀l:List Rat,(mJ l).Pairwise (· <= ·)
  | []=>List.Pairwise.nil
  |x::l=>eV x _ (cQ l)
theorem cP:∀{l m:List Rat},l.Pairwise (· <= ·)->m.Pairwise (· <= ·)->l.Perm m->l=m
 | [],m,_,_,h=>h.nil_eq
 |x::l,[],_,_,h=>absurd h.length_eq (by simp)
 |x::l,y::m,h1,h2,h=>by
  obtain⟨a1,a2⟩:=List.pairwise_cons.1 h1;obtain⟨b1,b2⟩:=List.pairwise_cons.1 h2;have e:x=y:=by
   have k1:=h.mem_iff.1 (dXX (a:=x) (l:=l));have k2:=h.mem_iff.2 (dXX (a:=y) (l:=m));rcases List.mem_cons.1 k1 with c|c
   ·exact c
   rcases List.mem_cons.1 k2 with d|d
   ·exact d.symm
   have p:=b1 x c;have q:=a1 y d;grind
  subst e;rw[cP a2 b2 (List.Perm.cons_inv h)]
theorem wG {l m:List Rat}(h1:l.Pairwise (· <= ·))(h2:l.Perm m):l=mJ m:=cP h1 (cQ m) (h2.trans (Iy m).symm)
def Jt (F:Rat->Rat->Rat):List Rat->Rat
  |x::y::l=>F x y+Jt F (y::l)
  |_=>0
theorem Vn (F:Rat->Rat->Rat):∀(l:List Rat) (k:Nat) (x y:Rat),l[k]?=some x->l[k+1]?=some y->Jt F (l.take (k+2))=Jt F (l.take (k+1))+F x y
  | a::b::l,0,x,y,h1,h2=>by
    simp at h1 h2;subst h1 h2;show F a b+0=0+F a b;grind
  | [a],0,x,y,h1,h2=>by simp at h2
  | a::b::l,k+1,x,y,h1,h2=>by
    have ih:=Vn F (b::l) k x y (by simpa using h1) (by simpa using h2);show F a b+Jt F ((b::l).take (k+2))=F a b+Jt F ((b::l).take (k+1))+F x y;rw[ih];grind
  | [a],k+1,x,y,h1,h2=>by simp at h1
  | [],k,x,y,h1,h2=>by simp at h1
theorem Vo {F:Rat->Rat->Rat}{C:Nat}:∀{l:List Rat},(∀x,x∈l->∀y,y∈l->Nm.rl (F x y)<=C)->Nm.rl (Jt F l)<=2+l.length*(C+1)
  | [],_=>Av (Bu 0 ω ω) (by omega)
  | [_],_=>Av (Bu 0 ω ω) (by omega)
  | x::y::l,h=>by
    have ih:=Vo (l:=y::l) (fun a ha b hb=>h a (cXX _ ha) b (cXX _ hb));have h1:=h x dXX y (cXX _ dXX);have h2:=Nm.rl_add (F x y) (Jt F (y::l));show Nm.rl (F x y+Jt F (y::l))<=_;simp only[hXX]at ih⊢;rw[kZZ (l.length+1)];generalize (l.length+1)*(C+1)=Z at*
    omega
def Wx (px:Int)(a b:Int×Int)(x y:Rat):Rat:=(Jp px (Fe a.1 a.2 b.1 b.2 x)+Jp px (Fe a.1 a.2 b.1 b.2 y))/2*(y-x)
def aY (py:Int)(a b:Int×Int):Int:=max py (min a.2 b.2)
def bI (py:Int)(a b:Int×Int):Int:=min (py+256) (max a.2 b.2)
def eX (px:Int)(a b:Int×Int)(lo hi:Int):List Rat:=[((lo:Int):Rat),((hi:Int):Rat)]++Xk a b lo hi px++Xk a b lo hi (px+256)
def Jo (px:Int)(a b:Int×Int)(lo hi:Int):List Rat:=mJ (eX px a b lo hi)
def Ij (p:Int×Int)(a b:Int×Int):Rat:=
  if bI p.2 a b<=aY p.2 a b\/max a.1 b.1<=p.1 then((0:Int):Rat)
  else if p.1+256<=min a.1 b.1 then((256*(bI p.2 a b-aY p.2 a b):Int):Rat)
  else Jt (Wx p.1 a b) (Jo p.1 a b (aY p.2 a b) (bI p.2 a b))
def Uo (p:Int×Int)(s:Rat)(e:Cx):Rat:=if e.1.2<e.2.2 then s+Ij p e.1 e.2 else if e.2.2<e.1.2 then s-Ij p e.1 e.2 else s
def Nz (p:Int×Int)(l:List Cx):Rat:=l.foldl (Uo p) ((0:Int):Rat)
def Un (rs:List Ac)(p:Int×Int):Rat:=Nz p (Ba rs)/((65536:Int):Rat)
theorem yF {px lo hi:Int}{a b:Int×Int}{z:Rat}(h:z∈Jo px a b lo hi)(hl:lo<=hi):((lo:Int):Rat)<=z/\z<=((hi:Int):Rat):=by
 have hq:((lo:Int):Rat)<=((hi:Int):Rat):=by exact_mod_cast hl
 have h:=(Iy _).mem_iff.1 h;unfold eX Xk at h;rcases List.mem_append.1 h with h|h
 ·rcases List.mem_append.1 h with h|h
  ·rcases List.mem_cons.1 h with e|h
   ·rw[e];exact⟨Rat.le_refl,hq⟩
   rw[List.mem_singleton.1 h];exact⟨hq,Rat.le_refl⟩
  split at h
  ·rename_i c;rw[List.mem_singleton.1 h];have:=c.2;grind
  cases h
 split at h
 ·rename_i c;rw[List.mem_singleton.1 h];have:=c.2;grind
 cases h
theorem tX {px lo hi:Int}{a b:Int×Int}{z:Rat}(h:z∈Jo px a b lo hi)(ha:Dj a)(hb:Dj b)(h1: -9223372036854775808<=lo/\lo<=9223372036854775807)(h2: -9223372036854775808<=hi/\hi<=9223372036854775807)(h3: -1048576<=px/\px<=1048320):Nm.rl z<=20:=by
 have h:=(Iy _).mem_iff.1 h;unfold eX Xk at h;rcases List.mem_append.1 h with h|h
 ·rcases List.mem_append.1 h with h|h
  ·rcases List.mem_cons.1 h with e|h
   ·rw[e];exact Av (Bu lo h1.1 h1.2) (by decide)
   rw[List.mem_singleton.1 h];exact Av (Bu hi h2.1 h2.2) (by decide)
  split at h
  ·rw[List.mem_singleton.1 h];exact Zz ha hb ⟨ω,ω⟩
  cases h
 split at h
 ·rw[List.mem_singleton.1 h];exact Zz ha hb ⟨ω,ω⟩
 cases h
theorem bG (px:Int)(a b:Int×Int)(lo hi:Int):(Jo px a b lo hi).length<=4:=by
  have h:=(Iy (eX px a b lo hi)).length_eq;unfold Jo;rw[h];unfold eX Xk;split<;>split<;>simp
theorem yE (px:Int)(a b:Int×Int)(lo hi:Int):0<(Jo px a b lo hi).length:=by
  unfold Jo;rw[(Iy _).length_eq];simp[eX]
theorem oG (F:Rat->Rat->Rat)(l:List Rat):Jt F (l.take 1)=((0:Int):Rat):=by
  cases l with
  |nil=>rfl
  |cons x l=>rfl
theorem bQ {px:Int}{x:Rat}{c:Nat}(hx:Nm.rl x<=c)(hp: -9223372036854775808<=px/\px<=9223372036854775807):Nm.rl (Jp px x)<=c+3:=by
  unfold Jp;split
  · exact Av (Bu 0 ω ω) (ω)
  split
  · exact Av (Bu 256 ω ω) (ω)
  have h1:=Nm.rl_sub x ((px:Int):Rat);have h2:=Bu px hp.1 hp.2;omega
theorem rE {px:Int}{a b:Int×Int}{x y:Rat}(ha:Dj a)(hb:Dj b)(hx:Nm.rl x<=20)(hy:Nm.rl y<=20)(hp: -9223372036854775808<=px/\px<=9223372036854775807):Nm.rl (Wx px a b x y)<=120:=by
 unfold Wx;have k1:=bQ (Md ha hb hx) hp;have k2:=bQ (Md ha hb hy) hp;have h1:=Nm.rl_add (Jp px (Fe a.1 a.2 b.1 b.2 x)) (Jp px (Fe a.1 a.2 b.1 b.2 y));have h2:=Nm.rl_div (Jp px (Fe a.1 a.2 b.1 b.2 x)+Jp px (Fe a.1 a.2 b.1 b.2 y)) 2;have h3:Nm.rl (2:Rat)<=2:=Bu 2 ω ω;have h4:=Nm.rl_sub y x;have h5:=Nm.rl_mul ((Jp px (Fe a.1 a.2 b.1 b.2 x)+Jp px (Fe a.1 a.2 b.1 b.2 y))/2) (y-x);omega
theorem bA {p a b:Int×Int}(ha:Dj a)(hb:Dj b)(hp:(-1048576<=p.1/\p.1<=1048320)/\ -1048576<=p.2/\p.2<=1048320):Nm.rl (Ij p a b)<=500:=by
 have oa:=Bi ha;have ob:=Bi hb;have l1: -1048576<=aY p.2 a b/\aY p.2 a b<=1048576:=by unfold aY;omega
 have l2: -1048576<=bI p.2 a b/\bI p.2 a b<=1048576:=by unfold bI;omega
 unfold Ij;split
 ·exact Av (Bu 0 ω ω) (ω)
 split
 ·exact Av (Bu _ ω ω) (ω)
 have hr:∀z,z∈Jo p.1 a b (aY p.2 a b) (bI p.2 a b)->Nm.rl z<=20:=fun z hz=>tX hz ha hb ⟨ω,ω⟩ ⟨ω,ω⟩ hp.1
 have h:=Vo (F:=Wx p.1 a b) (C:=120) (fun x hx y hy=>rE ha hb (hr x hx) (hr y hy) ⟨ω,ω⟩);have h2:=bG p.1 a b (aY p.2 a b) (bI p.2 a b);have h3:=iQQ (120+1) h2;omega
theorem rG {p:Int×Int}(hp:(-1048576<=p.1/\p.1<=1048320)/\ -1048576<=p.2/\p.2<=1048320):∀{l:List Cx} {s:Rat},(∀e,e∈l->aEL e)->Nm.rl (l.foldl (Uo p) s)<=Nm.rl s+l.length*501
 | [],s,_=>by simp
 |e::l,s,h=>by
  have he:=h e dXX;have ih:=rG hp (l:=l) (s:=Uo p s e) (fun x hx=>h x (cXX _ hx));have k:Nm.rl (Uo p s e)<=Nm.rl s+501:=by
   have h0:=bA (p:=p) he.1 he.2 hp;unfold Uo;split
   ·have:=Nm.rl_add s (Ij p e.1 e.2);omega
   split
   ·have:=Nm.rl_sub s (Ij p e.1 e.2);omega
   omega
  show Nm.rl (l.foldl (Uo p) (Uo p s e))<=_;rw[hXX,kZZ];omega
end
section
attribute [local go_sem ↓] Go.wp_at_zero Go.wp_at_succ Aj Ai
theorem jP (px py:Int)(r:RV)(x:Rat)(w:World)(hp: -1048576<=px/\px<=1048576)(hx:r.Is w x)(hl:Nm.rl x<=200):
  Calls prog 99 #[.agg #[iV px,iV py],(rg r)] w fun e w'=>∃q:RV,e= .returned (rg q)/\q.Is w' (Jp px x)/\Aa w w':=by
 have HX:=zH hx;have D6:=zH hl;clear hx hl;go_enter func99,ntmps99
 have H0:=zH (Hp.start w);go_upto_region 0 with fail;apply wl;apply Cn 66 [iV px,iV py] H0.1;intro X1 w2 H3 _;apply Cn 33 (rc r) H3.1;intro X6 w7 H8 _;refine Cn 33 rz H8.1 ?_;intro K9 B6 D9 _;go_upto_region 1 with fail;refine zy ?_;have C3:=zH (D9.1.step (Aa.refl B6).drew);refine vS D9.1 zb (bs 7 7) 0 1 2 _ _ _ ?_;refine gG 5 (some 5) 33 rz B6 C3.1 ?_;refine gL 3 (bs 7 39) (bs 7 15) zb.size C3.1 zb (fun xq A5=>Da px _ ω ω) (by rintro x_ e E4 ⟨c_,rfl,A1,hx⟩;exact hx) ?_;rintro xq e K3 A5 ⟨c_,rfl,A1,hx⟩;replace hx:=A5.trans hx;clear A5;have C2:=zH (C3.1.step hx);have C1:=zH (zb.trans hx);obtain⟨K8,rfl,A0⟩:=A1;have G0:=zH A0;have E3:=zH (Bu px ω ω);clear A0 hx;refine⟨_,rfl,?_⟩;try simp only[ζ]
 refine gL 4 (bs 7 47) (bs 7 31) C1.1.size C2.1 C1.1 (fun xq A5=>eC (L:=60000) (RV.Is.nin (HX.1.dig (C2.1.dig0.trans (Af.of_ext A5))) (Av D6.1 ω)) (RV.Is.nin (G0.1.dig (Af.of_ext A5)) (Av E3.1 ω)) ω) (by rintro x_ e E4 ⟨c_,rfl,A1,hx⟩;exact hx) ?_;rintro xq e K2 A5 ⟨c_,rfl,A1,hx⟩;replace hx:=A5.trans hx;clear A5;have H9:=zH (C2.1.step hx);have D5:=zH (C1.1.trans hx);obtain⟨A2,rfl,A0⟩:=A1;have B2:=zH A0;clear A0;have B9:=zH (show Nm.rl (x-(((px):Int):Rat))<=200+2+1 from by have h1:=D6.1;have h2:=E3.1;have h3:=Nm.rl_sub x (((px):Int):Rat);omega);clear hx;refine⟨_,rfl,?_⟩;try simp only[ζ]
 refine gE (bs 7 63) D5.1.size H9.1 D5.1 ?_;intro F2 E9 hx hh hs C8;have H7:=hN hh;have E2:=zH (Af.of_ext hx);have F3:=zH (show Aa B6 E9 from hs);have I0:=zH (show B6.heap.size<=F2 from C8);clear hh hx C8 hs;try simp only[ζ]
 refine bS 3 6 (bs 7 127) (rc A2) H7.1 F3.1 I0.1 ?_;intro A9 B8 E1 L0;refine wpAnyH_done kR ?_ _;rcases Cy (x-(((px):Int):Rat)<(((0):Int):Rat))with H1|H1
 ·go_upto_region 2 with fail
  refine zy ?_;have H6:=zH (B8.1.step (Aa.refl A9).drew);have J1:=zH (Af.of_ext (w:=A9) zb);refine Xo B8.1 zb (bs 4 1) 0 _ ?_;refine mC 1 (bs 4 3) (Da 0 _ ω ω) ?_;rintro e E8 ⟨c_,rfl,A1,hx⟩;have H5:=zH (H6.1.step hx);have J0:=zH (show Af A9.drew E8 from Af.of_ext hx);have D4:=zH (zb.trans hx);obtain⟨K7,rfl,A0⟩:=A1;have F9:=zH A0;have J5:=zH (Bu 0 ω ω);clear A0 hx;apply zm D4.1;have C5:=tD (tD (tD E2 E1) J1) J0;refine mC 2 (bs 4 7) (Gd (L:=60000) (RV.Is.nin (B2.1.dig C5.1) (Av B9.1 ω)) (RV.Is.nin F9.1 (Av J5.1 ω)) ω) ?_;rintro e K1 ⟨rfl,hx⟩;have H4:=zH (H5.1.step hx);have D3:=zH (D4.1.trans hx);clear hx;apply zm D3.1;refine zu 3 (bs 4 15) (v:= .bool true) D3.1 ?_ (hv:=by intro w C0;exact Eg (e:=(Ar (rcmp_lt.2 H1.1))));refine wpAnyH_done kR ?_ _;go_upto_region 3 with fail
  apply wl;refine zc (Da 0 _ ω ω) ?_;rintro e K0 ⟨c_,rfl,A1,hx⟩;have G9:=zH (H4.1.step hx);obtain⟨A4,rfl,A0⟩:=A1;have F8:=zH A0;clear A0 hx;refine zn ?_;apply Dc 2 (rc A4) G9.1;intro J9 D8 I9;go_wp2_with fail
  refine bodyPost_ret (v:= (rg A4)) ?_ rfl ⟨A4,rfl,(show Jp px x=(((0):Int):Rat)from if_pos H1.1)▸(F8.1.dig I9.1),D8.1.ext⟩;exact Ak rfl rfl ((D8.1.blk (i:=2) rR).loadVar rfl rfl rR)
 go_upto_region 2 with fail;refine zy ?_;have G8:=zH (B8.1.step (Aa.refl A9).drew);have I8:=zH (Af.of_ext (w:=A9) zb);refine Xo B8.1 zb (bs 4 1) 0 _ ?_;refine mC 1 (bs 4 3) (Da 0 _ ω ω) ?_;rintro e E7 ⟨c_,rfl,A1,hx⟩;have G7:=zH (G8.1.step hx);have I7:=zH (show Af A9.drew E7 from Af.of_ext hx);have D2:=zH (zb.trans hx);obtain⟨K6,rfl,A0⟩:=A1;have F7:=zH A0;have J4:=zH (Bu 0 ω ω);clear A0 hx;apply zm D2.1;have A7:=tD (tD (tD E2 E1) I8) I7;refine mC 2 (bs 4 7) (Gd (L:=60000) (RV.Is.nin (B2.1.dig A7.1) (Av B9.1 ω)) (RV.Is.nin F7.1 (Av J4.1 ω)) ω) ?_;rintro e A8 ⟨rfl,hx⟩;have B7:=zH (G7.1.step hx);have E0:=zH (Af.of_ext hx);have D1:=zH (D2.1.trans hx);clear hx;apply zm D1.1;refine zu 3 (bs 4 15) (v:= .bool false) D1.1 ?_ (hv:=by intro w C0;exact Eg (e:=(Al (fun hh=>H1.1 (rcmp_lt.1 hh)))));refine wpAnyH_done kR ?_ _;rcases Cy ((((256):Int):Rat)<x-(((px):Int):Rat))with H2|H2
 ·go_upto_region 4 with fail
  refine zy ?_;have G6:=zH (B7.1.step (Aa.refl A8).drew);have I6:=zH (Af.of_ext (w:=A8) zb);refine Xo B7.1 zb (bs 4 1) 0 _ ?_;refine mC 1 (bs 4 3) (Da 256 _ ω ω) ?_;rintro e E6 ⟨c_,rfl,A1,hx⟩;have G5:=zH (G6.1.step hx);have I5:=zH (show Af A8.drew E6 from Af.of_ext hx);have D0:=zH (zb.trans hx);obtain⟨K5,rfl,A0⟩:=A1;have F6:=zH A0;have J3:=zH (Bu 256 ω ω);clear A0 hx;apply zm D0.1;have C4:=tD (tD (tD A7 E0) I6) I5;refine mC 2 (bs 4 7) (Gd (L:=60000) (RV.Is.nin (B2.1.dig C4.1) (Av B9.1 ω)) (RV.Is.nin F6.1 (Av J3.1 ω)) ω) ?_;rintro e J8 ⟨rfl,hx⟩;have G4:=zH (G5.1.step hx);have C9:=zH (D0.1.trans hx);clear hx;apply zm C9.1;refine zu 3 (bs 4 15) (v:= .bool true) C9.1 ?_ (hv:=by intro w C0;exact Rq (e:=(Ar (Hv.2 H2.1))));refine wpAnyH_done kR ?_ _;go_upto_region 5 with fail
  apply wl;refine zc (Da 256 _ ω ω) ?_;rintro e J7 ⟨c_,rfl,A1,hx⟩;have G3:=zH (G4.1.step hx);obtain⟨A3,rfl,A0⟩:=A1;have F5:=zH A0;clear A0 hx;refine zn ?_;apply Dc 2 (rc A3) G3.1;intro J6 D7 I4;go_wp2_with fail
  refine bodyPost_ret (v:= (rg A3)) ?_ rfl ⟨A3,rfl,(show Jp px x=(((256):Int):Rat)from(if_neg H1.1).trans (if_pos H2.1))▸(F5.1.dig I4.1),D7.1.ext⟩;exact Ak rfl rfl ((D7.1.blk (i:=2) rR).loadVar rfl rfl rR)
 go_upto_region 4 with fail;refine zy ?_;have G2:=zH (B7.1.step (Aa.refl A8).drew);have I3:=zH (Af.of_ext (w:=A8) zb);refine Xo B7.1 zb (bs 4 1) 0 _ ?_;refine mC 1 (bs 4 3) (Da 256 _ ω ω) ?_;rintro e E5 ⟨c_,rfl,A1,hx⟩;have G1:=zH (G2.1.step hx);have I1:=zH (show Af A8.drew E5 from Af.of_ext hx);have B1:=zH (zb.trans hx);obtain⟨K4,rfl,A0⟩:=A1;have F4:=zH A0;have J2:=zH (Bu 256 ω ω);clear A0 hx;apply zm B1.1;have A6:=tD (tD (tD A7 E0) I3) I1;refine mC 2 (bs 4 7) (Gd (L:=60000) (RV.Is.nin (B2.1.dig A6.1) (Av B9.1 ω)) (RV.Is.nin F4.1 (Av J2.1 ω)) ω) ?_;rintro e F1 ⟨rfl,hx⟩;have B4:=zH (G1.1.step hx);have C7:=zH (Af.of_ext hx);have B0:=zH (B1.1.trans hx);clear hx;apply zm B0.1;refine zu 3 (bs 4 15) (v:= .bool false) B0.1 ?_ (hv:=by intro w C0;exact Rq (e:=(Al (fun hh=>H2.1 (Hv.1 hh)))));refine wpAnyH_done kR ?_ _;go_upto_region 6 with fail
 apply wl;refine Cs B4.1 _ ?_;apply Dc 2 (rc A2) B4.1;intro F0 B3 C6;have B5:=tD (tD A6 C7) C6;go_wp2_with fail
 refine bodyPost_ret (v:= (rg A2)) ?_ rfl ⟨A2,rfl,(show Jp px x=x-(((px):Int):Rat)from(if_neg H1.1).trans (if_neg H2.1))▸(B2.1.dig B5.1),B3.1.ext⟩;exact Ak rfl rfl ((B3.1.blk (i:=2) rR).loadVar rfl rfl rR)
theorem Qz (px py:Int)(w:World)(hp:(-1048576<=px/\px<=1048576)/\ -1048576<=py/\py<=1048576):Calls prog 95 #[.agg #[iV px,iV py]] w fun e w'=>e= .returned (iV (px+256))/\Aa w w':=by
 go_enter func95,ntmps95;have H0:=zH (Hp.start w);go_upto_region 0 with fail;apply wl;apply Cn 66 [iV px,iV py] H0.1;intro A2 A1 A0 _;apply zq (iV 0);go_upto_region 1 with fail;apply wl;refine Cc A0.1 _ _ ?_;apply zp (iV (px+256)) (by exact He ω);apply zq (iV (px+256));go_wp2_with fail;go_ret;exact⟨rfl,A0.1.ext⟩
theorem jG (px py:Int)(w:World)(hp:(-1048576<=px/\px<=1048576)/\ -1048576<=py/\py<=1048576):Calls prog 94 #[.agg #[iV px,iV py]] w fun e w'=>e= .returned (iV (py+256))/\Aa w w':=by
 go_enter func94,ntmps94;have H0:=zH (Hp.start w);go_upto_region 0 with fail;apply wl;apply Cn 66 [iV px,iV py] H0.1;intro A2 A1 A0 _;apply zq (iV 0);go_upto_region 1 with fail;apply wl;refine Cc A0.1 _ _ ?_;apply zp (iV (py+256)) (by exact He ω);apply zq (iV (py+256));go_wp2_with fail;go_ret;exact⟨rfl,A0.1.ext⟩
def pZ (px:Int)(a b:Int×Int)(lo hi:Int)(k:Nat):List Rat:=(if 0<k then Xk a b lo hi px else[])++(if 1<k then Xk a b lo hi (px+256)else[])
theorem Nj {px:Int}{a b:Int×Int}{lo hi:Int}{k:Nat}(h:k<2):pZ px a b lo hi (k+1)=pZ px a b lo hi k++Xk a b lo hi (if k=0 then px else px+256):=by
  rcases(by omega:k=0\/k=1)with rfl|rfl<;>simp[pZ]
theorem uS (px:Int)(a b:Int×Int)(lo hi:Int): [((lo:Int):Rat),((hi:Int):Rat)]++pZ px a b lo hi 2=eX px a b lo hi:=by simp[pZ,eX]
theorem yZ {a b:Int×Int}{lo hi x:Int}(h:bM a b lo hi x):Xk a b lo hi x=[Kn a b x]:=if_pos h
theorem jA {a b:Int×Int}{lo hi x:Int}(h:¬bM a b lo hi x):Xk a b lo hi x=[]:=if_neg h
theorem yG (px py:Int)(a b:Int×Int)(lo hi:Int)(w:World)(hp:(-1048576<=px/\px<=1048320)/\ -1048576<=py/\py<=1048320)(oa:Dj a)(ob:Dj b)(hlo: -1048576<=lo/\lo<=1048576)(hhi: -1048576<=hi/\hi<=1048576):
  Calls prog 96 #[.agg #[iV px,iV py],.agg #[iV a.1,iV a.2],.agg #[iV b.1,iV b.2],iV lo,iV hi] w fun e w'=>∃(A:Option Addr) (n c:Nat) (es:List Ca),e= .returned (.slice A n c)/\n=es.length/\Be w' w.heap.size 33 4 (.slice A n c) n (List.flatMap Ca.cells es)/\es.map Ca.q=Jo px a b lo hi/\(∀e,e∈es->e.Ok 24 w')/\Aa w w':=by
 have O2:=zH oa;have O1:=zH ob;have Q2:=zH hlo;have Q3:=zH hhi;have Q1:=zH hp;clear oa ob;go_enter func96,ntmps96
 have H0:=zH (Hp.start w);go_upto_region 0 with fail;apply wl;apply Cn 66 [iV px,iV py] H0.1;intro X1 w2 H3 _;apply Cn 41 [iV a.1,iV a.2] H3.1;intro X6 w7 H8 _;apply Cn 41 [iV b.1,iV b.2] H8.1;intro G9 P7 P2 _;refine Cs Ah _ ?_;go_upto_region 1 with fail;apply wl;apply qV (iV lo);refine zc (Da lo _ ω ω) ?_;rintro e P6 ⟨c_,rfl,I7,hx⟩;have P1:=zH (P2.1.step hx);obtain⟨A2,rfl,C3⟩:=I7;have H4:=zH C3;have H9:=zH (Bu lo ω ω);clear C3 hx;refine zn ?_;apply qV (iV hi);refine zc (Da hi _ ω ω) ?_;rintro e P5 ⟨c_,rfl,I7,hx⟩;have P0:=zH (P1.1.step hx);have H7:=zH (Af.of_ext hx);obtain⟨A3,rfl,C3⟩:=I7;have J0:=zH C3;have K8:=zH (Bu hi ω ω);clear C3 hx;refine zn ?_;apply fW 2 33 [.bool A2.n,.slice A2.p A2.l A2.c,.bool A2.m,.slice A2.p2 A2.l2 A2.c2,.bool A3.n,.slice A3.p A3.l A3.c,.bool A3.m,.slice A3.p2 A3.l2 A3.c2] P0.1;intro G8 D7 M5 D1;refine Cs Ah _ ?_;have J3:=zH (show Hp w D7 [.blk X1 66 [iV px,iV py],.blk X6 41 [iV a.1,iV a.2],.blk G9 41 [iV b.1,iV b.2],ro 33 4 (some ⟨G8,0,none⟩) 2 2 Ca.cells ([(⟨A2,(((lo):Int):Rat)⟩:Ca),(⟨A3,(((hi):Int):Rat)⟩:Ca)])]from M5.1.turn (r:=none) (i:=3) (e:= .blk G8 33 [.bool A2.n,.slice A2.p A2.l A2.c,.bool A2.m,.slice A2.p2 A2.l2 A2.c2,.bool A3.n,.slice A3.p A3.l A3.c,.bool A3.m,.slice A3.p2 A3.l2 A3.c2]) (e':= .row 33 4 (.slice (some ⟨G8,0,none⟩) 2 2) (2) (List.flatMap Ca.cells ([(⟨A2,(((lo):Int):Rat)⟩:Ca),(⟨A3,(((hi):Int):Rat)⟩:Ca)]))) (by rfl) (fun k h=>by cases h) (World.grownBy.refl _ _) (M5.1.litRow17 (i:=3) (n:=2) (by rfl) (by rfl) (by decide)) (fun k hk=> .inl hk));go_upto_region 2 with fail
 refine zy ?_;have O9:=zH (J3.1.step (Aa.refl D7).drew);have D0:=zH (Af.of_ext (w:=D7) zb);refine zx 0 (bs 7 1) (.pointer (some ⟨X1,0,none⟩)) zb ?_;refine Dt (g:=X1) (o:=0) (v:= iV px) (i:=1) (listed':=(bs 7 3)) rR kR kR kR (by intro _ _ _ h;exact h) rR (fun x hx=>Aa.get hx (show World.cell? D7 ⟨X1,0,none⟩=some (iV px)from Ae (J3.1.range (i:=0) rR 0 1))) (by intro x hq;go_simp<;>with_reducible rfl) zb kR ?_;refine zg 2 (bs 7 7) X1 (0) [iV px,iV py] (J3.1.range (i:=0) rR 0 2) underlying66 zb ?_;refine zx 6 (bs 7 71) (iV 0) zb ?_;refine mC 3 (bs 7 79) (Qz px py _ ⟨⟨ω,ω⟩,ω,ω⟩) ?_;rintro e M9 ⟨rfl,hx⟩;have O8:=zH (O9.1.step hx);have C9:=zH (show Af D7.drew M9 from Af.of_ext hx);have M0:=zH (zb.trans hx);clear hx;apply zm M0.1;refine tQ (T:=3) (zs:=[iV px,iV (px+256)]) (n:=2) (i:=4) (listed':=(bs 7 95)) rR kR rR (by go_simp) kR O8.1 (by simp[Aq]) ?_;intro I8 M8 hh hx N7;have M4:=hN hh;have C8:=zH (Af.of_ext hx);have L9:=zH (M0.1.trans hx);clear hh hx N7;refine⟨L9.1,?_⟩;try simp only[ζ]
 refine zx 5 (bs 7 127) (iV 2) L9.1 ?_;refine wpAnyH_done kR ?_ _;go_wp2_with fail;go_loopg [27,11] (2) (fun cq N5 N4 wr=>∃(kx:Nat) (A1:Option Addr) (n1:Nat) (c1:Nat) (fs:List Ca),cq=2-kx/\N5= iV (kx:Int)/\N4= .slice A1 n1 c1/\(kx<=2)/\(n1=fs.length+2/\n1<=2+kx)/\(fs.map Ca.q=pZ px a b lo hi kx)/\(∀e,e∈fs->e.Ok 24 wr)/\Hp w wr [.blk X1 66 [iV px,iV py],.blk X6 41 [iV a.1,iV a.2],.blk G9 41 [iV b.1,iV b.2],.row 33 4 (.slice A1 n1 c1) (n1) (List.flatMap Ca.cells ((⟨A2,(((lo):Int):Rat)⟩:Ca)::(⟨A3,(((hi):Int):Rat)⟩:Ca)::fs)),.blk I8 3 [iV px,iV (px+256)]]/\Af M8 wr)
 case atStart=>exact⟨0,some ⟨G8,0,none⟩,2,2,[],rfl,rfl,rfl,ω,⟨rfl,ω⟩,rfl,(fun _ h_=>by cases h_),M4.1,Af.refl _⟩
 obtain⟨kx,A1,n1,c1,fs,rfl,rfl,rfl,C0,B9,C1,C2,L3,L5⟩:=hrel;generalize wr=L0 at*;have O3:=zH C0;clear C0;have D5:=zH B9;clear B9;have E0:=zH C1;clear C1;have E1:=zH C2;clear C2;have B2:=zH L3;have B0:=zH L5;clear L3 L5 M4;rcases Cy (kx<2)with HKT|HKT
 ·have P9:=HKT.1
  obtain⟨xv,L1⟩:∃xv,xv=if kx=0 then px else px+256:=⟨_,rfl⟩
  have D4:=zH L1;clear L1;have P8: -1048576<=xv/\xv<=1048576:=by rw[D4.1];split<;>omega
  obtain⟨g1,I6⟩:=Be.form (B2.1.row (i:=3) (by rfl)) |>.elim (fun A_ h_=>h_.elim (fun c_ L7=>(show∃g1,A1=some ⟨g1,0,none⟩from by obtain⟨e_,N8⟩:=L7;injection e_ with e1_ e2_ e3_;subst e1_;exact N8 (by have Q0:=D5.1.1;omega))));subst I6;have N6:fs.length+2<=n1/\n1<=fs.length+2/\n1<=2+kx:=by have h_:=D5.1;omega
  have J2:=zH (show((⟨A2,(((lo):Int):Rat)⟩:Ca)::(⟨A3,(((hi):Int):Rat)⟩:Ca)::fs)[0]?=some (⟨A2,(((lo):Int):Rat)⟩:Ca)from rfl);have M2:=zH (show((⟨A2,(((lo):Int):Rat)⟩:Ca)::(⟨A3,(((hi):Int):Rat)⟩:Ca)::fs)[1]?=some (⟨A3,(((hi):Int):Rat)⟩:Ca)from rfl);go_upto_region 3 with fail
  apply wl;apply zp (.bool true) (by exact Eg (e:=(Ar ω)));go_upto_region 4 with fail;apply wl;apply zp (.pointer (some ⟨I8,kx,none⟩)) (by exact Iu (k:=kx) underlying140 (l:=(by have h_:=HKT.1;omega)) (f:=(show kx=0+kx*1 by omega)));refine ze I8 kx (iV xv) (by rw[D4.1];exact eL B2.1 (i:=4) rR kx HKT.1) ?_;apply zq (iV xv);rcases Cy (Oy a b xv)with HYC|HYC
  ·go_upto_region 5 with fail
   apply wl;refine zd X6 (0) [iV a.1,iV a.2] (B2.1.range (i:=1) rR 0 2) underlying41 ?_;refine zd G9 (0) [iV b.1,iV b.2] (B2.1.range (i:=2) rR 0 2) underlying41 ?_;apply qV (iV xv);refine zc (((Tb a b xv _ ω).mono (fun _ _ h_=>Qr.yes h_ HYC.1))) ?_;rintro e P4 ⟨A0,rfl,C3,hx⟩;have O7:=zH (B2.1.step hx);have A9:=zH (Af.of_ext hx);have D3:=zH C3;have D6:=zH (Zz (x:=xv) HYC.1.1 HYC.1.2.1 ⟨ω,ω⟩);clear C3 hx;refine zn ?_;refine Dv Ah _ _ (.bool true) ?_;refine Cn 33 rz O7.1 ?_;intro D9 P3 O6 A7;apply Dc 5 (rc A0) O6.1;intro B3 A8 A6;apply zq (.bool true);rcases Cy ((((lo):Int):Rat)<(Kn a b xv))with H1|H1
   ·rcases Cy ((Kn a b xv)<(((hi):Int):Rat))with H2|H2
    ·go_upto_region 6 with fail
     refine zy ?_;have O5:=zH (A8.1.step (Aa.refl B3).drew);have G1:=zH (Af.of_ext (w:=B3) zb);refine zx 0 (bs 17 1) (.bool true) zb ?_;refine mX 1 (bs 17 3) (.bool true) zb ?_;refine zg 2 (bs 17 7) D9 (0) (rc A0) (A8.1.range (i:=5) rR 0 4) underlying33 zb ?_;refine zx 3 (bs 17 15) (.slice (some ⟨g1,0,none⟩) n1 c1) zb ?_;refine zo 4 (bs 17 31) (v:= .pointer (some ⟨g1,0*4,none⟩)) zb ?_ (hv:=by intro w B5;exact Iu (k:=0) underlying118 (l:=(show 0<n1 by omega)) (f:=(eZZ _).symm));refine zg 5 (bs 17 63) g1 (0*4) (rc A2) (A8.1.elem (f:=Ca.cells) (i:=3) rR Ca.len J2.1) underlying33 zb ?_;have E4:=tD (tD A7 A6) G1;have K5:=tD (tD (tD (tD (tD (tD (tD (tD (tD H7 D1) D0) C9) C8) B0) A9) A7) A6) G1;refine mC 6 (bs 17 127) (Gd (L:=60000) (RV.Is.nin (D3.1.dig E4.1) (Av D6.1 ω)) (RV.Is.nin (H4.1.dig K5.1) (Av H9.1 ω)) ω) ?_;rintro e M7 ⟨rfl,hx⟩;have O4:=zH (O5.1.step hx);have H6:=zH (show Af B3.drew M7 from Af.of_ext hx);have B6:=zH (zb.trans hx);clear hx;apply zm B6.1;refine zu 7 (bs 17 255) (v:= .bool true) B6.1 ?_ (hv:=by intro w B5;exact Rq (e:=(Ar (Hv.2 H1.1))));refine zx 8 (bs 17 511) (.bool true) B6.1 ?_;refine mX 9 (bs 17 1023) (.bool true) B6.1 ?_;refine zg 10 (bs 17 2047) D9 (0) (rc A0) (A8.1.range (i:=5) rR 0 4) underlying33 B6.1 ?_;refine zx 11 (bs 17 4095) (.slice (some ⟨g1,0,none⟩) n1 c1) B6.1 ?_;refine zo 12 (bs 17 8191) (v:= .pointer (some ⟨g1,1*4,none⟩)) B6.1 ?_ (hv:=by intro w B5;exact Iu (k:=1) underlying118 (l:=(show 1<n1 by omega)) (f:=(eZZ _).symm));refine zg 13 (bs 17 16383) g1 (1*4) (rc A3) (A8.1.elem (f:=Ca.cells) (i:=3) rR Ca.len M2.1) underlying33 B6.1 ?_;have E3:=tD E4 H6;have K4:=tD (tD (tD (tD (tD (tD (tD (tD (tD D1 D0) C9) C8) B0) A9) A7) A6) G1) H6;refine mC 14 (bs 17 32767) (Gd (L:=60000) (RV.Is.nin (D3.1.dig E3.1) (Av D6.1 ω)) (RV.Is.nin (J0.1.dig K4.1) (Av K8.1 ω)) ω) ?_;rintro e K9 ⟨rfl,hx⟩;have M3:=zH (O4.1.step hx);have K6:=zH (Af.of_ext hx);have I9:=zH (B6.1.trans hx);clear hx;apply zm I9.1;refine zu 15 (bs 17 65535) (v:= .bool true) I9.1 ?_ (hv:=by intro w B5;exact Eg (e:=(Ar (rcmp_lt.2 H2.1))));refine zx 16 (bs 17 131071) (.bool true) I9.1 ?_;refine wpAnyH_done kR ?_ _;have HC:=zH (yZ (show bM a b lo hi xv from⟨HYC.1.2.2,H1.1,H2.1⟩));go_upto_region 7 with fail
     apply wl;refine Cc M3.1 _ _ ?_;refine zp (w':=(K9.alloc (.cells ((rc A0):List Value).toArray 33))) (.slice (some ⟨K9.heap.size,0,none⟩) 1 1) (by go_simp) ?_;refine Oh rR _ _ _ rR aAG rR M3.1 (ix:=3) rR 1 1 (rc A0) rR rfl (by simp[Value.oneCell']) (by simp[Aq]) dC (by unfold maxLen;exact ω) ω ?_;intro D8 C4 N3 hf hh hd hg;have M6:=zH hf;clear hf;rw[show List.flatMap Ca.cells ((⟨A2,(((lo):Int):Rat)⟩:Ca)::(⟨A3,(((hi):Int):Rat)⟩:Ca)::fs)++(rc A0)=_ from Ez Ca.cells _ (⟨A0,(Kn a b xv)⟩:Ca)]at hh;have K3:=hN hh;have D2:=zH (hd);clear hh hd hg;try simp only[ζ]
     apply zq (.slice (some ⟨D8,0,none⟩) (n1+1) C4);have G0:=tD (tD E3 K6) D2;go_upto_region 8 with fail
     apply wl;apply zp (iV ((kx+1:Nat):Int)) (by exact He ω);apply zq (iV ((kx+1:Nat):Int));have F9:=tD (tD (tD (tD (tD (tD A9 A7) A6) G1) H6) K6) D2;have F8:=tD (tD (tD (tD (tD (tD (tD B0 A9) A7) A6) G1) H6) K6) D2;go_wp2_with fail
     go_roundg (2-(kx+1))
     case measure=>exact(by have C6:=(show kx<2 from HKT.1);omega)
     case rel=>exact⟨kx+1,some ⟨D8,0,none⟩,n1+1,C4,(fs++[(⟨A0,(Kn a b xv)⟩:Ca)]),rfl,(by go_num),rfl,ω,⟨by simp;omega,ω⟩,(by rw[Nj HKT.1,<-D4.1,HC.1,<-E0.1];simp),(fun g_ hg_=>(List.mem_append.1 hg_).elim (fun hg_=>(E1.1 g_ hg_).dig F9.1) (fun hg_=>by rw[List.mem_singleton.1 hg_];exact⟨(D3.1.dig G0.1),Av D6.1 (by decide)⟩)),K3.1.take 5,F8.1⟩
    go_upto_region 6 with fail;refine zy ?_;have K2:=zH (A8.1.step (Aa.refl B3).drew);have B1:=zH (Af.of_ext (w:=B3) zb);refine zx 0 (bs 17 1) (.bool true) zb ?_;refine mX 1 (bs 17 3) (.bool true) zb ?_;refine zg 2 (bs 17 7) D9 (0) (rc A0) (A8.1.range (i:=5) rR 0 4) underlying33 zb ?_;refine zx 3 (bs 17 15) (.slice (some ⟨g1,0,none⟩) n1 c1) zb ?_;refine zo 4 (bs 17 31) (v:= .pointer (some ⟨g1,0*4,none⟩)) zb ?_ (hv:=by intro w B5;exact Iu (k:=0) underlying118 (l:=(show 0<n1 by omega)) (f:=(eZZ _).symm));refine zg 5 (bs 17 63) g1 (0*4) (rc A2) (A8.1.elem (f:=Ca.cells) (i:=3) rR Ca.len J2.1) underlying33 zb ?_;have C5:=tD (tD A7 A6) B1;have F7:=tD (tD (tD (tD (tD (tD (tD (tD (tD H7 D1) D0) C9) C8) B0) A9) A7) A6) B1;refine mC 6 (bs 17 127) (Gd (L:=60000) (RV.Is.nin (D3.1.dig C5.1) (Av D6.1 ω)) (RV.Is.nin (H4.1.dig F7.1) (Av H9.1 ω)) ω) ?_;rintro e I3 ⟨rfl,hx⟩;have K1:=zH (K2.1.step hx);have B8:=zH (show Af B3.drew I3 from Af.of_ext hx);have A5:=zH (zb.trans hx);clear hx;apply zm A5.1;refine zu 7 (bs 17 255) (v:= .bool true) A5.1 ?_ (hv:=by intro w B5;exact Rq (e:=(Ar (Hv.2 H1.1))));refine zx 8 (bs 17 511) (.bool true) A5.1 ?_;refine mX 9 (bs 17 1023) (.bool true) A5.1 ?_;refine zg 10 (bs 17 2047) D9 (0) (rc A0) (A8.1.range (i:=5) rR 0 4) underlying33 A5.1 ?_;refine zx 11 (bs 17 4095) (.slice (some ⟨g1,0,none⟩) n1 c1) A5.1 ?_;refine zo 12 (bs 17 8191) (v:= .pointer (some ⟨g1,1*4,none⟩)) A5.1 ?_ (hv:=by intro w B5;exact Iu (k:=1) underlying118 (l:=(show 1<n1 by omega)) (f:=(eZZ _).symm));refine zg 13 (bs 17 16383) g1 (1*4) (rc A3) (A8.1.elem (f:=Ca.cells) (i:=3) rR Ca.len M2.1) underlying33 A5.1 ?_;have F6:=tD C5 B8;have F5:=tD (tD (tD (tD (tD (tD (tD (tD (tD D1 D0) C9) C8) B0) A9) A7) A6) B1) B8;refine mC 14 (bs 17 32767) (Gd (L:=60000) (RV.Is.nin (D3.1.dig F6.1) (Av D6.1 ω)) (RV.Is.nin (J0.1.dig F5.1) (Av K8.1 ω)) ω) ?_;rintro e N2 ⟨rfl,hx⟩;have K0:=zH (K1.1.step hx);have G7:=zH (Af.of_ext hx);have C7:=zH (A5.1.trans hx);clear hx;apply zm C7.1;refine zu 15 (bs 17 65535) (v:= .bool false) C7.1 ?_ (hv:=by intro w B5;exact Eg (e:=(Al (fun hh=>H2.1 (rcmp_lt.1 hh)))));refine zx 16 (bs 17 131071) (.bool false) C7.1 ?_;refine wpAnyH_done kR ?_ _;have HC:=zH (jA (show¬bM a b lo hi xv from fun h_=>H2.1 h_.2.2));go_upto_region 8 with fail
    apply wl;apply zp (iV ((kx+1:Nat):Int)) (by exact He ω);apply zq (iV ((kx+1:Nat):Int));have F4:=tD (tD (tD (tD (tD A9 A7) A6) B1) B8) G7;have F3:=tD (tD (tD (tD (tD (tD B0 A9) A7) A6) B1) B8) G7;go_wp2_with fail
    go_roundg (2-(kx+1))
    case measure=>exact(by have C6:=(show kx<2 from HKT.1);omega)
    case rel=>exact⟨kx+1,some ⟨g1,0,none⟩,n1,c1,fs,rfl,(by go_num),rfl,ω,⟨by exact D5.1.1,ω⟩,(by rw[Nj HKT.1,<-D4.1,HC.1,gZZ];exact E0.1),(fun g_ hg_=>(E1.1 g_ hg_).dig F4.1),K0.1.take 5,F3.1⟩
   go_upto_region 6 with fail;refine zy ?_;have J9:=zH (A8.1.step (Aa.refl B3).drew);have B7:=zH (Af.of_ext (w:=B3) zb);refine zx 0 (bs 17 1) (.bool true) zb ?_;refine mX 1 (bs 17 3) (.bool true) zb ?_;refine zg 2 (bs 17 7) D9 (0) (rc A0) (A8.1.range (i:=5) rR 0 4) underlying33 zb ?_;refine zx 3 (bs 17 15) (.slice (some ⟨g1,0,none⟩) n1 c1) zb ?_;refine zo 4 (bs 17 31) (v:= .pointer (some ⟨g1,0*4,none⟩)) zb ?_ (hv:=by intro w B5;exact Iu (k:=0) underlying118 (l:=(show 0<n1 by omega)) (f:=(eZZ _).symm));refine zg 5 (bs 17 63) g1 (0*4) (rc A2) (A8.1.elem (f:=Ca.cells) (i:=3) rR Ca.len J2.1) underlying33 zb ?_;have F2:=tD (tD A7 A6) B7;have F1:=tD (tD (tD (tD (tD (tD (tD (tD (tD H7 D1) D0) C9) C8) B0) A9) A7) A6) B7;refine mC 6 (bs 17 127) (Gd (L:=60000) (RV.Is.nin (D3.1.dig F2.1) (Av D6.1 ω)) (RV.Is.nin (H4.1.dig F1.1) (Av H9.1 ω)) ω) ?_;rintro e I1 ⟨rfl,hx⟩;have J8:=zH (J9.1.step hx);have G6:=zH (show Af B3.drew I1 from Af.of_ext hx);have A4:=zH (zb.trans hx);clear hx;apply zm A4.1;refine zu 7 (bs 17 255) (v:= .bool false) A4.1 ?_ (hv:=by intro w B5;exact Rq (e:=(Al (fun hh=>H1.1 (Hv.1 hh)))));refine zx 8 (bs 17 511) (.bool false) A4.1 ?_;refine zx 9 (bs 17 1023) (.bool false) A4.1 ?_;refine zs 10 (bs 17 2047) A4.1 ?_;refine zs 11 (bs 17 4095) A4.1 ?_;refine zs 12 (bs 17 8191) A4.1 ?_;refine zs 13 (bs 17 16383) A4.1 ?_;refine zs 14 (bs 17 32767) A4.1 ?_;refine zs 15 (bs 17 65535) A4.1 ?_;refine zx 16 (bs 17 131071) (.bool false) A4.1 ?_;refine wpAnyH_done kR ?_ _;have HC:=zH (jA (show¬bM a b lo hi xv from fun h_=>H1.1 h_.2.1));go_upto_region 8 with fail
   apply wl;apply zp (iV ((kx+1:Nat):Int)) (by exact He ω);apply zq (iV ((kx+1:Nat):Int));have F0:=tD (tD (tD (tD A9 A7) A6) B7) G6;have E9:=tD (tD (tD (tD (tD B0 A9) A7) A6) B7) G6;go_wp2_with fail
   go_roundg (2-(kx+1))
   case measure=>exact(by have C6:=(show kx<2 from HKT.1);omega)
   case rel=>exact⟨kx+1,some ⟨g1,0,none⟩,n1,c1,fs,rfl,(by go_num),rfl,ω,⟨by exact D5.1.1,ω⟩,(by rw[Nj HKT.1,<-D4.1,HC.1,gZZ];exact E0.1),(fun g_ hg_=>(E1.1 g_ hg_).dig F0.1),J8.1.take 5,E9.1⟩
  go_upto_region 5 with fail;apply wl;refine zd X6 (0) [iV a.1,iV a.2] (B2.1.range (i:=1) rR 0 2) underlying41 ?_;refine zd G9 (0) [iV b.1,iV b.2] (B2.1.range (i:=2) rR 0 2) underlying41 ?_;apply qV (iV xv);refine aC B2.1 (((Tb a b xv _ ω).mono (fun _ _ h_=>Qr.no h_ HYC.1))) ?_;intro N1 J7 G5;refine Dv Ah _ _ (.bool false) ?_;refine Cn 33 rz J7.1 ?_;intro N9 N0 J6 G4;refine Dc 5 rz J6.1 ?_;intro B4 J5 G3;apply zq (.bool false);go_upto_region 6 with fail;refine zy ?_;have J4:=zH (J5.1.step (Aa.refl B4).drew);have G2:=zH (Af.of_ext (w:=B4) zb);refine zx 0 (bs 17 1) (.bool false) zb ?_;refine zx 1 (bs 17 3) (.bool false) zb ?_;refine zs 2 (bs 17 7) zb ?_;refine zs 3 (bs 17 15) zb ?_;refine zs 4 (bs 17 31) zb ?_;refine zs 5 (bs 17 63) zb ?_;refine zs 6 (bs 17 127) zb ?_;refine zs 7 (bs 17 255) zb ?_;refine zx 8 (bs 17 511) (.bool false) zb ?_;refine zx 9 (bs 17 1023) (.bool false) zb ?_;refine zs 10 (bs 17 2047) zb ?_;refine zs 11 (bs 17 4095) zb ?_;refine zs 12 (bs 17 8191) zb ?_;refine zs 13 (bs 17 16383) zb ?_;refine zs 14 (bs 17 32767) zb ?_;refine zs 15 (bs 17 65535) zb ?_;refine zx 16 (bs 17 131071) (.bool false) zb ?_;refine wpAnyH_done kR ?_ _;have HC:=zH (jA (show¬bM a b lo hi xv from fun h_=>HYC.1 ⟨O2.1,O1.1,h_.1⟩));go_upto_region 8 with fail
  apply wl;refine zp (w':=B4.drew) (iV ((kx+1:Nat):Int)) (by exact He ω) ?_;refine zp (w':=B4.drew) (iV ((kx+1:Nat):Int)) (by go_simp<;>with_reducible rfl) ?_;have E8:=tD (tD (tD G5 G4) G3) G2;have E7:=tD (tD (tD (tD B0 G5) G4) G3) G2;go_wp2_with fail
  go_roundg (2-(kx+1))
  case measure=>exact(by have C6:=(show kx<2 from HKT.1);omega)
  case rel=>exact⟨kx+1,some ⟨g1,0,none⟩,n1,c1,fs,rfl,(by go_num),rfl,ω,⟨by exact D5.1.1,ω⟩,(by rw[Nj HKT.1,<-D4.1,HC.1,gZZ];exact E0.1),(fun g_ hg_=>(E1.1 g_ hg_).dig E8.1),J4.1.take 5,E7.1⟩
 obtain rfl:kx=2:=by have h_:=O3.1;have L7:=HKT.1;omega
 have N6:fs.length+2<=n1/\n1<=fs.length+2/\n1<=4:=by have h_:=D5.1;omega
 go_upto_region 3 with fail;apply wl;apply zp (.bool false) (by exact Eg (e:=(Al dC)));have E6:=tD (tD (tD (tD (tD H7 D1) D0) C9) C8) B0;have E5:=tD (tD (tD (tD D1 D0) C9) C8) B0;have M1:=zH (show∀e,e∈((⟨A2,(((lo):Int):Rat)⟩:Ca)::(⟨A3,(((hi):Int):Rat)⟩:Ca)::fs)->e.Ok 24 L0 from by simp only[List.forall_mem_cons];exact⟨⟨(H4.1.dig E6.1),Av H9.1 (by decide)⟩,⟨(J0.1.dig E5.1),Av K8.1 (by decide)⟩,fun g_ hg_=>E1.1 g_ hg_⟩);have H5:=zH (show n1=(((⟨A2,(((lo):Int):Rat)⟩:Ca)::(⟨A3,(((hi):Int):Rat)⟩:Ca)::fs)).length from by simp;omega);go_upto_region 9 with fail
 apply wl;refine Cs Ah _ ?_;refine zc (Uj 24 dC (.slice A1 n1 c1) ((⟨A2,(((lo):Int):Rat)⟩:Ca)::(⟨A3,(((hi):Int):Rat)⟩:Ca)::fs) _ _ (by rw[<-H5.1];exact B2.1.row (i:=3) rR) M1.1 (by rw[<-H5.1];omega)) ?_;rintro e I0 ⟨rfl,L8,I5,L2,I4,L4,L6⟩;have J1:=zH I5;have O0:=zH L2;rw[I5.length_eq,<-H5.1]at I4;have hh:=B2.1.turn (i:=3) (e:= .row 33 4 (.slice A1 n1 c1) (n1) (List.flatMap Ca.cells ((⟨A2,(((lo):Int):Rat)⟩:Ca)::(⟨A3,(((hi):Int):Rat)⟩:Ca)::fs))) (e':= .row 33 4 (.slice A1 n1 c1) (n1) (List.flatMap Ca.cells L8)) (by rfl) (fun k h=>h) L4 I4 (fun k hk=> .inl hk);have E2:=hN hh;have K7:=zH (show Af L0 I0 from L6);have hx:=True.intro;clear hh I4 L4 L6 I5 L2 hx;refine zn ?_;go_upto_region 10 with fail
 apply wl;refine Cc Ah _ _ ?_;go_wp2_with fail;go_ret;refine⟨_,_,_,L8,rfl,H5.1.trans J1.1.length_eq.symm,E2.1.row (i:=3) rR,?_,fun e_ he_=>(M1.1 e_ (J1.1.mem_iff.1 he_)).dig K7.1,E2.1.ext⟩;refine wG (by rw[List.pairwise_map];exact O0.1) ((J1.1.map Ca.q).trans ?_);rw[<-uS px a b lo hi,<-E0.1];exact List.Perm.refl _
theorem eP (px py:Int)(a b:Int×Int)(w:World)(hp:(-1048576<=px/\px<=1048320)/\ -1048576<=py/\py<=1048320)(oa:Dj a)(ob:Dj b):
  Calls prog 57 #[.agg #[iV px,iV py],.agg #[iV a.1,iV a.2],.agg #[iV b.1,iV b.2]] w fun e w'=>∃r:RV,e= .returned (rg r)/\r.Is w' (Ij (px,py) a b)/\Aa w w':=by
 have C4:=zH oa;have C3:=zH ob;have ka:=Bi oa;have kb:=Bi ob;clear oa ob;go_enter func57,ntmps57
 have H0:=zH (Hp.start w);go_upto_region 0 with fail;apply wl;apply Cn 66 [iV px,iV py] H0.1;intro X1 w2 H3 _;apply Cn 41 [iV a.1,iV a.2] H3.1;intro X6 w7 H8 _;apply Cn 41 [iV b.1,iV b.2] H8.1;intro L8 W2 V1 _;refine Cn 33 rz V1.1 ?_;intro Q8 S8 O5 _;go_upto_region 1 with fail;refine zy ?_;have V0:=zH (O5.1.step (Aa.refl S8).drew);refine aFS O5.1 zb (bs 18 255) 0 1 2 3 4 5 6 7 _ _ _ _ _ _ (iV (min a.2 b.2)) (iV (max py (min a.2 b.2))) ?_;refine aAM O5.1 zb (bs 18 32255) 8 10 11 12 13 14 _ _ _ _ _ (iV (max a.2 b.2)) ?_;refine mC 9 (bs 18 32767) (jG px py _ ⟨⟨ω,ω⟩,ω,ω⟩) ?_;rintro e Q5 ⟨rfl,hx⟩;have D2:=zH (V0.1.step hx);have R0:=zH (zb.trans hx);clear hx;apply zm R0.1;refine vS Ah R0.1 (bs 18 262143) 15 16 17 (iV (min (py+256) (max a.2 b.2))) (iV (max py (min a.2 b.2))) (iV (min (py+256) (max a.2 b.2))) ?_;refine wpAnyH_done kR ?_ _;obtain⟨lo,L3⟩:∃lo,max py (min a.2 b.2)=lo:=⟨_,rfl⟩;obtain⟨hi,L4⟩:∃hi,min (py+256) (max a.2 b.2)=hi:=⟨_,rfl⟩;rw[L3,L4];have K0:=zH (show aY (px,py).2 a b=lo from L3);have K1:=zH (show bI (px,py).2 a b=hi from L4);have W4: -1048576<=lo/\lo<=1048576/\ -1048576<=hi/\hi<=1048576:=ω
 have N5:=zH (show min a.2 b.2<=lo/\hi<=max a.2 b.2 by omega);clear L3 L4;rcases Cy (hi<=lo)with H1|H1
 ·go_upto_region 2 with fail
  apply wl;refine Cc Ah (iV lo) (iV hi) ?_;apply zp (.bool true) (by exact Nv (e:=(Ar H1.1)));refine Jb Ah (.bool true) _ _ _ _ _ _ _ ?_;refine zk ?_;apply zq (.bool true);go_upto_region 3 with fail;apply wl;refine zc (Da 0 _ ω ω) ?_;rintro e W1 ⟨c_,rfl,A6,hx⟩;have U9:=zH (D2.1.step hx);obtain⟨C1,rfl,A1⟩:=A6;have T9:=zH A1;clear A1 hx;refine zn ?_;apply Dc 3 (rc C1) U9.1;intro W0 S2 V4;go_wp2_with fail
  refine bodyPost_ret (v:= (rg C1)) ?_ rfl ⟨C1,rfl,(show Ij (px,py) a b=(((0):Int):Rat)from(by unfold Ij;rw[K0.1,K1.1];exact if_pos (.inl H1.1)))▸(T9.1.dig V4.1),S2.1.ext⟩;exact Ak rfl rfl ((S2.1.blk (i:=3) rR).loadVar rfl rfl rR)
 rcases Cy (max a.1 b.1<=px)with H2|H2
 ·go_upto_region 2 with fail
  apply wl;refine Cc Ah (iV lo) (iV hi) ?_;apply zp (.bool false) (by exact Nv (e:=(Al H1.1)));refine Jb D2.1 (.bool false) _ _ _ _ (iV (max a.1 b.1)) _ _ ?_;apply zp (.bool true) (by exact Qe (e:=(Ar H2.1)));apply zq (.bool true);go_upto_region 3 with fail;apply wl;refine zc (Da 0 _ ω ω) ?_;rintro e V9 ⟨c_,rfl,A6,hx⟩;have U8:=zH (D2.1.step hx);obtain⟨C0,rfl,A1⟩:=A6;have T8:=zH A1;clear A1 hx;refine zn ?_;apply Dc 3 (rc C0) U8.1;intro V8 S1 V3;go_wp2_with fail
  refine bodyPost_ret (v:= (rg C0)) ?_ rfl ⟨C0,rfl,(show Ij (px,py) a b=(((0):Int):Rat)from(by unfold Ij;rw[K0.1,K1.1];exact if_pos (.inr H2.1)))▸(T8.1.dig V3.1),S1.1.ext⟩;exact Ak rfl rfl ((S1.1.blk (i:=3) rR).loadVar rfl rfl rR)
 go_upto_region 2 with fail;apply wl;apply qV (iV lo);apply zq (iV hi);apply zp (.bool false) (by exact Nv (e:=(Al H1.1)));refine Jb D2.1 (.bool false) _ _ _ _ (iV (max a.1 b.1)) _ _ ?_;apply zp (.bool false) (by exact Qe (e:=(Al H2.1)));apply zq (.bool false);rcases Cy (px+256<=min a.1 b.1)with H3|H3
 ·go_upto_region 4 with fail
  refine zy ?_;have U7:=zH (D2.1.step (Aa.refl Q5).drew);refine aAM D2.1 zb (bs 8 63) 0 1 2 3 4 5 _ _ _ _ (iV (min a.1 b.1)) _ ?_;refine mC 6 (bs 8 127) (Qz px py _ ⟨⟨ω,ω⟩,ω,ω⟩) ?_;rintro e V7 ⟨rfl,hx⟩;have U6:=zH (U7.1.step hx);have Q9:=zH (zb.trans hx);clear hx;apply zm Q9.1;refine zu 7 (bs 8 255) (v:= .bool true) Q9.1 ?_ (hv:=by intro w D7;exact Nv (e:=(Ar H3.1)));refine wpAnyH_done kR ?_ _;go_upto_region 5 with fail
  apply wl;refine Cc Ah (iV hi) (iV lo) ?_;apply zp (iV (hi-lo)) (by exact Zd (by have L2:=(show lo<hi from Int.not_le.1 H1.1);omega));apply zp (iV (256*(hi-lo))) (by exact lH (by have L2:=(show lo<hi from Int.not_le.1 H1.1);omega));refine zc (Da (256*(hi-lo)) _ (by have L2:=(show lo<hi from Int.not_le.1 H1.1);omega) (by have L2:=(show lo<hi from Int.not_le.1 H1.1);omega)) ?_;rintro e V6 ⟨c_,rfl,A6,hx⟩;have U5:=zH (U6.1.step hx);obtain⟨B9,rfl,A1⟩:=A6;have T7:=zH A1;clear A1 hx;refine zn ?_;apply Dc 3 (rc B9) U5.1;intro V5 S0 V2;go_wp2_with fail
  refine bodyPost_ret (v:= (rg B9)) ?_ rfl ⟨B9,rfl,(show Ij (px,py) a b=((256*(hi-lo):Int):Rat)from(by unfold Ij;rw[K0.1,K1.1];exact(if_neg (fun h_=>by have D8:=H1.1;have D1:=H2.1;omega)).trans (if_pos H3.1)))▸(T7.1.dig V2.1),S0.1.ext⟩;exact Ak rfl rfl ((S0.1.blk (i:=3) rR).loadVar rfl rfl rR)
 go_upto_region 4 with fail;refine zy ?_;have P2:=zH (D2.1.step (Aa.refl Q5).drew);refine aAM D2.1 zb (bs 8 63) 0 1 2 3 4 5 _ _ _ _ (iV (min a.1 b.1)) _ ?_;refine mC 6 (bs 8 127) (Qz px py _ ⟨⟨ω,ω⟩,ω,ω⟩) ?_;rintro e T2 ⟨rfl,hx⟩;have P1:=zH (P2.1.step hx);have G5:=zH (zb.trans hx);clear hx;apply zm G5.1;refine zu 7 (bs 8 255) (v:= .bool false) G5.1 ?_ (hv:=by intro w D7;exact Nv (e:=(Al H3.1)));refine wpAnyH_done kR ?_ _;go_upto_region 6 with fail
 apply wl;refine zc (Da 0 _ ω ω) ?_;rintro e T1 ⟨c_,rfl,A6,hx⟩;have P0:=zH (P1.1.step hx);obtain⟨D6,rfl,A1⟩:=A6;have N4:=zH A1;clear A1 hx;refine zn ?_;refine Cn 33 rz P0.1 ?_;intro A5 T0 O9 Q1;apply Dc 4 (rc D6) O9.1;intro S9 H7 Q0;go_upto_region 7 with fail
 apply wl;refine Ly H7.1 _ _ _ (iV lo) (iV hi) ?_;refine zc (yG px py a b lo hi _ hp C4.1 C3.1 ⟨ω,ω⟩ ⟨ω,ω⟩) ?_;rintro e F7 ⟨Ap,nn,cp,ep,rfl,D8,B3,D1,D0,hx⟩;have R9:=zH D8;have E2:=zH D1;have R8:=zH D0;have HA:=zH (show 0<nn->∃g,Ap=some ⟨g,0,none⟩from by obtain⟨A_,c_,e_,k_⟩:=Be.form B3;injection e_ with e1_ e2_ e3_;subst e1_;exact k_);have H6:=zH (show Hp w F7 [.blk X1 66 [iV px,iV py],.blk X6 41 [iV a.1,iV a.2],.blk L8 41 [iV b.1,iV b.2],.blk Q8 33 rz,.blk A5 33 (rc D6),ro 33 4 Ap nn cp Ca.cells ep]from H7.1.addRow hx B3);have P9:=zH (Af.of_ext hx);clear B3 D8 D1 D0 hx;refine zn ?_;refine Cs Ah _ ?_;go_upto_region 8 with fail
 apply wl;apply zq (iV 0);have J9:=zH (show nn=ep.length/\nn<=4 from⟨R9.1,by rw[R9.1,<-dZZ (f:=Ca.q),E2.1];exact bG _ _ _ _ _⟩);have W3:=J9.1.2;have J8:=zH (show∀z,z∈(Jo px a b lo hi)->Nm.rl z<=20 from fun z hz=>tX hz C4.1 C3.1 ⟨ω,ω⟩ ⟨ω,ω⟩ hp.1);have R7:=zH (show∀z,z∈(Jo px a b lo hi)->((min a.2 b.2:Int):Rat)<=z/\z<=((max a.2 b.2:Int):Rat)from fun z hz=>by have D8:=yF hz (by have:=H1.1;omega);have D1:((min a.2 b.2:Int):Rat)<=((lo:Int):Rat):=(by exact_mod_cast N5.1.1);have D0:((hi:Int):Rat)<=((max a.2 b.2:Int):Rat):=(by exact_mod_cast N5.1.2);exact⟨Rat.le_trans D1 D8.1,Rat.le_trans D8.2 D0⟩);have R6:=zH (show a.2≠b.2 from fun h_=>by have D1:=N5.1;have D0:=H1.1;omega);have U4:=zH (show∀k,Nm.rl (Jt (Wx px a b) ((Jo px a b lo hi).take k))<=486 from fun k=>by have h_:=Vo (F:=(Wx px a b)) (C:=120) (l:=(Jo px a b lo hi).take k) (fun x hx y hy=>rE C4.1 C3.1 (J8.1 x (List.mem_of_mem_take hx)) (J8.1 y (List.mem_of_mem_take hy)) ⟨ω,ω⟩);have D1:=bG px a b lo hi;have D0:((Jo px a b lo hi).take k).length<=4:=(by rw[eQQ];omega);have W6:=iQQ (120+1) D0;omega);have I5:=tD (tD Q1 Q0) P9;go_wp2_with fail
 go_loopg [11] (nn) (fun cq K9 wr=>∃(i:Nat) (A0:RV),cq=nn-i/\K9= iV (i:Int)/\(i<nn)/\(A0.Is wr (Jt (Wx px a b) ((Jo px a b lo hi).take (i+1))))/\Hp w wr [.blk X1 66 [iV px,iV py],.blk X6 41 [iV a.1,iV a.2],.blk L8 41 [iV b.1,iV b.2],.blk Q8 33 [.bool false,.slice none 0 0,.bool false,.slice none 0 0],.blk A5 33 (rc A0),.row 33 4 (.slice Ap nn cp) (nn) (List.flatMap Ca.cells ep)]/\Af F7 wr)
 case atStart=>exact⟨0,D6,rfl,rfl,(by rw[J9.1.1,<-dZZ (f:=Ca.q),E2.1];exact yE _ _ _ _ _),(by have h_:Jt (Wx px a b) ((Jo px a b lo hi).take 1)=(((0):Int):Rat):=oG _ _;rw[h_];exact(N4.1.dig I5.1)),H6.1,Af.refl _⟩
 obtain⟨i,A0,rfl,rfl,C8,G0,Q6,Q7⟩:=hrel;generalize wr=B1 at*;have U3:=zH C8;clear C8;have RZ:=zH G0;clear G0;have B2:=zH Q6;have P8:=zH Q7;clear Q6 Q7 H6;have BZ:=zH (U4.1 (i+1));rcases Cy (i+1<nn)with HLT|HLT
 ·have J7:=HLT.1
  have hj:i<nn:=ω;obtain⟨gp,rfl⟩:=HA.1 ω;have T5:=J9.1.1;obtain⟨xe,C2⟩:∃e,ep[i]?=some e:=⟨_,aQQ ω⟩;obtain⟨ye,J6⟩:∃e,ep[i+1]?=some e:=⟨_,aQQ ω⟩;have HX:=zH C2;have HY:=zH J6;have G7:=zH (R8.1 xe (bZZ C2)).1;have R5:=zH (show xe.q∈(Jo px a b lo hi)from by rw[<-E2.1];exact List.mem_map_of_mem (bZZ C2));have B7:=zH (J8.1 _ R5.1);have R3:=zH (R7.1 _ R5.1);have U1:=zH (bQ (px:=px) (Md C4.1 C3.1 B7.1) ⟨ω,ω⟩);have G6:=zH (R8.1 ye (bZZ J6)).1;have R2:=zH (show ye.q∈(Jo px a b lo hi)from by rw[<-E2.1];exact List.mem_map_of_mem (bZZ J6));have B6:=zH (J8.1 _ R2.1);have R1:=zH (R7.1 _ R2.1);have U0:=zH (bQ (px:=px) (Md C4.1 C3.1 B6.1) ⟨ω,ω⟩);have U2:=zH (Vn (Wx px a b) (Jo px a b lo hi) i xe.q ye.q (by rw[<-E2.1,kQQ,HX.1];rfl) (by rw[<-E2.1,kQQ,HY.1];rfl));clear C2 J6 T5;go_upto_region 9 with fail
  apply wl;apply zq (iV (i:Int));apply zp (iV ((i+1:Nat):Int)) (by exact He ω);refine Cc Ah _ (iV (nn:Int)) ?_;apply zp (.bool true) (by exact Eg (e:=(Ar ω)));go_upto_region 11 with fail;refine zy ?_;have E6:=zH (B2.1.step (Aa.refl B1).drew);have J0:=zH (Af.of_ext (w:=B1) zb);refine zg 0 (bs 13 1) X6 (0) [iV a.1,iV a.2] (B2.1.range (i:=1) rR 0 2) underlying41 zb ?_;refine zg 1 (bs 13 3) L8 (0) [iV b.1,iV b.2] (B2.1.range (i:=2) rR 0 2) underlying41 zb ?_;refine Xn Ah zb (bs 13 15) 2 3 _ (iV (i:Int)) ?_;refine zo 4 (bs 13 31) (v:= .pointer (some ⟨gp,i*4,none⟩)) zb ?_ (hv:=by intro w D7;exact Iu (k:=i) underlying118 (l:=hj) (f:=(eZZ _).symm));refine zg 5 (bs 13 63) gp (i*4) (rc xe.a) (B2.1.elem (f:=Ca.cells) (i:=5) rR Ca.len HX.1) underlying33 zb ?_;refine gG 10 (some 12) 33 rz B1 E6.1 ?_;have D4:=tD P8 J0;refine gL 6 (bs 13 1087) (bs 13 127) zb.size E6.1 zb (fun xq A4=>Tc 20 a.1 a.2 b.1 b.2 _ xe.q _ (RV.Is.nin (G7.1.dig (D4.1.trans (Af.of_ext A4))) B7.1) dC dC C4.1 C3.1 R6.1 R3.1.1 R3.1.2) (by rintro x_ e J5 ⟨c_,rfl,A6,hx⟩;exact hx) ?_;rintro xq e K8 A4 ⟨c_,rfl,A6,hx⟩;replace hx:=A4.trans hx;clear A4;have O8:=zH (E6.1.step hx);have I9:=zH (show Af B1.drew K8 from Af.of_ext hx);have B5:=zH (zb.trans hx);obtain⟨F9,rfl,A1⟩:=A6;have N3:=zH A1;have Q4:=zH (Md (L:=20) C4.1 C3.1 B7.1);clear A1 hx;refine⟨_,rfl,?_⟩;try simp only[ζ]
  refine gK 7 (bs 13 1151) (bs 13 255) _ B5.1 ?_;refine gK 8 (bs 13 1279) (bs 13 511) _ B5.1 ?_;refine gK 9 (bs 13 1535) (bs 13 1023) (.bool true) B5.1 ?_;refine gE (bs 13 2047) B5.1.size O8.1 B5.1 ?_;intro L7 K7 hx hh hs C9;have O7:=hN hh;have F6:=zH (Af.of_ext hx);have M5:=zH (show Aa B1 K7 from hs);have P5:=zH (show B1.heap.size<=L7 from C9);clear hh hx C9 hs;try simp only[ζ]
  refine bS 6 11 (bs 13 4095) (rc F9) O7.1 M5.1 P5.1 ?_;intro B0 E5 F5 M4;refine zx 12 (bs 13 8191) (.bool true) M4.1 ?_;refine wpAnyH_done kR ?_ _;go_upto_region 12 with fail;refine zy ?_;have E4:=zH (E5.1.step (Aa.refl B0).drew);have F4:=zH (Af.of_ext (w:=B0) zb);refine aCX E5.1 zb (bs 14 15) 0 1 2 3 _ _ _ (iV (i:Int)) ?_;refine zu 4 (bs 14 31) (v:= iV ((i+1:Nat):Int)) zb ?_ (hv:=by intro w D7;exact He ω);refine zo 5 (bs 14 63) (v:= .pointer (some ⟨gp,(i+1)*4,none⟩)) zb ?_ (hv:=by intro w D7;exact Iu (k:=i+1) underlying118 (l:=J7) (f:=(eZZ _).symm));refine zg 6 (bs 14 127) gp ((i+1)*4) (rc ye.a) (E5.1.elem (f:=Ca.cells) (i:=5) rR Ca.len HY.1) underlying33 zb ?_;refine gG 11 (some 14) 33 rz B0 E4.1 ?_;have D3:=tD (tD (tD (tD D4 I9) F6) F5) F4;refine gL 7 (bs 14 2175) (bs 14 255) zb.size E4.1 zb (fun xq A4=>Tc 20 a.1 a.2 b.1 b.2 _ ye.q _ (RV.Is.nin (G6.1.dig (D3.1.trans (Af.of_ext A4))) B6.1) dC dC C4.1 C3.1 R6.1 R1.1.1 R1.1.2) (by rintro x_ e J5 ⟨c_,rfl,A6,hx⟩;exact hx) ?_;rintro xq e K6 A4 ⟨c_,rfl,A6,hx⟩;replace hx:=A4.trans hx;clear A4;have O6:=zH (E4.1.step hx);have F3:=zH (show Af B0.drew K6 from Af.of_ext hx);have B4:=zH (zb.trans hx);obtain⟨F8,rfl,A1⟩:=A6;have N2:=zH A1;have Q3:=zH (Md (L:=20) C4.1 C3.1 B6.1);clear A1 hx;refine⟨_,rfl,?_⟩;try simp only[ζ]
  refine gK 8 (bs 14 2303) (bs 14 511) _ B4.1 ?_;refine gK 9 (bs 14 2559) (bs 14 1023) _ B4.1 ?_;refine gK 10 (bs 14 3071) (bs 14 2047) (.bool true) B4.1 ?_;refine gE (bs 14 4095) B4.1.size O6.1 B4.1 ?_;intro L6 K5 hx hh hs C9;have O4:=hN hh;have C7:=zH (Af.of_ext hx);have M3:=zH (show Aa B0 K5 from hs);have P4:=zH (show B0.heap.size<=L6 from C9);clear hh hx C9 hs;try simp only[ζ]
  refine bS 7 12 (bs 14 8191) (rc F8) O4.1 M3.1 P4.1 ?_;intro A9 H5 C6 M2;refine zx 13 (bs 14 16383) (.bool true) M2.1 ?_;refine wpAnyH_done kR ?_ _;go_upto_region 13 with fail;refine zy ?_;have E3:=zH (H5.1.step (Aa.refl A9).drew);have C5:=zH (Af.of_ext (w:=A9) zb);refine aCX H5.1 zb (bs 9 27) 0 1 3 4 _ _ _ _ ?_;refine gG 7 (some 16) 33 rz A9 E3.1 ?_;have I4:=tD (tD (tD (tD (tD (tD F6 F5) F4) F3) C7) C6) C5;refine gL 2 (bs 9 155) (bs 9 31) zb.size E3.1 zb (fun xq A4=>jP px py F9 (Fe a.1 a.2 b.1 b.2 xe.q) _ ⟨ω,ω⟩ (N3.1.dig (I4.1.trans (Af.of_ext A4))) (Av Q4.1 dC)) (by rintro x_ e J5 ⟨L1,rfl,A1,hx⟩;exact hx) ?_;rintro xq e K4 A4 ⟨L1,rfl,A1,hx⟩;replace hx:=A4.trans hx;clear A4;have H4:=zH (E3.1.step hx);have F2:=zH (show Af A9.drew K4 from Af.of_ext hx);have E1:=zH (zb.trans hx);have N1:=zH A1;have J4:=zH (show Nm.rl (Jp px (Fe a.1 a.2 b.1 b.2 xe.q))<=31 from U1.1);clear A1 hx;refine⟨_,rfl,?_⟩;try simp only[ζ]
  have I3:=tD (tD (tD C7 C6) C5) F2;refine gL 5 (bs 9 159) (bs 9 63) E1.1.size H4.1 E1.1 (fun xq A4=>jP px py F8 (Fe a.1 a.2 b.1 b.2 ye.q) _ ⟨ω,ω⟩ (N2.1.dig (I3.1.trans (Af.of_ext A4))) (Av Q3.1 dC)) (by rintro x_ e J5 ⟨L0,rfl,A1,hx⟩;exact hx) ?_;rintro xq e S7 A4 ⟨L0,rfl,A1,hx⟩;replace hx:=A4.trans hx;clear A4;have G9:=zH (H4.1.step hx);have F1:=zH (Af.of_ext hx);have E0:=zH (E1.1.trans hx);have N0:=zH A1;have J3:=zH (show Nm.rl (Jp px (Fe a.1 a.2 b.1 b.2 ye.q))<=31 from U0.1);clear A1 hx;refine⟨_,rfl,?_⟩;try simp only[ζ]
  refine gL 6 (bs 9 191) (bs 9 127) E0.1.size G9.1 E0.1 (fun xq A4=>aDE (L:=60000) (RV.Is.nin (N1.1.dig (F1.1.trans (Af.of_ext A4))) (Av J4.1 ω)) (RV.Is.nin (N0.1.dig (Af.of_ext A4)) (Av J3.1 ω)) ω) (by rintro x_ e J5 ⟨c_,rfl,A6,hx⟩;exact hx) ?_;rintro xq e S6 A4 ⟨c_,rfl,A6,hx⟩;replace hx:=A4.trans hx;clear A4;have O3:=zH (G9.1.step hx);have I8:=zH (Af.of_ext hx);have G4:=zH (E0.1.trans hx);obtain⟨A3,rfl,A1⟩:=A6;have M9:=zH A1;clear A1;have J2:=zH (show Nm.rl (((Jp px (Fe a.1 a.2 b.1 b.2 xe.q))+(Jp px (Fe a.1 a.2 b.1 b.2 ye.q)))/2)<=2*60+3 from sK (Av J4.1 (by decide)) (Av J3.1 (by decide)));clear hx;refine⟨_,rfl,?_⟩;try simp only[ζ]
  refine gE (bs 9 255) G4.1.size O3.1 G4.1 ?_;intro D9 K3 hx hh hs C9;have O2:=hN hh;have F0:=zH (Af.of_ext hx);have M1:=zH (show Aa A9 K3 from hs);have P3:=zH (show A9.heap.size<=D9 from C9);clear hh hx C9 hs;try simp only[ζ]
  refine bS 8 8 (bs 9 511) (rc A3) O2.1 M1.1 P3.1 ?_;intro A2 A7 E9 T6;refine wpAnyH_done kR ?_ _;go_upto_region 14 with fail;refine wp_region_held_drew (S:=fun x=>Fr (fun kz=>kz=A5) A2 x) kR (Fr.of_ext zb) (fun _=> ?_);have O1:=zH (A7.1.step (Aa.refl A2).drew);have E8:=zH (Af.of_ext (w:=A2) zb);refine zr 1 (bs 15 2) D9 (0) (rc A3) (fun x hx=>Fr.range hx (show World.rangeAt A2 D9 (0) (rc A3)from(A7.1.range (i:=8) rR 0 4)) (A7.1.offBlk (i:=8) (j:=4) rR rR dC rR)) underlying33 (Fr.of_ext zb) ?_;refine zx 2 (bs 15 6) (.slice (some ⟨gp,0,none⟩) nn cp) (Fr.of_ext zb) ?_;refine zx 3 (bs 15 14) (iV (i:Int)) (Fr.of_ext zb) ?_;refine zu 4 (bs 15 30) (v:= iV ((i+1:Nat):Int)) (Fr.of_ext zb) ?_ (hv:=by intro w D7;exact He ω);refine zo 5 (bs 15 62) (v:= .pointer (some ⟨gp,(i+1)*4,none⟩)) (Fr.of_ext zb) ?_ (hv:=by intro w D7;exact Iu (k:=i+1) underlying118 (l:=J7) (f:=(eZZ _).symm));refine zr 6 (bs 15 126) gp ((i+1)*4) (rc ye.a) (fun x hx=>Fr.range hx (show World.rangeAt A2 gp ((i+1)*4) (rc ye.a)from(A7.1.elem (f:=Ca.cells) (i:=5) rR Ca.len HY.1)) (A7.1.offBlk (i:=5) (j:=4) rR rR dC rR)) underlying33 (Fr.of_ext zb) ?_;refine zx 7 (bs 15 254) (.slice (some ⟨gp,0,none⟩) nn cp) (Fr.of_ext zb) ?_;refine zx 8 (bs 15 510) (iV (i:Int)) (Fr.of_ext zb) ?_;refine zo 9 (bs 15 1022) (v:= .pointer (some ⟨gp,i*4,none⟩)) (Fr.of_ext zb) ?_ (hv:=by intro w D7;exact Iu (k:=i) underlying118 (l:=hj) (f:=(eZZ _).symm));refine zr 10 (bs 15 2046) gp (i*4) (rc xe.a) (fun x hx=>Fr.range hx (show World.rangeAt A2 gp (i*4) (rc xe.a)from(A7.1.elem (f:=Ca.cells) (i:=5) rR Ca.len HX.1)) (A7.1.offBlk (i:=5) (j:=4) rR rR dC rR)) underlying33 (Fr.of_ext zb) ?_;refine Fd.go (j:=0) (dj:=some 102) (u:= (rg A0)) ?_;have B8:=tD (tD (tD (tD (tD (tD (tD (tD (tD (tD D3 F3) C7) C6) C5) F2) F1) I8) F0) E9) E8;refine Id (b:=A2) (i:=11) (lj:=(bs 15 2047)) (li:=(bs 15 4094)) rR rR kR kR kR kR kR dC kR rR rR (fun x_ h_=>Fr.of_ext h_) (Aa.refl A2).drew (fun x_ h_=>Kb _ _ rR A5 (0) (rc A0) rR (Bg (show World.rangeAt A2 A5 (0) (rc A0)from A7.1.range (i:=4) rR 0 4) h_) underlying33 rR kR) rR (by go_simp) kR (eC (L:=60000) (RV.Is.nin (G6.1.dig B8.1) (Av B6.1 ω)) (RV.Is.nin (G7.1.dig B8.1) (Av B7.1 ω)) ω) ?_;rintro e D5 ⟨c_,rfl,A6,hx⟩;have O0:=zH (O1.1.step hx);have E7:=zH (show Af A2.drew D5 from Af.of_ext hx);have G1:=zH (show Aa A2 D5 from(Aa.refl A2).drew.trans hx);have M0:=zH (show Fr (fun kz=>kz=A5) A2 D5 from(Fr.of_ext zb).trans (Fr.of_ext hx));obtain⟨T4,rfl,A1⟩:=A6;have M8:=zH A1;clear A1;have J1:=zH (show Nm.rl (ye.q-xe.q)<=20+20+1 from by have h1:=B6.1;have h2:=B7.1;have h3:=Nm.rl_sub ye.q xe.q;omega);have C2:=hx;clear hx;refine⟨_,rfl,C2,?_⟩;try simp only[ζ]
  clear C2;have I1:=tD (tD (tD F0 E9) E8) E7;refine Id (b:=A2) (i:=12) (lj:=(bs 15 4095)) (li:=(bs 15 8190)) rR rR kR kR kR kR kR dC kR rR rR (fun x_ h_=>Fr.of_ext h_) G1.1 (fun x_ h_=>Kb _ _ rR A5 (0) (rc A0) rR (Bg (show World.rangeAt A2 A5 (0) (rc A0)from A7.1.range (i:=4) rR 0 4) h_) underlying33 rR kR) rR (by go_simp) kR (aJ (L:=60000) (RV.Is.nin (M9.1.dig I1.1) (Av J2.1 ω)) (RV.Is.nin M8.1 (Av J1.1 ω)) ω) ?_;rintro e K2 ⟨c_,rfl,A6,hx⟩;have N9:=zH (O0.1.step hx);have I7:=zH (Af.of_ext hx);have L5:=zH (show Aa A2 K2 from G1.1.trans hx);have G3:=zH (M0.1.trans (Fr.of_ext hx));obtain⟨T3,rfl,A1⟩:=A6;have M7:=zH A1;clear A1;have Q2:=zH (show Nm.rl ((((Jp px (Fe a.1 a.2 b.1 b.2 xe.q))+(Jp px (Fe a.1 a.2 b.1 b.2 ye.q)))/2)*(ye.q-xe.q))<=123+(20+20+1)from by have h1:=J2.1;have h2:=J1.1;have h3:=Nm.rl_mul (((Jp px (Fe a.1 a.2 b.1 b.2 xe.q))+(Jp px (Fe a.1 a.2 b.1 b.2 ye.q)))/2) (ye.q-xe.q);omega);have C2:=hx;clear hx;refine⟨_,rfl,C2,?_⟩;try simp only[ζ]
  clear C2;refine Om rR kR rR rR G3.1 (Kb _ _ rR A5 (0) (rc A0) rR (Bg (show World.rangeAt A2 A5 (0) (rc A0)from A7.1.range (i:=4) rR 0 4) L5.1) underlying33 rR kR) (show _=(bs 15 8191)by kernel_rfl) ?_;try simp only[ζ]
  have I0:=tD (tD (tD (tD (tD (tD (tD (tD (tD (tD (tD (tD (tD (tD (tD (tD J0 I9) F6) F5) F4) F3) C7) C6) C5) F2) F1) I8) F0) E9) E8) E7) I7;refine mC 13 (bs 15 16383) (oC (L:=60000) (RV.Is.nin (RZ.1.dig I0.1) (Av BZ.1 ω)) (RV.Is.nin M7.1 (Av Q2.1 ω)) ω) ?_;rintro e S5 ⟨c_,rfl,A6,hx⟩;have N8:=zH (N9.1.step hx);have P7:=zH (Af.of_ext hx);have G2:=zH (G3.1.trans (Fr.of_ext hx));obtain⟨A8,rfl,A1⟩:=A6;have M6:=zH A1;clear A1 hx;apply zm G2.1;refine Ei (i:=14) (listed':=(bs 15 32767)) rR kR rR kR _ _ _ rR N8.1 (ix:=4) rR 0 (rc A8) rR rR (by simp) kR (by simp[Value.oneCell']) (by simp[Aq]) ?_;intro S4 hh hd ho;have N7:=hN hh;have I6:=zH (hd);have L9:=zH (Fr.trans_new G2.1 ho (fun j hj=> .inl (by simpa using hj.symm)));clear hh hd ho;refine⟨L9.1,?_⟩
  (try simp only[Act.put])
  refine wpAnyH_done kR ?_ _;go_upto_region 10 with fail;apply wl;apply zq (iV (i:Int));apply zp (iV ((i+1:Nat):Int)) (by exact He ω);apply zq (iV ((i+1:Nat):Int));have H9:=tD (tD (tD (tD B8 E7) I7) P7) I6;go_wp2_with fail
  go_roundg (nn-(i+1))
  case measure=>exact(ω)
  case rel=>exact⟨i+1,A8,rfl,(by go_num),J7,(by rw[U2.1];exact(M6.1.dig I6.1)),N7.1.take 6,H9.1⟩
 have J7:=HLT.1;have W5:=U3.1;go_upto_region 9 with fail
 apply wl;apply zq (iV (i:Int));apply zp (iV ((i+1:Nat):Int)) (by exact He ω);refine Cc Ah _ (iV (nn:Int)) ?_;apply zp (.bool false) (by exact Eg (e:=(Al ω)));go_upto_region 15 with fail;apply wl;refine zd A5 (0) (rc A0) (B2.1.range (i:=4) rR 0 4) underlying33 ?_;apply Dc 3 (rc A0) B2.1;intro S3 G8 P6;have N6:=zH (show(Jo px a b lo hi).take (i+1)=(Jo px a b lo hi)from cQQ (by rw[<-E2.1,dZZ,<-J9.1.1];omega));go_wp2_with fail
 refine bodyPost_ret (v:= (rg A0)) ?_ rfl ⟨A0,rfl,(show Ij (px,py) a b=Jt (Wx px a b) ((Jo px a b lo hi).take (i+1))from by rw[N6.1];unfold Ij;rw[K0.1,K1.1];exact(if_neg (fun h_=>by have D8:=H1.1;have D1:=H2.1;omega)).trans (if_neg (fun h_=>by have D0:=H3.1;omega)))▸(RZ.1.dig P6.1),G8.1.ext⟩;exact Ak rfl rfl ((G8.1.blk (i:=3) rR).loadVar rfl rfl rR)
end
end Go.Proofs.YtlipfipniibpoacGreat
