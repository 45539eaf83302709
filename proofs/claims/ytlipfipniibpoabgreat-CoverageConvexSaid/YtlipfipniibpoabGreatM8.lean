import Derived.Test.YtlipfipniibpoabGreatM7
set_option maxRecDepth 100000
set_option maxHeartbeats 4000000
namespace Go.Proofs.YtlipfipniibpoabGreat
open Go.RowKit
open Go.Proofs.Tryz
section
attribute [local go_sem ↓] Go.wp_at_zero Go.wp_at_succ Ae Ad
theorem Wi (A:Option Addr)(cap:Nat)(rs:List Ai)(w:World)(hu:Cv w (.slice A rs.length cap) rs)(hn:rs.length<=1048576)(hr:∀r,r∈rs->r.length<=1048576)(ho:Fm rs=true):
  Calls prog 65 #[.slice A rs.length cap] w fun e w'=>((rs.flatten=[]/\e= .returned (.tuple #[.agg #[iV 0,iV 0],.agg #[iV 0,iV 0],.bool false]))\/
   (rs.flatten≠ []/\e= .returned (.tuple #[.agg #[iV (Fv rs).1.1,iV (Fv rs).1.2],.agg #[iV (Fv rs).2.1,iV (Fv rs).2.2],.bool true])))/\Aa w w':=by
 have HU:=zH hu;have HN:=zH hn;have F8:=zH hr;clear hu hr;have HV:=zH ho;clear ho;generalize hF_:rs.flatten=F
 have C0:=zH hF_;clear hF_;go_enter func65,ntmps65;have H0:=zH (Hp.start w);go_upto_region 0 with fail;apply wl;apply Cm 44 [iV 0,iV 0] H0.1;intro B4 H4 G5 _;apply Cm 44 [iV 0,iV 0] G5.1;intro B3 H3 E1 _;apply zq φ;go_upto_region 1 with fail;apply wl;refine Cn Af _ ?_;refine zc (C0.1▸kG A cap rs _ (HU.1.ext E1.1.ext) HN.1 (Hf HV.1)) ?_;rintro e E4 ⟨Bf,cf,rfl,B7,hx⟩;obtain⟨G8,F2,E0,D8⟩:=B7.form;obtain⟨rfl,rfl⟩:Bf=G8/\cf=F2:=by injection E0 with e1_ _ e3_;exact⟨e1_,e3_⟩
 have HF:=zH D8;clear E0 D8;have C3:=zH (show Hp w E4 [.blk B4 44 [iV 0,iV 0],.blk B3 44 [iV 0,iV 0],ro 44 2 Bf F.length cf Ji F]from E1.1.addRow hx B7);clear B7 hx;refine zn ?_;refine Cn Af _ ?_;have H6:F.length<=4096:=by rw[<-C0.1,Qe];exact Hf HV.1
 rcases Cx (F=[])with HE|HE
 ·have he:=HE.1
  have H7:F.length=0:=by rw[he];rfl
  go_upto_region 2 with fail;apply wl;refine Cc Af _ (iV ((F.length:Nat):Int)) ?_;apply zp τ (by exact Rr (e:=(An ω)));refine Na Af τ _ _ _ τ ?_;go_upto_region 3 with fail;apply wl;refine Cc Af _ _ ?_;apply Da 0 [iV 0,iV 0] C3.1;intro H2 G4 _;apply Da 1 [iV 0,iV 0] G4.1;intro H1 C2 _;apply zq φ;go_wp2_with fail;refine bodyPost_ret (v:= .tuple #[.agg #[iV 0,iV 0],.agg #[iV 0,iV 0],.bool false]) ?_ rfl ⟨.inl ⟨HE.1,rfl⟩,C2.1.ext⟩;exact Co rfl rfl rfl ((C2.1.blk (i:=0) rR).loadVar rfl rfl rR) ((C2.1.blk (i:=1) rR).loadVar rfl rfl rR) rfl
 have F0:=HE.1;have A2:0<F.length:=List.length_pos_iff.2 F0;obtain⟨gb,rfl⟩:=HF.1 A2;obtain⟨p,A7⟩:∃p,F[0]?=some p:=⟨_,aQQ A2⟩;have HP:=zH A7;have G0:=zH (show Fv rs=Lx p F from by unfold Fv;rw[C0.1,List.headD_eq_head?_getD,List.head?_eq_getElem?,HP.1];rfl);clear A7;go_upto_region 2 with fail
 apply wl;refine Cc Af _ (iV ((F.length:Nat):Int)) ?_;apply zp φ (by exact Rr (e:=(Al ω)));refine Cc Af φ _ ?_;refine zc (Ci _ rs _ (HU.1.ext C3.1.ext) HN.1 F8.1) ?_;rintro e D3 ⟨rfl,hx⟩;have C1:=zH (C3.1.step hx);clear hx;refine⟨.bool true,by rw[HV.1],?_⟩;try simp only[ζ]
 apply qV φ;apply zq φ;go_upto_region 4 with fail;refine zy ?_;have G3:=zH (C1.1.step (Aa.refl D3).drew);refine Mz Af zb (bs 10 1) 0 _ ?_;refine zo 1 (bs 10 3) (v:= .pointer (some ⟨gb,0*2,none⟩)) zb ?_ (hv:=by intro w F1;exact Ha (k:=0) underlying46 (l:=A2) (f:=(cZZ _).symm));refine zg 2 (bs 10 7) gb (0*2) [iV p.1,iV p.2] (C1.1.elem (f:=Ji) (i:=2) rR Fw HP.1) underlying44 zb ?_;refine Mz Af zb (bs 10 15) 3 _ ?_;refine zo 4 (bs 10 31) (v:= .pointer (some ⟨gb,0*2,none⟩)) zb ?_ (hv:=by intro w F1;exact Ha (k:=0) underlying46 (l:=A2) (f:=(cZZ _).symm));refine zg 5 (bs 10 63) gb (0*2) [iV p.1,iV p.2] (C1.1.elem (f:=Ji) (i:=2) rR Fw HP.1) underlying44 zb ?_;refine pK (i:=6) (j:=7) (T:=44) (U:=44) (zs:=[iV 0,iV 0]) (us:=[iV 0,iV 0]) (li:=(bs 10 127)) (lj:=(bs 10 191)) (lij:=(bs 10 255)) rR rR kR kR kR kR kR kR kR rR rR dC (by intro r_ x_;go_simp) (by intro r_ x_;go_simp) (fun x y h1 h2=>h1.trans h2) zb G3.1 (by simp[Ar]) (by simp[Ar]) ?_;intro B9 B8 E3 hh hx D7 D6 hs;have G2:=hN hh;have F5:=zH (show Aa D3 E3 from hs);have G7:=zH (Av zb.size D7);have G6:=zH (Av zb.size D6);clear hh hx D7 D6 hs;try simp only[ζ]
 refine bS 3 8 (bs 10 511) [iV p.1,iV p.2] G2.1 F5.1 G7.1 ?_;intro G9 G1 _ F4;refine bS 4 9 (bs 10 1023) [iV p.1,iV p.2] G1.1 F4.1 G6.1 ?_;intro E2 B0 _ F6;refine wpAnyH_done kR ?_ _;go_upto_region 5 with fail;apply wl;refine Dt Af _ (iV ((F.length:Nat):Int)) _ ?_;go_wp2_with fail;go_loopg [30] (F.length) (fun cq B6 wr=>∃(k:Nat),cq=F.length-k/\B6= iV (k:Int)/\(k<=F.length)/\Hp w wr [.blk B4 44 [iV 0,iV 0],.blk B3 44 [iV 0,iV 0],.row 44 2 (.slice (π gb) F.length cf) (F.length) (List.flatMap Ji F),.blk B9 44 [iV ((Lx p (F.take k)).1.1),iV ((Lx p (F.take k)).1.2)],.blk B8 44 [iV ((Lx p (F.take k)).2.1),iV ((Lx p (F.take k)).2.2)]]/\Ah E2 wr)
 case atStart=>exact⟨0,rfl,rfl,eXX _,B0.1,Ah.refl _⟩
 obtain⟨k,rfl,rfl,A3,D5,D9⟩:=hrel;generalize wr=A1 at*;have F9:=zH A3;clear A3;have A0:=zH D5;have D2:=zH D9;clear D5 D9 B0;rcases Cx (k<F.length)with HLT|HLT
 ·have B2:=HLT.1
  obtain⟨x,D4⟩:∃x,F[k]?=some x:=⟨_,aQQ B2⟩;have HX:=zH D4;have F7:=zH (show Lx p (F.take (k+1))=jF (Lx p (F.take k)) x from by rw[List.take_add_one,HX.1];exact wG _ _ _);clear D4;go_upto_region 6 with fail
  apply wl;apply zp τ (by exact Eg (e:=(An ω)));go_upto_region 7 with fail;apply wl;apply zp (.pointer (some ⟨gb,k*2,none⟩)) (by exact Ha (k:=k) underlying46 (l:=B2) (f:=(cZZ _).symm));refine zd gb (k*2) [iV x.1,iV x.2] (A0.1.elem (f:=Ji) (i:=2) rR Fw HX.1) underlying44 ?_;apply Cm 44 [iV 0,iV 0] A0.1;intro F3 E9 C7 D1;apply Da 5 [iV x.1,iV x.2] C7.1;intro E8 A6 D0;go_upto_region 8 with fail;apply wl;refine Iu A6.1 _ _ _ _ (iV (min ((Lx p (F.take k)).1.1) x.1)) _ _ _ ?_;refine Dt A6.1 _ (iV (min ((Lx p (F.take k)).1.2) x.2)) _ ?_;apply Da 3 [iV (min ((Lx p (F.take k)).1.1) x.1),iV (min ((Lx p (F.take k)).1.2) x.2)] A6.1;intro E7 A5 C9;go_upto_region 9 with fail;apply wl;refine Iu A5.1 _ _ _ _ (iV (max ((Lx p (F.take k)).2.1) x.1)) _ _ _ ?_;refine Dt A5.1 _ (iV (max ((Lx p (F.take k)).2.2) x.2)) _ ?_;apply Da 4 [iV (max ((Lx p (F.take k)).2.1) x.1),iV (max ((Lx p (F.take k)).2.2) x.2)] A5.1;intro E6 C6 C8;go_upto_region 10 with fail;apply wl;apply zp (iV ((k+1:Nat):Int)) (by exact Ht ω);apply zq (iV ((k+1:Nat):Int));have B1:=tD (tD (tD (tD D2 D1) D0) C9) C8;go_wp2_with fail
  go_roundg (F.length-(k+1))
  case measure=>exact(ω)
  case rel=>exact⟨k+1,rfl,(by go_num),B2,(by rw[F7.1];exact C6.1.take 5),B1.1⟩
 have B2:=HLT.1;have H5:=F9.1;obtain rfl:k=F.length:=ω
 go_upto_region 6 with fail;apply wl;apply zp φ (by exact Eg (e:=(Al (Int.lt_irrefl _))));go_upto_region 11 with fail;refine wp_region_held_drew (S:=fun x=>Fr (fun kz=>kz=B4\/kz=B3) A1 x) kR (Fr.of_ext zb) (fun _=> ?_);have C5:=zH (A0.1.step (Aa.refl A1).drew);refine mR 0 (bs 5 1) B9 (0) [iV ((Lx p (F.take F.length)).1.1),iV ((Lx p (F.take F.length)).1.2)] (fun x hx=>Fr.range hx (show World.rangeAt A1 B9 (0) [iV ((Lx p (F.take F.length)).1.1),iV ((Lx p (F.take F.length)).1.2)]from(A0.1.range (i:=3) rR 0 2)) (fun hk=>hk.elim (A0.1.offBlk (i:=3) (j:=0) rR rR dC rR) (A0.1.offBlk (i:=3) (j:=1) rR rR dC rR))) underlying44 (Fr.of_ext zb) ?_;refine zr 1 (bs 5 3) B8 (0) [iV ((Lx p (F.take F.length)).2.1),iV ((Lx p (F.take F.length)).2.2)] (fun x hx=>Fr.range hx (show World.rangeAt A1 B8 (0) [iV ((Lx p (F.take F.length)).2.1),iV ((Lx p (F.take F.length)).2.2)]from(A0.1.range (i:=4) rR 0 2)) (fun hk=>hk.elim (A0.1.offBlk (i:=4) (j:=0) rR rR dC rR) (A0.1.offBlk (i:=4) (j:=1) rR rR dC rR))) underlying44 (Fr.of_ext zb) ?_;refine Ef (i:=2) (listed':=(bs 5 7)) rR kR rR kR _ _ _ rR C5.1 (ix:=0) rR 0 [iV ((Lx p (F.take F.length)).1.1),iV ((Lx p (F.take F.length)).1.2)] rR rR (by simp) kR (by simp[Value.oneCell']) (by simp[Ar]) ?_;intro B5 hh hd ho;have C4:=hN hh;have A9:=zH (show Fr (fun kz=>kz=B4\/kz=B3) A1 B5 from Fr.trans_new (Fr.of_ext zb) ho (fun j hj=> .inl (.inl (by injection hj with hj;exact hj.symm))));clear hh hd ho;refine⟨A9.1,?_⟩
 (try simp only[Act.put])
 refine Ef (i:=3) (listed':=(bs 5 15)) rR kR rR kR _ _ _ rR C4.1 (ix:=1) rR 0 [iV ((Lx p (F.take F.length)).2.1),iV ((Lx p (F.take F.length)).2.2)] rR rR (by simp) kR (by simp[Value.oneCell']) (by simp[Ar]) ?_;intro E5 hh hd ho;have A4:=hN hh;have A8:=zH (Fr.trans_new A9.1 ho (fun j hj=> .inl (.inr (by injection hj with hj;exact hj.symm))));clear hh hd ho;refine⟨A8.1,?_⟩
 (try simp only[Act.put])
 refine zx 4 (bs 5 31) τ A8.1 ?_;refine wpAnyH_done kR ?_ _;go_wp2_with fail;refine bodyPost_ret (v:= .tuple #[.agg #[iV ((Lx p (F.take F.length)).1.1),iV ((Lx p (F.take F.length)).1.2)],.agg #[iV ((Lx p (F.take F.length)).2.1),iV ((Lx p (F.take F.length)).2.2)],.bool true]) ?_ rfl ⟨.inr ⟨HE.1,by rw[G0.1,mZZ]⟩,A4.1.ext⟩;exact Co rfl rfl rfl ((A4.1.blk (i:=0) rR).loadVar rfl rfl rR) ((A4.1.blk (i:=1) rR).loadVar rfl rfl rR) rfl
theorem gM (A:Option Addr)(cap:Nat)(rs:List Ai)(w:World)(hu:Cv w (.slice A rs.length cap) rs)(hn:rs.length<=1048576)(hr:∀r,r∈rs->r.length<=1048576)(ho:Fm rs=true)(h0:rs.flatten=[]):
    Calls prog 65 #[.slice A rs.length cap] w fun e w'=>e= .returned (.tuple #[.agg #[iV 0,iV 0],.agg #[iV 0,iV 0],.bool false])/\Aa w w':=
  (Wi A cap rs w hu hn hr ho).mono fun _ _ h=>⟨h.1.elim (fun k=>k.2) (fun k=>absurd h0 k.1),h.2⟩
theorem gJ (A:Option Addr)(cap:Nat)(rs:List Ai)(w:World)(hu:Cv w (.slice A rs.length cap) rs)(hn:rs.length<=1048576)(hr:∀r,r∈rs->r.length<=1048576)(ho:Fm rs=true)(h0:rs.flatten≠ []):
    Calls prog 65 #[.slice A rs.length cap] w fun e w'=>e= .returned (.tuple #[.agg #[iV (Fv rs).1.1,iV (Fv rs).1.2],.agg #[iV (Fv rs).2.1,iV (Fv rs).2.2],.bool true])/\Aa w w':=
  (Wi A cap rs w hu hn hr ho).mono fun _ _ h=>⟨h.1.elim (fun k=>absurd k.1 h0) (fun k=>k.2),h.2⟩
theorem aDT {rs:List Ai}(h:Fm rs=true)(hne:rs.flatten≠ []):Du (Fv rs).1/\Du (Fv rs).2:=by
  have A0:∀q,q∈rs.flatten->Du q:=fun q hq=>by
    obtain⟨r,hr,hq⟩:=List.mem_flatten.1 hq;exact Nh h hr hq
  refine aDU (p:=rs.flatten.headD (0,0)) (l:=rs.flatten) ?_ A0 rfl;cases e:rs.flatten with
  |nil=>exact absurd e hne
  |cons p l=>exact A0 p (by rw[e];simp)
theorem jV {P:Program}{o:Oper}{ρ:Operand->Value}{w:World}{A:Int}{t t':TypeId}{x y:Operand}(ho:o.op= .binOp .shr t x y t')(hx:ρ x= iV A)(hy:ρ y= .int .u64 8):(execOp ρ o).run P w= .ok (.value (iV (A/256))) w:=by
  unfold execOp;simp only[ho,hx,hy];simp[go_sem]
def Wt (rs:List Ai):R4:=⟨(Fv rs).1.1/256,(Fv rs).1.2/256,((Fv rs).2.1+255)/256,((Fv rs).2.2+255)/256⟩
def Lf (rs:List Ai):R4:=if rs.flatten=[]then R4.zero else if (Wt rs).x1<=(Wt rs).x0 then R4.zero else if (Wt rs).y1<=(Wt rs).y0 then R4.zero else Wt rs
theorem eL (n:Int)(w:World)(h: -1048576<=n/\n<=1048576):Calls prog 66 #[iV n] w fun e w'=>e= .returned (iV ((n+255)/256))/\Aa w w':=by
 have ha:=h.1;have hb:=h.2;go_enter func66,ntmps66
 have H0:=zH (Hp.start w);go_upto_region 0 with fail;apply wl;apply zq (iV 0);go_upto_region 1 with fail;apply wl;apply zq (iV n);apply zp (iV (n+256)) (by exact Ht ω);apply zp (iV (n+255)) (by exact bU rR rR rR ω ω ω);apply zp (iV ((n+255)/256)) (by exact jV rR rR rR);apply zq (iV ((n+255)/256));go_wp2_with fail;go_ret;exact⟨rfl,H0.1.ext⟩
theorem eK (A:Option Addr)(cap:Nat)(rs:List Ai)(w:World)(hu:Cv w (.slice A rs.length cap) rs)(hn:rs.length<=1048576)(hr:∀r,r∈rs->r.length<=1048576)(ho:Fm rs=true):
  Calls prog 32 #[.slice A rs.length cap] w fun e w'=>e= .returned (.agg #[iV (Lf rs).x0,iV (Lf rs).y0,iV (Lf rs).x1,iV (Lf rs).y1])/\Aa w w':=by
 have HU:=zH hu;have HN:=zH hn;have B1:=zH hr;clear hu hr;have HV:=zH ho;clear ho;go_enter func32,ntmps32
 have H0:=zH (Hp.start w);go_upto_region 0 with fail;apply wl;apply Cm 24 [iV 0,iV 0,iV 0,iV 0] H0.1;intro X7 w8 H9 _;rcases Cx (rs.flatten=[])with HE|HE
 ·go_upto_region 1 with fail
  apply wl;refine Cn Af _ ?_;refine aC H9.1 (gM A cap rs _ (HU.1.ext H9.1.ext) HN.1 B1.1 HV.1 HE.1) ?_;intro E7 D3 _;refine Fk Af _ _ _ φ ?_;apply Cm 44 [iV 0,iV 0] D3.1;intro F3 E6 D2 _;apply Cm 44 [iV 0,iV 0] D2.1;intro F2 E5 D1 _;apply Da 1 [iV 0,iV 0] D1.1;intro E4 D0 _;apply Da 2 [iV 0,iV 0] D0.1;intro E3 C9 _;apply zq φ;go_upto_region 2 with fail;apply wl;refine Cc Af φ τ ?_;go_upto_region 3 with fail;apply wl;refine Cn Af _ ?_;apply Da 0 [iV 0,iV 0,iV 0,iV 0] C9.1;intro E2 B3 _;have HR:=zH (show Lf rs=R4.zero from if_pos HE.1);go_wp2_with fail
  refine bodyPost_ret (v:= .agg #[iV R4.zero.x0,iV R4.zero.y0,iV R4.zero.x1,iV R4.zero.y1]) ?_ rfl ⟨by rw[HR.1],B3.1.ext⟩;exact Ak rfl rfl ((B3.1.blk (i:=0) rR).loadVar rfl rfl rR)
 go_upto_region 1 with fail;apply wl;refine Cn Af _ ?_;refine aC H9.1 (gJ A cap rs _ (HU.1.ext H9.1.ext) HN.1 B1.1 HV.1 HE.1) ?_;intro E1 C8 _;refine Fk Af _ _ _ τ ?_;apply Cm 44 [iV 0,iV 0] C8.1;intro F1 E0 C7 _;apply Cm 44 [iV 0,iV 0] C7.1;intro F0 D9 C6 _;apply Da 1 [iV ((Fv rs).1.1),iV ((Fv rs).1.2)] C6.1;intro D8 C5 _;apply Da 2 [iV ((Fv rs).2.1),iV ((Fv rs).2.2)] C5.1;intro A5 A6 _;apply zq τ;go_upto_region 2 with fail;apply wl;apply qV τ;apply zq φ;go_upto_region 4 with fail;apply wl;refine Cn Af _ ?_;have hb:=aDT HV.1 HE.1;have E9:=Bd hb.1;have E8:=Bd hb.2;go_upto_region 5 with fail
 refine zy ?_;have A9:=zH (A6.1.step (Aa.refl A5).drew);refine cR A6.1 zb (bs 17 3) 0 1 _ _ ?_;refine zu 2 (bs 17 7) (v:= iV (((Fv rs).1.1)/256)) zb ?_ (hv:=by intro w B9;exact jV rR rR rR);refine cR A6.1 zb (bs 17 31) 3 4 _ _ ?_;refine zu 5 (bs 17 63) (v:= iV (((Fv rs).1.2)/256)) zb ?_ (hv:=by intro w B9;exact jV rR rR rR);refine aBN A6.1 zb (bs 17 7679) 6 7 8 10 11 12 _ _ _ _ _ _ ?_;refine gG 15 (some 7) 24 [iV 0,iV 0,iV 0,iV 0] A5 A9.1 ?_;refine gL 9 (bs 17 40447) (bs 17 8191) zb.size A9.1 zb (fun xq A1=>eL ((Fv rs).2.1) _ ⟨ω,ω⟩) (by rintro x_ e B4 ⟨rfl,hx⟩;exact hx) ?_;rintro xq e D7 A1 ⟨rfl,hx⟩;replace hx:=A1.trans hx;clear A1;have B2:=zH (A9.1.step hx);have A8:=zH (zb.trans hx);clear hx;refine⟨_,rfl,?_⟩;try simp only[ζ]
 refine gL 13 (bs 17 40959) (bs 17 16383) A8.1.size B2.1 A8.1 (fun xq A1=>eL ((Fv rs).2.2) _ ⟨ω,ω⟩) (by rintro x_ e B4 ⟨rfl,hx⟩;exact hx) ?_;rintro xq e D6 A1 ⟨rfl,hx⟩;replace hx:=A1.trans hx;clear A1;have C4:=zH (B2.1.step hx);have A7:=zH (A8.1.trans hx);clear hx;refine⟨_,rfl,?_⟩;try simp only[ζ]
 refine gK 14 (bs 17 49151) (bs 17 32767) (.agg #[iV (((Fv rs).1.1)/256),iV (((Fv rs).1.2)/256),iV (((Fv rs).2.1+255)/256),iV (((Fv rs).2.2+255)/256)]) A7.1 ?_;refine gE (bs 17 65535) A7.1.size C4.1 A7.1 ?_;intro C0 B5 hx hh hs B0;have C3:=hN hh;have C1:=zH (show Aa A5 B5 from hs);have D4:=zH (show A5.heap.size<=C0 from B0);clear hh hx B0 hs;try simp only[ζ]
 refine bS 3 16 (bs 17 131071) [iV (((Fv rs).1.1)/256),iV (((Fv rs).1.2)/256),iV (((Fv rs).2.1+255)/256),iV (((Fv rs).2.2+255)/256)] C3.1 C1.1 D4.1 ?_;intro D5 A0 _ C2;refine wpAnyH_done kR ?_ _;rcases Cx ((Wt rs).x1<=(Wt rs).x0)with H1|H1
 ·go_upto_region 6 with fail
  apply wl;refine Fk A0.1 _ _ _ _ ?_;apply zp τ (by exact Od (e:=(An H1.1)));refine rJ Af τ _ _ _ _ _ τ ?_;go_upto_region 7 with fail;apply wl;refine Cn Af _ ?_;apply Da 0 [iV 0,iV 0,iV 0,iV 0] A0.1;intro B8 A4 _;have HR:=zH (show Lf rs=R4.zero from(if_neg HE.1).trans (if_pos H1.1));go_wp2_with fail
  refine bodyPost_ret (v:= .agg #[iV R4.zero.x0,iV R4.zero.y0,iV R4.zero.x1,iV R4.zero.y1]) ?_ rfl ⟨by rw[HR.1],A4.1.ext⟩;exact Ak rfl rfl ((A4.1.blk (i:=0) rR).loadVar rfl rfl rR)
 rcases Cx ((Wt rs).y1<=(Wt rs).y0)with H2|H2
 ·go_upto_region 6 with fail
  apply wl;refine Fk A0.1 _ _ _ _ ?_;apply zp φ (by exact Od (e:=(Al H1.1)));refine Na A0.1 φ _ _ _ _ ?_;apply zp τ (by exact Od (e:=(An H2.1)));apply zq τ;go_upto_region 7 with fail;apply wl;refine Cn Af _ ?_;apply Da 0 [iV 0,iV 0,iV 0,iV 0] A0.1;intro B7 A3 _;have HR:=zH (show Lf rs=R4.zero from(if_neg HE.1).trans ((if_neg H1.1).trans (if_pos H2.1)));go_wp2_with fail
  refine bodyPost_ret (v:= .agg #[iV R4.zero.x0,iV R4.zero.y0,iV R4.zero.x1,iV R4.zero.y1]) ?_ rfl ⟨by rw[HR.1],A3.1.ext⟩;exact Ak rfl rfl ((A3.1.blk (i:=0) rR).loadVar rfl rfl rR)
 go_upto_region 6 with fail;apply wl;refine Fk A0.1 _ _ _ _ ?_;apply zp φ (by exact Od (e:=(Al H1.1)));refine Na A0.1 φ _ _ _ _ ?_;apply zp φ (by exact Od (e:=(Al H2.1)));apply zq φ;go_upto_region 8 with fail;apply wl;refine Cn A0.1 _ ?_;apply Da 0 [iV (((Fv rs).1.1)/256),iV (((Fv rs).1.2)/256),iV (((Fv rs).2.1+255)/256),iV (((Fv rs).2.2+255)/256)] A0.1;intro B6 A2 _;have HR:=zH (show Lf rs=Wt rs from(if_neg HE.1).trans ((if_neg H1.1).trans (if_neg H2.1)));go_wp2_with fail
 refine bodyPost_ret (v:= .agg #[iV (Wt rs).x0,iV (Wt rs).y0,iV (Wt rs).x1,iV (Wt rs).y1]) ?_ rfl ⟨by rw[HR.1],A2.1.ext⟩;exact Ak rfl rfl ((A2.1.blk (i:=0) rR).loadVar rfl rfl rR)
end
section
section
variable {P:Program} {l:List Oper} {Q:Exit->Act->World->Prop} {md:Region.Mode} {S:World->Prop} {st ds:List Nat}
def Io (P:Program)(md:Region.Mode)(ops:Array Oper)(Q:Exit->Act->World->Prop)(S:World->Prop)(st:List Nat):Nat->Array Bool->Act->World->Prop
  |0,listed,a,w=>Region.ready md ops listed=[]/\Q .normal a w
  | fuel+1,listed,a,w=>(Region.ready md ops listed=[]->Q .normal a w)/\
    ∀ i∈Region.ready md ops listed,(i∈st->wpOp P ops Q i (wpAny P md ops Q fuel (listed.setIfInBounds i true)) a w)/\
      (i∉st->wpOp P ops Q i (fun a' w'=>S w'/\Io P md ops Q S st fuel (listed.setIfInBounds i true) a' w') a w)
theorem Ty {ops:Array Oper}:∀(fuel:Nat) (listed:Array Bool) (a:Act) (w:World),Io P md ops Q S st fuel listed a w->wpAny P md ops Q fuel listed a w
  |0,_,_,_,h=>h
  |fuel+1,_,_,_,h=>⟨h.1,fun i hi=>by
      by_cases hs:i∈st
      · exact(h.2 i hi).1 hs
      exact wpOp_mono (fun a' w' h'=>Ty fuel _ a' w' h'.2) ((h.2 i hi).2 hs)⟩
theorem Zt {ops:Array Oper}{i:Nat}{oi:Oper}{v:Value}(hi:ops[i]?=some oi)(hsel:∀(j:Nat) (o:Oper) cs b,ops[j]?=some o->o.op≠ .select cs b)(hist:i∉st)(hsd:∀k∈st,k∈ds)
  (hch:∀d∈ds,∃od,ops[d]?=some od/\∃e∈od.after,Region.binds md e=true/\(e.on=i\/e.on∈ds))
  (hQ:∀c a w,Q (.panic c) (a.put oi.dst v) w->Q (.panic c) a w):
  ∀(fuel:Nat) (listed:Array Bool) (a:Act) (w:World),listed.size=ops.size->(∀d∈ds,listed.getD d true=false)->
   (∀j oj,ops[j]?=some oj->j≠i->j∉ds->listed.getD j true=false->(∀e∈oj.after,Region.binds md e=true->e.on≠i)->oi.apart ops oj=true)->
   i∈Region.ready md ops listed->YieldsIf P ops S oi v a->S w->
   Io P md ops Q S st fuel (listed.setIfInBounds i true) (a.put oi.dst v) w->Io P md ops Q S st (fuel+1) listed a w:=by
 intro fuel;induction fuel with
 |zero=>
  intro listed a w _ _ _ hr hy hS H;refine⟨fun h=>(by rw[h]at hr;cases hr),fun j hj=> ?_⟩;by_cases hji:j=i
  ·subst hji;exact⟨fun h=>absurd h hist,fun _=>hy.wpOp hi hS ⟨hS,H⟩⟩
  have:=ready_mono hj hji;rw[H.1]at this;cases this
 |succ fuel ih=>
  intro listed a w B3 A3 A1 hr hy hS H;refine⟨fun h=>(by rw[h]at hr;cases hr),fun j hj=> ?_⟩;by_cases hji:j=i
  ·subst hji;exact⟨fun h=>absurd h hist,fun _=>hy.wpOp hi hS ⟨hS,H⟩⟩
  have B2:=(mem_ready.1 hr).1;have B4:∀k,listed.getD k true=false->listed[k]?≠some true:=fun k h1 h2=>by
   rcases Nat.lt_or_ge k listed.size with h'|h'
   ·simp[h']at h1 h2;rw[h1]at h2;cases h2
   simp[Array.getElem?_eq_none h']at h2
  obtain⟨A4,oj,A5,B0⟩:=mem_ready.1 hj;have A0:∀k,listed.getD k true=false->∀e∈oj.after,Region.binds md e=true->e.on≠k:=fun k h0 e he hb heq=>by
   have h1:=B0 e he hb;rw[heq]at h1;rcases Nat.lt_or_ge k listed.size with h'|h'
   ·simp[h']at h0 h1;rw[h0]at h1;cases h1
   simp[Array.getElem?_eq_none h']at h1
  have A9:j∉ds:=fun hd=>by
   obtain⟨od,ho,e,he,hb,hc⟩:=hch j hd;rw[A5]at ho;cases ho;rcases hc with hc|hc
   ·exact A0 i B2 e he hb hc
   exact A0 _ (A3 _ hc) e he hb rfl
  have B1:j∉st:=fun h=>A9 (hsd j h)
  have h1:=(H.2 j (ready_mono hj hji)).2 B1;have A7:=A0 i B2;have h2:=wpOp_putIf A5 (A1 j oj A5 hji A9 A4 A7) (fun cs b=>hsel i oi cs b hi) (fun cs b=>hsel j oj cs b A5) hQ hy h1;have A2:∀k ok,ops[k]?=some ok->k≠i->k∉ds->(listed.setIfInBounds j true).getD k true=false->
    (∀e∈ok.after,Region.binds md e=true->e.on≠i)->oi.apart ops ok=true:=fun k ok hk hki hkd hun hno=>by
   refine A1 k ok hk hki hkd ?_ hno;by_cases hjk:j=k
   ·subst hjk;exact A4
   rw[getD_set_ne true hjk]at hun;exact hun
  have A6:∀d∈ds,(listed.setIfInBounds j true).getD d true=false:=fun d hd=>by
   have A8:j≠d:=fun h=>A9 (h▸hd)
   rw[getD_set_ne true A8];exact A3 d hd
  refine⟨fun h=>absurd h B1,fun _=>wpOp_mono (fun a' w' h3=>⟨h3.2.1,ih (listed.setIfInBounds j true) a' w' (by simpa using B3) A6 A2 (ready_mono hr (Ne.symm hji)) h3.1 h3.2.1 ?_⟩) h2⟩;rw[Array.setIfInBounds_comm _ _ hji];exact h3.2.2
def bL (md:Region.Mode)(ops:Array Oper)(listed:Array Bool)(st ds:List Nat)(i:Nat):Bool:=
  listed.size==ops.size&& !(st.contains i)&&st.all (fun k=>ds.contains k)&&
  ds.all (fun d=> !(listed.getD d true)&&match ops[d]?with|some od=>od.after.any (fun e=>Region.binds md e&&(e.on==i||ds.contains e.on))|none=>false)&&
  match ops[i]?with
  |none=>false
  |some oi=>(List.range ops.size).all fun j=>j==i||ds.contains j||listed.getD j true||match ops[j]?with
      |some oj=>oj.after.any (fun e=>Region.binds md e&&e.on==i)||oi.apart ops oj
      |none=>true
theorem dB {i:Nat}{oi:Oper}{v:Value}{fuel:Nat}{listed listed':Array Bool}{a:Act}{w:World}(hi:l[i]?=some oi)
  (hs:Region.noSelect l.toArray=true)(hf:bL md l.toArray listed st ds i=true)(hr:(Region.ready md l.toArray listed).contains i=true)
  (hQ:∀c a w,Q (.panic c) (a.put oi.dst v) w->Q (.panic c) a w)(hy:YieldsIf P l.toArray S oi v a)(hS:S w)(hl:listed.setIfInBounds i true=listed')
  (h:Io P md l.toArray Q S st fuel listed' (a.put oi.dst v) w):Io P md l.toArray Q S st (fuel+1) listed a w:=by
 have A0:l.toArray[i]?=some oi:=by rw[aZZ];exact hi
 simp only[bL,A0,hZZ,beq_iff_eq,List.all_eq_true,Bool.not_eq_true',List.contains_eq_mem,decide_eq_true_eq,decide_eq_false_iff_not]at hf;obtain⟨⟨⟨⟨h1,h2⟩,h3⟩,h4⟩,h5⟩:=hf;refine Zt (ds:=ds) A0 (Region.noSelect_spec hs) h2 h3 (fun d hd=> ?_) hQ fuel listed a w h1 (fun d hd=>(h4 d hd).1) (fun j oj hj hne hjd hun hno=> ?_) (by simpa using hr) hy hS (by rw[hl];exact h)
 ·have h6:=(h4 d hd).2
  cases ho:l.toArray[d]?with
  |none=>rw[ho]at h6;cases h6
  |some od=>
   rw[ho]at h6;obtain⟨e,he,hb⟩:=Array.any_eq_true'.1 h6;simp only[hZZ,Bool.or_eq_true,beq_iff_eq,decide_eq_true_eq]at hb;exact⟨od,rfl,e,he,hb.1,hb.2⟩
 have h6:=h5 j (by rw[List.mem_range];exact(Array.getElem?_eq_some_iff.1 hj).1);simp only[hj,Bool.or_eq_true,beq_iff_eq,hne,false_or,hun,Bool.false_eq_true,hjd,decide_eq_true_eq]at h6;rcases h6 with h6|h6
 ·obtain⟨e,he,hb⟩:=Array.any_eq_true'.1 h6
  simp only[hZZ,beq_iff_eq]at hb;exact absurd hb.2 (hno e he hb.1)
 exact h6
theorem Fu {i:Nat}{oi:Oper}{v:Value}{fuel:Nat}{listed listed':Array Bool}{a:Act}{w:World}(hi:l[i]?=some oi)(hs:Region.noSelect l.toArray=true)(hf:bL md l.toArray listed st ds i=true)(hr:(Region.ready md l.toArray listed).contains i=true)
    (hQ:∀c a w,Q (.panic c) (a.put oi.dst v) w->Q (.panic c) a w)(hy:YieldsIf P l.toArray S oi v a)(hS:S w)
    (hl:listed.setIfInBounds i true=listed')(h:Io P md l.toArray Q S st fuel listed' (a.put oi.dst v) w):Io P md l.toArray Q S st (fuel+1) listed a w:=
  dB hi hs hf hr hQ hy hS hl h
theorem Tm {i:Nat}{oi:Oper}{fuel:Nat}{listed listed':Array Bool}{a:Act}{w:World}{f:FuncId}{args:Array Value}{Φ:Ending->World->Prop}(hi:l[i]?=some oi)(hr:Region.ready md l.toArray listed=[i])(hist:st.contains i=false)(hw:Region.wanted oi (yielded l.toArray a.tmps)=true)
  (hv:(execOp a.eval oi).run P w= .ok (.enter f args) w)(hc:Calls P f args w Φ)(hl:listed.setIfInBounds i true=listed')
  (h:∀e w',Φ e w'->∃v,e= .returned v/\S w'/\Io P md l.toArray Q S st fuel listed' (a.put oi.dst v) w'):Io P md l.toArray Q S st (fuel+1) listed a w:=by
 have A1:l.toArray[i]?=some oi:=by rw[aZZ];exact hi
 have A0:i∉st:=by simpa using hist
 refine⟨fun h0=>(by rw[hr]at h0;cases h0),fun j hj=> ?_⟩;rw[hr,lZZ]at hj;subst hj;refine⟨fun h0=>absurd h0 A0,fun _=> ?_⟩;unfold wpOp;simp only[A1];rw[if_pos hw];refine .inl (Dq hv hc fun e w' he=> ?_);obtain⟨v,hv,hS,hh⟩:=h e w' he;exact⟨v,hv,hS,by rw[hl];exact hh⟩
theorem eU {fuel:Nat}{listed:Array Bool}{a:Act}{w:World}(hr:(Region.ready md l.toArray listed).all (fun k=>st.contains k)=true)
    (h:wpAnyH P md l.toArray Q (fun _=>True) (fuel+1) listed a w):Io P md l.toArray Q S st (fuel+1) listed a w:=by
  have h1:=wpAny_of_held _ _ _ _ h;simp only[List.all_eq_true,List.contains_eq_mem,decide_eq_true_eq]at hr;exact⟨h1.1,fun i hi=>⟨fun _=>h1.2 i hi,fun h2=>absurd (hr i hi) h2⟩⟩
theorem Lp {id:Nat}{a:Act}{w:World}(st:List Nat)(hm:P.follows .mixedOrders=true)
    (h:Io P .any l.toArray Q S st l.toArray.size (Array.replicate l.toArray.size false) a w.drew):(Code.region id l.toArray true).wp P Q a w:=
  wp_region_any hm (Ty _ _ _ _ h)
end
end
section
attribute [local go_sem ↓] Go.wp_at_zero Go.wp_at_succ Ae Ad
theorem Vn (v:Value)(L a:Nat)(w:World)(hv:Bj L w v a)(hL:L<=1000000):
    Calls prog 122 #[.bool false,v] w fun e w'=>∃p l c,e= .returned (.agg #[.bool false,.slice p l c])/\Bq w' (.slice p l c) a/\Aa w w':=by
  refine(Ic false v L a w hv hL).mono ?_;rintro e w' ⟨n,u,rfl,h1,hx⟩;obtain⟨p,l,c,rfl⟩:=h1.form;have h2:n=false:=by rw[h1.1];simp[sg]
  subst h2;exact⟨p,l,c,rfl,by have h3:=h1.2;rwa[Un]at h3,hx⟩
theorem vO (u v:Value)(L a b:Nat)(w:World)(hu:Bj L w u a)(hv:Bj L w v b)(hL:L<=300000)(hb:b≠0):
    Calls prog 126 #[u,v] w fun e w'=>∃p l c p2 l2 c2,e= .returned (.tuple #[.slice p l c,.slice p2 l2 c2,iV 0])/\Bq w' (.slice p l c) (a/b)/\Bq w' (.slice p2 l2 c2) (a%b)/\Aa w w':=by
  refine(Oq u v L a b w hu hv hL hb).mono ?_;rintro e w' ⟨q,r,rfl,h1,h2,hx⟩;obtain⟨p,c,rfl⟩:=h1.form;obtain⟨p2,c2,rfl⟩:=h2.form;exact⟨p,_,c,p2,_,c2,rfl,h1,h2,hx⟩
theorem uJ (n m:Bool)(u v:Value)(L:Nat)(y z:Int)(w:World)(hu:Cj L w n u y)(hv:Cj L w m v z)(hL:L<=150000):
    Calls prog 95 #[.agg #[.bool n,u],.agg #[.bool m,v]] w fun e w'=>∃k p l c,e= .returned (.agg #[.bool k,.slice p l c])/\Cy w' k (.slice p l c) (y*z)/\Aa w w':=by
  refine(Ij n m u v L y z w hu hv hL).mono ?_;rintro e w' ⟨k,x,rfl,h1,hx⟩;obtain⟨p,l,c,rfl⟩:=h1.form;exact⟨k,p,l,c,rfl,h1,hx⟩
theorem sA (n m:Bool)(u v:Value)(L:Nat)(y z:Int)(w:World)(hu:Cj L w n u y)(hv:Cj L w m v z)(hL:L<=150000):
    Calls prog 116 #[.agg #[.bool n,u],.agg #[.bool m,v]] w fun e w'=>∃k p l c,e= .returned (.agg #[.bool k,.slice p l c])/\Aa w w':=by
  refine(Vv n m u v L y z w hu hv hL).mono ?_;rintro e w' ⟨k,x,rfl,h1,hx⟩;obtain⟨p,l,c,rfl⟩:=h1.form;exact⟨k,p,l,c,rfl,hx⟩
theorem Rg {L a:Nat}{w:World}{v:Value}(h:Bj L w v a):Cj L w false v ((a:Nat):Int):=⟨a,h,rfl⟩
theorem Bq.digD {w w':World}{v:Value}{n:Nat}(h:Bq w v n)(d:Ah w w'):Bq w' v n:=d _ _ h
theorem Bj.digD {L:Nat}{w w':World}{v:Value}{n:Nat}(h:Bj L w v n)(d:Ah w w'):Bj L w' v n:=by obtain⟨xs,h1,h2⟩:=h;exact⟨xs,d _ _ h1,h2⟩
theorem dK (X:Nat)(v:Value)(L a:Nat)(w:World)(hc:w.cell? ⟨X,0,none⟩=some φ)(hv:Bj L w v a)(hL:L<=1000000):
  Calls prog 160 #[v,.pointer (π X)] w fun e w'=>∃p l c,e= .returned (.agg #[.bool false,.slice p l c])/\Bq w' (.slice p l c) a/\Aa w w':=by
 have HC:=zH hc;have A2:=zH hv;clear hc hv;go_enter func160,ntmps160
 have H0:=zH (Hp.start w);go_upto_region 0 with fail;apply wl;apply Cm 56 [.bool false,.slice none 0 0] H0.1;intro X1 w2 H3 _;go_upto_region 1 with fail;apply wl;refine ze X 0 φ (Le (H3.1.ext.get HC.1)) ?_;refine qV (v) ?_;refine zc (Vn v L a _ (A2.1.ext H3.1.ext) hL) ?_;rintro e w7 ⟨p,l,c,rfl,A0,hx⟩;have H8:=zH (H3.1.step hx);have HN:=zH A0;clear A0 hx;refine zn ?_;apply Da 0 [.bool false,.slice p l c] H8.1;intro A4 A1 A3;go_wp2_with fail
 refine bodyPost_ret (v:= .agg #[.bool false,.slice p l c]) ?_ rfl ⟨p,l,c,rfl,(A3.1 _ _ HN.1),A1.1.ext⟩;exact Ak rfl rfl ((A1.1.blk (i:=0) rR).loadVar rfl rfl rR)
theorem iK (w:World):Calls prog 128 #[.bool false] w fun e w'=>∃X,e= .returned (.func (.func 160) #[] #[.pointer (π X)])/\w'.cell? ⟨X,0,none⟩=some φ/\Aa w w':=by
 go_enter func128,ntmps128;have H0:=zH (Hp.start w);go_upto_region 0 with fail;apply wl;apply Cm 4 [.bool false] H0.1;intro A1 A2 A0 _;apply zq (.nilFunc);go_upto_region 1 with fail;apply wl;refine Cc Af _ _ ?_;go_wp2_with fail;go_ret;exact⟨A1,rfl,Aj (A0.1.range (i:=0) (by rfl) 0 1),A0.1.ext⟩
theorem fK (p1 p2:Option Addr)(l1 c1 l2 c2 a b L:Nat)(w:World)(hu:Bj L w (.slice p1 l1 c1) a)(hv:Bj L w (.slice p2 l2 c2) b)(hL:L<=70000)(hb:b≠0):
  Calls prog 92 #[.agg #[.bool false,.slice p1 l1 c1],.agg #[.bool false,.slice p2 l2 c2]] w fun e w'=>∃(p:Option Addr) (l c:Nat) (k:Bool) (p3:Option Addr) (l3 c3:Nat),e= .returned (.tuple #[.agg #[.bool false,.slice p l c],.agg #[.bool k,.slice p3 l3 c3],iV 0])/\Bq w' (.slice p l c) (a/b)/\Aa w w':=by
 have I0:=zH hu;have H9:=zH hv;have BA:=hu.nl;have BB:=hv.nl;have BQ:Nm.nl (a/b)<=L:=Av (Nm.nl_mono (Nat.div_le_self a b)) BA;clear hu hv;go_enter func92,ntmps92
 have H0:=zH (Hp.start w);go_upto_region 0 with fail;apply wl;apply Cm 56 [.bool false,.slice p1 l1 c1] H0.1;intro A7 K1 I9 _;apply Cm 56 [.bool false,.slice p2 l2 c2] I9.1;intro A6 K0 I8 _;apply Cm 56 [.bool false,.slice none 0 0] I8.1;intro F7 J9 I7 _;apply Cm 56 [.bool false,.slice none 0 0] I7.1;intro F6 B2 C9 _;apply zq (iV 0);go_upto_region 1 with fail;refine Lp (S:=fun x=>Aa B2 x) [10,11] kR ?_;have G4:=zH (C9.1.step (Aa.refl B2).drew);refine Fu (ds:=[1,4,9,10,11]) (i:=0) (listed':=(bs 12 1)) (v:= .pointer (π A7)) rR kR kR kR (by intro _ _ _ h;exact h) (Kk rR (by intro w D9;go_simp<;>with_reducible rfl)) zb kR ?_;try simp only[ζ]
 refine Fu (ds:=[4,9,10,11]) (i:=1) (listed':=(bs 12 3)) (v:= .bool false) rR kR kR kR (by intro _ _ _ h;exact h) (dA (g:=A7) (o:=0) rR (fun x hx=>Aa.get hx (show World.cell? B2 ⟨A7,0,none⟩=some φ from Aj (C9.1.range (i:=0) rR 0 1))) (by intro x hq;go_simp<;>with_reducible rfl)) zb kR ?_;try simp only[ζ]
 refine Fu (ds:=[3,4,9,10,11]) (i:=2) (listed':=(bs 12 7)) (v:= .pointer (some ⟨A7,1,none⟩)) rR kR kR kR (by intro _ _ _ h;exact h) (Kk rR (by intro w D9;go_simp<;>with_reducible rfl)) zb kR ?_;try simp only[ζ]
 refine Fu (ds:=[4,9,10,11]) (i:=3) (listed':=(bs 12 15)) (v:= .slice p1 l1 c1) rR kR kR kR (by intro _ _ _ h;exact h) (dA (g:=A7) (o:=1) rR (fun x hx=>Aa.get hx (show World.cell? B2 ⟨A7,1,none⟩=some (.slice p1 l1 c1)from Aj (C9.1.range (i:=0) rR 1 1))) (by intro x hq;go_simp<;>with_reducible rfl)) zb kR ?_;try simp only[ζ]
 refine Fu (ds:=[6,9,10,11]) (i:=5) (listed':=(bs 12 47)) (v:= .pointer (π A6)) rR kR kR kR (by intro _ _ _ h;exact h) (Kk rR (by intro w D9;go_simp<;>with_reducible rfl)) zb kR ?_;try simp only[ζ]
 refine Fu (ds:=[9,10,11]) (i:=6) (listed':=(bs 12 111)) (v:= .bool false) rR kR kR kR (by intro _ _ _ h;exact h) (dA (g:=A6) (o:=0) rR (fun x hx=>Aa.get hx (show World.cell? B2 ⟨A6,0,none⟩=some φ from Aj (C9.1.range (i:=1) rR 0 1))) (by intro x hq;go_simp<;>with_reducible rfl)) zb kR ?_;try simp only[ζ]
 refine Fu (ds:=[8,9,10,11]) (i:=7) (listed':=(bs 12 239)) (v:= .pointer (some ⟨A6,1,none⟩)) rR kR kR kR (by intro _ _ _ h;exact h) (Kk rR (by intro w D9;go_simp<;>with_reducible rfl)) zb kR ?_;try simp only[ζ]
 refine Fu (ds:=[9,10,11]) (i:=8) (listed':=(bs 12 495)) (v:= .slice p2 l2 c2) rR kR kR kR (by intro _ _ _ h;exact h) (dA (g:=A6) (o:=1) rR (fun x hx=>Aa.get hx (show World.cell? B2 ⟨A6,1,none⟩=some (.slice p2 l2 c2)from Aj (C9.1.range (i:=1) rR 1 1))) (by intro x hq;go_simp<;>with_reducible rfl)) zb kR ?_;try simp only[ζ]
 refine Tm (hist:=by rfl) (i:=4) (listed':=(bs 12 511)) rR kR rR (by go_simp) (Vn (.slice p1 l1 c1) L a _ (I0.1.digD G4.1.dig0) ω) kR ?_;rintro e J8 ⟨B5,B8,C2,rfl,A4,hx⟩;have G3:=zH (G4.1.step hx);have F8:=zH (zb.trans hx);have G1:=zH A4;clear A4 hx;refine⟨_,rfl,F8.1,?_⟩;try simp only[ζ]
 refine Tm (hist:=by rfl) (i:=9) (listed':=(bs 12 1023)) rR kR rR (by go_simp) (Vn (.slice p2 l2 c2) L b _ (H9.1.digD G3.1.dig0) ω) kR ?_;rintro e J7 ⟨B4,B7,C1,rfl,A4,hx⟩;have I6:=zH (G3.1.step hx);have J0:=zH (Ah.of_ext hx);have H6:=zH (F8.1.trans hx);have G0:=zH A4;clear A4 hx;refine⟨_,rfl,H6.1,?_⟩;try simp only[ζ]
 refine eU kR ?_;refine Ef (i:=10) (listed':=(bs 12 2047)) rR kR rR kR _ _ _ rR I6.1 (ix:=0) rR 0 [.bool false,.slice B5 B8 C2] rR rR (by simp) kR (by simp[Value.oneCell']) (by simp[Ar]) ?_;intro J6 hh hd ho;have I5:=hN hh;have G8:=zH (hd);clear hh hd ho;refine⟨trivial,?_⟩
 (try simp only[Act.put])
 refine Ef (i:=11) (listed':=(bs 12 4095)) rR kR rR kR _ _ _ rR I5.1 (ix:=1) rR 0 [.bool false,.slice B4 B7 C1] rR rR (by simp) kR (by simp[Value.oneCell']) (by simp[Ar]) ?_;intro J5 hh hd ho;have G2:=hN hh;have G7:=zH (hd);clear hh hd ho;refine⟨trivial,?_⟩
 (try simp only[Act.put])
 refine wpAnyH_done kR ?_ _;go_upto_region 2 with fail;apply wl;refine Fk G2.1 _ _ _ _ ?_;have D1:=tD (tD J0 G8) G7;have D0:=tD G8 G7;refine zc (vO (.slice B5 B8 C2) (.slice B4 B7 C1) L a b _ (Bq.isIn (D1.1 _ _ G1.1) BA) (Bq.isIn (D0.1 _ _ G0.1) BB) ω hb) ?_;rintro e J4 ⟨H3,H4,H5,K2,K3,K4,rfl,C0,F5,hx⟩;have E3:=zH (G2.1.step hx);have G6:=zH (Ah.of_ext hx);have H7:=zH C0;have K5:=zH F5;clear C0 F5 hx;refine zn ?_;refine rJ Af _ _ _ _ _ _ _ ?_;go_upto_region 3 with fail
 apply wl;apply zq (iV 0);apply zp φ (by exact Nw (e:=(Al ω)));go_upto_region 5 with fail;apply wl;refine Iu E3.1 _ _ _ _ φ φ _ _ ?_;refine zk ?_;apply zq φ;go_upto_region 7 with fail;apply wl;refine Na E3.1 _ _ _ _ φ ?_;refine zc (iK _) ?_;rintro e J3 ⟨X,rfl,F4,hx⟩;have I4:=zH (E3.1.step hx);have E9:=zH (Ah.of_ext hx);have H8:=zH F4;clear F4 hx;refine zn ?_;refine Cn Af _ ?_;refine zc (dK X (.slice H3 H4 H5) L (a/b) _ H8.1 (Bq.isIn (E9.1 _ _ H7.1) BQ) ω) ?_;rintro e J2 ⟨A2,A3,A5,rfl,A4,hx⟩;have I3:=zH (I4.1.step hx);have G5:=zH (Ah.of_ext hx);have F9:=zH A4;clear A4 hx;refine zn ?_;apply Cm 56 [.bool false,.slice none 0 0] I3.1;intro D6 J1 I1 E8;apply Da 4 [.bool false,.slice A2 A3 A5] I1.1;intro A1 A0 B1;go_upto_region 8 with fail
 refine wp_region_held_drew (S:=fun x=>Fr (fun kz=>kz=F7\/kz=F6) A1 x) kR (Fr.of_ext zb) (fun _=> ?_);have E7:=zH (A0.1.step (Aa.refl A1).drew);have B0:=zH (Ah.of_ext (w:=A1) zb);refine mR 0 (bs 9 1) D6 (0) [.bool false,.slice A2 A3 A5] (fun x hx=>Fr.range hx (show World.rangeAt A1 D6 (0) [.bool false,.slice A2 A3 A5]from(A0.1.range (i:=4) rR 0 2)) (fun hk=>hk.elim (A0.1.offBlk (i:=4) (j:=2) rR rR dC rR) (A0.1.offBlk (i:=4) (j:=3) rR rR dC rR))) underlying56 (Fr.of_ext zb) ?_;refine mR 1 (bs 9 3) A7 (0) [.bool false,.slice B5 B8 C2] (fun x hx=>Fr.range hx (show World.rangeAt A1 A7 (0) [.bool false,.slice B5 B8 C2]from(A0.1.range (i:=0) rR 0 2)) (fun hk=>hk.elim (A0.1.offBlk (i:=0) (j:=2) rR rR dC rR) (A0.1.offBlk (i:=0) (j:=3) rR rR dC rR))) underlying56 (Fr.of_ext zb) ?_;refine zr 2 (bs 9 7) D6 (0) [.bool false,.slice A2 A3 A5] (fun x hx=>Fr.range hx (show World.rangeAt A1 D6 (0) [.bool false,.slice A2 A3 A5]from(A0.1.range (i:=4) rR 0 2)) (fun hk=>hk.elim (A0.1.offBlk (i:=4) (j:=2) rR rR dC rR) (A0.1.offBlk (i:=4) (j:=3) rR rR dC rR))) underlying56 (Fr.of_ext zb) ?_;refine zr 3 (bs 9 15) A6 (0) [.bool false,.slice B4 B7 C1] (fun x hx=>Fr.range hx (show World.rangeAt A1 A6 (0) [.bool false,.slice B4 B7 C1]from(A0.1.range (i:=1) rR 0 2)) (fun hk=>hk.elim (A0.1.offBlk (i:=1) (j:=2) rR rR dC rR) (A0.1.offBlk (i:=1) (j:=3) rR rR dC rR))) underlying56 (Fr.of_ext zb) ?_;have A8:=tD (tD E8 B1) B0;have D4:=tD (tD (tD (tD (tD (tD D0 G6) E9) G5) E8) B1) B0;refine mC 4 (bs 9 31) (uJ false false (.slice A2 A3 A5) (.slice B4 B7 C1) L _ _ _ (Rg (Bq.isIn (A8.1 _ _ F9.1) BQ)) (Rg (Bq.isIn (D4.1 _ _ G0.1) BB)) ω) ?_;rintro e B3 ⟨E1,D7,D8,E0,rfl,C0,hx⟩;have E6:=zH (E7.1.step hx);have D5:=zH (show Ah A1.drew B3 from Ah.of_ext hx);have C8:=zH (show Fr (fun kz=>kz=F7\/kz=F6) A1 B3 from(Fr.of_ext zb).trans (Fr.of_ext hx));have E2:=zH C0;clear C0;have F3:=Es _ _ L L (show Nm.nl ((((a/b):Nat):Int)).natAbs<=L from by rw[mQQ];exact BQ) (show Nm.nl (((b:Nat):Int)).natAbs<=L from by rw[mQQ];exact BB);clear hx;apply zm C8.1;have D3:=tD (tD (tD (tD (tD (tD (tD D1 G6) E9) G5) E8) B1) B0) D5;refine mC 5 (bs 9 63) (sA false E1 (.slice B5 B8 C2) (.slice D7 D8 E0) (L+L) _ _ _ (Rg (((Bq.isIn (D3.1 _ _ G1.1) BA)).mono ω)) (Cy.isIn E2.1 F3) ω) ?_;rintro e H2 ⟨C4,B6,B9,C3,rfl,hx⟩;have E5:=zH (E6.1.step hx);have F2:=zH (Ah.of_ext hx);have C7:=zH (C8.1.trans (Fr.of_ext hx));clear hx;apply zm C7.1;refine Ef (i:=6) (listed':=(bs 9 127)) rR kR rR kR _ _ _ rR E5.1 (ix:=2) rR 0 [.bool false,.slice A2 A3 A5] rR rR (by simp) kR (by simp[Value.oneCell']) (by simp[Ar]) ?_;intro H1 hh hd ho;have E4:=hN hh;have F1:=zH (hd);have C6:=zH (Fr.trans_new C7.1 ho (fun j hj=> .inl (.inl (by injection hj with hj;exact hj.symm))));clear hh hd ho;refine⟨C6.1,?_⟩
 (try simp only[Act.put])
 refine Ef (i:=7) (listed':=(bs 9 255)) rR kR rR kR _ _ _ rR E4.1 (ix:=3) rR 0 [.bool C4,.slice B6 B9 C3] rR rR (by simp) kR (by simp[Value.oneCell']) (by simp[Ar]) ?_;intro G9 hh hd ho;have A9:=hN hh;have F0:=zH (hd);have C5:=zH (Fr.trans_new C6.1 ho (fun j hj=> .inl (.inr (by injection hj with hj;exact hj.symm))));clear hh hd ho;refine⟨C5.1,?_⟩
 (try simp only[Act.put])
 refine zx 8 (bs 9 511) (iV 0) C5.1 ?_;refine wpAnyH_done kR ?_ _;have D2:=tD (tD (tD (tD A8 D5) F2) F1) F0;go_wp2_with fail
 refine bodyPost_ret (v:= .tuple #[.agg #[.bool false,.slice A2 A3 A5],.agg #[.bool C4,.slice B6 B9 C3],iV 0]) ?_ rfl ⟨_,_,_,_,_,_,_,rfl,(D2.1 _ _ F9.1),A9.1.ext⟩;exact Co rfl rfl rfl ((A9.1.blk (i:=2) rR).loadVar rfl rfl rR) ((A9.1.blk (i:=3) rR).loadVar rfl rfl rR) rfl
theorem qL (r:RV)(q:Rat)(L:Nat)(w:World)(hr:r.In L w q)(hl:Nm.rl q<=L)(h0:0<=q)(hL:L<=70000):
  Calls prog 57 #[(rg r)] w fun e w'=>∃(p:Option Addr) (l c:Nat),e= .returned (.agg #[.bool false,.slice p l c])/\Bq w' (.slice p l c) (q.num.natAbs/q.den)/\Aa w w':=by
 have HR:=zH hr;have E4:Nm.nl q.num.natAbs<=L:=Av (Nat.le_max_left _ _) hl;have E3:Nm.nl q.den<=L:=Av (Nat.le_max_right _ _) hl;have F0:=Rat.num_nonneg.2 h0;clear hr hl;go_enter func57,ntmps57
 have H0:=zH (Hp.start w);go_upto_region 0 with fail;apply wl;apply Cm 58 (rc r) H0.1;intro A5 E0 C0 _;apply Cm 56 [.bool false,.slice none 0 0] C0.1;intro E7 D9 A4 _;go_upto_region 1 with fail;apply wl;refine Cn A4.1 _ ?_;refine zc (tV (L:=L) (RV.In.nin (HR.1.dig A4.1.dig0)) ω) ?_;rintro e D8 ⟨c_,rfl,E2,hx⟩;have B9:=zH (A4.1.step hx);obtain⟨⟨n,p1,l1,c1,m,p2,l2,c2⟩,rfl,E1⟩:=E2;obtain⟨⟨C8,C7⟩,C9,C6⟩:=E1;obtain rfl:n=false:=by rw[show n=decide (q.num<0)from C8];simp;omega
 obtain rfl:m=false:=by rw[show m=decide (((q.den:Nat):Int)<0)from C9];simp
 have E9:=zH (show Bq _ (.slice p1 l1 c1) q.num.natAbs from C7);have E8:=zH (show Bq _ (.slice p2 l2 c2) q.den from C6);clear C8 C7 C9 C6 hx;refine zn ?_;apply Da 0 [.bool false,.slice p1 l1 c1,.bool false,.slice p2 l2 c2] B9.1;intro D7 A3 A9;go_upto_region 2 with fail
 apply wl;refine Cn Af _ ?_;refine zd A5 (0) [.bool false,.slice p1 l1 c1] (A3.1.range (i:=0) rR 0 2) underlying56 ?_;refine Cn Af _ ?_;refine zd A5 (2) [.bool false,.slice p2 l2 c2] (A3.1.range (i:=0) rR 2 2) underlying56 ?_;refine zc (fK _ _ _ _ _ _ q.num.natAbs q.den L _ (Bq.isIn (A9.1 _ _ E9.1) E4) (Bq.isIn (A9.1 _ _ E8.1) E3) hL q.den_nz) ?_;rintro e D6 ⟨A0,A1,A2,B3,B0,B1,B2,rfl,D0,hx⟩;have B8:=zH (A3.1.step hx);have B4:=zH D0;clear D0 hx;refine zn ?_;refine Fk Af _ _ _ _ ?_;apply Cm 56 [.bool false,.slice none 0 0] B8.1;intro E6 D5 B7 C5;apply Cm 56 [.bool false,.slice none 0 0] B7.1;intro E5 D4 B6 C4;apply Da 2 [.bool false,.slice A0 A1 A2] B6.1;intro D3 B5 C3;apply Da 3 [.bool B3,.slice B0 B1 B2] B5.1;intro D2 A7 C2;apply zq (iV 0);go_upto_region 3 with fail
 apply wl;refine Cn A7.1 _ ?_;apply Da 1 [.bool false,.slice A0 A1 A2] A7.1;intro D1 A6 C1;have A8:=tD (tD (tD (tD C5 C4) C3) C2) C1;go_wp2_with fail
 refine bodyPost_ret (v:= .agg #[.bool false,.slice A0 A1 A2]) ?_ rfl ⟨_,_,_,rfl,(A8.1 _ _ B4.1),A6.1.ext⟩;exact Ak rfl rfl ((A6.1.blk (i:=1) rR).loadVar rfl rfl rR)
theorem jB (v:Value)(a:Nat)(w:World)(h:Bq w v a)(ha:a<4294967296):
  Calls prog 90 #[v] w fun e w'=>∃(p:Option Addr) (l c:Nat),e= .returned (.slice p l c)/\Aa w w'/\Bq w' (.slice p l c) a/\((a=0/\l=0)\/(a≠0/\l=1/\∃g o,p=some ⟨g,o,none⟩)):=by
 have hl:Nm.nl a<=1:=Nm.nl_le ω;refine(Gn v 1 a w (h.isIn hl) dC).mono ?_;rintro e w' ⟨u,rfl,h1,hx⟩;have hn:=h1;obtain⟨p,c,rfl,h2,h3,h4⟩:=h1;refine⟨p,_,c,rfl,hx,hn,?_⟩;by_cases h0:a=0
 ·subst h0;exact .inl ⟨rfl,by rw[Nm.digs_zero];rfl⟩
 right;have hd:=Nm.digs_one h0 ha;rw[hd]at h4⊢;obtain⟨b,o,rfl,hb⟩:=h4 (by simp);exact⟨h0,rfl,b,o,rfl⟩
theorem oZ {a:Nat}(ha:a<4294967296):bits .or .u64 0 ((a:Nat):Int)=((a:Nat):Int):=by
  have e1:bits .or .u64 0 ((a:Nat):Int)=IntKind.u64.wrap (((0#64|||BitVec.ofInt 64 ((a:Nat):Int):BitVec 64).toNat:Nat):Int):=rfl;rw[e1,BitVec.zero_or,IntKind.wrap_u64];simp;omega
theorem pC {g o l c a:Nat}{w:World}(h:Bq w (.slice (some ⟨g,o,none⟩) l c) a)(h0:a≠0)(ha:a<4294967296):w.cell? ⟨g,o,none⟩=some (.int .u32 ((a:Nat):Int)):=by
  obtain⟨p,c',he,h2,h3,h4⟩:=h;have hd:=Nm.digs_one h0 ha;rw[hd]at h4;obtain⟨b,o',A0,hb⟩:=h4 (by simp);cases he;cases A0;have h5:=hb 0 (by simp);simpa using h5
theorem nK (p0:Option Addr)(l0 c0 a:Nat)(w:World)(h:Bq w (.slice p0 l0 c0) a)(ha:a<4294967296):
  Calls prog 56 #[.agg #[.bool false,.slice p0 l0 c0]] w fun e w'=>e= .returned (.tuple #[iV (a:Nat),.bool true])/\Aa w w':=by
 have B4:=zH h;have C1:(0:Nat)|||a=a:=Nat.zero_or a;have C2:bits .or .u64 0 ((a:Nat):Int)=((a:Nat):Int):=oZ ha;have C0:IntKind.u64.wrap 0=0:=by decide
 have B7:IntKind.i64.wrap 0=0:=by decide
 have B9:IntKind.u64.wrap ((a:Nat):Int)=((a:Nat):Int):=by rw[IntKind.wrap_u64];omega
 have B8:IntKind.i64.wrap ((a:Nat):Int)=((a:Nat):Int):=by rw[IntKind.wrap_i64];omega
 clear h;go_enter func56,ntmps56;have H0:=zH (Hp.start w);go_upto_region 0 with fail;apply wl;apply Cm 56 [.bool false,.slice p0 l0 c0] H0.1;intro X1 w2 H3 _;refine Cc Af _ φ ?_;go_upto_region 1 with fail;apply wl;refine Cc H3.1 _ _ ?_;refine zc (jB (.slice p0 l0 c0) a _ (B4.1.digD H3.1.dig0) ha) ?_;rintro e w9 ⟨p1,l1,c1,rfl,hx,A2,A8⟩;have A4:=zH (H3.1.step hx);have HC:=zH A8;have B5:=zH A2;clear A8 A2 hx;refine zn ?_;refine Cn Af _ ?_;go_upto_region 2 with fail
 apply wl;apply zq (.int .u64 0);rcases Cx (a=0)with HZ|HZ
 ·obtain⟨hz,hl⟩:a=0/\l1=0:=by rcases HC.1 with h_|h_;exact h_;exact absurd HZ.1 h_.1
  subst hz hl;go_upto_region 3 with fail;apply wl;refine Cc Af _ _ ?_;apply zp (iV (-1)) (by exact Xg ω);apply zq (iV (-1));go_wp2_with fail;go_loopg [5,6] (1) (fun cq B3 v20 wr=>∃(k:Nat) (zv:Int) (iv:Int),cq=1-k/\B3= .int .u64 zv/\v20= iV iv/\(k<=1)/\(zv=0/\iv= -1)/\Hp w wr [.blk X1 56 [.bool false,.slice p0 l0 c0]]/\Ah w9 wr)
  case atStart=>exact⟨0,0,-1,rfl,rfl,rfl,(by decide),⟨rfl,rfl⟩,A4.1,Ah.refl _⟩
  obtain⟨k,zv,iv,rfl,rfl,rfl,A0,A1,A3,A2⟩:=hrel;generalize wr=A7 at*;have A9:=zH A0;clear A0;have HI:=zH A1;clear A1;have B0:=zH A3;have C3:=zH A2;clear A3 A2 A4;obtain⟨rfl,rfl⟩:zv=0/\iv= -1:=HI.1;go_upto_region 4 with fail
  apply wl;apply zq (iV (-1));apply zp φ (by exact Od (e:=(Al ω)));refine Na Af φ _ _ _ φ ?_;go_upto_region 7 with fail;apply wl;refine Cc Af _ _ ?_;apply zp φ (by exact Sn (e:=(Al ω)));refine Cc Af φ (.int .u64 0) ?_;refine zp (w':=A7) φ (by go_simp<;>omega) ?_;refine Dt Af φ φ (.int .u64 0) ?_;refine zp (w':=A7) φ (by go_simp<;>omega) ?_;refine rJ Af φ _ _ _ φ φ φ ?_;go_upto_region 9 with fail;apply wl;refine Dt B0.1 _ _ φ ?_;go_upto_region 11 with fail;apply wl;refine Fk Af (.int .u64 0) (iV ((0:Nat):Int)) (iV ((0:Nat):Int)) τ ?_;go_wp2_with fail;refine bodyPost_ret (results_tmp2 rfl _ _ _) rfl ⟨rfl,B0.1.ext⟩
 obtain⟨hl,gd,od,rfl⟩:l1=1/\∃g o,p1=some ⟨g,o,none⟩:=by rcases HC.1 with h_|h_;exact absurd h_.1 HZ.1;exact h_.2
 subst hl;go_upto_region 3 with fail;apply wl;refine Cc Af _ _ ?_;apply zp (iV 0) (by exact Xg ω);apply zq (iV 0);go_wp2_with fail;go_loopg [5,6] (1) (fun cq B2 v53 wr=>∃(k:Nat) (zv:Int) (iv:Int),cq=1-k/\B2= .int .u64 zv/\v53= iV iv/\(k<=1)/\((k=0/\zv=0/\iv=0)\/(k=1/\zv=((a:Nat):Int)/\iv= -1))/\Hp w wr [.blk X1 56 [.bool false,.slice p0 l0 c0]]/\Ah w9 wr)
 case atStart=>exact⟨0,0,0,rfl,rfl,rfl,(by decide),(.inl ⟨rfl,rfl,rfl⟩),A4.1,Ah.refl _⟩
 obtain⟨k,zv,iv,rfl,rfl,rfl,A0,A1,A3,A2⟩:=hrel;generalize wr=A6 at*;have A9:=zH A0;clear A0;have HI:=zH A1;clear A1;have A5:=zH A3;have B1:=zH A2;clear A3 A2 A4;rcases Cx (k=0/\zv=0/\iv=0)with HK0|HK0
 ·obtain⟨rfl,rfl,rfl⟩:k=0/\zv=0/\iv=0:=HK0.1
  go_upto_region 4 with fail;apply wl;apply zq (iV 0);apply zp τ (by exact Od (e:=(An ω)));refine Dt Af τ _ _ ?_;apply zp τ (by exact Qg (e:=(An ω)));apply zq τ;go_upto_region 6 with fail;apply wl;refine Fk Af (.int .u64 0) (.int .u64 0) _ _ ?_;apply zp (.pointer (some ⟨gd,od,none⟩)) (by exact Ha (k:=0) underlying54 (l:=dC) (f:=(show od=od+0*1 by omega)));refine ze gd od (.int .u32 ((a:Nat):Int)) (Le (pC (B1.1 _ _ B5.1) HZ.1 ha)) ?_;refine Dt Af (.int .u64 ((a:Nat):Int)) (.int .u64 ((a:Nat):Int)) (.int .u64 ((a:Nat):Int)) ?_;go_upto_region 5 with fail;apply wl;apply zq (iV 0);apply zp (iV (-1)) (by exact Xg ω);apply zq (iV (-1));go_wp2_with fail;go_roundg (1-(1))
  case measure=>exact(by have B6:=A9.1;omega)
  case rel=>exact⟨1,((a:Nat):Int),-1,rfl,rfl,rfl,(by decide),(.inr ⟨rfl,rfl,rfl⟩),A5.1,B1.1⟩
 obtain⟨rfl,rfl,rfl⟩:k=1/\zv=((a:Nat):Int)/\iv= -1:=by rcases HI.1 with h_|h_;exact absurd h_ HK0.1;exact h_
 go_upto_region 4 with fail;apply wl;apply zq (iV (-1));apply zp φ (by exact Od (e:=(Al ω)));refine Na Af φ _ _ _ φ ?_;go_upto_region 7 with fail;apply wl;refine Cc Af _ _ ?_;apply zp φ (by exact Sn (e:=(Al ω)));refine Cc Af φ (.int .u64 ((a:Nat):Int)) ?_;refine zp (w':=A6) φ (by go_simp<;>omega) ?_;refine Dt Af φ φ (.int .u64 ((a:Nat):Int)) ?_;refine zp (w':=A6) φ (by go_simp<;>omega) ?_;refine rJ Af φ _ _ _ φ φ φ ?_;go_upto_region 9 with fail;apply wl;refine Dt A5.1 _ _ φ ?_;go_upto_region 11 with fail;apply wl;refine Fk Af (.int .u64 ((a:Nat):Int)) (iV ((a:Nat):Int)) (iV ((a:Nat):Int)) τ ?_;go_wp2_with fail;refine bodyPost_ret (results_tmp2 rfl _ _ _) rfl ⟨rfl,A5.1.ext⟩
def Kw (q:Rat):Int:=if q<=0 then 0 else if 1<=q then 255 else(((q*((255:Int):Rat)+((1:Int):Rat)/((2:Int):Rat)).num.natAbs/(q*((255:Int):Rat)+((1:Int):Rat)/((2:Int):Rat)).den:Nat):Int)
theorem vA {q:Rat}{n:Nat}(h0:0<=q)(h:q<(((n+1:Nat):Int):Rat)):q.num.natAbs/q.den<=n:=by
 have hn:=Rat.num_nonneg.2 h0;refine Nat.le_of_lt_succ ((Nat.div_lt_iff_lt_mul q.den_pos).2 ?_);have e:q=(q.num:Rat)/(((q.den:Nat):Int):Rat):=by rw[<-Rat.divInt_eq_div];exact(Rat.num_divInt_den q).symm
 have hd:(0:Rat)<(((q.den:Nat):Int):Rat):=by exact_mod_cast q.den_pos
 have h2:(q.num:Rat)<(((n+1:Nat):Int):Rat)*(((q.den:Nat):Int):Rat):=by
  have h3:=Rat.mul_lt_mul_of_pos_right h hd;have h4:q*(((q.den:Nat):Int):Rat)=(q.num:Rat):=by
   have k:=Rat.inv_mul_cancel _ (show(((q.den:Nat):Int):Rat)≠0 by grind);rw[Rat.div_def]at e;generalize (((q.den:Nat):Int):Rat)=u at*;generalize (q.num:Rat)=v at*;rw[e];grind
  rwa[h4]at h3
 rw[<-Rat.intCast_mul,<-fZZ]at h2;have h5:q.num<(((n+1)*q.den:Nat):Int):=by exact_mod_cast h2
 show _<(n+1)*q.den;omega
theorem aAI (q:Rat):0<=Kw q/\Kw q<=255:=by
 unfold Kw;by_cases h1:q<=0
 ·rw[if_pos h1];decide
 rw[if_neg h1];by_cases h2:1<=q
 ·rw[if_pos h2];decide
 rw[if_neg h2];have e1:((1:Int):Rat)/((2:Int):Rat)<1:=by decide+kernel
 have e2:0<=((1:Int):Rat)/((2:Int):Rat):=by decide+kernel
 have e3:((255:Int):Rat)=255:=rfl;have e4:(((255+1:Nat):Int):Rat)=256:=rfl;generalize ((1:Int):Rat)/((2:Int):Rat)=hf at*
 have:=vA (q:=q*((255:Int):Rat)+hf) (n:=255) (by rw[e3];grind) (by rw[e3,e4];grind);exact⟨Int.natCast_nonneg _,Int.ofNat_le.2 this⟩
theorem Lj (r:RV)(q:Rat)(w:World)(hr:r.In 55000 w q):
  Calls prog 27 #[(rg r)] w fun e w'=>e= .returned (.int .u8 (Kw q))/\Aa w w':=by
 have HR:=zH hr;clear hr;go_enter func27,ntmps27;have H0:=zH (Hp.start w);go_upto_region 0 with fail;apply wl;apply Cm 58 (rc r) H0.1;intro X1 w2 H3 _;apply zq (.int .u8 0);go_upto_region 1 with fail;apply wl;refine zc ((Yl 1 2 _ dC dC dC dC dC)) ?_;rintro e w7 ⟨c_,rfl,A1,hx⟩;have H9:=zH (H3.1.step hx);obtain⟨r8,rfl,A0⟩:=A1;have R8:=zH A0;have B8:=zH (show Nm.rl (((1:Int):Rat)/((2:Int):Rat))<=8 from by decide+kernel);clear A0 hx;refine zn ?_;refine Dt Af _ _ _ ?_;refine Cm 58 rz H9.1 ?_;intro K3 J1 G2 H7;apply Da 1 (rc r8) G2.1;intro A5 A7 H6;apply zq (iV 0);rcases Cx (q<=0)with H1|H1
 ·go_upto_region 2 with fail
  refine zy ?_;have G1:=zH (A7.1.step (Aa.refl A5).drew);refine Mz A7.1 zb (bs 5 1) 0 _ ?_;refine mC 1 (bs 5 3) (Cz 0 _ ω ω) ?_;rintro e J0 ⟨c_,rfl,A1,hx⟩;have D4:=zH (G1.1.step hx);have C6:=zH (zb.trans hx);obtain⟨J7,rfl,A0⟩:=A1;have E9:=zH A0;have I3:=zH (Bu 0 ω ω);clear A0 hx;apply zm C6.1;refine mC 2 (bs 5 7) (Ga (L:=60000) (RV.In.nin (RV.In.mono (HR.1.dig D4.1.dig0) ω)) (RV.Is.nin E9.1 (Av I3.1 ω)) ω) ?_;rintro e I9 ⟨rfl,hx⟩;have G0:=zH (D4.1.step hx);have B5:=zH (C6.1.trans hx);clear hx;apply zm B5.1;refine zu 3 (bs 5 15) (v:= .bool true) B5.1 ?_ (hv:=by intro w B1;exact Qg (e:=(An (Yg.2 H1.1))));refine zx 4 (bs 5 31) τ B5.1 ?_;refine wpAnyH_done kR ?_ _;go_upto_region 3 with fail
  apply wl;apply zq (.int .u8 0);go_wp2_with fail;go_ret;exact⟨by rw[show Kw q=0 from if_pos H1.1]<;>rfl,G0.1.ext⟩
 go_upto_region 2 with fail;refine zy ?_;have F9:=zH (A7.1.step (Aa.refl A5).drew);have H5:=zH (Ah.of_ext (w:=A5) zb);refine Mz A7.1 zb (bs 5 1) 0 _ ?_;refine mC 1 (bs 5 3) (Cz 0 _ ω ω) ?_;rintro e E0 ⟨c_,rfl,A1,hx⟩;have D3:=zH (F9.1.step hx);have H4:=zH (show Ah A5.drew E0 from Ah.of_ext hx);have C5:=zH (zb.trans hx);obtain⟨J6,rfl,A0⟩:=A1;have E8:=zH A0;have I1:=zH (Bu 0 ω ω);clear A0 hx;apply zm C5.1;refine mC 2 (bs 5 7) (Ga (L:=60000) (RV.In.nin (RV.In.mono (HR.1.dig D3.1.dig0) ω)) (RV.Is.nin E8.1 (Av I1.1 ω)) ω) ?_;rintro e A4 ⟨rfl,hx⟩;have A6:=zH (D3.1.step hx);have G9:=zH (Ah.of_ext hx);have B4:=zH (C5.1.trans hx);clear hx;apply zm B4.1;refine zu 3 (bs 5 15) (v:= .bool false) B4.1 ?_ (hv:=by intro w B1;exact Qg (e:=(Al (fun hh=>H1.1 (Yg.1 hh)))));refine zx 4 (bs 5 31) φ B4.1 ?_;refine wpAnyH_done kR ?_ _;rcases Cx (1<=q)with H2|H2
 ·go_upto_region 4 with fail
  refine zy ?_;have F8:=zH (A6.1.step (Aa.refl A4).drew);refine Mz A6.1 zb (bs 5 1) 0 _ ?_;refine mC 1 (bs 5 3) (Cz 1 _ ω ω) ?_;rintro e I8 ⟨c_,rfl,A1,hx⟩;have D2:=zH (F8.1.step hx);have C4:=zH (zb.trans hx);obtain⟨J5,rfl,A0⟩:=A1;have E7:=zH A0;have I0:=zH (Bu 1 ω ω);clear A0 hx;apply zm C4.1;refine mC 2 (bs 5 7) (Ga (L:=60000) (RV.In.nin (RV.In.mono (HR.1.dig D2.1.dig0) ω)) (RV.Is.nin E7.1 (Av I0.1 ω)) ω) ?_;rintro e I7 ⟨rfl,hx⟩;have F7:=zH (D2.1.step hx);have B3:=zH (C4.1.trans hx);clear hx;apply zm B3.1;refine zu 3 (bs 5 15) (v:= .bool true) B3.1 ?_ (hv:=by intro w B1;exact Od (e:=(An (Yh.2 H2.1))));refine zx 4 (bs 5 31) τ B3.1 ?_;refine wpAnyH_done kR ?_ _;go_upto_region 5 with fail
  apply wl;apply zq (.int .u8 255);go_wp2_with fail;go_ret;exact⟨by rw[show Kw q=255 from(if_neg H1.1).trans (if_pos H2.1)]<;>rfl,F7.1.ext⟩
 go_upto_region 4 with fail;refine zy ?_;have F6:=zH (A6.1.step (Aa.refl A4).drew);have G8:=zH (Ah.of_ext (w:=A4) zb);refine Mz A6.1 zb (bs 5 1) 0 _ ?_;refine mC 1 (bs 5 3) (Cz 1 _ ω ω) ?_;rintro e D9 ⟨c_,rfl,A1,hx⟩;have D1:=zH (F6.1.step hx);have G7:=zH (show Ah A4.drew D9 from Ah.of_ext hx);have C3:=zH (zb.trans hx);obtain⟨J4,rfl,A0⟩:=A1;have E6:=zH A0;have H8:=zH (Bu 1 ω ω);clear A0 hx;apply zm C3.1;refine mC 2 (bs 5 7) (Ga (L:=60000) (RV.In.nin (RV.In.mono (HR.1.dig D1.1.dig0) ω)) (RV.Is.nin E6.1 (Av H8.1 ω)) ω) ?_;rintro e A8 ⟨rfl,hx⟩;have D0:=zH (D1.1.step hx);have G6:=zH (Ah.of_ext hx);have B2:=zH (C3.1.trans hx);clear hx;apply zm B2.1;refine zu 3 (bs 5 15) (v:= .bool false) B2.1 ?_ (hv:=by intro w B1;exact Od (e:=(Al (fun hh=>H2.1 (Yh.1 hh)))));refine zx 4 (bs 5 31) φ B2.1 ?_;refine wpAnyH_done kR ?_ _;have F1:=zH (show 0<=(q*(((255):Int):Rat)+(((1:Int):Rat)/((2:Int):Rat)))from by have e2:(0:Rat)<=(((1:Int):Rat)/((2:Int):Rat)):=(by decide+kernel);have B9:=H1.1;have e3:((255:Int):Rat)=255:=rfl;rw[e3];generalize (((1:Int):Rat)/((2:Int):Rat))=hf at*;grind);obtain⟨fl,B0⟩:∃fl:Nat,fl=(q*(((255):Int):Rat)+(((1:Int):Rat)/((2:Int):Rat))).num.natAbs/(q*(((255):Int):Rat)+(((1:Int):Rat)/((2:Int):Rat))).den:=⟨_,rfl⟩;have C7:=zH (show Kw q=((fl:Nat):Int)from by rw[B0];exact(if_neg H1.1).trans (if_neg H2.1));have K1:fl<256:=by have B9:=aAI q;rw[C7.1]at B9;omega
 have F2:=zH B0;clear B0;go_upto_region 6 with fail;refine zy ?_;have F5:=zH (D0.1.step (Aa.refl A8).drew);have G5:=zH (Ah.of_ext (w:=A8) zb);refine cR D0.1 zb (bs 12 9) 0 3 _ _ ?_;refine mC 1 (bs 12 11) (Cz 255 _ ω ω) ?_;rintro e D8 ⟨c_,rfl,A1,hx⟩;have C9:=zH (F5.1.step hx);have G4:=zH (show Ah A8.drew D8 from Ah.of_ext hx);have C2:=zH (zb.trans hx);obtain⟨J3,rfl,A0⟩:=A1;have E5:=zH A0;have D7:=zH (Bu 255 ω ω);clear A0 hx;apply zm C2.1;refine mC 2 (bs 12 15) (aR (L:=60000) (RV.In.nin (RV.In.mono (HR.1.dig C9.1.dig0) ω)) (RV.Is.nin E5.1 (Av D7.1 ω)) ω) ?_;rintro e I6 ⟨c_,rfl,A1,hx⟩;have C8:=zH (C9.1.step hx);have G3:=zH (Ah.of_ext hx);have C1:=zH (C2.1.trans hx);obtain⟨J2,rfl,A0⟩:=A1;have E4:=zH A0;clear A0;have D6:=zH (show Nm.rl (q*(((255):Int):Rat))<=55000+2 from by have h1:=(show Nm.rl q<=55000 from by have h:=(HR.1.dig C8.1.dig0).rl;omega);have h2:=D7.1;have h3:=Nm.rl_mul q (((255):Int):Rat);omega);clear hx;apply zm C1.1;have B7:=tD (tD (tD (tD (tD (tD (tD (tD (tD (tD H7 H6) H5) H4) G9) G8) G7) G6) G5) G4) G3;refine mC 4 (bs 12 31) (oX (L:=60000) (RV.Is.nin E4.1 (Av D6.1 ω)) (RV.Is.nin (R8.1.dig B7.1) (Av B8.1 ω)) ω) ?_;rintro e I5 ⟨c_,rfl,A1,hx⟩;have F4:=zH (C8.1.step hx);have C0:=zH (C1.1.trans hx);obtain⟨E2,rfl,A0⟩:=A1;have E3:=zH A0;clear A0;have D5:=zH (show Nm.rl ((q*(((255):Int):Rat))+(((1:Int):Rat)/((2:Int):Rat)))<=(55000+2)+8+1 from by have h1:=D6.1;have h2:=B8.1;have h3:=Nm.rl_add (q*(((255):Int):Rat)) (((1:Int):Rat)/((2:Int):Rat));omega);clear hx;apply zm C0.1;refine mC 5 (bs 12 63) (qL E2 ((q*(((255):Int):Rat))+(((1:Int):Rat)/((2:Int):Rat))) 60000 _ (E3.1.isIn (Av D5.1 ω)) (Av D5.1 ω) F1.1 dC) ?_;rintro e I4 ⟨J8,J9,K2,rfl,A9,hx⟩;have F3:=zH (F4.1.step hx);have A3:=zH (C0.1.trans hx);rw[<-F2.1]at A9;have F0:=zH A9;clear A9 hx;apply zm A3.1;refine mC 6 (bs 12 127) (nK _ _ _ fl _ F0.1 ω) ?_;rintro e E1 ⟨rfl,hx⟩;have B6:=zH (F3.1.step hx);have A2:=zH (A3.1.trans hx);clear hx;apply zm A2.1;refine aGW Af A2.1 (bs 12 4095) 7 8 9 10 11 _ (iV ((fl:Nat):Int)) τ (iV ((fl:Nat):Int)) τ ?_;refine wpAnyH_done kR ?_ _;have K0:IntKind.u8.wrap ((fl:Nat):Int)=((fl:Nat):Int):=IntWalk.u8_in _ ω;go_upto_region 7 with fail
 apply wl;refine Dt Af (iV ((fl:Nat):Int)) (.int .u8 ((fl:Nat):Int)) (.int .u8 ((fl:Nat):Int)) ?_;go_wp2_with fail;go_ret;exact⟨by rw[C7.1]<;>rfl,B6.1.ext⟩
def Gq (rule:Int)(rs:List Ai)(x y:Int):Int:=if (Gv rule (Bg x y) (Ix x y) rs)=0 then Kw (Il rule (Bg x y) (Ix x y) rs/((65536:Int):Rat))else 0
theorem Wf (A:Option Addr)(cap:Nat)(rs:List Ai)(rule x y:Int)(w:World)(hu:Cv w (.slice A rs.length cap) rs)(hn:rs.length<=1048576)(hr:∀r,r∈rs->r.length<=1048576)(hs:Fm rs=true->Gx rs<=16)(hru: -9223372036854775808<=rule/\rule<=9223372036854775807):
  Calls prog 12 #[.slice A rs.length cap,iV rule,iV x,iV y] w fun e w'=>e= .returned (.int .u8 (Gq rule rs x y))/\Aa w w':=by
 have HU:=zH hu;have HN:=zH hn;have A5:=zH hr;clear hu hr;have A0:=zH hs;have A4:=zH hru;clear hs hru;go_enter func12,ntmps12
 have H0:=zH (Hp.start w);go_upto_region 0 with fail;apply wl;apply zq (.int .u8 0);rcases Cx ((Gv rule (Bg x y) (Ix x y) rs)=0)with HE0|HE0
 ·go_upto_region 1 with fail
  apply wl;refine Fk Af _ (iV rule) (iV x) (iV y) ?_;refine zc ((Yk A cap rs rule x y _ (HU.1.ext H0.1.ext) HN.1 A5.1 A0.1 A4.1).mono (fun _ _ h_=>Wo.ok h_ HE0.1)) ?_;rintro e w7 ⟨r8,rfl,A3,A2,hx⟩;have H9:=zH (H0.1.step hx);have R8:=zH A3;have B8:=zH A2;clear A3 A2 hx;refine zn ?_;refine Dt Af _ _ _ ?_;refine Cm 58 rz H9.1 ?_;intro C2 C0 B1 B3;apply Da 0 (rc r8) B1.1;intro B9 A6 B2;apply zq (iV 0);go_upto_region 2 with fail
  apply wl;apply zq (iV 0);apply zp φ (by exact Nw (e:=(Al ω)));go_upto_region 4 with fail;apply wl;refine Cn A6.1 _ ?_;have A1:=tD B3 B2;refine aC A6.1 (Lj r8 (Il rule (Bg x y) (Ix x y) rs/((65536:Int):Rat)) _ ((R8.1.dig A1.1).isIn (Av B8.1 ω))) ?_;intro B7 B0 _;apply zq (.int .u8 (Kw (Il rule (Bg x y) (Ix x y) rs/((65536:Int):Rat))));go_wp2_with fail
  go_ret;exact⟨by rw[show Gq rule rs x y=Kw (Il rule (Bg x y) (Ix x y) rs/((65536:Int):Rat))from if_pos HE0.1]<;>rfl,B0.1.ext⟩
 go_upto_region 1 with fail;apply wl;refine Fk Af _ (iV rule) (iV x) (iV y) ?_;refine aC H0.1 ((Yk A cap rs rule x y _ (HU.1.ext H0.1.ext) HN.1 A5.1 A0.1 A4.1).mono (fun _ _ h_=>Wo.bad h_ HE0.1)) ?_;intro B6 A9 _;refine Dt Af _ _ (iV (Gv rule (Bg x y) (Ix x y) rs)) ?_;refine Cm 58 rz A9.1 ?_;intro C1 B5 A8 _;refine Da 0 rz A8.1 ?_;intro B4 A7 _;apply zq (iV (Gv rule (Bg x y) (Ix x y) rs));go_upto_region 2 with fail;apply wl;apply zq (iV (Gv rule (Bg x y) (Ix x y) rs));apply zp τ (by exact Nw (e:=(An HE0.1)));go_upto_region 3 with fail;apply wl;apply zq (.int .u8 0);go_wp2_with fail;go_ret;exact⟨by rw[show Gq rule rs x y=0 from if_neg HE0.1]<;>rfl,A7.1.ext⟩
end
section
theorem Hp.swap {w0 w:World}{m:List Df}{a b:Df}(h:Hp w0 w (m++[a]++[b])):Hp w0 w (m++[b]++[a]):=by
 have hm:Hp w0 w m:=by have h1:=h.take m.length;simpa using h1
 have ia:(m++[a]++[b])[m.length]?=some a:=by simp
 have ib:(m++[a]++[b])[m.length+1]?=some b:=by simp
 have im:∀i f,m[i]?=some f->i<m.length/\(m++[a]++[b])[i]?=some f:=fun i f hf=>by
  have hl:=(List.getElem?_eq_some_iff.1 hf).1;exact⟨hl,by rw[jQQ,dZZ hl];exact hf⟩
 have h1:Hp w0 w (m++[b]):=hm.add (h.all _ b ib) (fun i f hf=>h.apart i _ f b (im i f hf).2 ib (by have:=(im i f hf).1;omega));refine h1.add (h.all _ a ia) (fun i f hf=> ?_);rcases Nat.lt_or_ge i m.length with hl|hl
 ·rw[dZZ hl]at hf
  exact h.apart i _ f a (im i f hf).2 ia (ω)
 rw[dQQ hl]at hf;rcases Nat.eq_zero_or_pos (i-m.length)with h0|h0
 ·rw[h0]at hf
  simp at hf;subst hf;exact h.apart _ _ b a ib ia (ω)
 rw[kZZ (by simp;omega)]at hf;cases hf
section
variable {P:Program} {l:List Oper} {Q:Exit->Act->World->Prop} {md:Region.Mode} {S:World->Prop} {j i:Nat} {dj:Option Tmp} {T:TypeId} {zs:List Value} {b w0:World} {m:List Df} {fuel:Nat} {listed li lj:Array Bool} {a:Act} {w:World} {oi oj:Oper}
theorem aEM {Φ:World->Value->World->Prop}(E:World->Value->World->Df)(hi:l[i]?=some oi)(hj:l[j]?=some oj)(hs:Region.noSelect l.toArray=true)(hlj:listed.setIfInBounds j true=lj)
  (hr:((Region.ready md l.toArray listed).all fun k=>k==i||k==j)=true)(hne:(Region.ready md l.toArray listed).isEmpty=false)(hr2:Region.ready md l.toArray lj=[i])(hij:i≠j)(hoff:Gi l oi dj=true)(hdj:oj.dst=dj)(hgj:oj.guard=none)
  (hvj:∀(ρ:Operand->Value) (x:World),(execOp ρ oj).run P x= .ok (.value (.pointer (π x.heap.size))) (x.alloc (.cells zs.toArray T)))
  (hSx:∀x y,S x->Aa x y->S y)(hb:b.heap.size<=w.heap.size)(hH:Hp w0 w m)(hn:Ar zs)(hSw:S w)
  (hw:Region.wanted oi (yielded l.toArray a.tmps)=true)(hl:listed.setIfInBounds i true=li)
  (hc:∀x,Aa w x->∃v x',(execOp a.eval oi).run P x= .ok (.value v) x'/\Φ x v x'/\Aa x x')
  (ha:∀x v x' m1,Φ x v x'->Aa x x'->Hp w0 x m1->Hp w0 x' (m1++[E x v x']))
  (h:∀x v x',Aa w x->Φ x v x'->Aa x x'->Hp w0 x' (m++[E x v x'])->Fl P md l Q S j dj T zs b w0 (m++[E x v x']) fuel li (a.put oi.dst v) x'):Fl P md l Q S j dj T zs b w0 m (fuel+1) listed a w:=by
 obtain⟨o1,o2⟩:=Fe hoff;have A0:=fun cs b=>Region.noSelect_spec hs i oi cs b (by rw[aZZ];exact hi)
 have done:∀X y,Aa w y->Hp w0 y (m++[.blk X T zs])->S y->b.heap.size<=X->wpAnyH P md l.toArray Q S (fuel+1) (listed.setIfInBounds j true) (a.put dj (.pointer (π X))) y:=by
  intro X y x A3 A2 hX;rw[hlj];obtain⟨v,y',h1,h2,h3⟩:=hc y x;refine Mo hi hr2 (by rw[wanted_put oi a dj _ o1];exact hw) (by rw[execOp_put oi A0 a dj _ o1];exact h1) (hSx _ _ A2 h3) rfl ?_;have h4:=(h y v y' x h2 h3 (ha y v y' m h2 h3 (hH.step x))).2 X y' Aq (ha y v y' _ h2 h3 A3).swap (hSx _ _ A2 h3) hX;rw[Act.put_comm a v _ (fun d e=>fun e2=>(o2 d e2) e)]at h4;rw[<-hlj,Array.setIfInBounds_comm _ _ (Ne.symm hij),hl];exact h4
 refine⟨?_,done⟩;have x1:Aa w (w.alloc (.cells zs.toArray T)):=(Aa.refl w).alloc _;refine wpAnyH_ready rfl (fun e=>by rw[e]at hne;cases hne) (fun k hk=> ?_);have A1:=List.all_eq_true.1 hr k hk;simp only[Bool.or_eq_true,beq_iff_eq]at A1;rcases A1 with rfl|rfl
 ·refine wpOp_step (by rw[aZZ];exact hi) (fun K' hK=> ?_)
  rw[if_pos hw];obtain⟨v,x',h1,h2,h3⟩:=hc w (Aa.refl w);unfold Oper.wp;rw[h1];refine hK _ _ ⟨hSx _ _ hSw h3,?_⟩;rw[hl];exact(h w v x' (Aa.refl w) h2 h3 (ha w v x' m h2 h3 hH)).1
 refine wpOp_step (by rw[aZZ];exact hj) (fun K' hK=> ?_);rw[if_pos (by simp[Region.wanted,hgj])];unfold Oper.wp;rw[hvj];refine hK _ _ ⟨hSx _ _ hSw x1,?_⟩;rw[hdj];exact done _ _ x1 (hH.alloc T zs hn) (hSx _ _ hSw x1) hb
end
section
variable {P:Program} {l:List Oper} {Q:Exit->Act->World->Prop} {md:Region.Mode} {S:World->Prop} {i ix fuel:Nat} {listed listed':Array Bool} {a:Act} {w w0:World} {m:List Df} {oi:Oper}
theorem jK {α:Type}{f:α->List Value}(hli:l[i]?=some oi)(hr:Region.ready md l.toArray listed=[i])(hw:Region.wanted oi (yielded l.toArray a.tmps)=true)(hlt:listed.setIfInBounds i true=listed')(ty:TypeId)(x y:Operand)(ho:oi.op= .store ty x y){g n cap:Nat}{t:TypeId}{es:List α}(hH:Hp w0 w m)(hi:m[ix]?=some (.row t 1 (.slice (π g) n cap) n (es.flatMap f)))
  (hc:∀x,(f x).length=1)(k:Nat)(z:α)(hk:k<es.length)(v:Value)(hf:f z=[v])(o:Nat)(hko:o=k*1)(hx:a.eval x= .pointer (some ⟨g,o,none⟩))(hy:a.eval y=v)(hz:(P.info? ty).map (·.size)=some 1)(hcc:v.cells=#[v])(h1:v.oneCell'=true)(hn:Ar [v])
  (h:∀w',Hp w0 w' (m.set ix (.row t 1 (.slice (π g) n cap) n ((es.set k z).flatMap f)))->Ah w w'->Bi g w w'->S w'/\wpAnyH P md l.toArray Q S fuel listed' (a.put oi.dst undef) w'):wpAnyH P md l.toArray Q S (fuel+1) listed a w:=by
 subst hko;have hl:k*1+1<=(es.flatMap f).length:=by rw[Dm hc];omega
 refine Ds hli hr (fun K hK=> ?_);rw[if_pos hw];refine Kh ty x y ho g (k*1) v hx hy ((hH.row hi).there (k*1) 1 hl) hz hcc h1 ?_;have h2:=hH.storeRow hi (k*1) [v] hl hn;have h5:=fL hc es k hk z;rw[hf]at h5;obtain⟨k1,k2⟩:=h _ (by rw[<-h5];exact h2) (hH.storeRowDig hi (k*1) [v]) (Dj w g (k*1) [v]);exact hK.out _ _ k1 (fun _=>by rw[hlt];exact k2)
end
theorem bZ {P:Program}{o:Oper}{ρ:Operand->Value}{w:World}{A B:Int}{b:Bool}{t t':TypeId}{x y:Operand}(ho:o.op= .binOp .neq t x y t')(hx:ρ x= .int .u8 A)(hy:ρ y= .int .u8 B)(hE:decide (A≠B)=b):(execOp ρ o).run P w= .ok (.value (.bool b)) w:=by
  subst hE;unfold execOp;simp only[ho,hx,hy];simp[go_sem];by_cases h:A=B<;>simp[h]
theorem mH {P:Program}{o:Oper}{ρ:Operand->Value}{w:World}{A B:Int}{b:Bool}{t t':TypeId}{x y:Operand}(ho:o.op= .binOp .eql t x y t')(hx:ρ x= .int .u8 A)(hy:ρ y= .int .u8 B)(hE:decide (A=B)=b):(execOp ρ o).run P w= .ok (.value (.bool b)) w:=by
  subst hE;unfold execOp;simp only[ho,hx,hy];simp[go_sem];by_cases h:A=B<;>simp[h]
theorem aGX {P:Program}{o:Oper}{ρ:Operand->Value}{p:Addr}{v:Value}(h:∀x:World,x.cell? p=some v->(execOp ρ o).run P x= .ok (.value v) x)(w:World)(hc:w.cell? p=some v):(execOp ρ o).run P w= .ok (.value v) w:=h w hc
section
variable {P:Program} {l:List Oper} {Q:Exit->Act->World->Prop} {md:Region.Mode} {S:World->Prop} {j i:Nat} {dj:Option Tmp} {u v:Value} {b:World} {fuel:Nat} {listed li lj:Array Bool} {a:Act} {w w':World} {oi oj:Oper}
theorem aEN (hi:l[i]?=some oi)(hj:l[j]?=some oj)(hs:Region.noSelect l.toArray=true)(hlj:listed.setIfInBounds j true=lj)
  (hr:((Region.ready md l.toArray listed).all fun k=>k==i||k==j)=true)(hne:(Region.ready md l.toArray listed).isEmpty=false)(hr2:Region.ready md l.toArray lj=[i])(hij:i≠j)(hoff:Gi l oi dj=true)(hdj:oj.dst=dj)(hgj:oj.guard=none)
  (hSx:∀x,Aa b x->S x)(hb:Aa b w)(hvj:∀x,Aa b x->(execOp a.eval oj).run P x= .ok (.value u) x)
  (hw:Region.wanted oi (yielded l.toArray a.tmps)=true)(hv:(execOp a.eval oi).run P w= .ok (.value v) w')(hx:Aa w w')(hl:listed.setIfInBounds i true=li)
  (h:Fd P md l Q S j dj u fuel li (a.put oi.dst v) w'):Fd P md l Q S j dj u (fuel+1) listed a w:=by
 obtain⟨o1,o2⟩:=Fe hoff;have A0:=fun cs b=>Region.noSelect_spec hs i oi cs b (by rw[aZZ];exact hi)
 have done:wpAnyH P md l.toArray Q S (fuel+1) (listed.setIfInBounds j true) (a.put dj u) w:=by
  rw[hlj];refine Mo hi hr2 (by rw[wanted_put oi a dj _ o1];exact hw) (by rw[execOp_put oi A0 a dj _ o1];exact hv) (hSx _ (hb.trans hx)) rfl ?_;have h3:=h.2;rw[Act.put_comm a v _ (fun d e=>fun e2=>(o2 d e2) e)]at h3;rw[<-hlj,Array.setIfInBounds_comm _ _ (Ne.symm hij),hl];exact h3
 refine⟨?_,done⟩;refine wpAnyH_ready rfl (fun e=>by rw[e]at hne;cases hne) (fun k hk=> ?_);have A1:=List.all_eq_true.1 hr k hk;simp only[Bool.or_eq_true,beq_iff_eq]at A1;rcases A1 with rfl|rfl
 ·refine wpOp_step (by rw[aZZ];exact hi) (fun K' hK=> ?_)
  rw[if_pos hw];unfold Oper.wp;rw[hv];refine hK _ _ ⟨hSx _ (hb.trans hx),?_⟩;rw[hl];exact h.1
 refine wpOp_step (by rw[aZZ];exact hj) (fun K' hK=> ?_);rw[if_pos (by simp[Region.wanted,hgj])];unfold Oper.wp;rw[hvj w hb];refine hK _ _ ⟨hSx _ hb,?_⟩;rw[hdj];exact done
end
theorem aFY:cU prog 28 5 1 1:=cU.of (z:= .int .u8 0) underlying28 (by kernel_rfl) rfl (by simp[Ar,Value.cells]) (by decide)
theorem aCV:(prog.info? 5).map (fun i=>(i.zero,i.size,i.bytes))=some (some (.int .u8 0),1,1):=by kernel_rfl
def Aw (x:Int):List Value:=[.int .u8 x]
theorem Hv:∀x,(Aw x).length=1:=fun _=>rfl
theorem mF (n:Nat):List.flatMap Aw (List.replicate n 0)=List.replicate n (Value.int .u8 0):=by
  induction n with
  |zero=>rfl
  |succ n ih=>rw[List.replicate_succ,List.flatMap_cons,ih,List.replicate_succ];rfl
theorem aCS (n:Nat):madeCells #[Value.int .u8 0] n=(List.flatMap Aw (List.replicate n 0)).toArray:=by
  rw[mF];apply Array.ext
  · rw[size_madeCells];simp
  intro i h1 h2;simp[madeCells,Nat.mod_one]
theorem aEJ (n:Nat)(hn:n<=4000000)(w:World):
    (Instr.makeSlice 28 (iV (n:Int)) (iV (n:Int))).run prog w= .ok (.slice (π w.heap.size) n n) (w.alloc (.cells (List.flatMap Aw (List.replicate n 0)).toArray 5)):=by
  rw[<-aCS];exact run_make_row' 28 5 (.int .u8 0) 1 underlying28 aCV rfl .i64 .i64 n ω ω w
theorem zV {o:Oper}{ρ:Operand->Value}{w:World}{n:Nat}{x y:Operand}(ho:o.op= .makeSlice 28 x y)(hx:ρ x= iV (n:Int))(hy:ρ y= iV (n:Int))(hn:n<=4000000):
    (execOp ρ o).run prog w= .ok (.value (.slice (π w.heap.size) n n)) (w.alloc (.cells (List.flatMap Aw (List.replicate n 0)).toArray 5)):=by
  have h:=aEJ n hn w;unfold execOp;simp only[ho,hx,hy];simp[go_sem,h]
theorem Ba.u8 (w:World)(n:Nat)(hn:n<=maxLen):Ba (w.alloc (.cells (List.flatMap Aw (List.replicate n 0)).toArray 5)) w.heap.size 5 1 (.slice (π w.heap.size) n n) n (List.flatMap Aw (List.replicate n 0)):=by
  rw[mF];refine⟨by simp,.inr ⟨w.heap.size,n,[],rfl,Cl _,by rw[gXX];exact Ac.new w _ _,Cl _,hn,by simp,?_⟩⟩;intro x hx;rw[gXX]at hx;rw[List.eq_of_mem_replicate hx];intro k h;cases h
end
section
def wV (t p:Int×Int):Int×Int:=(p.1+t.1,p.2+t.2)
theorem aBR {t a b:Int×Int}:wV t a=wV t b↔a=b:=by
  unfold wV;constructor
  · intro h;injection h with h1 h2;exact Prod.ext ω (ω)
  intro h;rw[h]
theorem pM (y:Rat)(rs:List Ai):(El y rs).Pairwise (fun a b=>a.1<=b.1):=by
  rw[Jk];refine(Stb.stab_srt aFN _).imp (fun {a b} h=> ?_);have h2:¬pS b a=true:=by rw[h];decide
  rw[Jz]at h2;exact Rat.not_lt.1 (fun c=>h2 (.inl c))
theorem rS (rule:Int)(a b:Int×Int)(rs:List Ai)(y:Rat):Iv rule a b rs y=Dw (a.1:Rat) (b.1:Rat) (Xx rule (Gy 0 (El y rs))):=by
  unfold Iv La;rw[jI _ _ (oA rule (pM y rs))]
theorem vC {rule d:Int}(hr:rule=1\/rule=2)(hd:d=1\/d= -1):Jm d rule=true:=by
  rcases hr with rfl|rfl<;>rcases hd with rfl|rfl<;>decide
def Jp (a b c:Int×Int):Int:=(b.1-a.1)*(c.2-a.2)-(c.1-a.1)*(b.2-a.2)
theorem Ub (a b c:Int×Int):Jp b c a=Jp a b c:=by unfold Jp;grind
theorem nJ (a b c:Int×Int):Jp a c b= -Jp a b c:=by unfold Jp;grind
theorem Kl {a b:Int×Int}(_:a.2≠b.2)(y:Rat):Di a.1 a.2 b.1 b.2 y=(a.1:Rat)+(y-(a.2:Rat))*(((b.1:Rat)-a.1)/((b.2:Rat)-a.2)):=by
  unfold Di;rw[Rat.div_def,Rat.div_def,Rat.intCast_sub,Rat.intCast_sub,show((1:Int):Rat)=1 from rfl];grind
theorem nH {a b:Int×Int}(h:a.2≠b.2)(y:Rat):Di b.1 b.2 a.1 a.2 y=(a.1:Rat)+(y-(a.2:Rat))*(((b.1:Rat)-a.1)/((b.2:Rat)-a.2)):=by
 rw[Kl (Ne.symm h)];have h1:(b.2:Rat)-a.2≠0:=by
  intro c;have:(a.2:Rat)=(b.2:Rat):=by grind
  exact h (by exact_mod_cast this)
 have h2:(a.2:Rat)-b.2≠0:=by grind
 have k1:=Rat.mul_inv_cancel _ h1;have k2:=Rat.mul_inv_cancel _ h2;rw[Rat.div_def,Rat.div_def];have e:((a.2:Rat)-b.2)⁻¹= -(((b.2:Rat)-a.2)⁻¹):=by
  generalize ((b.2:Rat)-a.2)⁻¹=i at*;generalize ((a.2:Rat)-b.2)⁻¹=j at*;generalize (a.2:Rat)=p at*;generalize (b.2:Rat)=q at*;have:i+j=0:=by
   have:(i+j)*((q-p)*(p-q))=0:=by grind
   rcases Rat.mul_eq_zero.1 this with h|h
   ·exact h
   rcases Rat.mul_eq_zero.1 h with h|h<;>contradiction
  grind
 rw[e];generalize ((b.2:Rat)-a.2)⁻¹=i at*;generalize (a.2:Rat)=p at*;generalize (b.2:Rat)=q at*;generalize (a.1:Rat)=u at*;generalize (b.1:Rat)=v at*;grind
def aGG (v u w:Int×Int)(y:Rat):Prop:=((v.2:Rat)<y/\y<(u.2:Rat)/\y<(w.2:Rat))\/(y<(v.2:Rat)/\(u.2:Rat)<y/\(w.2:Rat)<y)
theorem Zs {p q:Int×Int}{f t y:Rat}(h:((p.2:Rat)<y/\y<(q.2:Rat))\/((q.2:Rat)<y/\y<(p.2:Rat)))(hp:f<=(p.1:Rat)/\(p.1:Rat)<=t)(hq:f<=(q.1:Rat)/\(q.1:Rat)<=t):f<=Di p.1 p.2 q.1 q.2 y/\Di p.1 p.2 q.1 q.2 y<=t:=by
 have ne:p.2≠q.2:=fun c=>by rw[c]at h;grind
 rw[Kl ne];have h1:(q.2:Rat)-p.2≠0:=by grind
 have k1:=Rat.mul_inv_cancel _ h1;rw[Rat.div_def];obtain⟨s,hs⟩:∃s,s=(y-(p.2:Rat))*((q.2:Rat)-p.2)⁻¹:=⟨_,rfl⟩;have e1:s*((q.2:Rat)-p.2)=y-(p.2:Rat):=by rw[hs];generalize ((q.2:Rat)-p.2)⁻¹=i at*;grind
 have b1:0<=s:=by
  refine Rat.not_lt.1 (fun c=> ?_);rcases h with h|h
  ·have:=Rat.mul_lt_mul_of_pos_right c (show 0<(q.2:Rat)-p.2 by grind);grind
  have:=Rat.mul_lt_mul_of_pos_right c (show 0<(p.2:Rat)-q.2 by grind);grind
 have b2:s<=1:=by
  refine Rat.not_lt.1 (fun c=> ?_);have c':0<s-1:=by grind
  rcases h with h|h
  ·have:=Rat.mul_lt_mul_of_pos_right c' (show 0<(q.2:Rat)-p.2 by grind);grind
  have:=Rat.mul_lt_mul_of_pos_right c' (show 0<(p.2:Rat)-q.2 by grind);grind
 have e2:(p.1:Rat)+(y-(p.2:Rat))*(((q.1:Rat)-p.1)*((q.2:Rat)-p.2)⁻¹)=(1-s)*(p.1:Rat)+s*(q.1:Rat):=by rw[hs];grind
 rw[e2];have m1:=Rat.mul_nonneg b1 (show 0<=(q.1:Rat)-f by grind);have m2:=Rat.mul_nonneg (show 0<=1-s by grind) (show 0<=(p.1:Rat)-f by grind);have m3:=Rat.mul_nonneg b1 (show 0<=t-(q.1:Rat)by grind);have m4:=Rat.mul_nonneg (show 0<=1-s by grind) (show 0<=t-(p.1:Rat)by grind);grind
theorem vW (y:Rat)(a:Int×Int):Do y (a,a)=none:=by
  unfold Do;rw[if_neg (fun c=>by have a:=c.1;have b:=c.2;simp only at a b;grind),if_neg (fun c=>by have a:=c.1;have b:=c.2;simp only at a b;grind)]
theorem Xm (y:Rat)(a b c:Int×Int):(Eb [a,b,c] 3).filterMap (Do y)=[(a,b),(b,c),(c,a)].filterMap (Do y):=by
 have e:Eb [a,b,c] 3=(if a=b then[]else[(a,b)])++((if b=c then[]else[(b,c)])++(if c=a then[]else[(c,a)])):=by
  have e0:Fi [a,b,c] 0=if a=b then none else some (a,b):=by simp[Fi]
  have e1:Fi [a,b,c] 1=if b=c then none else some (b,c):=by simp[Fi]
  have e2:Fi [a,b,c] 2=if c=a then none else some (c,a):=by simp[Fi]
  have k:∀p q:Int×Int,((if p=q then none else some (p,q):Option Cg)).toList=if p=q then[]else[(p,q)]:=fun p q=>by split<;>rfl
  have g:∀(i:Nat) (l:List Nat),(i::l).filterMap (Fi [a,b,c])=(Fi [a,b,c] i).toList++l.filterMap (Fi [a,b,c]):=fun i l=>by
   rw[List.filterMap_cons];cases Fi [a,b,c] i<;>rfl
  show[0,1,2].filterMap (Fi [a,b,c])=_;rw[g,g,g,e0,e1,e2,k,k,k,List.filterMap_nil,gXX]
 have A0:∀p q:Int×Int,(if p=q then[]else[(p,q)]).filterMap (Do y)=[(p,q)].filterMap (Do y):=fun p q=>by
  split
  ·rename_i h;subst h
   rw[List.filterMap_cons,vW]
  rfl
 rw[e,List.filterMap_append,List.filterMap_append,A0,A0,A0,<-List.filterMap_append,<-List.filterMap_append];rfl
theorem Gt {y:Rat}{p q:Int×Int}(h:((p.2:Rat)<y/\(q.2:Rat)<y)\/(y<(p.2:Rat)/\y<(q.2:Rat))):Do y (p,q)=none:=by
  unfold Do;rw[if_neg (fun c=>by have a:=c.1;have b:=c.2;simp only at a b;grind),if_neg (fun c=>by have a:=c.1;have b:=c.2;simp only at a b;grind)]
theorem Zi {y:Rat}{p q:Int×Int}(h:(p.2:Rat)<y/\y<(q.2:Rat)):Do y (p,q)=some (Di p.1 p.2 q.1 q.2 y,1):=by
  unfold Do;rw[if_pos h]
theorem Np {y:Rat}{p q:Int×Int}(h:(q.2:Rat)<y/\y<(p.2:Rat)):Do y (p,q)=some (Di p.1 p.2 q.1 q.2 y,-1):=by
  unfold Do;rw[if_neg (fun c=>by have a:=c.1;have b:=c.2;simp only at a b;grind),if_pos h]
theorem jX (a b c:Int×Int):Bk [[a,b,c]]=Eb [a,b,c] 3:=by
  show Eb [a,b,c] 3++[]=_;rw[gXX]
end
section
theorem lN {a b:Int}(h:(a:Rat)<(b:Rat)):a<b:=by exact_mod_cast h
theorem lV {a b:Int}(h:a<=b):(a:Rat)<=(b:Rat):=by exact_mod_cast h
theorem wH {q:Int×Int}:∀{l:List (Int×Int)} {m:(Int×Int)×(Int×Int)},(q∈l\/(m.1.1<=q.1/\q.1<=m.2.1/\m.1.2<=q.2/\q.2<=m.2.2))->(l.foldl jF m).1.1<=q.1/\q.1<=(l.foldl jF m).2.1/\(l.foldl jF m).1.2<=q.2/\q.2<=(l.foldl jF m).2.2
  | [],m,h=>by rcases h with h|h;(cases h);exact h
  | p::l,m,h=>by
    refine wH (l:=l) (m:=jF m p) ?_;rcases h with h|h
    · rcases List.mem_cons.1 h with e|e
      · subst e;right;unfold jF;simp only;omega
      exact .inl e
    right;unfold jF;simp only;omega
theorem wF {rs:List Ai}{q:Int×Int}(h:q∈rs.flatten):(Fv rs).1.1<=q.1/\q.1<=(Fv rs).2.1/\(Fv rs).1.2<=q.2/\q.2<=(Fv rs).2.2:=wH (.inl h)
theorem Qa {y:Rat}{rs:List Ai}{m:QI}(h:m∈El y rs):((Fv rs).1.2:Rat)<y/\y<((Fv rs).2.2:Rat)/\((Fv rs).1.1:Rat)<=m.1/\m.1<=((Fv rs).2.1:Rat):=by
 rw[Jk,Stb.mem_stab]at h;obtain⟨e,he,h⟩:=List.mem_filterMap.1 h;have A0:e∈Bk rs:=by
  unfold Dc at he;split at he
  ·exact he
  simp[Bk]at he
 obtain⟨r,hr,p1,p2⟩:=Nl A0;have b1:=wF (List.mem_flatten.2 ⟨r,hr,p1⟩);have b2:=wF (List.mem_flatten.2 ⟨r,hr,p2⟩);have c1:((Fv rs).1.1:Rat)<=(e.1.1:Rat):=by exact_mod_cast b1.1
 have c2:(e.1.1:Rat)<=((Fv rs).2.1:Rat):=by exact_mod_cast b1.2.1
 have c3:((Fv rs).1.2:Rat)<=(e.1.2:Rat):=by exact_mod_cast b1.2.2.1
 have c4:(e.1.2:Rat)<=((Fv rs).2.2:Rat):=by exact_mod_cast b1.2.2.2
 have d1:((Fv rs).1.1:Rat)<=(e.2.1:Rat):=by exact_mod_cast b2.1
 have d2:(e.2.1:Rat)<=((Fv rs).2.1:Rat):=by exact_mod_cast b2.2.1
 have d3:((Fv rs).1.2:Rat)<=(e.2.2:Rat):=by exact_mod_cast b2.2.2.1
 have d4:(e.2.2:Rat)<=((Fv rs).2.2:Rat):=by exact_mod_cast b2.2.2.2
 unfold Do at h;split at h
 ·rename_i c
  have k:=Zs (.inl c) ⟨c1,c2⟩ ⟨d1,d2⟩;injection h with h;rw[<-h]
  exact⟨by grind,by grind,k.1,k.2⟩
 split at h
 ·rename_i c
  have k:=Zs (.inr c) ⟨c1,c2⟩ ⟨d1,d2⟩;injection h with h;rw[<-h]
  exact⟨by grind,by grind,k.1,k.2⟩
 cases h
theorem Vu {f t:Rat}:∀{l:List QQ},(∀p,p∈l->(p.1<=f/\p.2<=f)\/(t<=p.1/\t<=p.2)\/p.1=p.2)->Dw f t l=0
  | [],_=>rfl
  | p::l,h=>by
    have h1:Fg f t p=0:=by have:=h p eQQ;unfold Fg;grind
    rw[Ce,h1,Vu fun q hq=>h q (cQQ _ hq)];grind
def R4.In (b:R4)(x y:Int):Prop:=(b.y0<=y/\y<b.y1)/\b.x0<=x/\x<b.x1
theorem xA {rule x y:Int}{rs:List Ai}(h:¬(Lf rs).In x y){z:Rat}(z1:((y*256:Int):Rat)<z)(z2:z<((y*256+256:Int):Rat)){b:Int×Int}(hb:b.1=x*256+256){a:Int×Int}(ha:a.1=x*256):Iv rule a b rs z=0:=by
 unfold Iv;by_cases hm:∀m,m∉El z rs
 ·have e:El z rs=[]:=List.eq_nil_iff_forall_not_mem.2 hm
  rw[e];refine Vu fun p hp=> ?_
  have:=(Km (P:=fun _=>False) (rule:=rule) (ms:=[]) (fun m hm=>by cases hm) p hp).1;exact this.elim
 obtain⟨m,hm⟩:∃m,m∈El z rs:=Classical.byContradiction fun c=>hm fun m k=>c ⟨m,k⟩
 have k:=Qa hm;have k1:((Fv rs).1.2:Rat)<((y*256+256:Int):Rat):=by grind
 have k2:((y*256:Int):Rat)<((Fv rs).2.2:Rat):=by grind
 have k3:((Fv rs).1.2:Rat)<((Fv rs).2.2:Rat):=by grind
 have l1:(Fv rs).1.2<y*256+256:=lN k1;have l2:y*256<(Fv rs).2.2:=lN k2;have l3:(Fv rs).1.2<(Fv rs).2.2:=by exact_mod_cast k3
 have k4:((Fv rs).1.1:Rat)<=((Fv rs).2.1:Rat):=by grind
 have l4:(Fv rs).1.1<=(Fv rs).2.1:=by exact_mod_cast k4
 have hx:(Fv rs).1.1=(Fv rs).2.1\/(Fv rs).2.1<=x*256\/x*256+256<=(Fv rs).1.1:=by
  refine Classical.byContradiction fun c=>h ?_
  have hf:rs.flatten≠ []:=fun e=>by
   have:Fv rs=((0,0),(0,0)):=by unfold Fv;rw[e];rfl
   rw[this]at l3;exact absurd l3 (by decide)
  have e1:¬(Wt rs).x1<=(Wt rs).x0:=by unfold Wt;simp only;omega
  have e2:¬(Wt rs).y1<=(Wt rs).y0:=by unfold Wt;simp only;omega
  have e3:Lf rs=Wt rs:=(if_neg hf).trans ((if_neg e1).trans (if_neg e2));rw[e3];unfold R4.In Wt;simp only;omega
 refine Vu fun p hp=> ?_
 rw[ha,hb];rcases hx with hx|hx|hx
 ·have q:((Fv rs).1.1:Rat)=((Fv rs).2.1:Rat):=by rw[hx]
  have:=Km (P:=fun r=>r=((Fv rs).1.1:Rat)) (rule:=rule) (ms:=El z rs) (fun m hm=>by have:=Qa hm;grind) p hp;right;right;rw[this.1,this.2]
 ·have q:((Fv rs).2.1:Rat)<=((x*256:Int):Rat):=lV hx
  have:=Km (P:=fun r=>r<=((x*256:Int):Rat)) (rule:=rule) (ms:=El z rs) (fun m hm=>by have:=Qa hm;grind) p hp;exact .inl this
 have q:((x*256+256:Int):Rat)<=((Fv rs).1.1:Rat):=lV hx;have:=Km (P:=fun r=>((x*256+256:Int):Rat)<=r) (rule:=rule) (ms:=El z rs) (fun m hm=>by have:=Qa hm;grind) p hp;exact .inr (.inl this)
theorem mS {x y:Int}(h:Dd (Bg x y).1 (Bg x y).2=true):Bg x y=(x*256,y*256):=by
  unfold Bg at h⊢;split
  · rename_i c;rw[if_pos c]at h;exact absurd h (by decide)
  rfl
theorem aCG {x y:Int}(h:Dd (Bg x y).1 (Bg x y).2=true)(h2:Dd (Ix x y).1 (Ix x y).2=true):Ix x y=(x*256+256,y*256+256):=by
  have e:Ix x y=Bg (x+1) (y+1):=if_pos h;rw[e]at h2⊢;rw[mS h2];refine Prod.ext ?_ ?_<;>simp only<;>omega
theorem wM {rule x y:Int}{rs:List Ai}(he:Gv rule (Bg x y) (Ix x y) rs=0)(h:¬(Lf rs).In x y):Il rule (Bg x y) (Ix x y) rs=0:=by
 obtain⟨h1,_,h2,h3⟩:=Ro.1 he;have e1:=mS h2;have e2:=aCG h2 h3;have oa:Du (Bg x y):=h2;have ob:Du (Ix x y):=h3;rw[e1]at oa⊢;rw[e2]at ob⊢;have k:Lk (x*256,y*256) (x*256+256,y*256+256) rs:=⟨h1,oa,ob,by simp only;omega⟩;rw[Wn k.2.2.2 (by simp only;omega)];obtain⟨u,l,e3,e4,e5⟩:=oK k;rw[nC (c:=0) (Me k).srt ?_]
 ·exact Ky (fun _=>rfl) _
 intro z z1 z2;rw[e3]at z1 z2;exact xA h (by have:=z1 u rfl;rw[e4]at this;exact this) (z2 _ e5) rfl rfl
theorem aAH {rule x y:Int}{rs:List Ai}(h:¬(Lf rs).In x y):Gq rule rs x y=0:=by
  unfold Gq;by_cases he:Gv rule (Bg x y) (Ix x y) rs=0
  · rw[if_pos he,wM he h]
    have e:(0:Rat)/((65536:Int):Rat)=0:=by grind
    rw[e];exact if_pos Rat.le_refl
  exact if_neg he
def R4.at (r:R4)(x y:Int):Nat:=((y-r.y0)*(r.x1-r.x0)+x-r.x0).toNat
def Kg (r:R4)(v:Int->Int->Int)(es:List Int):Prop:=(es.length:Int)=(r.x1-r.x0)*(r.y1-r.y0)/\∀x y,r.In x y->es[r.at x y]?=some (v x y)
theorem Jf {r:R4}{x y:Int}(h:r.In x y):((r.at x y:Nat):Int)=(y-r.y0)*(r.x1-r.x0)+x-r.x0:=by
  unfold R4.at;have h1:0<=(y-r.y0)*(r.x1-r.x0):=Int.mul_nonneg (by have:=h.1.1;omega) (by have:=h.2;omega);have:=h.2;omega
theorem rG {r:R4}{x y x' y':Int}(h:r.In x y)(k:r.In x' y')(e:r.at x y=r.at x' y'):x=x'/\y=y':=by
 have e1:=Jf h;have e2:=Jf k;rw[e]at e1;have e3:=e1.symm.trans e2;obtain⟨⟨a1,a2⟩,a3,a4⟩:=h;obtain⟨⟨b1,b2⟩,b3,b4⟩:=k;have W:∃n:Nat,r.x1-r.x0=(n:Int):=⟨(r.x1-r.x0).toNat,ω⟩;obtain⟨n,hn⟩:=W;have hy:y=y':=by
  rcases Int.lt_trichotomy y y' with c|c|c
  ·have:(y'-r.y0)*(r.x1-r.x0)=(y-r.y0)*(r.x1-r.x0)+(y'-y)*(r.x1-r.x0):=by rw[<-Int.add_mul];congr 1;omega
   have h2:(r.x1-r.x0)<=(y'-y)*(r.x1-r.x0):=by
    have:=Int.mul_le_mul_of_nonneg_right (show(1:Int)<=y'-y by omega) (show 0<=r.x1-r.x0 by omega);rwa[Int.one_mul]at this
   omega
  ·exact c
  have:(y-r.y0)*(r.x1-r.x0)=(y'-r.y0)*(r.x1-r.x0)+(y-y')*(r.x1-r.x0):=by rw[<-Int.add_mul];congr 1;omega
  have h2:(r.x1-r.x0)<=(y-y')*(r.x1-r.x0):=by
   have:=Int.mul_le_mul_of_nonneg_right (show(1:Int)<=y-y' by omega) (show 0<=r.x1-r.x0 by omega);rwa[Int.one_mul]at this
  omega
 subst hy;exact⟨ω,rfl⟩
theorem gY {r:R4}{x y:Int}(h:r.In x y):((r.at x y:Nat):Int)<(r.x1-r.x0)*(r.y1-r.y0):=by
  rw[Jf h];obtain⟨⟨a1,a2⟩,a3,a4⟩:=h;have h2:(y-r.y0+1)*(r.x1-r.x0)<=(r.y1-r.y0)*(r.x1-r.x0):=Int.mul_le_mul_of_nonneg_right ω ω;rw[Int.add_mul,Int.one_mul]at h2;rw[Int.mul_comm (r.x1-r.x0)];omega
theorem rF {r:R4}{k:Nat}(h:(k:Int)<(r.x1-r.x0)*(r.y1-r.y0))(hx:r.x0<=r.x1)(hy:r.y0<=r.y1):∃x y,r.In x y/\r.at x y=k:=by
 obtain⟨n,hn⟩:∃n:Nat,r.x1-r.x0=(n:Int):=⟨(r.x1-r.x0).toNat,ω⟩;obtain⟨m,hm⟩:∃m:Nat,r.y1-r.y0=(m:Int):=⟨(r.y1-r.y0).toNat,ω⟩;rw[hn,hm]at h;have h1:k<n*m:=by exact_mod_cast h
 have A0:0<n:=Nat.pos_of_ne_zero fun e=>by rw[e]at h1;simp at h1
 have h2:k%n<n:=Nat.mod_lt _ A0;have h3:k/n<m:=(Nat.div_lt_iff_lt_mul A0).2 (by rw[lXX];exact h1);have h4:=Nat.div_add_mod k n;obtain⟨u,hu⟩:∃u,u=k%n:=⟨_,rfl⟩;obtain⟨v,hv⟩:∃v,v=k/n:=⟨_,rfl⟩;rw[<-hu]at h2 h4;rw[<-hv]at h3 h4;clear hu hv;have A1:r.In (r.x0+((u:Nat):Int)) (r.y0+((v:Nat):Int)):=⟨⟨ω,ω⟩,ω,ω⟩;refine⟨_,_,A1,?_⟩;have h5:=Jf A1;have h6:((k:Nat):Int)=(n:Int)*((v:Nat):Int)+((u:Nat):Int):=by exact_mod_cast h4.symm
 rw[hn]at h5;have e1:(r.y0+((v:Nat):Int)-r.y0)*(n:Int)=(n:Int)*((v:Nat):Int):=by rw[Int.mul_comm];congr 1;omega
 rw[e1]at h5;omega
theorem Kg.zero {r:R4}{N:Nat}(h:(N:Int)=(r.x1-r.x0)*(r.y1-r.y0)):Kg r (fun _ _=>0) (List.replicate N 0):=
  ⟨by rw[List.length_replicate];exact h,fun x y hi=>by
    have:=gY hi;rw[List.getElem?_replicate,if_pos ω]⟩
theorem Kg.lt {r:R4}{v:Int->Int->Int}{es:List Int}(h:Kg r v es){x y:Int}(hi:r.In x y):r.at x y<es.length:=by
  have:=gY hi;rw[<-h.1]at this;omega
theorem Kg.congr {r:R4}{v u:Int->Int->Int}{es:List Int}(h:Kg r v es)(e:∀x y,r.In x y->v x y=u x y):Kg r u es:=⟨h.1,fun x y hi=>by rw[h.2 x y hi,e x y hi]⟩
theorem Kg.set {r:R4}{v u:Int->Int->Int}{es:List Int}{c:Int}(h:Kg r v es){x y:Int}(hi:r.In x y)(hx:u x y=c)(he:∀x' y',r.In x' y'->¬(x'=x/\y'=y)->u x' y'=v x' y'):Kg r u (es.set (r.at x y) c):=by
  refine⟨by rw[eZZ];exact h.1,fun x' y' hi'=> ?_⟩;by_cases e:x'=x/\y'=y
  · obtain⟨rfl,rfl⟩:=e
    rw[List.getElem?_set,if_pos rfl,if_pos (h.lt hi),hx]
  rw[List.getElem?_set,if_neg (fun k=>e (by have:=rG hi hi' k;exact⟨this.1.symm,this.2.symm⟩)),h.2 x' y' hi',he x' y' hi' e]
theorem Kg.ext {r:R4}{v:Int->Int->Int}{es fs:List Int}(h:Kg r v es)(k:Kg r v fs)(hx:r.x0<=r.x1)(hy:r.y0<=r.y1):es=fs:=by
  refine List.ext_getElem? fun i=> ?_
  have hl:es.length=fs.length:=by have h1:=h.1;rw[<-k.1]at h1;omega
  rcases Nat.lt_or_ge i es.length with c|c
  · obtain⟨x,y,hi,rfl⟩:=rF (r:=r) (k:=i) (by rw[<-h.1];omega) hx hy
    rw[h.2 x y hi,k.2 x y hi]
  rw[kZZ c,kZZ ω]
instance (b:R4) (x y:Int):Decidable (b.In x y):=by unfold R4.In;infer_instance
def Qi (b:R4)(c:Int->Int->Int)(y:Int)(x' y':Int):Int:=if y'<y/\b.In x' y' then c x' y' else 0
def fU (b:R4)(c:Int->Int->Int)(y x:Int)(x' y':Int):Int:=if (y'<y\/(y'=y/\x'<x))/\b.In x' y' then c x' y' else 0
section
variable {q b:R4} {c:Int->Int->Int} {y x:Int} {es:List Int}
theorem kA (h:Kg q (fun _ _=>0) es):Kg q (Qi b c q.y0) es:=h.congr fun x' y' k=>(if_neg (fun k2=>by have:=k.1.1;have:=k2.1;omega)).symm
theorem Tt {P Q:Prop}[Decidable P][Decidable Q]{u:Int}(h:P↔Q):(if P then u else 0)=(if Q then u else 0):=by
  by_cases p:P
  · rw[if_pos p,if_pos (h.1 p)]
  rw[if_neg p,if_neg (fun q=>p (h.2 q))]
theorem Zf (h:Kg q (Qi b c y) es)(k:y<b.y0\/b.y1<=y):Kg q (Qi b c (y+1)) es:=h.congr fun x' y' _=>Tt ⟨fun e=>⟨ω,e.2⟩,fun e=>⟨by have:=e.2.1;have:=e.1;omega,e.2⟩⟩
theorem vK (h:Kg q (Qi b c y) es):Kg q (fU b c y (max q.x0 b.x0)) es:=h.congr fun x' y' k=>Tt ⟨fun e=>⟨.inl e.1,e.2⟩,fun e=>⟨by have:=e.2.2;have:=e.1;have:=k.2;omega,e.2⟩⟩
theorem vL (h:Kg q (fU b c y x) es)(hq:q.In x y)(hb:b.In x y):Kg q (fU b c y (x+1)) (es.set (q.at x y) (c x y)):=
  h.set hq (if_pos ⟨.inr ⟨rfl,ω⟩,hb⟩) fun x' y' _ e=>Tt ⟨fun k=>⟨by have:=k.1;omega,k.2⟩,fun k=>⟨by have:=k.1;omega,k.2⟩⟩
theorem vM (h:Kg q (fU b c y x) es)(k:min q.x1 b.x1<=x):Kg q (Qi b c (y+1)) es:=h.congr fun x' y' i=>Tt ⟨fun e=>⟨by have:=e.1;omega,e.2⟩,fun e=>⟨by have:=e.1;have:=i.2;have:=e.2.2;omega,e.2⟩⟩
theorem vN (h:Kg q (Qi b c y) es)(k:q.y1<=y)(h0:∀x y,¬b.In x y->c x y=0):Kg q c es:=h.congr fun x' y' i=>by
  unfold Qi;by_cases e:b.In x' y'
  · exact if_pos ⟨by have:=i.1;omega,e⟩
  rw[if_neg (fun k=>e k.2),h0 x' y' e]
end
end
section
attribute [local go_sem ↓] Go.wp_at_zero Go.wp_at_succ Ae Ad
def Kp (rule:Int)(rs:List Ai)(r:R4):Int:=if Fm rs=true then(if rule=1\/rule=2 then(if r.ok=true then(if r.area<=65536 then 0 else 5)else 6)else 2)else 12
def Em (E:Int)(r:R4)(v:Int->Int->Int)(w:World)(e:Ending)(w':World):Prop:=
  ∃ (q:R4) (A:Option Addr) (n c:Nat) (es:List Int),e= .returned (.tuple #[.agg #[iV q.x0,iV q.y0,iV q.x1,iV q.y1,.slice A n c],iV E])/\n=es.length/\Ba w' w.heap.size 5 1 (.slice A n c) n (List.flatMap Aw es)/\
    (E=0->q=r.can/\Kg r.can v es/\r.area<=65536)/\(E≠0->q=R4.zero/\es=[])/\Aa w w'
theorem Em.ok {E:Int}{r:R4}{v:Int->Int->Int}{w w':World}{e:Ending}(h:Em E r v w e w')(h0:E=0):∃(A:Option Addr) (n c:Nat) (es:List Int),e= .returned (.tuple #[.agg #[iV r.can.x0,iV r.can.y0,iV r.can.x1,iV r.can.y1,.slice A n c],iV 0])/\n=es.length/\Ba w' w.heap.size 5 1 (.slice A n c) n (List.flatMap Aw es)/\Kg r.can v es/\r.area<=65536/\Aa w w':=by
  obtain⟨q,A,n,c,es,rfl,h1,h2,h3,_,hx⟩:=h;obtain⟨rfl,h4,h5⟩:=h3 h0;exact⟨A,n,c,es,by rw[h0],h1,h2,h4,h5,hx⟩
theorem Em.bad {E:Int}{r:R4}{v:Int->Int->Int}{w w':World}{e:Ending}(h:Em E r v w e w')(h0:E≠0):∃(A:Option Addr) (c:Nat),e= .returned (.tuple #[.agg #[iV 0,iV 0,iV 0,iV 0,.slice A 0 c],iV E])/\Ba w' w.heap.size 5 1 (.slice A 0 c) 0 (List.flatMap Aw [])/\Aa w w':=by
  obtain⟨q,A,n,c,es,rfl,h1,h2,_,h3,hx⟩:=h;obtain⟨rfl,rfl⟩:=h3 h0;have h1:n=0:=h1;subst h1;exact⟨A,c,rfl,h2,hx⟩
theorem Wp (r:R4):r.can.can=r.can:=by
  unfold R4.can;by_cases c:r.emp=true
  · rw[if_pos c,if_pos (show R4.zero.emp=true by decide)]
  rw[if_neg c,if_neg c]
theorem gW {q:R4}{x y:Int}(ho:q.ok=true)(h:q.In x y):q.ix x y=((q.at x y:Nat):Int):=by
  have h1:q.has x y=true:=by
    unfold R4.has R4.emp;obtain⟨⟨a,b⟩,c,d⟩:=h;simp[ho];omega
  rw[Jf h];exact if_pos h1
theorem R4.can_ok (r:R4):r.can.ok=true:=Rx.2 (by have:=r.can_bd;exact this.1)
set_option maxRecDepth 200000 in
theorem Kr (A:Option Addr)(cap:Nat)(rs:List Ai)(rule:Int)(r:R4)(w:World)(hu:Cv w (.slice A rs.length cap) rs)(hn:rs.length<=1048576)(hr:∀r,r∈rs->r.length<=1048576)(hs:Fm rs=true->r.ok=true->Gx rs<=16)(hru: -9223372036854775808<=rule/\rule<=9223372036854775807):
  Calls prog 8 #[.slice A rs.length cap,iV rule,.agg #[iV r.x0,iV r.y0,iV r.x1,iV r.y1]] w (Em (Kp rule rs r) r (Gq rule rs) w):=by
 have HU:=zH hu;have HN:=zH hn;have D0:=zH hr;clear hu hr;have E3:=zH hs;have K1:=zH hru;clear hs hru;go_enter func8,ntmps8
 have H0:=zH (Hp.start w);go_upto_region 0 with fail;apply wl;apply Cm 24 [iV r.x0,iV r.y0,iV r.x1,iV r.y1] H0.1;intro X1 w2 H3 _;apply Cm 30 [iV 0,iV 0,iV 0,iV 0,.slice none 0 0] H3.1;intro X6 w7 H8 _;apply zq (iV 0);rcases Cx (Fm rs=true)with HV|HV
 ·go_upto_region 1 with fail
  refine wp_scope_straight ?_;go_upto_region 1 with fail;apply wl;refine Cn Af _ ?_;refine zc (Ci _ rs _ (HU.1.ext H8.1.ext) HN.1 D0.1) ?_;rintro e J4 ⟨rfl,hx⟩;have F6:=zH (H8.1.step hx);clear hx;refine⟨.bool true,by rw[HV.1],?_⟩;try simp only[ζ]
  refine Cc Af φ φ ?_;rcases Cx (rule=1\/rule=2)with HRL|HRL
  ·go_upto_region 3 with fail
   go_cut [17] (fun v20 wx=>v20= .bool false/\Hp w wx [.blk X1 24 [iV r.x0,iV r.y0,iV r.x1,iV r.y1],.blk X6 30 [iV 0,iV 0,iV 0,iV 0,.slice none 0 0]]/\Ah J4 wx)
   case first=>
    rcases Cx (rule=1)with H1|H1
    ·apply wl
     apply zq (iV rule);apply zp φ (by exact Nw (e:=(Al (fun h_=>h_ H1.1))));refine Na Af φ _ _ φ φ ?_;go_wp2_with fail;go_meet
     exact⟨rfl,F6.1,(Ah.refl _)⟩
    apply wl;apply zq (iV rule);apply zp τ (by exact Nw (e:=(An H1.1)));refine Cc Af τ (iV rule) ?_;apply zp φ (by exact Nw (e:=(Al (fun h_=>h_ (HRL.1.resolve_left H1.1)))));refine Cc Af φ φ ?_;go_wp2_with fail;go_meet
    exact⟨rfl,F6.1,(Ah.refl _)⟩
   obtain⟨rfl,B0,B1⟩:=hcut;generalize wc=M6 at*;have D4:=zH B0;have O0:=zH B1;clear B0 B1;rcases Cx (r.ok=true)with HRO|HRO
   ·go_upto_region 5 with fail
    apply wl;refine zd X1 (0) [iV r.x0,iV r.y0,iV r.x1,iV r.y1] (D4.1.range (i:=0) rR 0 4) underlying24 ?_;refine aC D4.1 ((Sg r _).mono fun _ _ h_=>(⟨h_.1.trans (by rw[HRO.1]),h_.2⟩:_=Ending.returned τ/\Aa _ _)) ?_;intro M5 D3 _;refine Cc Af φ φ ?_;rcases Cx (r.area<=65536)with HA|HA
    ·go_upto_region 7 with fail
     apply wl;refine zd X1 (0) [iV r.x0,iV r.y0,iV r.x1,iV r.y1] (D3.1.range (i:=0) rR 0 4) underlying24 ?_;refine aC D3.1 (Pp r _) ?_;intro M4 H7 _;apply zp φ (by exact Sn (e:=(Al (by have h_:=HA.1;omega))));apply zq φ;go_upto_region 9 with fail;apply wl;refine zd X1 (0) [iV r.x0,iV r.y0,iV r.x1,iV r.y1] (H7.1.range (i:=0) rR 0 4) underlying24 ?_;refine aC H7.1 (Uw r _) ?_;intro M3 L6 _;apply Da 0 [iV r.can.x0,iV r.can.y0,iV r.can.x1,iV r.can.y1] L6.1;intro C9 H6 _;generalize hq_:r.can=q at*;have HQ:=zH hq_;have hb:=r.can_bd;have D7:=r.can_ok;have E0:=HA.1;unfold R4.area at E0;rw[hq_]at hb D7 E0;clear hq_;have K2:=zH D7;have J6:0<=(q.x1-q.x0)*(q.y1-q.y0):=Int.mul_nonneg ω ω;obtain⟨N,G4⟩:∃N:Nat,(N:Int)=(q.x1-q.x0)*(q.y1-q.y0):=⟨((q.x1-q.x0)*(q.y1-q.y0)).toNat,ω⟩;have G9:=zH (show N<=65536 by omega);have G8:=zH G4;have HB:=zH hb;have N8:=HB.1.1.1;have N7:=HB.1.1.2.1;have N6:=HB.1.1.2.2.1;have N5:=HB.1.1.2.2.2;have N4:=HB.1.2;clear hb D7 E0 J6 G4;have L0:=zH (show q.area=((N:Nat):Int)from by unfold R4.area;rw[show q.can=q from by rw[<-HQ.1];exact Wp r];exact G8.1.symm);go_upto_region 10 with fail
     refine zy ?_;have F0:=zH (H6.1.step (Aa.refl C9).drew);refine cR H6.1 zb (bs 7 3) 0 1 _ _ ?_;refine gG 5 (some 8) 30 [iV 0,iV 0,iV 0,iV 0,.slice none 0 0] C9 F0.1 ?_;refine gL 2 (bs 7 35) (bs 7 7) zb.size F0.1 zb (fun xq B2=>(Pp q _).mono fun _ _ h_=>(⟨h_.1.trans (by rw[L0.1]),h_.2⟩:_=Ending.returned (iV ((N:Nat):Int))/\Aa _ _)) (by rintro x_ e H9 ⟨rfl,hx⟩;exact hx) ?_;rintro xq e M2 B2 ⟨rfl,hx⟩;replace hx:=B2.trans hx;clear B2;have L5:=zH (F0.1.step hx);have E2:=zH (zb.trans hx);clear hx;refine⟨_,rfl,?_⟩;try simp only[ζ]
     refine aEM (Φ:=fun x v x'=>v= .slice (π x.heap.size) N N/\Ba x' x.heap.size 5 1 v N (List.flatMap Aw (List.replicate N 0))) (fun x _ _=> .row 5 1 (.slice (π x.heap.size) N N) N (List.flatMap Aw (List.replicate N 0))) (i:=3) (lj:=(bs 7 39)) (li:=(bs 7 15)) rR rR kR kR kR kR kR dC kR rR rR (by intro r_ x_;go_simp) (fun x y h1 h2=>h1.trans h2) E2.1.size L5.1 (by simp[Ar]) E2.1 rR kR (fun xq B2=>⟨_,_,zV (n:=N) rR rR rR (Av G9.1 (show(65536:Nat)<=4000000 by decide)),⟨rfl,Ba.u8 _ _ (Av (Av G9.1 (show(65536:Nat)<=4000000 by decide)) (show(4000000:Nat)<=maxLen by decide))⟩,Aq.alloc _⟩) (by rintro x_ v_ H9 M7 ⟨rfl,B3⟩ hx hh;exact hh.addRow hx B3) ?_;rintro xq v_ M1 B2 ⟨rfl,B3⟩ hx hh;replace hx:=B2.trans hx;clear B3 B2;simp only[iZZ,fQQ]at hh⊢;generalize xq.heap.size=A3 at hh⊢;have L4:=hN hh;have E1:=zH (E2.1.trans hx);clear hh hx;try simp only[ζ]
     refine gK 4 (bs 7 47) (bs 7 31) _ E1.1 ?_;refine gE (bs 7 63) E1.1.size L4.1 E1.1 ?_;intro B5 I3 hx hh hs D9;have L3:=hN hh;have J9:=zH (show Aa C9 I3 from hs);have L7:=zH (show C9.heap.size<=B5 from D9);clear hh hx D9 hs;try simp only[ζ]
     refine bS 3 6 (bs 7 127) [iV q.x0,iV q.y0,iV q.x1,iV q.y1,.slice (π A3) N N] L3.1 J9.1 L7.1 ?_;intro M0 H5 _ N9;refine wpAnyH_done kR ?_ _;go_upto_region 11 with fail;apply wl;refine Cn Af _ ?_;refine aC H5.1 (eK A cap rs _ (HU.1.ext H5.1.ext) HN.1 D0.1 HV.1) ?_;intro L9 L2 _;apply Cm 24 [iV 0,iV 0,iV 0,iV 0] L2.1;intro G5 L8 L1 _;apply Da 4 [iV ((Lf rs).x0),iV ((Lf rs).y0),iV ((Lf rs).x1),iV ((Lf rs).y1)] L1.1;intro I1 E9 _;go_wp2_with fail;go_step3
     go_upto_region 12 with fail;apply wl;refine Dt E9.1 _ _ (iV q.y0) ?_;obtain⟨NY,B7⟩:∃NY:Nat,(NY:Int)=q.y1-q.y0:=⟨(q.y1-q.y0).toNat,ω⟩;have G7:=zH B7;clear B7;have K6:=zH (show Kg q (Qi (Lf rs) (Gq rule rs) q.y0) (List.replicate N 0)from kA (Kg.zero G8.1));go_wp2_with fail
     go_loopg [10] (NY) (fun cq J5 wr=>∃(k:Nat) (y:Int) (es:List Int),cq=NY-k/\J5= iV y/\(y=q.y0+(k:Int)/\k<=NY)/\(es.length=N)/\(Kg q (Qi (Lf rs) (Gq rule rs) y) es)/\Hp w wr [.blk X1 24 [iV q.x0,iV q.y0,iV q.x1,iV q.y1],.blk X6 30 [iV 0,iV 0,iV 0,iV 0,.slice none 0 0],.row 5 1 (.slice (π A3) N N) (N) (List.flatMap Aw es),.blk B5 30 [iV q.x0,iV q.y0,iV q.x1,iV q.y1,.slice (π A3) N N],.blk G5 24 [iV ((Lf rs).x0),iV ((Lf rs).y0),iV ((Lf rs).x1),iV ((Lf rs).y1)]]/\Ah I1 wr)
     case atStart=>exact⟨0,q.y0,List.replicate N 0,rfl,rfl,⟨ω,eXX _⟩,List.length_replicate,K6.1,E9.1,Ah.refl _⟩
     obtain⟨k,y,es,rfl,rfl,A6,A4,A5,B0,B1⟩:=hrel;generalize wr=I0 at*;have H2:=zH A6;clear A6;have D1:=zH A4;clear A4;have D2:=zH A5;clear A5;have A0:=zH B0;have F8:=zH B1;clear B0 B1 E9;rcases Cx (y<q.y1)with HLT|HLT
     ·have E6:=True.intro
      have J8:=H2.1;have J7:=G7.1;have N2:=HLT.1;go_upto_region 13 with fail
      apply wl;refine Dt A0.1 (iV y) _ _ ?_;apply zp τ (by exact Eg (e:=(An ω)));rcases Cx (y<(Lf rs).y0)with HY1|HY1
      ·go_upto_region 15 with fail
       apply wl;refine Dt A0.1 (iV y) _ _ ?_;apply zp τ (by exact Eg (e:=(An HY1.1)));refine Tx Af τ _ _ _ _ τ ?_;go_upto_region 14 with fail;apply wl;apply zq (iV y);apply zp (iV (y+1)) (by exact Ht ω);apply zq (iV (y+1));go_wp2_with fail;go_roundg (NY-(k+1))
       case measure=>exact(ω)
       case rel=>exact⟨k+1,y+1,es,rfl,(by go_num),⟨ω,ω⟩,D1.1,(Zf D2.1 (.inl HY1.1)),A0.1,F8.1⟩
      rcases Cx ((Lf rs).y1<=y)with HY2|HY2
      ·go_upto_region 15 with fail
       apply wl;refine Dt A0.1 (iV y) _ _ ?_;apply zp φ (by exact Eg (e:=(Al HY1.1)));refine Fk A0.1 φ (iV y) _ _ ?_;apply zp τ (by exact Od (e:=(An HY2.1)));apply zq τ;go_upto_region 14 with fail;apply wl;apply zq (iV y);apply zp (iV (y+1)) (by exact Ht ω);apply zq (iV (y+1));go_wp2_with fail;go_roundg (NY-(k+1))
       case measure=>exact(ω)
       case rel=>exact⟨k+1,y+1,es,rfl,(by go_num),⟨ω,ω⟩,D1.1,(Zf D2.1 (.inr HY2.1)),A0.1,F8.1⟩
      go_upto_region 15 with fail;apply wl;refine Dt A0.1 (iV y) _ _ ?_;apply zp φ (by exact Eg (e:=(Al HY1.1)));refine Fk A0.1 φ (iV y) _ _ ?_;apply zp φ (by exact Od (e:=(Al HY2.1)));apply zq φ;go_upto_region 16 with fail;apply wl;refine Tx A0.1 _ _ _ _ (iV (max q.x0 ((Lf rs).x0))) (iV (max q.x0 ((Lf rs).x0))) ?_;obtain⟨NX,B8⟩:∃NX:Nat,NX=(min q.x1 (Lf rs).x1-max q.x0 (Lf rs).x0).toNat:=⟨_,rfl⟩;have K4:=zH B8;clear B8;go_wp2_with fail
      go_loopg [11] (NX) (fun cq D6 wr=>∃(j:Nat) (x:Int) (fs:List Int),cq=NX-j/\D6= iV x/\(x=max q.x0 (Lf rs).x0+(j:Int)/\j<=NX)/\(fs.length=N)/\(Kg q (fU (Lf rs) (Gq rule rs) y x) fs)/\Hp w wr [.blk X1 24 [iV q.x0,iV q.y0,iV q.x1,iV q.y1],.blk X6 30 [iV 0,iV 0,iV 0,iV 0,.slice none 0 0],.row 5 1 (.slice (π A3) N N) (N) (List.flatMap Aw fs),.blk B5 30 [iV q.x0,iV q.y0,iV q.x1,iV q.y1,.slice (π A3) N N],.blk G5 24 [iV ((Lf rs).x0),iV ((Lf rs).y0),iV ((Lf rs).x1),iV ((Lf rs).y1)]]/\Ah I0 wr)
      case atStart=>exact⟨0,_,es,rfl,rfl,⟨ω,eXX _⟩,D1.1,(vK D2.1),A0.1,Ah.refl _⟩
      obtain⟨j,x,fs,rfl,rfl,A7,A8,A9,B0,B1⟩:=hrel;generalize wr=A1 at*;have K7:=zH A7;clear A7;have E7:=zH A8;clear A8;have E8:=zH A9;clear A9;have A2:=zH B0;have C8:=zH B1;clear B0 B1 A0;rcases Cx (x<min q.x1 (Lf rs).x1)with HXL|HXL
      ·have N3:=K7.1
       have M8:=HXL.1;have N1:=K4.1;have N0:max q.x0 (Lf rs).x0<=x:=ω
       have M9:q.x0<=x/\x<q.x1:=ω;go_upto_region 17 with fail;apply wl;refine Tx A2.1 (iV x) _ _ _ _ (iV (min q.x1 ((Lf rs).x1))) ?_;apply zp τ (by exact Eg (e:=(An HXL.1)));have E4:=zH (show q.In x y from⟨⟨ω,HLT.1⟩,ω,ω⟩);have K9:=zH (show(Lf rs).In x y from⟨⟨by have:=HY1.1;omega,by have:=HY2.1;omega⟩,ω,ω⟩);have H4:=zH (gW K2.1 E4.1);have E5:=zH (E8.1.lt E4.1);have G6:=zH (vL E8.1 E4.1 K9.1);obtain⟨kk,G3⟩:∃kk,q.at x y=kk:=⟨_,rfl⟩;rw[G3]at H4 E5 G6;have K8:=zH (show kk<N from by have h_:=E5.1;rw[E7.1]at h_;exact h_);clear G3;go_upto_region 19 with fail
       refine Lp (S:=fun x=>Aa A1 x) [12] kR ?_;have F7:=zH (A2.1.step (Aa.refl A1).drew);have G2:=zH (Ah.of_ext (w:=A1) zb);refine Fu (ds:=[1,11,12]) (i:=0) (listed':=(bs 13 1)) (v:= .pointer (some ⟨B5,4,none⟩)) rR kR kR kR (by intro _ _ _ h;exact h) (Kk rR (by intro w B4;go_simp<;>with_reducible rfl)) zb kR ?_;try simp only[ζ]
       refine Fu (ds:=[11,12]) (i:=1) (listed':=(bs 13 3)) (v:= .slice (π A3) N N) rR kR kR kR (by intro _ _ _ h;exact h) (dA (g:=B5) (o:=4) rR (fun x hx=>Aa.get hx (show World.cell? A1 ⟨B5,4,none⟩=some (.slice (π A3) N N)from Aj (A2.1.range (i:=3) rR 4 1))) (by intro x hq;go_simp<;>with_reducible rfl)) zb kR ?_;try simp only[ζ]
       refine Fu (ds:=[5,10,11,12]) (i:=2) (listed':=(bs 13 7)) (v:= .agg #[iV q.x0,iV q.y0,iV q.x1,iV q.y1]) rR kR kR kR (by intro _ _ _ h;exact h) (aFG rR _ _ rR X1 (0) [iV q.x0,iV q.y0,iV q.x1,iV q.y1] rR (fun x hx=>Bp (show World.rangeAt A1 X1 (0) [iV q.x0,iV q.y0,iV q.x1,iV q.y1]from(A2.1.range (i:=0) rR 0 4)) hx) underlying24 rR kR) zb kR ?_;try simp only[ζ]
       refine Fu (ds:=[5,10,11,12]) (i:=3) (listed':=(bs 13 15)) (v:= iV x) rR kR kR kR (by intro _ _ _ h;exact h) (Kk rR (by intro w B4;go_simp<;>with_reducible rfl)) zb kR ?_;try simp only[ζ]
       refine Fu (ds:=[5,10,11,12]) (i:=4) (listed':=(bs 13 31)) (v:= iV y) rR kR kR kR (by intro _ _ _ h;exact h) (Kk rR (by intro w B4;go_simp<;>with_reducible rfl)) zb kR ?_;try simp only[ζ]
       refine Fu (ds:=[10,12]) (i:=6) (listed':=(bs 13 95)) (v:= .slice A rs.length cap) rR kR kR kR (by intro _ _ _ h;exact h) (Kk rR (by intro w B4;go_simp<;>with_reducible rfl)) zb kR ?_;try simp only[ζ]
       refine Fu (ds:=[10,12]) (i:=7) (listed':=(bs 13 223)) (v:= iV rule) rR kR kR kR (by intro _ _ _ h;exact h) (Kk rR (by intro w B4;go_simp<;>with_reducible rfl)) zb kR ?_;try simp only[ζ]
       refine Fu (ds:=[10,12]) (i:=8) (listed':=(bs 13 479)) (v:= iV x) rR kR kR kR (by intro _ _ _ h;exact h) (Kk rR (by intro w B4;go_simp<;>with_reducible rfl)) zb kR ?_;try simp only[ζ]
       refine Fu (ds:=[10,12]) (i:=9) (listed':=(bs 13 991)) (v:= iV y) rR kR kR kR (by intro _ _ _ h;exact h) (Kk rR (by intro w B4;go_simp<;>with_reducible rfl)) zb kR ?_;try simp only[ζ]
       refine Tm (hist:=by rfl) (i:=5) (listed':=(bs 13 1023)) rR kR rR (by go_simp) ((tG q x y _).mono fun _ _ h_=>(⟨h_.1.trans (by rw[H4.1]),h_.2⟩:_=Ending.returned (iV ((kk:Nat):Int))/\Aa _ _)) kR ?_;rintro e D5 ⟨rfl,hx⟩;have C5:=zH (F7.1.step hx);have G1:=zH (show Ah A1.drew D5 from Ah.of_ext hx);have C0:=zH (zb.trans hx);clear hx;refine⟨_,rfl,C0.1,?_⟩;try simp only[ζ]
       refine Tm (hist:=by rfl) (i:=10) (listed':=(bs 13 2047)) rR kR rR (by go_simp) (Wf A cap rs rule x y _ (HU.1.ext C5.1.ext) HN.1 D0.1 (fun h_=>E3.1 h_ HRO.1) K1.1) kR ?_;rintro e J3 ⟨rfl,hx⟩;have F5:=zH (C5.1.step hx);have G0:=zH (Ah.of_ext hx);have B9:=zH (C0.1.trans hx);clear hx;refine⟨_,rfl,B9.1,?_⟩;try simp only[ζ]
       refine Fu (ds:=[12]) (i:=11) (listed':=(bs 13 4095)) (v:= .pointer (some ⟨A3,kk*1,none⟩)) rR kR kR kR (by intro _ _ _ h;exact h) (Kk rR (by intro w B4;exact Ha (k:=kk) underlying28 (l:=K8.1) (f:=(cZZ _).symm))) B9.1 kR ?_;try simp only[ζ]
       refine eU kR ?_;refine jK (f:=Aw) (i:=12) (listed':=(bs 13 8191)) rR kR rR kR _ _ _ rR F5.1 (ix:=2) rR Hv kk (Gq rule rs x y) E5.1 (.int .u8 (Gq rule rs x y)) rR (kk*1) rR rR rR kR (by simp[Value.cells]) (by simp[Value.oneCell']) (by simp[Ar]) ?_;intro J2 hh hd ho;have F4:=hN hh;have F9:=zH (hd);clear hh hd ho;refine⟨trivial,?_⟩
       (try simp only[Act.put])
       refine wpAnyH_done kR ?_ _;go_upto_region 18 with fail;apply wl;apply zq (iV x);apply zp (iV (x+1)) (by exact Ht ω);apply zq (iV (x+1));have C7:=tD (tD (tD (tD C8 G2) G1) G0) F9;go_wp2_with fail
       go_roundg (NX-(j+1))
       case measure=>exact(ω)
       case rel=>exact⟨j+1,x+1,(fs.set kk (Gq rule rs x y)),rfl,(by go_num),⟨ω,ω⟩,(by rw[eZZ];exact E7.1),G6.1,F4.1,C7.1⟩
      go_upto_region 17 with fail;apply wl;refine Tx A2.1 (iV x) _ _ _ _ (iV (min q.x1 ((Lf rs).x1))) ?_;apply zp φ (by exact Eg (e:=(Al HXL.1)));go_upto_region 14 with fail;apply wl;apply zq (iV y);apply zp (iV (y+1)) (by exact Ht ω);apply zq (iV (y+1));have C6:=tD F8 C8;go_wp2_with fail
      go_roundg (NY-(k+1))
      case measure=>exact(ω)
      case rel=>exact⟨k+1,y+1,fs,rfl,(by go_num),⟨ω,ω⟩,E7.1,(vM E8.1 (by have h_:=HXL.1;omega)),A2.1,C6.1⟩
     have E6:=zH (show q.y1<=y from by have:=HLT.1;omega);have J8:=H2.1;have J7:=G7.1;have D9:=E6.1;go_upto_region 13 with fail
     apply wl;refine Dt A0.1 (iV y) _ _ ?_;apply zp φ (by exact Eg (e:=(Al ω)));go_upto_region 20 with fail;apply wl;refine zd B5 (0) [iV q.x0,iV q.y0,iV q.x1,iV q.y1,.slice (π A3) N N] (A0.1.range (i:=3) rR 0 5) underlying30 ?_;apply Da 1 [iV q.x0,iV q.y0,iV q.x1,iV q.y1,.slice (π A3) N N] A0.1;intro J1 B6 _;apply zq (iV 0);have K5:=zH (show Kg r.can (Gq rule rs) es from by rw[HQ.1];exact vN D2.1 E6.1 (fun _ _ h_=>aAH h_));have HE:=zH (show Kp rule rs r=0 from(if_pos HV.1).trans ((if_pos HRL.1).trans ((if_pos HRO.1).trans (if_pos HA.1))));have D8:=D1.1;go_wp2_with fail
     refine bodyPost_ret (v:= .tuple #[.agg #[iV q.x0,iV q.y0,iV q.x1,iV q.y1,.slice (π A3) N N],iV 0]) ?_ rfl ⟨q,_,_,_,es,by rw[HE.1],D8.symm,B6.1.row (i:=2) rR,fun _=>⟨HQ.1.symm,K5.1,HA.1⟩,fun h_=>absurd HE.1 h_,B6.1.ext⟩;exact At rfl rfl ((B6.1.blk (i:=1) rR).loadVar rfl rfl rR) rfl
    go_upto_region 7 with fail;apply wl;refine zd X1 (0) [iV r.x0,iV r.y0,iV r.x1,iV r.y1] (D3.1.range (i:=0) rR 0 4) underlying24 ?_;refine aC D3.1 (Pp r _) ?_;intro J0 F3 _;apply zp τ (by exact Sn (e:=(An (by have h_:=HA.1;omega))));apply zq τ;go_upto_region 8 with fail;apply wl;refine Cn Af _ ?_;apply Da 1 [iV 0,iV 0,iV 0,iV 0,.slice none 0 0] F3.1;intro I9 C4 _;apply zq (iV 5);have HE:=zH (show Kp rule rs r=5 from(if_pos HV.1).trans ((if_pos HRL.1).trans ((if_pos HRO.1).trans (if_neg HA.1))));go_wp2_with fail
    refine bodyPost_ret (v:= .tuple #[.agg #[iV 0,iV 0,iV 0,iV 0,.slice none 0 0],iV 5]) ?_ rfl ⟨R4.zero,none,0,0,[],by rw[HE.1]<;>rfl,rfl,Ba.nil _ _ _ _,fun h_=>absurd h_ (by rw[HE.1];decide),fun _=>⟨rfl,rfl⟩,C4.1.ext⟩;exact At rfl rfl ((C4.1.blk (i:=1) rR).loadVar rfl rfl rR) rfl
   have K3:=zH (Bool.eq_false_iff.2 HRO.1);go_upto_region 5 with fail;apply wl;refine zd X1 (0) [iV r.x0,iV r.y0,iV r.x1,iV r.y1] (D4.1.range (i:=0) rR 0 4) underlying24 ?_;refine aC D4.1 ((Sg r _).mono fun _ _ h_=>(⟨h_.1.trans (by rw[K3.1]),h_.2⟩:_=Ending.returned φ/\Aa _ _)) ?_;intro I8 F2 _;refine Cc Af τ τ ?_;go_upto_region 6 with fail;apply wl;refine Cn Af _ ?_;apply Da 1 [iV 0,iV 0,iV 0,iV 0,.slice none 0 0] F2.1;intro I7 C3 _;apply zq (iV 6);have HE:=zH (show Kp rule rs r=6 from(if_pos HV.1).trans ((if_pos HRL.1).trans (if_neg HRO.1)));go_wp2_with fail
   refine bodyPost_ret (v:= .tuple #[.agg #[iV 0,iV 0,iV 0,iV 0,.slice none 0 0],iV 6]) ?_ rfl ⟨R4.zero,none,0,0,[],by rw[HE.1]<;>rfl,rfl,Ba.nil _ _ _ _,fun h_=>absurd h_ (by rw[HE.1];decide),fun _=>⟨rfl,rfl⟩,C3.1.ext⟩;exact At rfl rfl ((C3.1.blk (i:=1) rR).loadVar rfl rfl rR) rfl
  go_upto_region 3 with fail;apply wl;apply zq (iV rule);apply zp τ (by exact Nw (e:=(An (fun h_=>HRL.1 (.inl h_)))));refine Cc Af τ (iV rule) ?_;apply zp τ (by exact Nw (e:=(An (fun h_=>HRL.1 (.inr h_)))));refine Cc Af τ τ ?_;go_upto_region 4 with fail;apply wl;refine Cn Af _ ?_;apply Da 1 [iV 0,iV 0,iV 0,iV 0,.slice none 0 0] F6.1;intro I6 C2 _;apply zq (iV 2);have HE:=zH (show Kp rule rs r=2 from(if_pos HV.1).trans (if_neg HRL.1));go_wp2_with fail
  refine bodyPost_ret (v:= .tuple #[.agg #[iV 0,iV 0,iV 0,iV 0,.slice none 0 0],iV 2]) ?_ rfl ⟨R4.zero,none,0,0,[],by rw[HE.1]<;>rfl,rfl,Ba.nil _ _ _ _,fun h_=>absurd h_ (by rw[HE.1];decide),fun _=>⟨rfl,rfl⟩,C2.1.ext⟩;exact At rfl rfl ((C2.1.blk (i:=1) rR).loadVar rfl rfl rR) rfl
 have K0:=zH (Bool.eq_false_iff.2 HV.1);go_upto_region 1 with fail;refine wp_scope_straight ?_;go_upto_region 1 with fail;apply wl;refine Cn Af _ ?_;refine zc (Ci _ rs _ (HU.1.ext H8.1.ext) HN.1 D0.1) ?_;rintro e I5 ⟨rfl,hx⟩;have F1:=zH (H8.1.step hx);clear hx;refine⟨.bool false,by rw[K0.1],?_⟩;try simp only[ζ]
 apply qV τ;apply zq τ;go_upto_region 2 with fail;apply wl;refine Cn Af _ ?_;apply Da 1 [iV 0,iV 0,iV 0,iV 0,.slice none 0 0] F1.1;intro I4 C1 _;apply zq (iV 12);have HE:=zH (show Kp rule rs r=12 from if_neg HV.1);go_wp2_with fail
 refine bodyPost_ret (v:= .tuple #[.agg #[iV 0,iV 0,iV 0,iV 0,.slice none 0 0],iV 12]) ?_ rfl ⟨R4.zero,none,0,0,[],by rw[HE.1]<;>rfl,rfl,Ba.nil _ _ _ _,fun h_=>absurd h_ (by rw[HE.1];decide),fun _=>⟨rfl,rfl⟩,C1.1.ext⟩;exact At rfl rfl ((C1.1.blk (i:=1) rR).loadVar rfl rfl rR) rfl
def aER (v:Int->Int->Int)(b:R4)(p:Int×Int):R4:=if v p.1 p.2=0 then b else b.uni ⟨p.1,p.2,p.1+1,p.2+1⟩
def rC (v:Int->Int->Int)(l:List (Int×Int)):R4:=l.foldl (aER v) R4.zero
def gO (v:Int->Int->Int)(q:R4):R4:=rC v (Sv q)
theorem Zm (v:Int->Int->Int)(l:List (Int×Int))(p:Int×Int):rC v (l++[p])=aER v (rC v l) p:=by unfold rC;rw[List.foldl_append];rfl
def iY (q:R4)(k:Nat):List (Int×Int):=((Hm q.y0 q.y1).take k).flatMap (iP q)
def Pt (q:R4)(k:Nat)(y:Int)(j:Nat):List (Int×Int):=iY q k++((Hm q.x0 q.x1).take j).map (fun x=>(x,y))
theorem oU {q:R4}{k:Nat}(h:q.y0+(k:Int)<q.y1):iY q (k+1)=Pt q k (q.y0+(k:Int)) (Hm q.x0 q.x1).length:=by
  unfold iY Pt;rw[Nj h,List.flatMap_append,mZZ];simp[iY,iP]
theorem iX {q:R4}{k j:Nat}{y:Int}(h:q.x0+(j:Int)<q.x1):Pt q k y (j+1)=Pt q k y j++[(q.x0+(j:Int),y)]:=by
  unfold Pt;rw[Nj h,jXX,jQQ];rfl
theorem tT {q:R4}{k:Nat}(h:q.y1<=q.y0+(k:Int)):iY q k=Sv q:=by
  unfold iY Sv;rw[cXX (by rw[Ii];omega)]
def aAM (rule:Int)(rs:List Ai)(r:R4):R4:=if Kp rule rs r=0 then gO (Gq rule rs) r.can else R4.zero
def aDZ (E:Int)(b:R4)(w:World)(e:Ending)(w':World):Prop:=e= .returned (.tuple #[.agg #[iV b.x0,iV b.y0,iV b.x1,iV b.y1],iV E])/\Aa w w'
set_option maxRecDepth 200000 in
theorem aAL (A:Option Addr)(cap:Nat)(rs:List Ai)(rule:Int)(r:R4)(w:World)(hu:Cv w (.slice A rs.length cap) rs)(hn:rs.length<=1048576)(hr:∀r,r∈rs->r.length<=1048576)(hs:Fm rs=true->r.ok=true->Gx rs<=16)(hru: -9223372036854775808<=rule/\rule<=9223372036854775807):
  Calls prog 23 #[.slice A rs.length cap,iV rule,.agg #[iV r.x0,iV r.y0,iV r.x1,iV r.y1]] w (aDZ (Kp rule rs r) (aAM rule rs r) w):=by
 have HU:=zH hu;have HN:=zH hn;have E7:=zH hr;clear hu hr;have B2:=zH hs;have E6:=zH hru;clear hs hru;go_enter func23,ntmps23
 have H0:=zH (Hp.start w);go_upto_region 0 with fail;apply wl;apply Cm 24 [iV r.x0,iV r.y0,iV r.x1,iV r.y1] H0.1;intro X1 w2 H3 _;apply Cm 24 [iV 0,iV 0,iV 0,iV 0] H3.1;intro X6 w7 H8 _;apply zq (iV 0);rcases Cx (Kp rule rs r=0)with HE|HE
 ·go_upto_region 1 with fail
  apply wl;refine Dt H8.1 _ (iV rule) _ ?_;refine zc ((Kr A cap rs rule r _ (HU.1.ext H8.1.ext) HN.1 E7.1 B2.1 E6.1).mono (fun _ _ h_=>Em.ok h_ HE.1)) ?_;rintro e F9 ⟨Am,nm,cm,em,rfl,E4,A0,E3,E2,hx⟩;have H5:=zH E4;have H6:=zH E3;have K5:=zH E2;have HA:=zH (show 0<nm->∃g,Am=some ⟨g,0,none⟩from by obtain⟨A_,c_,e_,k_⟩:=Ba.form A0;injection e_ with e1_ e2_ e3_;subst e1_;exact k_);have I6:=zH (show Hp w F9 [.blk X1 24 [iV r.x0,iV r.y0,iV r.x1,iV r.y1],.blk X6 24 [iV 0,iV 0,iV 0,iV 0],ro 5 1 Am nm cm Aw em]from H8.1.addRow hx A0);clear A0 E4 E3 E2 hx;refine zn ?_;refine Dt Af _ _ _ ?_;apply Cm 30 [iV 0,iV 0,iV 0,iV 0,.slice none 0 0] I6.1;intro B8 J5 I5 _;apply Da 3 [iV r.can.x0,iV r.can.y0,iV r.can.x1,iV r.can.y1,.slice Am nm cm] I5.1;intro J4 I4 _;apply zq (iV 0);go_upto_region 2 with fail
  apply wl;apply zq (iV 0);apply zp φ (by exact Nw (e:=(Al (fun h_=>h_ rfl))));generalize hq_:r.can=q at*;have HQ:=zH hq_;have hb:=r.can_bd;have C2:=r.can_ok;rw[hq_]at hb C2;clear hq_;have F0:=zH (show Kg q (Gq rule rs) em from H6.1);have H4:=zH C2;have HB:=zH hb;have K4:=HB.1.1.1;have K3:=HB.1.1.2.1;have K2:=HB.1.1.2.2.1;have K1:=HB.1.1.2.2.2;have K0:=HB.1.2;clear hb C2;go_upto_region 4 with fail
  apply wl;apply Cm 24 [iV 0,iV 0,iV 0,iV 0] I4.1;intro B7 F8 D1 _;go_upto_region 5 with fail;apply wl;refine Fk D1.1 _ _ _ (iV q.y0) ?_;obtain⟨NY,B0⟩:∃NY:Nat,(NY:Int)=q.y1-q.y0:=⟨(q.y1-q.y0).toNat,ω⟩;have E8:=zH B0;obtain⟨NX,B1⟩:∃NX:Nat,(NX:Int)=q.x1-q.x0:=⟨(q.x1-q.x0).toNat,ω⟩;have E9:=zH B1;clear B0 B1;go_wp2_with fail
  go_loopg [11] (NY) (fun cq G6 wr=>∃(k:Nat) (y:Int) (b1:R4),cq=NY-k/\G6= iV y/\(y=q.y0+(k:Int)/\k<=NY)/\(b1=rC (Gq rule rs) (iY q k))/\Hp w wr [.blk X1 24 [iV r.x0,iV r.y0,iV r.x1,iV r.y1],.blk X6 24 [iV 0,iV 0,iV 0,iV 0],.row 5 1 (.slice Am nm cm) (nm) (List.flatMap Aw em),.blk B8 30 [iV q.x0,iV q.y0,iV q.x1,iV q.y1,.slice Am nm cm],.blk B7 24 [iV b1.x0,iV b1.y0,iV b1.x1,iV b1.y1]]/\Ah F8 wr)
  case atStart=>exact⟨0,q.y0,R4.zero,rfl,rfl,⟨ω,eXX _⟩,rfl,D1.1,Ah.refl _⟩
  obtain⟨k,y,b1,rfl,rfl,A2,A5,A8,A9⟩:=hrel;generalize wr=F7 at*;have C5:=zH A2;clear A2;have F3:=zH A5;clear A5;have A6:=zH A8;have J2:=zH A9;clear A8 A9 D1;rcases Cx (y<q.y1)with HLT|HLT
  ·have F2:=True.intro
   have D9:=C5.1;have G8:=E8.1;have J8:=HLT.1;have J6:=D9.1;go_upto_region 6 with fail
   apply wl;refine Fk A6.1 (iV y) _ _ _ ?_;apply zp τ (by exact Eg (e:=(An ω)));go_upto_region 8 with fail;apply wl;refine Fk A6.1 _ _ _ (iV q.x0) ?_;go_wp2_with fail;go_loopg [12] (NX) (fun cq G5 wr=>∃(j:Nat) (x:Int) (b2:R4),cq=NX-j/\G5= iV x/\(x=q.x0+(j:Int)/\j<=NX)/\(b2=rC (Gq rule rs) (Pt q k y j))/\Hp w wr [.blk X1 24 [iV r.x0,iV r.y0,iV r.x1,iV r.y1],.blk X6 24 [iV 0,iV 0,iV 0,iV 0],.row 5 1 (.slice Am nm cm) (nm) (List.flatMap Aw em),.blk B8 30 [iV q.x0,iV q.y0,iV q.x1,iV q.y1,.slice Am nm cm],.blk B7 24 [iV b2.x0,iV b2.y0,iV b2.x1,iV b2.y1]]/\Ah F7 wr)
   case atStart=>exact⟨0,q.x0,b1,rfl,rfl,⟨ω,eXX _⟩,(by rw[F3.1];simp[Pt]),A6.1,Ah.refl _⟩
   obtain⟨j,x,b2,rfl,rfl,A3,A4,A8,A9⟩:=hrel;generalize wr=A7 at*;have C6:=zH A3;clear A3;have D0:=zH A4;clear A4;have A1:=zH A8;have D7:=zH A9;clear A8 A9 A6;rcases Cx (x<q.x1)with HXL|HXL
   ·have H1:=C6.1
    have G7:=HXL.1;have G9:=E9.1;have J7:q.x0<=x/\x<q.x1:=ω
    go_upto_region 9 with fail;apply wl;refine Fk A1.1 (iV x) _ _ _ ?_;apply zp τ (by exact Eg (e:=(An ω)));have C8:=zH (show q.In x y from⟨⟨ω,HLT.1⟩,ω,ω⟩);have C7:=zH (gW H4.1 C8.1);have F1:=zH (F0.1.lt C8.1);have C9:=zH (F0.1.2 x y C8.1);obtain⟨kk,E1⟩:∃kk,q.at x y=kk:=⟨_,rfl⟩;rw[E1]at C7 F1 C9;have H7:=zH (show kk<nm from by rw[H5.1];exact F1.1);clear E1;have E0:=H7.1;obtain⟨gm,C3⟩:=HA.1 ω;subst C3;have E5:=zH (show Pt q k y (j+1)=Pt q k y j++[(x,y)]from by rw[iX ω,<-C6.1.1]);rcases Cx (Gq rule rs x y=0)with HZ|HZ
    ·go_upto_region 11 with fail
     refine zy ?_;have I3:=zH (A1.1.step (Aa.refl A7).drew);have J1:=zH (Ah.of_ext (w:=A7) zb);refine rN A1.1 zb (bs 10 7) 0 1 2 _ _ _ ?_;refine zg 3 (bs 10 15) B8 (0) [iV q.x0,iV q.y0,iV q.x1,iV q.y1] (A1.1.range (i:=3) rR 0 4) underlying24 zb ?_;refine cR Af zb (bs 10 63) 4 5 (iV x) (iV y) ?_;refine mC 6 (bs 10 127) ((tG q x y _).mono fun _ _ h_=>(⟨h_.1.trans (by rw[C7.1]),h_.2⟩:_=Ending.returned (iV ((kk:Nat):Int))/\Aa _ _)) ?_;rintro e F6 ⟨rfl,hx⟩;have I1:=zH (I3.1.step hx);have J0:=zH (show Ah A7.drew F6 from Ah.of_ext hx);have C0:=zH (zb.trans hx);clear hx;apply zm C0.1;refine zu 7 (bs 10 255) (v:= .pointer (some ⟨gm,kk*1,none⟩)) C0.1 ?_ (hv:=by intro w C4;exact Ha (k:=kk) underlying28 (l:=E0) (f:=(cZZ _).symm));refine zf 8 (bs 10 511) gm (kk*1) (.int .u8 (Gq rule rs x y)) (A1.1.elem (f:=Aw) (i:=2) rR Hv C9.1) C0.1 ?_;refine zu 9 (bs 10 1023) (v:= .bool false) C0.1 ?_ (hv:=by intro w C4;exact bZ rR rR rR (Al (fun h_=>h_ HZ.1)));refine wpAnyH_done kR ?_ _;go_upto_region 10 with fail
     apply wl;apply zq (iV x);apply zp (iV (x+1)) (by exact Ht ω);apply zq (iV (x+1));have D6:=tD (tD D7 J1) J0;go_wp2_with fail
     go_roundg (NX-(j+1))
     case measure=>exact(ω)
     case rel=>exact⟨j+1,x+1,b2,rfl,(by go_num),⟨ω,ω⟩,(by rw[E5.1,Zm,<-D0.1];exact(if_pos HZ.1).symm),I1.1,D6.1⟩
    go_upto_region 11 with fail;refine zy ?_;have I0:=zH (A1.1.step (Aa.refl A7).drew);have I9:=zH (Ah.of_ext (w:=A7) zb);refine rN A1.1 zb (bs 10 7) 0 1 2 _ _ _ ?_;refine zg 3 (bs 10 15) B8 (0) [iV q.x0,iV q.y0,iV q.x1,iV q.y1] (A1.1.range (i:=3) rR 0 4) underlying24 zb ?_;refine cR Af zb (bs 10 63) 4 5 (iV x) (iV y) ?_;refine mC 6 (bs 10 127) ((tG q x y _).mono fun _ _ h_=>(⟨h_.1.trans (by rw[C7.1]),h_.2⟩:_=Ending.returned (iV ((kk:Nat):Int))/\Aa _ _)) ?_;rintro e F5 ⟨rfl,hx⟩;have F4:=zH (I0.1.step hx);have I8:=zH (show Ah A7.drew F5 from Ah.of_ext hx);have B9:=zH (zb.trans hx);clear hx;apply zm B9.1;refine zu 7 (bs 10 255) (v:= .pointer (some ⟨gm,kk*1,none⟩)) B9.1 ?_ (hv:=by intro w C4;exact Ha (k:=kk) underlying28 (l:=E0) (f:=(cZZ _).symm));refine zf 8 (bs 10 511) gm (kk*1) (.int .u8 (Gq rule rs x y)) (A1.1.elem (f:=Aw) (i:=2) rR Hv C9.1) B9.1 ?_;refine zu 9 (bs 10 1023) (v:= .bool true) B9.1 ?_ (hv:=by intro w C4;exact bZ rR rR rR (An HZ.1));refine wpAnyH_done kR ?_ _;go_upto_region 12 with fail
    apply wl;refine zd B7 (0) [iV b2.x0,iV b2.y0,iV b2.x1,iV b2.y1] (F4.1.range (i:=4) rR 0 4) underlying24 ?_;refine Dt Af (iV x) (iV y) (iV x) ?_;apply zp (iV (x+1)) (by exact Ht ω);apply zq (iV y);apply zp (iV (y+1)) (by exact Ht ω);apply qV (.agg #[iV x,iV y,iV (x+1),iV (y+1)]);refine aC F4.1 (aBZ b2 ⟨x,y,x+1,y+1⟩ _) ?_;intro J3 H9 I7;apply Da 4 [iV ((b2.uni ⟨x,y,x+1,y+1⟩).x0),iV ((b2.uni ⟨x,y,x+1,y+1⟩).y0),iV ((b2.uni ⟨x,y,x+1,y+1⟩).x1),iV ((b2.uni ⟨x,y,x+1,y+1⟩).y1)] H9.1;intro G4 D5 D8;go_upto_region 10 with fail;apply wl;apply zq (iV x);apply zp (iV (x+1)) (by exact Ht ω);apply zq (iV (x+1));have B6:=tD (tD (tD (tD D7 I9) I8) I7) D8;go_wp2_with fail
    go_roundg (NX-(j+1))
    case measure=>exact(ω)
    case rel=>exact⟨j+1,x+1,(b2.uni ⟨x,y,x+1,y+1⟩),rfl,(by go_num),⟨ω,ω⟩,(by rw[E5.1,Zm,<-D0.1];exact(if_neg HZ.1).symm),D5.1,B6.1⟩
   have H1:=C6.1;have G7:=HXL.1;have G9:=E9.1;go_upto_region 9 with fail
   apply wl;refine Fk A1.1 (iV x) _ _ _ ?_;apply zp φ (by exact Eg (e:=(Al ω)));go_upto_region 7 with fail;apply wl;apply zq (iV y);apply zp (iV (y+1)) (by exact Ht ω);apply zq (iV (y+1));have B5:=tD J2 D7;go_wp2_with fail
   go_roundg (NY-(k+1))
   case measure=>exact(ω)
   case rel=>exact⟨k+1,y+1,b2,rfl,(by go_num),⟨ω,ω⟩,(by rw[D0.1,oU ω,Ii,show(q.x1-q.x0).toNat=j by omega,<-C5.1.1]),A1.1,B5.1⟩
  have F2:=zH (show q.y1<=y from by have:=HLT.1;omega);have D9:=C5.1;have G8:=E8.1;have J9:=F2.1;go_upto_region 6 with fail
  apply wl;refine Fk A6.1 (iV y) _ _ _ ?_;apply zp φ (by exact Eg (e:=(Al ω)));go_upto_region 13 with fail;apply wl;refine zd B7 (0) [iV b1.x0,iV b1.y0,iV b1.x1,iV b1.y1] (A6.1.range (i:=4) rR 0 4) underlying24 ?_;apply Da 1 [iV b1.x0,iV b1.y0,iV b1.x1,iV b1.y1] A6.1;intro G3 B4 _;apply zq (iV 0);go_wp2_with fail;refine bodyPost_ret (v:= .tuple #[.agg #[iV b1.x0,iV b1.y0,iV b1.x1,iV b1.y1],iV 0]) ?_ rfl ⟨by unfold aAM;(try rw[if_pos HE.1]);(try rw[HE.1]);(try rw[HQ.1]);rw[show gO (Gq rule rs) q=b1 from by rw[F3.1];unfold gO;rw[tT ω]]<;>rfl,B4.1.ext⟩;exact At rfl rfl ((B4.1.blk (i:=1) rR).loadVar rfl rfl rR) rfl
 go_upto_region 1 with fail;apply wl;refine Dt H8.1 _ (iV rule) _ ?_;refine zc ((Kr A cap rs rule r _ (HU.1.ext H8.1.ext) HN.1 E7.1 B2.1 E6.1).mono (fun _ _ h_=>Em.bad h_ HE.1)) ?_;rintro e C1 ⟨Am,cm,rfl,A0,hx⟩;have D4:=zH (show Hp w C1 [.blk X1 24 [iV r.x0,iV r.y0,iV r.x1,iV r.y1],.blk X6 24 [iV 0,iV 0,iV 0,iV 0],ro 5 1 Am 0 cm Aw ([])]from H8.1.addRow hx A0);clear A0 hx;refine zn ?_;refine Dt Af _ _ (iV (Kp rule rs r)) ?_;apply Cm 30 [iV 0,iV 0,iV 0,iV 0,.slice none 0 0] D4.1;intro H2 G2 D3 _;apply Da 3 [iV 0,iV 0,iV 0,iV 0,.slice Am 0 cm] D3.1;intro G1 D2 _;apply zq (iV (Kp rule rs r));go_upto_region 2 with fail
 apply wl;apply zq (iV (Kp rule rs r));apply zp τ (by exact Nw (e:=(An HE.1)));go_upto_region 3 with fail;apply wl;refine Cc Af _ (iV (Kp rule rs r)) ?_;apply Da 1 [iV 0,iV 0,iV 0,iV 0] D2.1;intro G0 B3 _;apply zq (iV (Kp rule rs r));go_wp2_with fail;refine bodyPost_ret (v:= .tuple #[.agg #[iV 0,iV 0,iV 0,iV 0],iV (Kp rule rs r)]) ?_ rfl ⟨by unfold aAM;(try rw[if_neg HE.1])<;>rfl,B3.1.ext⟩;exact At rfl rfl ((B3.1.blk (i:=1) rR).loadVar rfl rfl rR) rfl
end
section
def Ik (px:Int)(x:Rat):Rat:=if x-((px:Int):Rat)<((0:Int):Rat)then((0:Int):Rat)else if ((256:Int):Rat)<x-((px:Int):Rat)then((256:Int):Rat)else x-((px:Int):Rat)
def Ll (a b:Int×Int)(lo hi x:Int):Prop:=(a.1≠b.1/\min a.1 b.1<=x/\x<=max a.1 b.1)/\((lo:Int):Rat)<Im a b x/\Im a b x<((hi:Int):Rat)
instance (a b:Int×Int) (lo hi x:Int):Decidable (Ll a b lo hi x):=by unfold Ll;infer_instance
def Iz (a b:Int×Int)(lo hi x:Int):List Rat:=if Ll a b lo hi x then[Im a b x]else[]
def jR (x:Rat):List Rat->List Rat
  | []=>[x]
  |y::l=>if x<=y then x::y::l else y::jR x l
def nQ:List Rat->List Rat
  | []=>[]
  |x::l=>jR x (nQ l)
theorem Rn (x:Rat):∀l:List Rat,(jR x l).Perm (x::l)
  | []=>List.Perm.refl _
  | y::l=>by
    unfold jR;split
    · exact List.Perm.refl _
    exact((Rn x l).cons y).trans (List.Perm.swap x y l)
theorem Ho:∀l:List Rat,(nQ l).Perm l
  | []=>List.Perm.refl _
  |x::l=>(Rn x (nQ l)).trans ((Ho l).cons x)
theorem fG (x:Rat):∀l:List Rat,l.Pairwise (· <= ·)->(jR x l).Pairwise (· <= ·)
  | [],_=>by unfold jR;exact List.pairwise_singleton _ _
  | y::l,h=>by
    obtain⟨h1,h2⟩:=List.pairwise_cons.1 h;unfold jR;split
    · rename_i c
      refine List.pairwise_cons.2 ⟨fun z hz=> ?_,h⟩;rcases List.mem_cons.1 hz with e|e
      · rw[e];exact c
      have:=h1 z e;grind
    rename_i c;refine List.pairwise_cons.2 ⟨fun z hz=> ?_,fG x l h2⟩;rcases List.mem_cons.1 ((Rn x l).mem_iff.1 hz)with e|e
    · rw[e];grind
    exact h1 z e
theorem dI:∀l:List Rat,(nQ l).Pairwise (· <= ·)
  | []=>List.Pairwise.nil
  |x::l=>fG x _ (dI l)
theorem dH:∀{l m:List Rat},l.Pairwise (· <= ·)->m.Pairwise (· <= ·)->l.Perm m->l=m
 | [],m,_,_,h=>h.nil_eq
 |x::l,[],_,_,h=>absurd h.length_eq (by simp)
 |x::l,y::m,h1,h2,h=>by
  obtain⟨a1,a2⟩:=List.pairwise_cons.1 h1;obtain⟨b1,b2⟩:=List.pairwise_cons.1 h2;have e:x=y:=by
   have k1:=h.mem_iff.1 (eQQ (a:=x) (l:=l));have k2:=h.mem_iff.2 (eQQ (a:=y) (l:=m));rcases List.mem_cons.1 k1 with c|c
   ·exact c
   rcases List.mem_cons.1 k2 with d|d
   ·exact d.symm
   have p:=b1 x c;have q:=a1 y d;grind
  subst e;rw[dH a2 b2 (List.Perm.cons_inv h)]
theorem lA {l m:List Rat}(h1:l.Pairwise (· <= ·))(h2:l.Perm m):l=nQ m:=dH h1 (dI m) (h2.trans (Ho m).symm)
def Ex (F:Rat->Rat->Rat):List Rat->Rat
  |x::y::l=>F x y+Ex F (y::l)
  |_=>0
theorem Vp (F:Rat->Rat->Rat):∀(l:List Rat) (k:Nat) (x y:Rat),l[k]?=some x->l[k+1]?=some y->Ex F (l.take (k+2))=Ex F (l.take (k+1))+F x y
  | a::b::l,0,x,y,h1,h2=>by
    simp at h1 h2;subst h1 h2;show F a b+0=0+F a b;grind
  | [a],0,x,y,h1,h2=>by simp at h2
  | a::b::l,k+1,x,y,h1,h2=>by
    have ih:=Vp F (b::l) k x y (by simpa using h1) (by simpa using h2);show F a b+Ex F ((b::l).take (k+2))=F a b+Ex F ((b::l).take (k+1))+F x y;rw[ih];grind
  | [a],k+1,x,y,h1,h2=>by simp at h1
  | [],k,x,y,h1,h2=>by simp at h1
theorem Vq {F:Rat->Rat->Rat}{C:Nat}:∀{l:List Rat},(∀x,x∈l->∀y,y∈l->Nm.rl (F x y)<=C)->Nm.rl (Ex F l)<=2+l.length*(C+1)
  | [],_=>Av (Bu 0 ω ω) (by omega)
  | [_],_=>Av (Bu 0 ω ω) (by omega)
  | x::y::l,h=>by
    have ih:=Vq (l:=y::l) (fun a ha b hb=>h a (cQQ _ ha) b (cQQ _ hb));have h1:=h x eQQ y (cQQ _ eQQ);have h2:=Nm.rl_add (F x y) (Ex F (y::l));show Nm.rl (F x y+Ex F (y::l))<=_;simp only[hQQ]at ih⊢;rw[kQQ (l.length+1)];generalize (l.length+1)*(C+1)=Z at*
    omega
def Ma (px:Int)(a b:Int×Int)(x y:Rat):Rat:=(Ik px (Di a.1 a.2 b.1 b.2 x)+Ik px (Di a.1 a.2 b.1 b.2 y))/2*(y-x)
def Lt (py:Int)(a b:Int×Int):Int:=max py (min a.2 b.2)
def Lu (py:Int)(a b:Int×Int):Int:=min (py+256) (max a.2 b.2)
def Sy (px:Int)(a b:Int×Int)(lo hi:Int):List Rat:=[((lo:Int):Rat),((hi:Int):Rat)]++Iz a b lo hi px++Iz a b lo hi (px+256)
def Gb (px:Int)(a b:Int×Int)(lo hi:Int):List Rat:=nQ (Sy px a b lo hi)
def Ey (p:Int×Int)(a b:Int×Int):Rat:=
  if Lu p.2 a b<=Lt p.2 a b\/max a.1 b.1<=p.1 then((0:Int):Rat)
  else if p.1+256<=min a.1 b.1 then((256*(Lu p.2 a b-Lt p.2 a b):Int):Rat)
  else Ex (Ma p.1 a b) (Gb p.1 a b (Lt p.2 a b) (Lu p.2 a b))
def Pd (p:Int×Int)(s:Rat)(e:Cg):Rat:=if e.1.2<e.2.2 then s+Ey p e.1 e.2 else if e.2.2<e.1.2 then s-Ey p e.1 e.2 else s
def Hl (p:Int×Int)(l:List Cg):Rat:=l.foldl (Pd p) ((0:Int):Rat)
def Hq (rs:List Ai)(p:Int×Int):Rat:=Hl p (Bk rs)/((65536:Int):Rat)
theorem To {px lo hi:Int}{a b:Int×Int}{z:Rat}(h:z∈Gb px a b lo hi)(hl:lo<=hi):((lo:Int):Rat)<=z/\z<=((hi:Int):Rat):=by
 have hq:((lo:Int):Rat)<=((hi:Int):Rat):=by exact_mod_cast hl
 have h:=(Ho _).mem_iff.1 h;unfold Sy Iz at h;rcases List.mem_append.1 h with h|h
 ·rcases List.mem_append.1 h with h|h
  ·rcases List.mem_cons.1 h with e|h
   ·rw[e];exact⟨Rat.le_refl,hq⟩
   rw[List.mem_singleton.1 h];exact⟨hq,Rat.le_refl⟩
  split at h
  ·rename_i c;rw[List.mem_singleton.1 h];have:=c.2;grind
  cases h
 split at h
 ·rename_i c;rw[List.mem_singleton.1 h];have:=c.2;grind
 cases h
theorem uU {px lo hi:Int}{a b:Int×Int}{z:Rat}(h:z∈Gb px a b lo hi)(ha:Du a)(hb:Du b)(h1: -9223372036854775808<=lo/\lo<=9223372036854775807)(h2: -9223372036854775808<=hi/\hi<=9223372036854775807)(h3: -1048576<=px/\px<=1048320):Nm.rl z<=20:=by
 have h:=(Ho _).mem_iff.1 h;unfold Sy Iz at h;rcases List.mem_append.1 h with h|h
 ·rcases List.mem_append.1 h with h|h
  ·rcases List.mem_cons.1 h with e|h
   ·rw[e];exact Av (Bu lo h1.1 h1.2) (by decide)
   rw[List.mem_singleton.1 h];exact Av (Bu hi h2.1 h2.2) (by decide)
  split at h
  ·rw[List.mem_singleton.1 h];exact aG ha hb ⟨ω,ω⟩
  cases h
 split at h
 ·rw[List.mem_singleton.1 h];exact aG ha hb ⟨ω,ω⟩
 cases h
theorem bP (px:Int)(a b:Int×Int)(lo hi:Int):(Gb px a b lo hi).length<=4:=by
  have h:=(Ho (Sy px a b lo hi)).length_eq;unfold Gb;rw[h];unfold Sy Iz;split<;>split<;>simp
theorem zJ (px:Int)(a b:Int×Int)(lo hi:Int):0<(Gb px a b lo hi).length:=by
  unfold Gb;rw[(Ho _).length_eq];simp[Sy]
theorem pB (F:Rat->Rat->Rat)(l:List Rat):Ex F (l.take 1)=((0:Int):Rat):=by
  cases l with
  |nil=>rfl
  |cons x l=>rfl
theorem cJ {px:Int}{x:Rat}{c:Nat}(hx:Nm.rl x<=c)(hp: -9223372036854775808<=px/\px<=9223372036854775807):Nm.rl (Ik px x)<=c+3:=by
  unfold Ik;split
  · exact Av (Bu 0 ω ω) (ω)
  split
  · exact Av (Bu 256 ω ω) (ω)
  have h1:=Nm.rl_sub x ((px:Int):Rat);have h2:=Bu px hp.1 hp.2;omega
theorem rV {px:Int}{a b:Int×Int}{x y:Rat}(ha:Du a)(hb:Du b)(hx:Nm.rl x<=20)(hy:Nm.rl y<=20)(hp: -9223372036854775808<=px/\px<=9223372036854775807):Nm.rl (Ma px a b x y)<=120:=by
 unfold Ma;have k1:=cJ (Md ha hb hx) hp;have k2:=cJ (Md ha hb hy) hp;have h1:=Nm.rl_add (Ik px (Di a.1 a.2 b.1 b.2 x)) (Ik px (Di a.1 a.2 b.1 b.2 y));have h2:=Nm.rl_div (Ik px (Di a.1 a.2 b.1 b.2 x)+Ik px (Di a.1 a.2 b.1 b.2 y)) 2;have h3:Nm.rl (2:Rat)<=2:=Bu 2 ω ω;have h4:=Nm.rl_sub y x;have h5:=Nm.rl_mul ((Ik px (Di a.1 a.2 b.1 b.2 x)+Ik px (Di a.1 a.2 b.1 b.2 y))/2) (y-x);omega
theorem bK {p a b:Int×Int}(ha:Du a)(hb:Du b)(hp:(-1048576<=p.1/\p.1<=1048320)/\ -1048576<=p.2/\p.2<=1048320):Nm.rl (Ey p a b)<=500:=by
 have oa:=Bd ha;have ob:=Bd hb;have l1: -1048576<=Lt p.2 a b/\Lt p.2 a b<=1048576:=by unfold Lt;omega
 have l2: -1048576<=Lu p.2 a b/\Lu p.2 a b<=1048576:=by unfold Lu;omega
 unfold Ey;split
 ·exact Av (Bu 0 ω ω) (ω)
 split
 ·exact Av (Bu _ ω ω) (ω)
 have hr:∀z,z∈Gb p.1 a b (Lt p.2 a b) (Lu p.2 a b)->Nm.rl z<=20:=fun z hz=>uU hz ha hb ⟨ω,ω⟩ ⟨ω,ω⟩ hp.1
 have h:=Vq (F:=Ma p.1 a b) (C:=120) (fun x hx y hy=>rV ha hb (hr x hx) (hr y hy) ⟨ω,ω⟩);have h2:=bP p.1 a b (Lt p.2 a b) (Lu p.2 a b);have h3:=hXX (120+1) h2;omega
theorem rY {p:Int×Int}(hp:(-1048576<=p.1/\p.1<=1048320)/\ -1048576<=p.2/\p.2<=1048320):∀{l:List Cg} {s:Rat},(∀e,e∈l->aFD e)->Nm.rl (l.foldl (Pd p) s)<=Nm.rl s+l.length*501
 | [],s,_=>by simp
 |e::l,s,h=>by
  have he:=h e eQQ;have ih:=rY hp (l:=l) (s:=Pd p s e) (fun x hx=>h x (cQQ _ hx));have k:Nm.rl (Pd p s e)<=Nm.rl s+501:=by
   have h0:=bK (p:=p) he.1 he.2 hp;unfold Pd;split
   ·have:=Nm.rl_add s (Ey p e.1 e.2);omega
   split
   ·have:=Nm.rl_sub s (Ey p e.1 e.2);omega
   omega
  show Nm.rl (l.foldl (Pd p) (Pd p s e))<=_;rw[hQQ,kQQ];omega
end
section
attribute [local go_sem ↓] Go.wp_at_zero Go.wp_at_succ Ae Ad
theorem kT (px py:Int)(r:RV)(x:Rat)(w:World)(hp: -1048576<=px/\px<=1048576)(hx:r.Is w x)(hl:Nm.rl x<=200):
  Calls prog 115 #[.agg #[iV px,iV py],(rg r)] w fun e w'=>∃q:RV,e= .returned (rg q)/\q.Is w' (Ik px x)/\Aa w w':=by
 have HX:=zH hx;have D6:=zH hl;clear hx hl;go_enter func115,ntmps115
 have H0:=zH (Hp.start w);go_upto_region 0 with fail;apply wl;apply Cm 79 [iV px,iV py] H0.1;intro X1 w2 H3 _;apply Cm 58 (rc r) H3.1;intro X6 w7 H8 _;refine Cm 58 rz H8.1 ?_;intro K9 B6 D9 _;go_upto_region 1 with fail;refine zy ?_;have C3:=zH (D9.1.step (Aa.refl B6).drew);refine rN D9.1 zb (bs 7 7) 0 1 2 _ _ _ ?_;refine gG 5 (some 5) 58 rz B6 C3.1 ?_;refine gL 3 (bs 7 39) (bs 7 15) zb.size C3.1 zb (fun xq A5=>Cz px _ ω ω) (by rintro x_ e E4 ⟨c_,rfl,A1,hx⟩;exact hx) ?_;rintro xq e K3 A5 ⟨c_,rfl,A1,hx⟩;replace hx:=A5.trans hx;clear A5;have C2:=zH (C3.1.step hx);have C1:=zH (zb.trans hx);obtain⟨K8,rfl,A0⟩:=A1;have G0:=zH A0;have E3:=zH (Bu px ω ω);clear A0 hx;refine⟨_,rfl,?_⟩;try simp only[ζ]
 refine gL 4 (bs 7 47) (bs 7 31) C1.1.size C2.1 C1.1 (fun xq A5=>eN (L:=60000) (RV.Is.nin (HX.1.dig (C2.1.dig0.trans (Ah.of_ext A5))) (Av D6.1 ω)) (RV.Is.nin (G0.1.dig (Ah.of_ext A5)) (Av E3.1 ω)) ω) (by rintro x_ e E4 ⟨c_,rfl,A1,hx⟩;exact hx) ?_;rintro xq e K2 A5 ⟨c_,rfl,A1,hx⟩;replace hx:=A5.trans hx;clear A5;have H9:=zH (C2.1.step hx);have D5:=zH (C1.1.trans hx);obtain⟨A2,rfl,A0⟩:=A1;have B2:=zH A0;clear A0;have B9:=zH (show Nm.rl (x-(((px):Int):Rat))<=200+2+1 from by have h1:=D6.1;have h2:=E3.1;have h3:=Nm.rl_sub x (((px):Int):Rat);omega);clear hx;refine⟨_,rfl,?_⟩;try simp only[ζ]
 refine gE (bs 7 63) D5.1.size H9.1 D5.1 ?_;intro F2 E9 hx hh hs C8;have H7:=hN hh;have E2:=zH (Ah.of_ext hx);have F3:=zH (show Aa B6 E9 from hs);have I0:=zH (show B6.heap.size<=F2 from C8);clear hh hx C8 hs;try simp only[ζ]
 refine bS 3 6 (bs 7 127) (rc A2) H7.1 F3.1 I0.1 ?_;intro A9 B8 E1 L0;refine wpAnyH_done kR ?_ _;rcases Cx (x-(((px):Int):Rat)<(((0):Int):Rat))with H1|H1
 ·go_upto_region 2 with fail
  refine zy ?_;have H6:=zH (B8.1.step (Aa.refl A9).drew);have J1:=zH (Ah.of_ext (w:=A9) zb);refine Mz B8.1 zb (bs 4 1) 0 _ ?_;refine mC 1 (bs 4 3) (Cz 0 _ ω ω) ?_;rintro e E8 ⟨c_,rfl,A1,hx⟩;have H5:=zH (H6.1.step hx);have J0:=zH (show Ah A9.drew E8 from Ah.of_ext hx);have D4:=zH (zb.trans hx);obtain⟨K7,rfl,A0⟩:=A1;have F9:=zH A0;have J5:=zH (Bu 0 ω ω);clear A0 hx;apply zm D4.1;have C5:=tD (tD (tD E2 E1) J1) J0;refine mC 2 (bs 4 7) (Ga (L:=60000) (RV.Is.nin (B2.1.dig C5.1) (Av B9.1 ω)) (RV.Is.nin F9.1 (Av J5.1 ω)) ω) ?_;rintro e K1 ⟨rfl,hx⟩;have H4:=zH (H5.1.step hx);have D3:=zH (D4.1.trans hx);clear hx;apply zm D3.1;refine zu 3 (bs 4 15) (v:= .bool true) D3.1 ?_ (hv:=by intro w C0;exact Eg (e:=(An (rcmp_lt.2 H1.1))));refine wpAnyH_done kR ?_ _;go_upto_region 3 with fail
  apply wl;refine zc (Cz 0 _ ω ω) ?_;rintro e K0 ⟨c_,rfl,A1,hx⟩;have G9:=zH (H4.1.step hx);obtain⟨A4,rfl,A0⟩:=A1;have F8:=zH A0;clear A0 hx;refine zn ?_;apply Da 2 (rc A4) G9.1;intro J9 D8 I9;go_wp2_with fail
  refine bodyPost_ret (v:= (rg A4)) ?_ rfl ⟨A4,rfl,(show Ik px x=(((0):Int):Rat)from if_pos H1.1)▸(F8.1.dig I9.1),D8.1.ext⟩;exact Ak rfl rfl ((D8.1.blk (i:=2) rR).loadVar rfl rfl rR)
 go_upto_region 2 with fail;refine zy ?_;have G8:=zH (B8.1.step (Aa.refl A9).drew);have I8:=zH (Ah.of_ext (w:=A9) zb);refine Mz B8.1 zb (bs 4 1) 0 _ ?_;refine mC 1 (bs 4 3) (Cz 0 _ ω ω) ?_;rintro e E7 ⟨c_,rfl,A1,hx⟩;have G7:=zH (G8.1.step hx);have I7:=zH (show Ah A9.drew E7 from Ah.of_ext hx);have D2:=zH (zb.trans hx);obtain⟨K6,rfl,A0⟩:=A1;have F7:=zH A0;have J4:=zH (Bu 0 ω ω);clear A0 hx;apply zm D2.1;have A7:=tD (tD (tD E2 E1) I8) I7;refine mC 2 (bs 4 7) (Ga (L:=60000) (RV.Is.nin (B2.1.dig A7.1) (Av B9.1 ω)) (RV.Is.nin F7.1 (Av J4.1 ω)) ω) ?_;rintro e A8 ⟨rfl,hx⟩;have B7:=zH (G7.1.step hx);have E0:=zH (Ah.of_ext hx);have D1:=zH (D2.1.trans hx);clear hx;apply zm D1.1;refine zu 3 (bs 4 15) (v:= .bool false) D1.1 ?_ (hv:=by intro w C0;exact Eg (e:=(Al (fun hh=>H1.1 (rcmp_lt.1 hh)))));refine wpAnyH_done kR ?_ _;rcases Cx ((((256):Int):Rat)<x-(((px):Int):Rat))with H2|H2
 ·go_upto_region 4 with fail
  refine zy ?_;have G6:=zH (B7.1.step (Aa.refl A8).drew);have I6:=zH (Ah.of_ext (w:=A8) zb);refine Mz B7.1 zb (bs 4 1) 0 _ ?_;refine mC 1 (bs 4 3) (Cz 256 _ ω ω) ?_;rintro e E6 ⟨c_,rfl,A1,hx⟩;have G5:=zH (G6.1.step hx);have I5:=zH (show Ah A8.drew E6 from Ah.of_ext hx);have D0:=zH (zb.trans hx);obtain⟨K5,rfl,A0⟩:=A1;have F6:=zH A0;have J3:=zH (Bu 256 ω ω);clear A0 hx;apply zm D0.1;have C4:=tD (tD (tD A7 E0) I6) I5;refine mC 2 (bs 4 7) (Ga (L:=60000) (RV.Is.nin (B2.1.dig C4.1) (Av B9.1 ω)) (RV.Is.nin F6.1 (Av J3.1 ω)) ω) ?_;rintro e J8 ⟨rfl,hx⟩;have G4:=zH (G5.1.step hx);have C9:=zH (D0.1.trans hx);clear hx;apply zm C9.1;refine zu 3 (bs 4 15) (v:= .bool true) C9.1 ?_ (hv:=by intro w C0;exact Sn (e:=(An (Ia.2 H2.1))));refine wpAnyH_done kR ?_ _;go_upto_region 5 with fail
  apply wl;refine zc (Cz 256 _ ω ω) ?_;rintro e J7 ⟨c_,rfl,A1,hx⟩;have G3:=zH (G4.1.step hx);obtain⟨A3,rfl,A0⟩:=A1;have F5:=zH A0;clear A0 hx;refine zn ?_;apply Da 2 (rc A3) G3.1;intro J6 D7 I4;go_wp2_with fail
  refine bodyPost_ret (v:= (rg A3)) ?_ rfl ⟨A3,rfl,(show Ik px x=(((256):Int):Rat)from(if_neg H1.1).trans (if_pos H2.1))▸(F5.1.dig I4.1),D7.1.ext⟩;exact Ak rfl rfl ((D7.1.blk (i:=2) rR).loadVar rfl rfl rR)
 go_upto_region 4 with fail;refine zy ?_;have G2:=zH (B7.1.step (Aa.refl A8).drew);have I3:=zH (Ah.of_ext (w:=A8) zb);refine Mz B7.1 zb (bs 4 1) 0 _ ?_;refine mC 1 (bs 4 3) (Cz 256 _ ω ω) ?_;rintro e E5 ⟨c_,rfl,A1,hx⟩;have G1:=zH (G2.1.step hx);have I1:=zH (show Ah A8.drew E5 from Ah.of_ext hx);have B1:=zH (zb.trans hx);obtain⟨K4,rfl,A0⟩:=A1;have F4:=zH A0;have J2:=zH (Bu 256 ω ω);clear A0 hx;apply zm B1.1;have A6:=tD (tD (tD A7 E0) I3) I1;refine mC 2 (bs 4 7) (Ga (L:=60000) (RV.Is.nin (B2.1.dig A6.1) (Av B9.1 ω)) (RV.Is.nin F4.1 (Av J2.1 ω)) ω) ?_;rintro e F1 ⟨rfl,hx⟩;have B4:=zH (G1.1.step hx);have C7:=zH (Ah.of_ext hx);have B0:=zH (B1.1.trans hx);clear hx;apply zm B0.1;refine zu 3 (bs 4 15) (v:= .bool false) B0.1 ?_ (hv:=by intro w C0;exact Sn (e:=(Al (fun hh=>H2.1 (Ia.1 hh)))));refine wpAnyH_done kR ?_ _;go_upto_region 6 with fail
 apply wl;refine Cn B4.1 _ ?_;apply Da 2 (rc A2) B4.1;intro F0 B3 C6;have B5:=tD (tD A6 C7) C6;go_wp2_with fail
 refine bodyPost_ret (v:= (rg A2)) ?_ rfl ⟨A2,rfl,(show Ik px x=x-(((px):Int):Rat)from(if_neg H1.1).trans (if_neg H2.1))▸(B2.1.dig B5.1),B3.1.ext⟩;exact Ak rfl rfl ((B3.1.blk (i:=2) rR).loadVar rfl rfl rR)
theorem Ra (px py:Int)(w:World)(hp:(-1048576<=px/\px<=1048576)/\ -1048576<=py/\py<=1048576):Calls prog 112 #[.agg #[iV px,iV py]] w fun e w'=>e= .returned (iV (px+256))/\Aa w w':=by
 go_enter func112,ntmps112;have H0:=zH (Hp.start w);go_upto_region 0 with fail;apply wl;apply Cm 79 [iV px,iV py] H0.1;intro A2 A1 A0 _;apply zq (iV 0);go_upto_region 1 with fail;apply wl;refine Cc A0.1 _ _ ?_;apply zp (iV (px+256)) (by exact Ht ω);apply zq (iV (px+256));go_wp2_with fail;go_ret;exact⟨rfl,A0.1.ext⟩
theorem kL (px py:Int)(w:World)(hp:(-1048576<=px/\px<=1048576)/\ -1048576<=py/\py<=1048576):Calls prog 111 #[.agg #[iV px,iV py]] w fun e w'=>e= .returned (iV (py+256))/\Aa w w':=by
 go_enter func111,ntmps111;have H0:=zH (Hp.start w);go_upto_region 0 with fail;apply wl;apply Cm 79 [iV px,iV py] H0.1;intro A2 A1 A0 _;apply zq (iV 0);go_upto_region 1 with fail;apply wl;refine Cc A0.1 _ _ ?_;apply zp (iV (py+256)) (by exact Ht ω);apply zq (iV (py+256));go_wp2_with fail;go_ret;exact⟨rfl,A0.1.ext⟩
def qW (px:Int)(a b:Int×Int)(lo hi:Int)(k:Nat):List Rat:=(if 0<k then Iz a b lo hi px else[])++(if 1<k then Iz a b lo hi (px+256)else[])
theorem Nn {px:Int}{a b:Int×Int}{lo hi:Int}{k:Nat}(h:k<2):qW px a b lo hi (k+1)=qW px a b lo hi k++Iz a b lo hi (if k=0 then px else px+256):=by
  rcases(by omega:k=0\/k=1)with rfl|rfl<;>simp[qW]
theorem vS (px:Int)(a b:Int×Int)(lo hi:Int): [((lo:Int):Rat),((hi:Int):Rat)]++qW px a b lo hi 2=Sy px a b lo hi:=by simp[qW,Sy]
theorem aAG {a b:Int×Int}{lo hi x:Int}(h:Ll a b lo hi x):Iz a b lo hi x=[Im a b x]:=if_pos h
theorem kD {a b:Int×Int}{lo hi x:Int}(h:¬Ll a b lo hi x):Iz a b lo hi x=[]:=if_neg h
theorem zL (px py:Int)(a b:Int×Int)(lo hi:Int)(w:World)(hp:(-1048576<=px/\px<=1048320)/\ -1048576<=py/\py<=1048320)(oa:Du a)(ob:Du b)(hlo: -1048576<=lo/\lo<=1048576)(hhi: -1048576<=hi/\hi<=1048576):
  Calls prog 113 #[.agg #[iV px,iV py],.agg #[iV a.1,iV a.2],.agg #[iV b.1,iV b.2],iV lo,iV hi] w fun e w'=>∃(A:Option Addr) (n c:Nat) (es:List Ca),e= .returned (.slice A n c)/\n=es.length/\Ba w' w.heap.size 58 4 (.slice A n c) n (List.flatMap Ca.cells es)/\es.map Ca.q=Gb px a b lo hi/\(∀e,e∈es->e.Ok 24 w')/\Aa w w':=by
 have O2:=zH oa;have O1:=zH ob;have Q2:=zH hlo;have Q3:=zH hhi;have Q1:=zH hp;clear oa ob;go_enter func113,ntmps113
 have H0:=zH (Hp.start w);go_upto_region 0 with fail;apply wl;apply Cm 79 [iV px,iV py] H0.1;intro X1 w2 H3 _;apply Cm 44 [iV a.1,iV a.2] H3.1;intro X6 w7 H8 _;apply Cm 44 [iV b.1,iV b.2] H8.1;intro G9 P7 P2 _;refine Cn Af _ ?_;go_upto_region 1 with fail;apply wl;apply qV (iV lo);refine zc (Cz lo _ ω ω) ?_;rintro e P6 ⟨c_,rfl,I7,hx⟩;have P1:=zH (P2.1.step hx);obtain⟨A2,rfl,C3⟩:=I7;have H4:=zH C3;have H9:=zH (Bu lo ω ω);clear C3 hx;refine zn ?_;apply qV (iV hi);refine zc (Cz hi _ ω ω) ?_;rintro e P5 ⟨c_,rfl,I7,hx⟩;have P0:=zH (P1.1.step hx);have H7:=zH (Ah.of_ext hx);obtain⟨A3,rfl,C3⟩:=I7;have J0:=zH C3;have K8:=zH (Bu hi ω ω);clear C3 hx;refine zn ?_;apply Zp 2 58 [.bool A2.n,.slice A2.p A2.l A2.c,.bool A2.m,.slice A2.p2 A2.l2 A2.c2,.bool A3.n,.slice A3.p A3.l A3.c,.bool A3.m,.slice A3.p2 A3.l2 A3.c2] P0.1;intro G8 D7 M5 D1;refine Cn Af _ ?_;have J3:=zH (show Hp w D7 [.blk X1 79 [iV px,iV py],.blk X6 44 [iV a.1,iV a.2],.blk G9 44 [iV b.1,iV b.2],ro 58 4 (π G8) 2 2 Ca.cells ([(⟨A2,(((lo):Int):Rat)⟩:Ca),(⟨A3,(((hi):Int):Rat)⟩:Ca)])]from M5.1.turn (r:=none) (i:=3) (e:= .blk G8 58 [.bool A2.n,.slice A2.p A2.l A2.c,.bool A2.m,.slice A2.p2 A2.l2 A2.c2,.bool A3.n,.slice A3.p A3.l A3.c,.bool A3.m,.slice A3.p2 A3.l2 A3.c2]) (e':= .row 58 4 (.slice (π G8) 2 2) (2) (List.flatMap Ca.cells ([(⟨A2,(((lo):Int):Rat)⟩:Ca),(⟨A3,(((hi):Int):Rat)⟩:Ca)]))) (by rfl) (fun k h=>by cases h) (World.grownBy.refl _ _) (M5.1.litRow17 (i:=3) (n:=2) (by rfl) (by rfl) (by decide)) (fun k hk=> .inl hk));go_upto_region 2 with fail
 refine zy ?_;have O9:=zH (J3.1.step (Aa.refl D7).drew);have D0:=zH (Ah.of_ext (w:=D7) zb);refine zx 0 (bs 7 1) (.pointer (π X1)) zb ?_;refine Ec (g:=X1) (o:=0) (v:= iV px) (i:=1) (listed':=(bs 7 3)) rR kR kR kR (by intro _ _ _ h;exact h) rR (fun x hx=>Aa.get hx (show World.cell? D7 ⟨X1,0,none⟩=some (iV px)from Aj (J3.1.range (i:=0) rR 0 1))) (by intro x hq;go_simp<;>with_reducible rfl) zb kR ?_;refine zg 2 (bs 7 7) X1 (0) [iV px,iV py] (J3.1.range (i:=0) rR 0 2) underlying79 zb ?_;refine zx 6 (bs 7 71) (iV 0) zb ?_;refine mC 3 (bs 7 79) (Ra px py _ ⟨⟨ω,ω⟩,ω,ω⟩) ?_;rintro e M9 ⟨rfl,hx⟩;have O8:=zH (O9.1.step hx);have C9:=zH (show Ah D7.drew M9 from Ah.of_ext hx);have M0:=zH (zb.trans hx);clear hx;apply zm M0.1;refine Rj (T:=3) (zs:=[iV px,iV (px+256)]) (n:=2) (i:=4) (listed':=(bs 7 95)) rR kR rR (by go_simp) kR O8.1 (by simp[Ar]) ?_;intro I8 M8 hh hx N7;have M4:=hN hh;have C8:=zH (Ah.of_ext hx);have L9:=zH (M0.1.trans hx);clear hh hx N7;refine⟨L9.1,?_⟩;try simp only[ζ]
 refine zx 5 (bs 7 127) (iV 2) L9.1 ?_;refine wpAnyH_done kR ?_ _;go_wp2_with fail;go_loopg [27,11] (2) (fun cq N5 N4 wr=>∃(kx:Nat) (A1:Option Addr) (n1:Nat) (c1:Nat) (fs:List Ca),cq=2-kx/\N5= iV (kx:Int)/\N4= .slice A1 n1 c1/\(kx<=2)/\(n1=fs.length+2/\n1<=2+kx)/\(fs.map Ca.q=qW px a b lo hi kx)/\(∀e,e∈fs->e.Ok 24 wr)/\Hp w wr [.blk X1 79 [iV px,iV py],.blk X6 44 [iV a.1,iV a.2],.blk G9 44 [iV b.1,iV b.2],.row 58 4 (.slice A1 n1 c1) (n1) (List.flatMap Ca.cells ((⟨A2,(((lo):Int):Rat)⟩:Ca)::(⟨A3,(((hi):Int):Rat)⟩:Ca)::fs)),.blk I8 3 [iV px,iV (px+256)]]/\Ah M8 wr)
 case atStart=>exact⟨0,some ⟨G8,0,none⟩,2,2,[],rfl,rfl,rfl,ω,⟨rfl,ω⟩,rfl,(fun _ h_=>by cases h_),M4.1,Ah.refl _⟩
 obtain⟨kx,A1,n1,c1,fs,rfl,rfl,rfl,C0,B9,C1,C2,L3,L5⟩:=hrel;generalize wr=L0 at*;have O3:=zH C0;clear C0;have D5:=zH B9;clear B9;have E0:=zH C1;clear C1;have E1:=zH C2;clear C2;have B2:=zH L3;have B0:=zH L5;clear L3 L5 M4;rcases Cx (kx<2)with HKT|HKT
 ·have P9:=HKT.1
  obtain⟨xv,L1⟩:∃xv,xv=if kx=0 then px else px+256:=⟨_,rfl⟩
  have D4:=zH L1;clear L1;have P8: -1048576<=xv/\xv<=1048576:=by rw[D4.1];split<;>omega
  obtain⟨g1,I6⟩:=Ba.form (B2.1.row (i:=3) (by rfl)) |>.elim (fun A_ h_=>h_.elim (fun c_ L7=>(show∃g1,A1=some ⟨g1,0,none⟩from by obtain⟨e_,N8⟩:=L7;injection e_ with e1_ e2_ e3_;subst e1_;exact N8 (by have Q0:=D5.1.1;omega))));subst I6;have N6:fs.length+2<=n1/\n1<=fs.length+2/\n1<=2+kx:=by have h_:=D5.1;omega
  have J2:=zH (show((⟨A2,(((lo):Int):Rat)⟩:Ca)::(⟨A3,(((hi):Int):Rat)⟩:Ca)::fs)[0]?=some (⟨A2,(((lo):Int):Rat)⟩:Ca)from rfl);have M2:=zH (show((⟨A2,(((lo):Int):Rat)⟩:Ca)::(⟨A3,(((hi):Int):Rat)⟩:Ca)::fs)[1]?=some (⟨A3,(((hi):Int):Rat)⟩:Ca)from rfl);go_upto_region 3 with fail
  apply wl;apply zp τ (by exact Eg (e:=(An ω)));go_upto_region 4 with fail;apply wl;apply zp (.pointer (some ⟨I8,kx,none⟩)) (by exact Ha (k:=kx) underlying159 (l:=(by have h_:=HKT.1;omega)) (f:=(show kx=0+kx*1 by omega)));refine ze I8 kx (iV xv) (by rw[D4.1];exact eY B2.1 (i:=4) rR kx HKT.1) ?_;apply zq (iV xv);rcases Cx (cZ a b xv)with HYC|HYC
  ·go_upto_region 5 with fail
   apply wl;refine zd X6 (0) [iV a.1,iV a.2] (B2.1.range (i:=1) rR 0 2) underlying44 ?_;refine zd G9 (0) [iV b.1,iV b.2] (B2.1.range (i:=2) rR 0 2) underlying44 ?_;apply qV (iV xv);refine zc (((Tb a b xv _ ω).mono (fun _ _ h_=>Qu.yes h_ HYC.1))) ?_;rintro e P4 ⟨A0,rfl,C3,hx⟩;have O7:=zH (B2.1.step hx);have A9:=zH (Ah.of_ext hx);have D3:=zH C3;have D6:=zH (aG (x:=xv) HYC.1.1 HYC.1.2.1 ⟨ω,ω⟩);clear C3 hx;refine zn ?_;refine Dt Af _ _ τ ?_;refine Cm 58 rz O7.1 ?_;intro D9 P3 O6 A7;apply Da 5 (rc A0) O6.1;intro B3 A8 A6;apply zq τ;rcases Cx ((((lo):Int):Rat)<(Im a b xv))with H1|H1
   ·rcases Cx ((Im a b xv)<(((hi):Int):Rat))with H2|H2
    ·go_upto_region 6 with fail
     refine zy ?_;have O5:=zH (A8.1.step (Aa.refl B3).drew);have G1:=zH (Ah.of_ext (w:=B3) zb);refine zx 0 (bs 17 1) τ zb ?_;refine mX 1 (bs 17 3) τ zb ?_;refine zg 2 (bs 17 7) D9 (0) (rc A0) (A8.1.range (i:=5) rR 0 4) underlying58 zb ?_;refine zx 3 (bs 17 15) (.slice (π g1) n1 c1) zb ?_;refine zo 4 (bs 17 31) (v:= .pointer (some ⟨g1,0*4,none⟩)) zb ?_ (hv:=by intro w B5;exact Ha (k:=0) underlying127 (l:=(show 0<n1 by omega)) (f:=(cZZ _).symm));refine zg 5 (bs 17 63) g1 (0*4) (rc A2) (A8.1.elem (f:=Ca.cells) (i:=3) rR Ca.len J2.1) underlying58 zb ?_;have E4:=tD (tD A7 A6) G1;have K5:=tD (tD (tD (tD (tD (tD (tD (tD (tD H7 D1) D0) C9) C8) B0) A9) A7) A6) G1;refine mC 6 (bs 17 127) (Ga (L:=60000) (RV.Is.nin (D3.1.dig E4.1) (Av D6.1 ω)) (RV.Is.nin (H4.1.dig K5.1) (Av H9.1 ω)) ω) ?_;rintro e M7 ⟨rfl,hx⟩;have O4:=zH (O5.1.step hx);have H6:=zH (show Ah B3.drew M7 from Ah.of_ext hx);have B6:=zH (zb.trans hx);clear hx;apply zm B6.1;refine zu 7 (bs 17 255) (v:= .bool true) B6.1 ?_ (hv:=by intro w B5;exact Sn (e:=(An (Ia.2 H1.1))));refine zx 8 (bs 17 511) τ B6.1 ?_;refine mX 9 (bs 17 1023) τ B6.1 ?_;refine zg 10 (bs 17 2047) D9 (0) (rc A0) (A8.1.range (i:=5) rR 0 4) underlying58 B6.1 ?_;refine zx 11 (bs 17 4095) (.slice (π g1) n1 c1) B6.1 ?_;refine zo 12 (bs 17 8191) (v:= .pointer (some ⟨g1,1*4,none⟩)) B6.1 ?_ (hv:=by intro w B5;exact Ha (k:=1) underlying127 (l:=(show 1<n1 by omega)) (f:=(cZZ _).symm));refine zg 13 (bs 17 16383) g1 (1*4) (rc A3) (A8.1.elem (f:=Ca.cells) (i:=3) rR Ca.len M2.1) underlying58 B6.1 ?_;have E3:=tD E4 H6;have K4:=tD (tD (tD (tD (tD (tD (tD (tD (tD D1 D0) C9) C8) B0) A9) A7) A6) G1) H6;refine mC 14 (bs 17 32767) (Ga (L:=60000) (RV.Is.nin (D3.1.dig E3.1) (Av D6.1 ω)) (RV.Is.nin (J0.1.dig K4.1) (Av K8.1 ω)) ω) ?_;rintro e K9 ⟨rfl,hx⟩;have M3:=zH (O4.1.step hx);have K6:=zH (Ah.of_ext hx);have I9:=zH (B6.1.trans hx);clear hx;apply zm I9.1;refine zu 15 (bs 17 65535) (v:= .bool true) I9.1 ?_ (hv:=by intro w B5;exact Eg (e:=(An (rcmp_lt.2 H2.1))));refine zx 16 (bs 17 131071) τ I9.1 ?_;refine wpAnyH_done kR ?_ _;have HC:=zH (aAG (show Ll a b lo hi xv from⟨HYC.1.2.2,H1.1,H2.1⟩));go_upto_region 7 with fail
     apply wl;refine Cc M3.1 _ _ ?_;refine zp (w':=(K9.alloc (.cells ((rc A0):List Value).toArray 58))) (.slice (π K9.heap.size) 1 1) (by go_simp) ?_;refine Mm rR _ _ _ rR aBH rR M3.1 (ix:=3) rR 1 1 (rc A0) rR rfl (by simp[Value.oneCell']) (by simp[Ar]) dC (by unfold maxLen;exact ω) ω ?_;intro D8 C4 N3 hf hh hd hg;have M6:=zH hf;clear hf;rw[show List.flatMap Ca.cells ((⟨A2,(((lo):Int):Rat)⟩:Ca)::(⟨A3,(((hi):Int):Rat)⟩:Ca)::fs)++(rc A0)=_ from Fs Ca.cells _ (⟨A0,(Im a b xv)⟩:Ca)]at hh;have K3:=hN hh;have D2:=zH (hd);clear hh hd hg;try simp only[ζ]
     apply zq (.slice (π D8) (n1+1) C4);have G0:=tD (tD E3 K6) D2;go_upto_region 8 with fail
     apply wl;apply zp (iV ((kx+1:Nat):Int)) (by exact Ht ω);apply zq (iV ((kx+1:Nat):Int));have F9:=tD (tD (tD (tD (tD (tD A9 A7) A6) G1) H6) K6) D2;have F8:=tD (tD (tD (tD (tD (tD (tD B0 A9) A7) A6) G1) H6) K6) D2;go_wp2_with fail
     go_roundg (2-(kx+1))
     case measure=>exact(by have C6:=(show kx<2 from HKT.1);omega)
     case rel=>exact⟨kx+1,some ⟨D8,0,none⟩,n1+1,C4,(fs++[(⟨A0,(Im a b xv)⟩:Ca)]),rfl,(by go_num),rfl,ω,⟨by simp;omega,ω⟩,(by rw[Nn HKT.1,<-D4.1,HC.1,<-E0.1];simp),(fun g_ hg_=>(List.mem_append.1 hg_).elim (fun hg_=>(E1.1 g_ hg_).dig F9.1) (fun hg_=>by rw[List.mem_singleton.1 hg_];exact⟨(D3.1.dig G0.1),Av D6.1 (by decide)⟩)),K3.1.take 5,F8.1⟩
    go_upto_region 6 with fail;refine zy ?_;have K2:=zH (A8.1.step (Aa.refl B3).drew);have B1:=zH (Ah.of_ext (w:=B3) zb);refine zx 0 (bs 17 1) τ zb ?_;refine mX 1 (bs 17 3) τ zb ?_;refine zg 2 (bs 17 7) D9 (0) (rc A0) (A8.1.range (i:=5) rR 0 4) underlying58 zb ?_;refine zx 3 (bs 17 15) (.slice (π g1) n1 c1) zb ?_;refine zo 4 (bs 17 31) (v:= .pointer (some ⟨g1,0*4,none⟩)) zb ?_ (hv:=by intro w B5;exact Ha (k:=0) underlying127 (l:=(show 0<n1 by omega)) (f:=(cZZ _).symm));refine zg 5 (bs 17 63) g1 (0*4) (rc A2) (A8.1.elem (f:=Ca.cells) (i:=3) rR Ca.len J2.1) underlying58 zb ?_;have C5:=tD (tD A7 A6) B1;have F7:=tD (tD (tD (tD (tD (tD (tD (tD (tD H7 D1) D0) C9) C8) B0) A9) A7) A6) B1;refine mC 6 (bs 17 127) (Ga (L:=60000) (RV.Is.nin (D3.1.dig C5.1) (Av D6.1 ω)) (RV.Is.nin (H4.1.dig F7.1) (Av H9.1 ω)) ω) ?_;rintro e I3 ⟨rfl,hx⟩;have K1:=zH (K2.1.step hx);have B8:=zH (show Ah B3.drew I3 from Ah.of_ext hx);have A5:=zH (zb.trans hx);clear hx;apply zm A5.1;refine zu 7 (bs 17 255) (v:= .bool true) A5.1 ?_ (hv:=by intro w B5;exact Sn (e:=(An (Ia.2 H1.1))));refine zx 8 (bs 17 511) τ A5.1 ?_;refine mX 9 (bs 17 1023) τ A5.1 ?_;refine zg 10 (bs 17 2047) D9 (0) (rc A0) (A8.1.range (i:=5) rR 0 4) underlying58 A5.1 ?_;refine zx 11 (bs 17 4095) (.slice (π g1) n1 c1) A5.1 ?_;refine zo 12 (bs 17 8191) (v:= .pointer (some ⟨g1,1*4,none⟩)) A5.1 ?_ (hv:=by intro w B5;exact Ha (k:=1) underlying127 (l:=(show 1<n1 by omega)) (f:=(cZZ _).symm));refine zg 13 (bs 17 16383) g1 (1*4) (rc A3) (A8.1.elem (f:=Ca.cells) (i:=3) rR Ca.len M2.1) underlying58 A5.1 ?_;have F6:=tD C5 B8;have F5:=tD (tD (tD (tD (tD (tD (tD (tD (tD D1 D0) C9) C8) B0) A9) A7) A6) B1) B8;refine mC 14 (bs 17 32767) (Ga (L:=60000) (RV.Is.nin (D3.1.dig F6.1) (Av D6.1 ω)) (RV.Is.nin (J0.1.dig F5.1) (Av K8.1 ω)) ω) ?_;rintro e N2 ⟨rfl,hx⟩;have K0:=zH (K1.1.step hx);have G7:=zH (Ah.of_ext hx);have C7:=zH (A5.1.trans hx);clear hx;apply zm C7.1;refine zu 15 (bs 17 65535) (v:= .bool false) C7.1 ?_ (hv:=by intro w B5;exact Eg (e:=(Al (fun hh=>H2.1 (rcmp_lt.1 hh)))));refine zx 16 (bs 17 131071) φ C7.1 ?_;refine wpAnyH_done kR ?_ _;have HC:=zH (kD (show¬Ll a b lo hi xv from fun h_=>H2.1 h_.2.2));go_upto_region 8 with fail
    apply wl;apply zp (iV ((kx+1:Nat):Int)) (by exact Ht ω);apply zq (iV ((kx+1:Nat):Int));have F4:=tD (tD (tD (tD (tD A9 A7) A6) B1) B8) G7;have F3:=tD (tD (tD (tD (tD (tD B0 A9) A7) A6) B1) B8) G7;go_wp2_with fail
    go_roundg (2-(kx+1))
    case measure=>exact(by have C6:=(show kx<2 from HKT.1);omega)
    case rel=>exact⟨kx+1,some ⟨g1,0,none⟩,n1,c1,fs,rfl,(by go_num),rfl,ω,⟨by exact D5.1.1,ω⟩,(by rw[Nn HKT.1,<-D4.1,HC.1,gXX];exact E0.1),(fun g_ hg_=>(E1.1 g_ hg_).dig F4.1),K0.1.take 5,F3.1⟩
   go_upto_region 6 with fail;refine zy ?_;have J9:=zH (A8.1.step (Aa.refl B3).drew);have B7:=zH (Ah.of_ext (w:=B3) zb);refine zx 0 (bs 17 1) τ zb ?_;refine mX 1 (bs 17 3) τ zb ?_;refine zg 2 (bs 17 7) D9 (0) (rc A0) (A8.1.range (i:=5) rR 0 4) underlying58 zb ?_;refine zx 3 (bs 17 15) (.slice (π g1) n1 c1) zb ?_;refine zo 4 (bs 17 31) (v:= .pointer (some ⟨g1,0*4,none⟩)) zb ?_ (hv:=by intro w B5;exact Ha (k:=0) underlying127 (l:=(show 0<n1 by omega)) (f:=(cZZ _).symm));refine zg 5 (bs 17 63) g1 (0*4) (rc A2) (A8.1.elem (f:=Ca.cells) (i:=3) rR Ca.len J2.1) underlying58 zb ?_;have F2:=tD (tD A7 A6) B7;have F1:=tD (tD (tD (tD (tD (tD (tD (tD (tD H7 D1) D0) C9) C8) B0) A9) A7) A6) B7;refine mC 6 (bs 17 127) (Ga (L:=60000) (RV.Is.nin (D3.1.dig F2.1) (Av D6.1 ω)) (RV.Is.nin (H4.1.dig F1.1) (Av H9.1 ω)) ω) ?_;rintro e I1 ⟨rfl,hx⟩;have J8:=zH (J9.1.step hx);have G6:=zH (show Ah B3.drew I1 from Ah.of_ext hx);have A4:=zH (zb.trans hx);clear hx;apply zm A4.1;refine zu 7 (bs 17 255) (v:= .bool false) A4.1 ?_ (hv:=by intro w B5;exact Sn (e:=(Al (fun hh=>H1.1 (Ia.1 hh)))));refine zx 8 (bs 17 511) φ A4.1 ?_;refine zx 9 (bs 17 1023) φ A4.1 ?_;refine zs 10 (bs 17 2047) A4.1 ?_;refine zs 11 (bs 17 4095) A4.1 ?_;refine zs 12 (bs 17 8191) A4.1 ?_;refine zs 13 (bs 17 16383) A4.1 ?_;refine zs 14 (bs 17 32767) A4.1 ?_;refine zs 15 (bs 17 65535) A4.1 ?_;refine zx 16 (bs 17 131071) φ A4.1 ?_;refine wpAnyH_done kR ?_ _;have HC:=zH (kD (show¬Ll a b lo hi xv from fun h_=>H1.1 h_.2.1));go_upto_region 8 with fail
   apply wl;apply zp (iV ((kx+1:Nat):Int)) (by exact Ht ω);apply zq (iV ((kx+1:Nat):Int));have F0:=tD (tD (tD (tD A9 A7) A6) B7) G6;have E9:=tD (tD (tD (tD (tD B0 A9) A7) A6) B7) G6;go_wp2_with fail
   go_roundg (2-(kx+1))
   case measure=>exact(by have C6:=(show kx<2 from HKT.1);omega)
   case rel=>exact⟨kx+1,some ⟨g1,0,none⟩,n1,c1,fs,rfl,(by go_num),rfl,ω,⟨by exact D5.1.1,ω⟩,(by rw[Nn HKT.1,<-D4.1,HC.1,gXX];exact E0.1),(fun g_ hg_=>(E1.1 g_ hg_).dig F0.1),J8.1.take 5,E9.1⟩
  go_upto_region 5 with fail;apply wl;refine zd X6 (0) [iV a.1,iV a.2] (B2.1.range (i:=1) rR 0 2) underlying44 ?_;refine zd G9 (0) [iV b.1,iV b.2] (B2.1.range (i:=2) rR 0 2) underlying44 ?_;apply qV (iV xv);refine aC B2.1 (((Tb a b xv _ ω).mono (fun _ _ h_=>Qu.no h_ HYC.1))) ?_;intro N1 J7 G5;refine Dt Af _ _ φ ?_;refine Cm 58 rz J7.1 ?_;intro N9 N0 J6 G4;refine Da 5 rz J6.1 ?_;intro B4 J5 G3;apply zq φ;go_upto_region 6 with fail;refine zy ?_;have J4:=zH (J5.1.step (Aa.refl B4).drew);have G2:=zH (Ah.of_ext (w:=B4) zb);refine zx 0 (bs 17 1) φ zb ?_;refine zx 1 (bs 17 3) φ zb ?_;refine zs 2 (bs 17 7) zb ?_;refine zs 3 (bs 17 15) zb ?_;refine zs 4 (bs 17 31) zb ?_;refine zs 5 (bs 17 63) zb ?_;refine zs 6 (bs 17 127) zb ?_;refine zs 7 (bs 17 255) zb ?_;refine zx 8 (bs 17 511) φ zb ?_;refine zx 9 (bs 17 1023) φ zb ?_;refine zs 10 (bs 17 2047) zb ?_;refine zs 11 (bs 17 4095) zb ?_;refine zs 12 (bs 17 8191) zb ?_;refine zs 13 (bs 17 16383) zb ?_;refine zs 14 (bs 17 32767) zb ?_;refine zs 15 (bs 17 65535) zb ?_;refine zx 16 (bs 17 131071) φ zb ?_;refine wpAnyH_done kR ?_ _;have HC:=zH (kD (show¬Ll a b lo hi xv from fun h_=>HYC.1 ⟨O2.1,O1.1,h_.1⟩));go_upto_region 8 with fail
  apply wl;refine zp (w':=B4.drew) (iV ((kx+1:Nat):Int)) (by exact Ht ω) ?_;refine zp (w':=B4.drew) (iV ((kx+1:Nat):Int)) (by go_simp<;>with_reducible rfl) ?_;have E8:=tD (tD (tD G5 G4) G3) G2;have E7:=tD (tD (tD (tD B0 G5) G4) G3) G2;go_wp2_with fail
  go_roundg (2-(kx+1))
  case measure=>exact(by have C6:=(show kx<2 from HKT.1);omega)
  case rel=>exact⟨kx+1,some ⟨g1,0,none⟩,n1,c1,fs,rfl,(by go_num),rfl,ω,⟨by exact D5.1.1,ω⟩,(by rw[Nn HKT.1,<-D4.1,HC.1,gXX];exact E0.1),(fun g_ hg_=>(E1.1 g_ hg_).dig E8.1),J4.1.take 5,E7.1⟩
 obtain rfl:kx=2:=by have h_:=O3.1;have L7:=HKT.1;omega
 have N6:fs.length+2<=n1/\n1<=fs.length+2/\n1<=4:=by have h_:=D5.1;omega
 go_upto_region 3 with fail;apply wl;apply zp φ (by exact Eg (e:=(Al dC)));have E6:=tD (tD (tD (tD (tD H7 D1) D0) C9) C8) B0;have E5:=tD (tD (tD (tD D1 D0) C9) C8) B0;have M1:=zH (show∀e,e∈((⟨A2,(((lo):Int):Rat)⟩:Ca)::(⟨A3,(((hi):Int):Rat)⟩:Ca)::fs)->e.Ok 24 L0 from by simp only[List.forall_mem_cons];exact⟨⟨(H4.1.dig E6.1),Av H9.1 (by decide)⟩,⟨(J0.1.dig E5.1),Av K8.1 (by decide)⟩,fun g_ hg_=>E1.1 g_ hg_⟩);have H5:=zH (show n1=(((⟨A2,(((lo):Int):Rat)⟩:Ca)::(⟨A3,(((hi):Int):Rat)⟩:Ca)::fs)).length from by simp;omega);go_upto_region 9 with fail
 apply wl;refine Cn Af _ ?_;refine zc (Uj 24 dC (.slice A1 n1 c1) ((⟨A2,(((lo):Int):Rat)⟩:Ca)::(⟨A3,(((hi):Int):Rat)⟩:Ca)::fs) _ _ (by rw[<-H5.1];exact B2.1.row (i:=3) rR) M1.1 (by rw[<-H5.1];omega)) ?_;rintro e I0 ⟨rfl,L8,I5,L2,I4,L4,L6⟩;have J1:=zH I5;have O0:=zH L2;rw[I5.length_eq,<-H5.1]at I4;have hh:=B2.1.turn (i:=3) (e:= .row 58 4 (.slice A1 n1 c1) (n1) (List.flatMap Ca.cells ((⟨A2,(((lo):Int):Rat)⟩:Ca)::(⟨A3,(((hi):Int):Rat)⟩:Ca)::fs))) (e':= .row 58 4 (.slice A1 n1 c1) (n1) (List.flatMap Ca.cells L8)) (by rfl) (fun k h=>h) L4 I4 (fun k hk=> .inl hk);have E2:=hN hh;have K7:=zH (show Ah L0 I0 from L6);have hx:=True.intro;clear hh I4 L4 L6 I5 L2 hx;refine zn ?_;go_upto_region 10 with fail
 apply wl;refine Cc Af _ _ ?_;go_wp2_with fail;go_ret;refine⟨_,_,_,L8,rfl,H5.1.trans J1.1.length_eq.symm,E2.1.row (i:=3) rR,?_,fun e_ he_=>(M1.1 e_ (J1.1.mem_iff.1 he_)).dig K7.1,E2.1.ext⟩;refine lA (by rw[List.pairwise_map];exact O0.1) ((J1.1.map Ca.q).trans ?_);rw[<-vS px a b lo hi,<-E0.1];exact List.Perm.refl _
end
end Go.Proofs.YtlipfipniibpoabGreat
