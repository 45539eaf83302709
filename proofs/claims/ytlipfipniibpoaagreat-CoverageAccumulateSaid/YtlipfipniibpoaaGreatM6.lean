import Derived.Test.YtlipfipniibpoaaGreatProg
import Derived.Test.YtlipfipniibpoaaGreatM5
import Derived.Calls
import Derived.Shelf.SlSortCmp.NoneTotal
import Derived.Sort.CutIn
import Derived.Sort.LoopGhostIn
set_option maxRecDepth 100000
set_option maxHeartbeats 4000000
namespace Go.Proofs.YtlipfipniibpoaaGreat
open Go.RowKit
open Go.Proofs.Tryz
section
attribute [local go_sem ↓] Go.wp_at_zero Go.wp_at_succ Aq An
theorem sJ:∀rs:List Dr,rs.flatten.length=Gy rs
  | []=>rfl
  | r::rs=>by
    rw[List.flatten_cons,aXX,sJ rs];show _=rs.foldl (fun n r=>n+r.length) (0+r.length);rw[Re];omega
def Od (rs:List Dr)(k:Nat):Nat:=((rs.take k).map fun r=>min r.length 100).sum
theorem nN{rs k r}(h:rs[k]?=some r):Od rs (k+1)=Od rs k+min r.length 100:=by
  unfold Od;rw[List.take_add_one,h,hXX,List.sum_append];simp
def Ej (rs:List Dr)(r:R4):Bool:= !Gf rs|| !r.ok||(decide (rs.length<=8)&&decide (Od rs (min rs.length 20)<=16)&&(decide (r.area<=24)||decide (65536<r.area)))
theorem Jt{rs r}(h:Ej rs r=true)(hr:r.ok=true):Gf rs=true->Gy rs<=16:=by
 intro ho;unfold Ej at h;rw[ho,hr]at h;simp only[Bool.not_true,Bool.false_or,iZZ,decide_eq_true_eq]at h;obtain⟨⟨h1,h2⟩,-⟩:=h;rw[Nat.min_eq_left ω]at h2;unfold Od at h2;rw[mZZ]at h2;have key:∀l:List Dr,(l.map fun r=>min r.length 100).sum<=16->(l.map List.length).sum=(l.map fun r=>min r.length 100).sum:=by
  intro l;induction l with
  |nil=>intro _;rfl
  |cons r l ih=>
   intro h;rw[List.map_cons,List.sum_cons]at h;have:=ih ω;rw[List.map_cons,List.map_cons,List.sum_cons,List.sum_cons,this];omega
 rw[<-sJ,List.length_flatten,key rs h2];exact h2
theorem Rz(A cap rs q w)(hu:Cs w (.slice A rs.length cap) rs)(hn:rs.length<=1048576)(hr:∀r,r∈rs->r.length<=1048576):
  Calls prog 10 #[.slice A rs.length cap,.agg #[iV q.x0,iV q.y0,iV q.x1,iV q.y1]] w fun e w'=>e= .returned (.bool (Ej rs q))/\Aa w w':=by
 have HU:=zH hu;have HN:=zH hn;have B5:=zH hr;obtain⟨N,C7⟩:∃N,N=min rs.length 20:=⟨_,rfl⟩;have A0:=zH C7;clear hu hr hn C7;go_enter func10,ntmps10
 have H0:=zH (Hp.start w);go_upto_region 0 with fail;apply wl;apply Ca 35 [iV q.x0,iV q.y0,iV q.x1,iV q.y1] H0.1;intro X1 w2 H3 _;apply zq φ;go_upto_region 1 with fail;apply wl;apply zq (iV 0);go_upto_region 2 with fail;apply wl;apply zq (iV 0);go_wp2_with fail;go_loopg [5,6] (N) (fun cq v9 E1 wr=>∃(k:Nat),cq=N-k/\v9= iV ((Od rs k:Nat):Int)/\E1= iV (k:Int)/\(k<=N)/\(Od rs k<=100*k)/\Hp w wr [.blk X1 35 [iV q.x0,iV q.y0,iV q.x1,iV q.y1]]/\Ac w2 wr)
 case atStart=>exact⟨0,rfl,rfl,rfl,dXX _,Cp _,H3.1,Ac.refl _⟩
 obtain⟨k,rfl,rfl,rfl,A2,A1,B0,B1⟩:=hrel;generalize wr=D9 at*;have F1:=zH A2;clear A2;have B9:=zH A1;clear A1;have B6:=zH B0;have F4:=zH B1;clear B0 B1 H3;rcases Cl (k<N)with HLT|HLT
 ·have E4:=HLT.1
  have E3:=A0.1;have E5:=B9.1;have hn:=HN.1;have A9:k<rs.length:=ω
  go_upto_region 3 with fail;apply wl;refine Da Ah (iV (k:Int)) _ (iV ((rs.length:Nat):Int)) ?_;apply zp τ (by exact Df (e:=(Ar ω)));refine Cc Ah τ (iV (k:Int)) ?_;apply zp τ (by exact Df (e:=(Ar ω)));apply zq τ;obtain⟨r,A6⟩:∃r,rs[k]?=some r:=⟨_,aQQ A9⟩;have D1:=zH A6;obtain⟨g,A5,rfl,C5⟩:∃g A5,A=some ⟨g,A5,none⟩/\∀i r,rs[i]?=some r->∃B cb,World.cell? w ⟨g,A5+i,none⟩=some (.slice B r.length cb)/\Hj w (.slice B r.length cb) r:=by obtain⟨A_,G3,E2,E6⟩:=HU.1;injection E2 with e1_ e2_ e3_;subst e1_;obtain⟨g_,B7,e_,h_⟩:=E6 ω;exact⟨g_,B7,e_,h_⟩
  obtain⟨B,cb,D0,C8⟩:=C5 k r A6;have E9:=zH D0;have G4:=zH C8;clear A6 C5 D0 C8;have C6:=nN D1.1;have F0:=zH C6;have G1:r.length<=1048576:=B5.1 r (bZZ D1.1);go_upto_region 5 with fail
  apply wl;refine Da Ah (iV ((Od rs k:Nat):Int)) _ (iV (k:Int)) ?_;apply zp (.pointer (some ⟨g,A5+k,none⟩)) (by exact Gw (k:=k) underlying31 (l:=A9) (f:=(show A5+k=A5+k*1 by omega)));refine ze g (A5+k) (.slice B r.length cb) (Gh (B6.1.ext.get E9.1)) ?_;refine Cc Ah (iV ((r.length:Nat):Int)) (iV (min ((r.length:Nat):Int) 100)) ?_;apply zp (iV (((Od rs k:Nat):Int)+(min ((r.length:Nat):Int) 100))) (by exact Gm (by have C4:=HN.1;omega));apply zq (iV (((Od rs k:Nat):Int)+(min ((r.length:Nat):Int) 100)));go_upto_region 4 with fail;apply wl;apply zq (iV (k:Int));apply zp (iV ((k+1:Nat):Int)) (by exact Gm (by have C4:=HN.1;omega));apply zq (iV ((k+1:Nat):Int));go_wp2_with fail;go_roundg (N-(k+1))
  case measure=>exact(by have C4:=HN.1;omega)
  case rel=>exact⟨k+1,rfl,(by rw[C6];go_num),(by go_num),(by have:=HLT.1;omega),(by have:=B9.1;have:=F0.1;omega),B6.1,F4.1⟩
 have E4:=HLT.1;have G2:=F1.1;have E3:=A0.1;have E5:=B9.1;have hn:=HN.1;obtain rfl:k=N:=ω
 go_upto_region 3 with fail;go_cut [14]from 7 to 14 (fun E0 wx=>E0= .bool false/\Hp w wx [.blk X1 35 [iV q.x0,iV q.y0,iV q.x1,iV q.y1]]/\Ac D9 wx)
 case first=>
  rcases Cl (rs.length<=k)with HA|HA
  ·have ha:=HA.1
   apply wl;refine Da Ah (iV (k:Int)) _ (iV ((rs.length:Nat):Int)) ?_;apply zp φ (by exact Df (e:=(Af ω)));refine Ef Ah φ _ _ φ ?_;go_wp2_with fail;go_meet
   exact⟨rfl,B6.1,(Ac.refl _)⟩
  have ha:=HA.1;apply wl;refine Da Ah (iV (k:Int)) _ (iV ((rs.length:Nat):Int)) ?_;apply zp τ (by exact Df (e:=(Ar ω)));refine Cc Ah τ (iV (k:Int)) ?_;apply zp φ (by exact Df (e:=(Af ω)));apply zq φ;go_wp2_with fail;go_meet
  exact⟨rfl,B6.1,(Ac.refl _)⟩
 obtain⟨rfl,B0,B1⟩:=hcut;generalize wc=G0 at*;have A7:=zH B0;have G5:=zH B1;clear B0 B1;rcases Cl (Gf rs=true)with HV|HV
 ·rcases Cl (q.ok=true)with HK|HK
  ·go_upto_region 6 with fail
   apply wl;refine Cg Ah _ ?_;refine zc (Ea _ rs _ (HU.1.ext A7.1.ext) HN.1 B5.1) ?_;rintro e F9 ⟨rfl,hx⟩;have D3:=zH (A7.1.step hx);clear hx;refine⟨.bool true,by rw[HV.1],?_⟩;try simp only[ζ]
   refine Cc Ah φ φ ?_;refine zd X1 (0) [iV q.x0,iV q.y0,iV q.x1,iV q.y1] (D3.1.range (i:=0) rR 0 4) underlying35 ?_;refine zc (Rw q _) ?_;rintro e F8 ⟨rfl,hx⟩;have A3:=zH (D3.1.step hx);clear hx;refine⟨.bool true,by rw[HK.1],?_⟩;try simp only[ζ]
   refine Cc Ah φ φ ?_;rcases Cl (rs.length<=8)with H8|H8
   ·rcases Cl (Od rs k<=16)with A4|A4
    ·rcases Cl (q.area<=24)with A8|A8
     ·have h8:=H8.1
      have B8:=A4.1;have C9:=A8.1;go_upto_region 8 with fail
      apply wl;refine Cc Ah _ (iV ((rs.length:Nat):Int)) ?_;apply zp τ (by exact Og (e:=(Ar ω)));refine Cc Ah τ (iV ((Od rs k:Nat):Int)) ?_;apply zp τ (by exact Og (e:=(Ar ω)));refine Cc Ah τ τ ?_;refine zd X1 (0) [iV q.x0,iV q.y0,iV q.x1,iV q.y1] (A3.1.range (i:=0) rR 0 4) underlying35 ?_;refine aC A3.1 (Kz q _) ?_;intro F7 F3 _;apply zp τ (by exact Og (e:=(Ar ω)));refine bC Ah τ _ _ _ τ τ τ ?_;go_wp2_with fail;go_ret;exact⟨by rw[show Ej rs q=true from by unfold Ej;rw[<-A0.1];simp[HV.1,HK.1,H8.1,A4.1,A8.1]]<;>rfl,F3.1.ext⟩
     rcases Cl (65536<q.area)with B2|B2
     ·have h8:=H8.1
      have B8:=A4.1;have C9:=A8.1;have E7:=B2.1;go_upto_region 8 with fail
      apply wl;refine Cc Ah _ (iV ((rs.length:Nat):Int)) ?_;apply zp τ (by exact Og (e:=(Ar ω)));refine Cc Ah τ (iV ((Od rs k:Nat):Int)) ?_;apply zp τ (by exact Og (e:=(Ar ω)));refine Cc Ah τ τ ?_;refine zd X1 (0) [iV q.x0,iV q.y0,iV q.x1,iV q.y1] (A3.1.range (i:=0) rR 0 4) underlying35 ?_;refine aC A3.1 (Kz q _) ?_;intro F6 D2 _;apply zp φ (by exact Og (e:=(Af ω)));apply qV φ;refine zd X1 (0) [iV q.x0,iV q.y0,iV q.x1,iV q.y1] (D2.1.range (i:=0) rR 0 4) underlying35 ?_;refine aC D2.1 (Kz q _) ?_;intro F5 C3 _;apply zp τ (by exact Lw (e:=(Ar ω)));refine Da Ah τ τ τ ?_;go_wp2_with fail;go_ret;exact⟨by rw[show Ej rs q=true from by unfold Ej;rw[<-A0.1];simp[HV.1,HK.1,H8.1,A4.1,B2.1]]<;>rfl,C3.1.ext⟩
     have h8:=H8.1;have B8:=A4.1;have C9:=A8.1;have E7:=B2.1;go_upto_region 8 with fail
     apply wl;refine Cc Ah _ (iV ((rs.length:Nat):Int)) ?_;apply zp τ (by exact Og (e:=(Ar ω)));refine Cc Ah τ (iV ((Od rs k:Nat):Int)) ?_;apply zp τ (by exact Og (e:=(Ar ω)));refine Cc Ah τ τ ?_;refine zd X1 (0) [iV q.x0,iV q.y0,iV q.x1,iV q.y1] (A3.1.range (i:=0) rR 0 4) underlying35 ?_;refine aC A3.1 (Kz q _) ?_;intro D8 B4 _;apply zp φ (by exact Og (e:=(Af ω)));apply qV φ;refine zd X1 (0) [iV q.x0,iV q.y0,iV q.x1,iV q.y1] (B4.1.range (i:=0) rR 0 4) underlying35 ?_;refine aC B4.1 (Kz q _) ?_;intro D7 C2 _;apply zp φ (by exact Lw (e:=(Af ω)));refine Da Ah φ φ φ ?_;go_wp2_with fail;go_ret;exact⟨by rw[show Ej rs q=false from by unfold Ej;rw[<-A0.1];simp[HV.1,HK.1,A8.1,B2.1]]<;>rfl,C2.1.ext⟩
    have h8:=H8.1;have B8:=A4.1;go_upto_region 8 with fail
    apply wl;refine Cc Ah _ (iV ((rs.length:Nat):Int)) ?_;apply zp τ (by exact Og (e:=(Ar ω)));refine Cc Ah τ (iV ((Od rs k:Nat):Int)) ?_;apply zp φ (by exact Og (e:=(Af ω)));refine Hz Ah φ φ _ _ _ _ _ _ ?_;refine Ef Ah _ _ φ φ ?_;go_wp2_with fail;go_ret;exact⟨by rw[show Ej rs q=false from by unfold Ej;rw[<-A0.1];simp[HV.1,HK.1,A4.1]]<;>rfl,A3.1.ext⟩
   have h8:=H8.1;go_upto_region 8 with fail;apply wl;refine Cc Ah _ (iV ((rs.length:Nat):Int)) ?_;apply zp φ (by exact Og (e:=(Af ω)));refine Hz Ah φ _ _ φ φ _ _ _ ?_;refine bC Ah _ _ _ _ _ φ φ ?_;go_wp2_with fail;go_ret;exact⟨by rw[show Ej rs q=false from by unfold Ej;rw[<-A0.1];simp[HV.1,HK.1,H8.1]]<;>rfl,A3.1.ext⟩
  have F2:=HK;replace HK:=zH (Bool.eq_false_iff.2 F2.1);go_upto_region 6 with fail;apply wl;refine Cg Ah _ ?_;refine zc (Ea _ rs _ (HU.1.ext A7.1.ext) HN.1 B5.1) ?_;rintro e D6 ⟨rfl,hx⟩;have B3:=zH (A7.1.step hx);clear hx;refine⟨.bool true,by rw[HV.1],?_⟩;try simp only[ζ]
  refine Cc Ah φ φ ?_;refine zd X1 (0) [iV q.x0,iV q.y0,iV q.x1,iV q.y1] (B3.1.range (i:=0) rR 0 4) underlying35 ?_;refine zc (Rw q _) ?_;rintro e D5 ⟨rfl,hx⟩;have C1:=zH (B3.1.step hx);clear hx;refine⟨.bool false,by rw[HK.1],?_⟩;try simp only[ζ]
  refine Cc Ah τ τ ?_;go_upto_region 7 with fail;apply wl;apply zq τ;go_wp2_with fail;go_ret;exact⟨by rw[show Ej rs q=true from by unfold Ej;rw[<-A0.1];simp[HK.1]]<;>rfl,C1.1.ext⟩
 have E8:=HV;replace HV:=zH (Bool.eq_false_iff.2 E8.1);go_upto_region 6 with fail;apply wl;refine Cg Ah _ ?_;refine zc (Ea _ rs _ (HU.1.ext A7.1.ext) HN.1 B5.1) ?_;rintro e D4 ⟨rfl,hx⟩;have C0:=zH (A7.1.step hx);clear hx;refine⟨.bool false,by rw[HV.1],?_⟩;try simp only[ζ]
 refine Qh Ah τ τ _ _ _ τ ?_;go_upto_region 7 with fail;apply wl;apply zq τ;go_wp2_with fail;go_ret;exact⟨by rw[show Ej rs q=true from by unfold Ej;rw[<-A0.1];simp[HV.1]]<;>rfl,C0.1.ext⟩
end
section
def eT (lo hi:Rat)(q:Rat):List Rat:=if lo<q/\q<hi then[q]else[]
instance aAJ (a b:Int×Int) (x:Int):Decidable (Yx a b x):=inferInstanceAs (Decidable (_/\_))
def Qi (e:He)(x:Int):List Rat:=if Yx e.1 e.2 x then[Il e.1 e.2 x]else[]
def Ub (o e:He):List Rat:=if Gp o.1 o.2 e.1 e.2=1 then[Qn o.1 o.2 e.1 e.2]else[]
def Vi (a b:Int×Int)(pre:List He)(x:He):List Rat:=
  (Qi x a.1).flatMap (eT a.2 b.2)++(Qi x b.1).flatMap (eT a.2 b.2)++pre.flatMap (fun o=>(Ub o x).flatMap (eT a.2 b.2))
def oE (a b:Int×Int):List He->List He->List Rat
  |_,[]=>[]
  |pre,x::l=>Vi a b pre x++oE a b (pre++[x]) l
theorem eJ (a b:Int×Int)(x:He):∀(l p:List He),oE a b p (l++[x])=oE a b p l++Vi a b (p++l) x
  | [],p=>by simp[oE]
  | y::l,p=>by
    have h:=eJ a b x l (p++[y]);simp only[jXX,oE];rw[h,jQQ,jQQ];rfl
def xU (a b:Int×Int)(rs:List Dr):List Rat:=rs.flatMap fun r=>r.flatMap fun p=>eT a.2 b.2 (p.2:Rat)
def So (a b:Int×Int)(rs:List Dr):Prop:=Gf rs=true/\Dy a/\Dy b/\a.2<b.2
instance aAV (a b:Int×Int) (rs:List Dr):Decidable (So a b rs):=inferInstanceAs (Decidable (_/\_))
def zT (a b:Int×Int)(rs:List Dr):List Rat:=if So a b rs then[(a.2:Rat),(b.2:Rat)]++xU a b rs++oE a b [] (Cd rs)else[]
theorem gI{r:Dr}{k p}(h:r[k]?=some p)(f:Int×Int->List Rat):(r.take (k+1)).flatMap f=(r.take k).flatMap f++f p:=by
  rw[List.take_add_one,h,List.flatMap_append];simp
theorem Uf{a b x}(ha:Dy a)(hb:Dy b)(hx: -1048576<=x/\x<=1048576):Nm.rl (Il a b x)<=20:=by
  have h1:=Bi ha;have h2:=Bi hb;have h3:=Ug (x-a.1) (b.1-a.1) ω ω;have h4:=Ay (b.2-a.2) ω ω;have h5:=Ay a.2 ω ω;have h6:=Nm.rl_mul (((x-a.1:Int):Rat)/((b.1-a.1:Int):Rat)) ((b.2-a.2:Int):Rat);have h7:=Nm.rl_add (a.2:Rat) (((x-a.1:Int):Rat)/((b.1-a.1:Int):Rat)*((b.2-a.2:Int):Rat));unfold Il;omega
theorem uT{a b c d}(ha:Dy a)(hb:Dy b)(hc:Dy c)(hd:Dy d):Nm.rl (Ky a b c d)<=8:=by
  have h1:=Yp (Gb ha hc) (Gb hc hd);have h2:=Yp (Gb ha hb) (Gb hc hd);exact Ug _ _ ω (ω)
theorem qH{a b c d}(ha:Dy a)(hb:Dy b)(hc:Dy c)(hd:Dy d):Nm.rl (fV a b c d)<=20/\Nm.rl (Qn a b c d)<=20:=by
 have h1:=Bi ha;have h2:=Bi hb;have ht:=uT ha hb hc hd;have hs:=Bi (Qk ha hb hc hd);have k1:=Ay (b.1-a.1) ω ω;have k2:=Ay (b.2-a.2) ω ω;have k3:=Ay a.1 ω ω;have k4:=Ay a.2 ω ω;have k5:=Ay (Aw a b c d).1.1 ω ω;have k6:=Ay (Aw a b c d).1.2 ω ω;have m1:=Nm.rl_mul (Ky a b c d) ((b.1-a.1:Int):Rat);have m2:=Nm.rl_mul (Ky a b c d) ((b.2-a.2:Int):Rat);have a1:=Nm.rl_add (a.1:Rat) (Ky a b c d*((b.1-a.1:Int):Rat));have a2:=Nm.rl_add (a.2:Rat) (Ky a b c d*((b.2-a.2:Int):Rat));unfold fV Qn;constructor
 ·split<;>omega
 split<;>omega
end
section
theorem Yb{a b}:Es a b=true↔a.2<b.2\/(a.2=b.2/\a.1<b.1):=by
  unfold Es;simp
theorem jS{a b}(h:¬Es a b=true)(k:¬Es b a=true):a=b:=by
  rw[Yb]at h k;exact Prod.ext ω (ω)
theorem Ya{a b}(h:Es a b=true):¬Es b a=true:=by
  rw[Yb]at h⊢;omega
theorem pJ(a b c d):Nj c d a b=Nj a b c d:=by
  unfold Nj;by_cases h:Es (Hi a b) (Hi c d)=true
  · rw[if_pos h,if_neg (Ya h)]
  by_cases k:Es (Hi c d) (Hi a b)=true
  · rw[if_neg h,if_pos k]
  rw[if_neg h,if_neg k,jS h k]
theorem pK(a b c d):Tz c d a b=Tz a b c d:=by
  unfold Tz;by_cases h:Es (Fj a b) (Fj c d)=true
  · rw[if_pos h,if_neg (Ya h)]
  by_cases k:Es (Fj c d) (Fj a b)=true
  · rw[if_neg h,if_pos k]
  rw[if_neg h,if_neg k,jS h k]
theorem Rt(a b c d):Aw c d a b=Aw a b c d:=by unfold Aw;rw[pJ,pK]
theorem Oj{u v}:cr u v= -cr v u:=by unfold cr;grind
theorem Qd(x y):(((-x:Int)):Rat)/(((-y:Int)):Rat)=(x:Rat)/(y:Rat):=by
  rw[Rat.intCast_neg,Rat.intCast_neg];by_cases h:(y:Rat)=0
  · rw[h];simp[Rat.div_def]
  grind
theorem Wp(a b c d):Ky c d a b=Sj a b c d:=by
  unfold Ky Sj;rw[show cr (dv c a) (dv a b)= -cr (dv a c) (dv a b)by unfold cr dv;grind,show cr (dv c d) (dv a b)= -cr (dv a b) (dv c d)from Oj,Qd]
theorem lL(a b c d):Sj c d a b=Ky a b c d:=by
  unfold Ky Sj;rw[show cr (dv c a) (dv c d)= -cr (dv a c) (dv c d)by unfold cr dv;grind,show cr (dv c d) (dv a b)= -cr (dv a b) (dv c d)from Oj,Qd]
theorem aM{a b}:dv a b=(0,0)↔a=b:=by
  unfold dv;constructor
  · intro h;injection h with h1 h2;exact Prod.ext ω (ω)
  intro h;subst h;simp
theorem Xz{a b c d}:Cq a b c d=(0,0)↔a=b/\c=d:=by
  unfold Cq;split
  · rename_i h;rw[aM]at h;rw[aM];exact⟨fun k=>⟨h,k⟩,fun k=>k.2⟩
  rename_i h;exact⟨fun k=>absurd k h,fun k=>absurd (aM.2 k.1) h⟩
def dN (a b c d:Int×Int):Prop:=cr (Cq a b c d) (dv a c)≠0\/(Cq a b c d=(0,0)/\a≠c)
theorem yN{u v z}(hu:u≠(0,0))(h:cr u v=0)(k:cr u z=0):cr v z=0:=by
  obtain⟨u1,u2⟩:=u;obtain⟨v1,v2⟩:=v;obtain⟨z1,z2⟩:=z;unfold cr at h k⊢;dsimp only at h k⊢
  have A0:u1≠0\/u2≠0:=by
    by_cases e:u1=0
    · right;intro e2;exact hu (by rw[e,e2])
    exact .inl e
  rcases A0 with e|e
  · have:u1*(v1*z2-v2*z1)=0:=by grind
    exact(Int.mul_eq_zero.1 this).resolve_left e
  have:u2*(v1*z2-v2*z1)=0:=by grind
  exact(Int.mul_eq_zero.1 this).resolve_left e
theorem Ur{a b c d}(h0:cr (dv a b) (dv c d)=0)(h:dN c d a b):dN a b c d:=by
 unfold dN at h⊢;rcases h with h|⟨h1,h2⟩
 ·left
  intro k;apply h;have hz:cr (Cq a b c d) (dv c a)=0:=by
   have:cr (Cq a b c d) (dv c a)= -cr (Cq a b c d) (dv a c):=by unfold cr dv;grind
   omega
  by_cases e1:dv a b=(0,0)
  ·have e3:Cq a b c d=dv c d:=if_pos e1
   rw[e3]at hz;by_cases e2:dv c d=(0,0)
   ·rw[show Cq c d a b=dv a b from if_pos e2,e1];unfold cr;simp
   rw[show Cq c d a b=dv c d from if_neg e2];exact hz
  have e3:Cq a b c d=dv a b:=if_neg e1;rw[e3]at hz;by_cases e2:dv c d=(0,0)
  ·rw[show Cq c d a b=dv a b from if_pos e2];exact hz
  rw[show Cq c d a b=dv c d from if_neg e2];exact yN e1 h0 hz
 rw[Xz]at h1;exact .inr ⟨Xz.2 ⟨h1.2,h1.1⟩,fun e=>h2 e.symm⟩
theorem Xn{a b c d}(h0:cr (dv a b) (dv c d)=0):dN c d a b↔dN a b c d:=
  ⟨Ur h0,Ur (by rw[Oj,h0];rfl)⟩
theorem pT{a b c d}(h:cr (dv a b) (dv c d)=0):Gp a b c d=(open Classical in if dN a b c d then 0 else(Aw a b c d).2):=by
  unfold Gp;rw[if_neg (by simpa using h)];by_cases k:dN a b c d
  · rw[if_pos k];exact if_pos k
  rw[if_neg k];exact if_neg k
theorem pS{a b c d}(h:cr (dv a b) (dv c d)≠0):Gp a b c d=if wB (Ky a b c d)/\wB (Sj a b c d)then 1 else 0:=if_pos h
theorem lM(a b c d):Gp c d a b=Gp a b c d:=by
  by_cases h:cr (dv a b) (dv c d)=0
  · rw[pT h,pT (by rw[Oj,h];rfl),Rt]
    by_cases k:dN a b c d
    · rw[if_pos k,if_pos ((Xn h).2 k)]
    rw[if_neg k,if_neg (fun e=>k ((Xn h).1 e))]
  rw[pS h,pS (by rw[Oj];omega),Wp a b c d,lL a b c d];by_cases k:wB (Ky a b c d)/\wB (Sj a b c d)
  · rw[if_pos k,if_pos k.symm]
  rw[if_neg k,if_neg (fun e=>k e.symm)]
theorem aAA{u v}:((cr u v:Int):Rat)=(u.1:Rat)*(v.2:Rat)-(u.2:Rat)*(v.1:Rat):=by unfold cr;rw[Rat.intCast_sub,Rat.intCast_mul,Rat.intCast_mul]
theorem aDH(a b):(((dv a b).1:Int):Rat)=(b.1:Rat)-(a.1:Rat):=by unfold dv;rw[Rat.intCast_sub]
theorem aDG(a b):(((dv a b).2:Int):Rat)=(b.2:Rat)-(a.2:Rat):=by unfold dv;rw[Rat.intCast_sub]
theorem uZ{a b c d}(h:cr (dv a b) (dv c d)≠0):
  (c.1:Rat)+Sj a b c d*((d.1-c.1:Int):Rat)=(a.1:Rat)+Ky a b c d*((b.1-a.1:Int):Rat)/\(c.2:Rat)+Sj a b c d*((d.2-c.2:Int):Rat)=(a.2:Rat)+Ky a b c d*((b.2-a.2:Int):Rat):=by
 have h2:((cr (dv a b) (dv c d):Int):Rat)≠0:=fun e=>h (by exact_mod_cast e)
 unfold Sj Ky;rw[Rat.intCast_sub,Rat.intCast_sub,Rat.intCast_sub,Rat.intCast_sub];simp only[aAA,aDH,aDG]at h2⊢;generalize (a.1:Rat)=a1 at*;generalize (a.2:Rat)=a2 at*;generalize (b.1:Rat)=b1 at*;generalize (b.2:Rat)=b2 at*;generalize (c.1:Rat)=c1 at*;generalize (c.2:Rat)=c2 at*;generalize (d.1:Rat)=d1 at*;generalize (d.2:Rat)=d2 at*;constructor<;>grind
theorem lK{a b c d}:Qn c d a b=Qn a b c d:=by
  unfold Qn;by_cases h:cr (dv a b) (dv c d)=0
  · rw[if_neg (by rw[Oj,h];decide),if_neg (by rw[h];decide),Rt]
  rw[if_pos (by rw[Oj];omega),if_pos h,Wp];exact(uZ h).2
end
section
def Za {α:Type}:Result α->World
  | .ok _ w=>w
  | .halt _ w=>w
theorem oP {α:Type}(x:Ask α):∀w:World,w.drawn<=(w.ask x).2.drawn:=by
  induction x with
  |done a=>intro w;exact Cp _
  | ask what range k ih=>
    intro w;simp only[World.ask];split
    · exact ih _ w
    exact Al (Nat.le_succ _) (ih _ {w with drawn:=w.drawn+1})
theorem Wj(w:World)(c):w.drawn<=(w.sys c).2.drawn:=by
  have h:=oP (Kernel.perform c w.os) w;unfold World.sys;split
  · exact Cp _
  rename_i h1;rw[h1]at h;exact h
theorem Si{p}{w:World}{a u k v b r}(h:w.viewStore p a u k v b= .ok r):r.1.drawn=w.drawn:=by
  unfold World.viewStore at h;simp only[bind,Except.bind,pure,Except.pure]at h;repeat' split at h
  all_goals first|(cases h;rfl)|(cases h)
theorem Mm{p}{w:World}{a v b r}(h:w.farStore p a v b= .ok r):r.1.drawn=w.drawn:=by
  unfold World.farStore at h;split at h
  · split at h
    · rename_i h2
      cases h;exact Si h2
    cases h
  cases h
theorem Qo{α:Type}(p)(s:Sem α):∀w:World,w.drawn<=(Za (s.run p w)).drawn:=by
  induction s with
  |pure a=>intro w;exact Cp _
  | load m a k ih=>
    intro w;unfold Sem.run;split
    · exact ih _ w
    split
    · exact ih _ w
    exact Cp _
  | store m a v k ih=>
    intro w;cases v<;>simp only[Sem.run]<;>first
      |exact Cp _
      | (split
         · split
           · exact Cp _
           exact ih (w.setCell a _)
         split
         · rename_i h;have e:=Mm h;rw[<-e];exact ih _
         exact Cp _)
  |new o k ih=>intro w;exact ih _ {w with heap:=w.heap.push o}
  |shape r k ih=>intro w;exact ih _ w
  | freeze a n k ih=>
    intro w;have h:=ih (w.freeze a n);have e:(w.freeze a n).drawn=w.drawn:=by unfold World.freeze;split<;>rfl
    rw[e]at h;exact h
  |frozen a k ih=>intro w;exact ih _ w
  | getObj r k ih=>
    intro w;unfold Sem.run;split
    · exact Cp _
    · exact ih _ w
    exact Cp _
  | setObj r o k ih=>
    intro w;unfold Sem.run;split
    · exact Cp _
    · exact ih {w with heap:=w.heap.setIfInBounds r o}
    exact Cp _
  | choose q k ih=>
    intro w;unfold Sem.run;split
    · exact ih _ w
    exact Al (Nat.le_succ _) (ih _ {w with drawn:=w.drawn+1})
  |sys c k ih=>intro w;exact Al (Wj w c) (ih _ _)
  |program k ih=>intro w;exact ih _ w
  |mark m k ih=>intro w;exact ih w
  |halt h=>intro w;exact Cp _
theorem Fc{α:Type}(p)(s:Sem α):∀(w:World) (es:Array Event),w.drawn<=(Za (s.runT p w es).1).drawn:=by
  induction s with
  |pure a=>intro w es;exact Cp _
  | load m a k ih=>
    intro w es;unfold Sem.runT;split
    · exact ih _ w _
    split
    · exact ih _ w _
    exact Cp _
  | store m a v k ih=>
    intro w es;cases v<;>simp only[Sem.runT]<;>first
      |exact Cp _
      | (split
         · split
           · exact Cp _
           exact ih (w.setCell a _) _
         split
         · rename_i h;have e:=Mm h;rw[<-e];exact ih _ _
         exact Cp _)
  |new o k ih=>intro w es;exact ih _ {w with heap:=w.heap.push o} _
  |shape r k ih=>intro w es;exact ih _ w _
  | freeze a n k ih=>
    intro w es;have h:=ih (w.freeze a n) es;have e:(w.freeze a n).drawn=w.drawn:=by unfold World.freeze;split<;>rfl
    rw[e]at h;exact h
  |frozen a k ih=>intro w es;exact ih _ w _
  | getObj r k ih=>
    intro w es;unfold Sem.runT;split
    · exact Cp _
    · exact ih _ w _
    exact Cp _
  | setObj r o k ih=>
    intro w es;unfold Sem.runT;split
    · exact Cp _
    · exact ih {w with heap:=w.heap.setIfInBounds r o} _
    exact Cp _
  | choose q k ih=>
    intro w es;unfold Sem.runT;split
    · exact ih _ w _
    exact Al (Nat.le_succ _) (ih _ {w with drawn:=w.drawn+1} _)
  |sys c k ih=>intro w es;exact Al (Wj w c) (ih _ _ _)
  |program k ih=>intro w es;exact ih _ w _
  |mark m k ih=>intro w es;exact ih w _
  |halt h=>intro w es;exact Cp _
theorem Fv{α:Type}{p}{s:Sem α}{w w' a}(h:s.run p w= .ok a w'):w.drawn<=w'.drawn:=by
  have h2:=Qo p s w;rw[h]at h2;exact h2
theorem pY{α:Type}{p}{s:Sem α}{w w' a}(h:s.run p w= .halt a w'):w.drawn<=w'.drawn:=by
  have h2:=Qo p s w;rw[h]at h2;exact h2
theorem jG{α:Type}{p}{s:Sem α}{w w' a es es'}(h:s.runT p w es=(.ok a w',es')):w.drawn<=w'.drawn:=by
  have h2:=Fc p s w es;rw[h]at h2;exact h2
theorem lO{α:Type}{p}{s:Sem α}{w w' a es es'}(h:s.runT p w es=(.halt a w',es')):w.drawn<=w'.drawn:=by
  have h2:=Fc p s w es;rw[h]at h2;exact h2
def Sb (d:Nat):GStep->Prop
  | .go _ w _=>d<=w.drawn
  | .comm _ _ _ _ w _=>d<=w.drawn
  | .spawn _ _ w _=>d<=w.drawn
  | .count _ w _=>d<=w.drawn
  | .timer _ _ w _=>d<=w.drawn
  | .alone _ _ w _=>d<=w.drawn
  | .newcoro _ _ _ w _=>d<=w.drawn
  | .coroswitch _ _ _ w _=>d<=w.drawn
  | .collect _ w _=>d<=w.drawn
  | .watch _ w _=>d<=w.drawn
  | .ended .. =>True
theorem Jj{d es g}:Sb d (GStep.after es g)=Sb d g:=by cases g<;>rfl
theorem Oe{c}[Decidable c]{a b d}(h1:Sb d a)(h2:Sb d b):Sb d (if c then a else b):=by
  split
  · exact h1
  exact h2
theorem iF(d w n t o):Sb d (endWith w n t o):=by
  unfold endWith;dsimp only
  repeat' split
  all_goals exact True.intro
theorem Mn{d p fr v w}(h:d<=w.drawn):Sb d (endPrinting p fr v w):=by
  unfold endPrinting;dsimp only
  split
  · exact h
  exact True.intro
theorem Sc{d p fr cs dy m w}(h:d<=w.drawn):Sb d (endFatal p fr cs dy m w):=by
  unfold endFatal;dsimp only
  split
  · rename_i h1
    exact Al h (Fv h1)
  · exact True.intro
  exact True.intro
theorem Mr{d p b fr cs dy v w}(h:d<=w.drawn):Sb d (doReturn p b fr cs dy v w):=by
  unfold doReturn;repeat' split
  all_goals first|exact h|exact True.intro
theorem Sr{p fr cs dy d w}:Sb w.drawn (callDeferred p fr cs dy d w):=by
  unfold callDeferred;refine Oe True.intro ?_
  · have h:=Fc p (invoke d.target d.args) w #[]
    generalize (invoke d.target d.args).runT p w #[]=q at h;obtain⟨r,es⟩:=q;dsimp only
    rw[Jj];repeat' split
    all_goals first|exact h|exact True.intro|exact Sc h
theorem kV{p b fr cs dy w}:Sb w.drawn (unwind p b fr cs dy w):=by
  unfold unwind;split
  · rename_i block _ _ _
    have h:=Fc p (Instr.takeDeferred block) w #[];generalize (Instr.takeDeferred block).runT p w #[]=q at h;obtain⟨r,es⟩:=q;dsimp only
    rw[Jj];split
    · exact h
    exact True.intro
  · exact Sr
  split
  · exact True.intro
  · split
    · exact True.intro
    split
    · exact Cp _
    split
    · split
      · exact Cp _
      split
      · rename_i h1
        exact Fv h1
      · exact True.intro
      exact True.intro
    split
    · exact Mn (Cp _)
    exact True.intro
  split
  · exact Mr (Cp _)
  rename_i fn _;have h:=Fc p (results fn fr.tmps) w #[];generalize (results fn fr.tmps).runT p w #[]=q at h
  obtain⟨r,es⟩:=q;dsimp only
  rw[Jj];split
  · exact Mr h
  · exact True.intro
  exact True.intro
theorem fF{p fr d f w}:Sb w.drawn (writeOn p fr d f w):=by
  unfold writeOn;dsimp only
  split
  · exact True.intro
  split<;>rename_i h1<;>first|exact True.intro|exact jG h1|exact lO h1
theorem zY{p fr d w}:Sb w.drawn (die p fr d w):=by
  unfold die;split
  · exact fF
  split
  · split
    · exact Cp _
    exact iF _ _ _ _ _
  dsimp only
  split
  · exact Cp _
  · split
    · rename_i h1
      exact Fv h1
    exact True.intro
  · rename_i t recv name _
    have h:=Fc p (invoke (.fn (.method name) #[]) #[.iface t recv]) w #[];generalize (invoke (.fn (.method name) #[]) #[.iface t recv]).runT p w #[]=q at h;obtain⟨r,es⟩:=q;dsimp only
    rw[Jj];split;all_goals first|exact h|exact True.intro|exact Mn h
  exact True.intro
theorem sQ{p fr cs dy g d w}(h:d<=w.drawn):Sb d (early p fr cs dy g w):=by
  have hn:∀w:World,d<=w.drawn->Sb d (match w.heap[g]?with
    |some (.pending c elem)=>GStep.go {frame:=fr,callers:=cs,status:= .running,dying:=dy} {w with heap:=w.heap.setIfInBounds g (.cells c elem)}
    |_=> .ended (.stuck "early: the variable does not wait" (fr.pos p)) w):=by
    intro w hw;split
    · exact hw
    exact True.intro
  unfold early;dsimp only
  refine Oe (hn w h) ?_;split
  · exact True.intro
  refine Oe (hn w h) (Oe (hn w h) ?_);split
  · exact True.intro
  · exact h
  · exact True.intro
  · exact hn w h
  refine Oe h (Oe (hn w h) ?_);split
  · rename_i h1;exact hn _ (Al h (Fv h1))
  · rename_i h1;exact Al h (Fv h1)
  exact True.intro
theorem Mt{p l fr cs dy s w}:Sb w.drawn (stepG.apply p l fr cs dy s w):=by
  unfold stepG.apply;dsimp only
  generalize hq:(if l=true then s.runT p w #[]else(s.run p w,#[]))=q;have h:w.drawn<=(Za q.1).drawn:=by
    subst hq;split
    · exact Fc p s w #[]
    exact Qo p s w
  obtain⟨r,es⟩:=q;dsimp only
  rw[Jj];cases r with
  | ok v w1=>
    have h:w.drawn<=w1.drawn:=h;cases v;all_goals (try dsimp only)
    all_goals (repeat' split)
    all_goals first|exact h|exact True.intro
  | halt v w1=>
    have h:w.drawn<=w1.drawn:=h;cases v with
    | unsupported u=>
      cases u with
      |initOrder g=>exact sQ h
      |_=>exact True.intro
    |fatal m=>exact Sc h
    |_=>first|exact h|exact True.intro
theorem vD{p l fr cs dy w}:Sb w.drawn (stepG.oper p l fr cs dy w):=by
  unfold stepG.oper;split
  · exact True.intro
  split
  · exact Mt
  exact Mt
theorem kJ{α:Type}{o:Option α}{a f d}(h1:Sb d a)(h2:∀x,Sb d (f x)):Sb d (o.elim a f):=by
  cases o with
  |none=>exact h1
  |some x=>exact h2 x
theorem xK{d e g}(h:d<=e)(hg:Sb e g):Sb d g:=by
  cases g<;>first|exact Al h hg|exact True.intro
theorem cE{α:Type}{p}{s:Sem α}{w w' a es}(h:(s.runT p w es).1= .ok a w'):w.drawn<=w'.drawn:=by
  have h2:=Fc p s w es;rw[h]at h2;exact h2
theorem fW{α:Type}{p}{s:Sem α}{w w' a es}(h:(s.runT p w es).1= .halt a w'):w.drawn<=w'.drawn:=by
  have h2:=Fc p s w es;rw[h]at h2;exact h2
theorem wK{p b l fr cs dy w}:Sb w.drawn (stepG.exec p b l fr cs dy w):=by
  have hl:∀(A0:Option Code) (ok:Bool),Sb w.drawn (match fr.roundOf with
      |none=>if ok=true then GStep.go {frame:={fr with mode:= .returning},callers:=cs,status:= .running,dying:=dy} w else .ended (.stuck "exit, goto: no such block or label" (fr.pos p)) w
      | some l=>
        let (r,es):=(Instr.endRound l A0).runT p w #[]
        GStep.after (seen p fr.fn es)<|match r with
        | .ok v w=>doReturn p b fr cs dy v w
        | .halt _ w=> .ended (.stuck "range over a function: no such loop" (fr.pos p)) w):=by
    intro A0 ok;split
    · refine Oe (Cp _) True.intro
    split;rename_i h1;rw[Jj];split
    · exact Mr (jG h1)
    exact True.intro
  unfold stepG.exec;dsimp only
  split;all_goals first|exact hl _ _|exact Cp _|exact True.intro|exact Mt|exact kJ (hl _ _) (fun _=>Cp _)|exact kJ True.intro (fun _=>Mt)|skip
  all_goals (try rw[Jj])
  all_goals (repeat' split)
  all_goals first|exact Cp _|exact True.intro|exact vD|(rename_i h1;first|exact cE h1|exact fW h1|exact Fv h1|exact xK (cE h1) Mt)
theorem pE{p b l g w}:Sb w.drawn (stepG p b g w l):=by
  unfold stepG;dsimp only
  split
  · exact zY
  · exact wK
  exact kV
def tW (d:Nat):Stepped->Prop
  | .next m=>d<=m.world.drawn
  | .ended .. =>True
theorem hO{β:Type}{c}[Decidable c]{a b:Stepped×β}{d}(h1:tW d (a.1))(h2:tW d (b.1)):tW d ((if c then a else b).1):=by
  split
  · exact h1
  exact h2
theorem Vl{p rest gs i g cases b sh w}:tW w.drawn ((communicate p rest gs i g cases b sh w).1):=by
  unfold communicate;dsimp only
  refine hO True.intro (hO (hO ?_ ?_) ?_)
  · split
    · rename_i h1
      unfold waitingAt at h1;split at h1
      · split at h1
        · cases h1;exact Cp _
        cases h1
      cases h1;exact Cp _
    exact True.intro
  · exact Cp _
  split
  · exact True.intro
  rename_i h1;have h:=Fv h1;repeat' split
  all_goals first|exact h|exact True.intro|exact Al h (pY (by assumption))|(rename Sem.run p (choose _) _=Result.ok _ _=>h9;have A0:=Fv h9;exact Al h A0)
theorem jQ{p rest gs w}:tW w.drawn (look p gs rest w):=by
  unfold look;dsimp only
  repeat' split
  all_goals first|exact True.intro|(rename Sem.run p _ w=Result.ok _ _=>h9;have A0:=Fv h9;exact A0)
theorem eM(w c):(drain w c).2.drawn=w.drawn:=by
  unfold drain;split<;>rfl
theorem Pg(m k t a b):(retime m k t a b).2.world.drawn=m.world.drawn:=by
  unfold retime;dsimp only
  split
  · exact eM _ _
  rfl
theorem Ry{m m' var f v d}(hf:∀k t,(f k t).2.world.drawn=d)(h:timerOp.named m var f= .ok (v,m')):m'.world.drawn=d:=by
  unfold timerOp.named at h;split at h
  · rename_i k _
    have e:=hf k (m.rest.timers.getD k default);injection h with h
    rw[h]at e;exact e
  cases h
theorem fJ{m m' op v}(h:timerOp m op= .ok (v,m')):m'.world.drawn=m.world.drawn:=by
  cases op with
  | new t=>
    simp only[timerOp]at h;split at h
    · cases h;rfl
    split at h
    · split at h
      · cases h
      cases h;rfl
    cases h
  |stop var=>exact Ry (fun k t=>Pg m k t 0 t.period) h
  | reset var a b=>
    simp only[timerOp]at h;split at h
    · rename_i m2 h2
      have e:m2.world.drawn=m.world.drawn:=by
        unfold timerOp.opened at h2;split at h2
        · split at h2
          · cases h2;rfl
          cases h2
        cases h2;rfl
      exact Ry (fun k t=>(Pg m2 k t a b).trans e) h
    cases h
  | deadline ctx r w t=>
    simp only[timerOp]at h;cases h;rfl
theorem pR{p m k}:tW m.world.drawn (serve p m k):=by
  unfold serve;split
  · exact True.intro
  · exact Cp _
  dsimp only
  split
  · exact True.intro
  exact Cp _
theorem yI{p m i l}:tW m.world.drawn ((Go.runT p m i l).1):=by
  unfold Go.runT;dsimp only
  generalize hs:stepG p (i==0) _ m.world l=s;have h:Sb m.world.drawn s:=by rw[<-hs];exact pE
  cases s with
  | comm g c b sh w es=>
    have h:m.world.drawn<=w.drawn:=h;have hc:=Vl (p:=p) (rest:=m.rest) (gs:=(m.gs.swapAt! i {(default:Goroutine)with status:= .finished}).2) (i:=i) (g:=g) (cases:=c) (b:=b) (sh:=sh) (w:=w);dsimp only
    revert hc
    generalize communicate p m.rest _ i g c b sh w=q;intro hc;obtain⟨r,A0⟩:=q;cases r with
    |next m2=>exact Al h hc
    |ended=>exact True.intro
  | collect g w es=>
    have h:m.world.drawn<=w.drawn:=h;have hc:=jQ (p:=p) (gs:=(m.gs.swapAt! i {(default:Goroutine)with status:= .finished}).2.setIfInBounds i g) (rest:=m.rest) (w:=w);dsimp only
    revert hc
    generalize look p _ m.rest w=q;intro hc;cases q with
    |next m2=>exact Al h hc
    |ended=>exact True.intro
  | timer g op w es=>
    have h:m.world.drawn<=w.drawn:=h;dsimp only
    split
    · rename_i h2
      have e:=fJ h2;exact Al h (jZZ e.symm)
    all_goals first|exact True.intro|exact h
  | coroswitch g c ex w es=>
    have h:m.world.drawn<=w.drawn:=h;dsimp only
    repeat' split
    all_goals first|exact h|exact True.intro|(rename endThrow _ _ _=GStep.go _ _ _=>h9;unfold endThrow dieOf at h9;cases h9;exact h)
  | count g w es=>
    have h:m.world.drawn<=w.drawn:=h;dsimp only
    split
    · exact True.intro
    exact h
  |_=>first|exact h|exact True.intro
def xQ (d:Nat):Move->Prop
  | .goroutine m _=>d<=m.world.drawn
  | .machine s _=>tW d s
theorem Ra{c}[Decidable c]{a b d}(h1:xQ d a)(h2:xQ d b):xQ d (if c then a else b):=by
  split
  · exact h1
  exact h2
theorem Zn {p:Program}{rs:List Nat}{d:Nat}(m:Machine)(h:d<=m.world.drawn):xQ d (match (choose (.sched rs.length)).run p m.world with
      | .halt _ w=>Move.machine (.ended (.stuck "sched" "") w)
      | .ok k world=>
        if rs.length<=1 then .goroutine {m with world} (rs.getD k 0)else
        match (choose (.extern "sched.slice" 65536)).run p world with
        | .halt _ w=> .machine (.ended (.stuck "sched.slice" "") w)
        | .ok n world=> .goroutine {m with world,rest:={m.rest with slice:=if n=0 then none else some (rs.getD k 0,n)}} (rs.getD k 0)):=by
  split
  · exact True.intro
  rename_i h1;have h2:=Fv h1;refine Ra (Al h h2) ?_;split
  · exact True.intro
  rename_i h3;have h4:=Fv h3;exact Al h (Al h2 h4)
theorem fU{p m k d}(h:d<=m.world.drawn):tW d (serve p m k):=by
  have hs:=pR (p:=p) (m:=m) (k:=k);generalize serve p m k=q at hs;cases q with
  |next m2=>exact Al h hs
  |ended=>exact True.intro
theorem eY{p m}:xQ m.world.drawn (askOn p m):=by
  unfold askOn;dsimp only
  split
  · exact True.intro
  rename_i w1 h1;have h2:=Fv h1;refine Ra (fU h2) ?_;split
  · split
    · exact h2
    refine Ra h2 ?_;split
    · exact True.intro
    exact True.intro
  split
  · exact Zn {m with world:=w1} h2
  split
  · exact True.intro
  · rename_i w3 h3
    have h4:=Fv h3;exact Zn {m with world:=w3} (Al h2 h4)
  · rename_i h3
    have h4:=Fv h3;exact Al h2 h4
  rename_i h3;have h4:=Fv h3;exact Zn _ (Al h2 h4)
theorem Vp{p m d}(h:d<=m.world.drawn):xQ d (askOn p m):=by
  have hs:=eY (p:=p) (m:=m);generalize askOn p m=q at hs;cases q with
  |goroutine m2 i=>exact Al h hs
  | machine s ops=>
    cases s with
    |next m2=>exact Al h hs
    |ended=>exact True.intro
theorem tN{p m}:xQ m.world.drawn (ask p m):=by
  unfold ask;refine Ra ?_ eY;split
  · exact True.intro
  · rename_i w1 h1
    have h2:=Fv h1;have hl:=jQ (p:=p) (gs:=m.gs) (rest:=m.rest) (w:=w1);generalize look p m.gs m.rest w1=q at hl
    cases q with
    |next m2=>exact Vp (Al h2 hl)
    |ended=>exact True.intro
  rename_i w1 _ h1;have h2:=Fv h1;exact Vp (m:={m with world:=w1}) h2
theorem vP{p m}:xQ m.world.drawn (move p m):=by
  unfold move;split
  · refine Ra (Cp _) True.intro
  split
  · refine Ra (Cp _) tN
  exact tN
theorem uI{p m}:tW m.world.drawn (step p m):=by
  unfold step stepT;have h:=vP (p:=p) (m:=m);generalize move p m=q at h
  cases q with
  | goroutine m2 i=>
    have h2:=yI (p:=p) (m:=m2) (i:=i) (l:=true);dsimp only
    generalize (Go.runT p m2 i true).1=r at h2;cases r with
    |next m3=>exact Al h h2
    |ended=>exact True.intro
  |machine s ops=>exact h
theorem bL{p m m'}(h:Steps p m m'):m.world.drawn<=m'.world.drawn:=by
  obtain⟨n,h⟩:=h;induction n generalizing m with
  | zero=>
    simp only[runN]at h;injection h with h
    rw[h];exact Cp _
  | succ n ih=>
    simp only[runN]at h;have hs:=uI (p:=p) (m:=m);generalize step p m=q at h hs
    cases q with
    |next m2=>exact Al hs (ih h)
    |ended=>cases h
theorem Calls.drawn{P f args w R}(h:Calls P f args w R)(hr:∀e w',R e w'->∃v,e= .returned v):
    Calls P f args w fun e w'=>R e w'/\w.drawn<=w'.drawn:=by
  intro cs;obtain⟨e,w',fr,h1,h2,h3⟩:=h cs;refine⟨e,w',fr,⟨h1,?_⟩,h2,h3⟩;obtain⟨v,rfl⟩:=hr e w' h1;exact bL h2
end
section
open Go.RowKit Go.Shelf Go.Lib Go.Sort
theorem sL{W W'}(h:Aa W W')(hd:W.drawn<=W'.drawn):∃q os',W'=grow (W.drewN q) os':=by
 refine⟨W'.drawn-W.drawn,W'.heap.extract W.heap.size W'.heap.size,?_⟩;have e:W'.heap=W.heap++W'.heap.extract W.heap.size W'.heap.size:=by
  have hs:=h.size;apply Array.ext_getElem?;intro i;rw[Array.getElem?_append];by_cases hi:i<W.heap.size
  ·rw[if_pos hi]
   exact h.block i hi
  rw[if_neg hi,Array.getElem?_extract];have A0:min W'.heap.size W'.heap.size-W.heap.size=W'.heap.size-W.heap.size:=ω
  by_cases h2:i<W'.heap.size
  ·rw[if_pos ω]
   congr 1;omega
  rw[if_neg ω,Array.getElem?_eq_none ω]
 have h1:=h.os;have h2:=h.tape;have h3:=h.output;cases W' with
 |mk hp tp dr o ou=>
  simp only at e h1 h2 h3 hd;subst h1;subst h2;subst h3;simp only[grow,World.drewN];rw[<-e];congr 1;omega
section
variable {α:Type} {enc:α->List Value} {k:Nat}
theorem Yh[Inhabited α](hk:∀x,(enc x).length=k)(h0:0<k)(xs:List α)(j)(hj:j<xs.length*k):(xs.flatMap enc)[j]?=some ((enc xs.toArray[j/k]!)[j%k]!):=by
 have h1:j/k<xs.length:=Nat.div_lt_of_lt_mul (by rw[lXX];exact hj);have e1:xs[j/k]?=some xs.toArray[j/k]! :=by
  rw[getElem!_pos xs.toArray (j/k) (by simpa using h1),aQQ h1];simp
 have h2:j%k<(enc xs.toArray[j/k]!).length:=by rw[hk];exact Nat.mod_lt _ h0
 have h3:=Hu hk xs (j/k) _ e1 (j%k) _ (aQQ h2);rw[lXX,Nat.div_add_mod]at h3;rw[h3,getElem!_pos (enc xs.toArray[j/k]!) (j%k) h2]
theorem iA[Inhabited α](hk:∀x,(enc x).length=k)(h0:0<k){w g T}{xs:List α}{rest}(hb:Aj w g T (xs.flatMap enc++rest).toArray):HoldsK enc k w g 0 xs.toArray:=by
  intro j hj;have A0:j<xs.length*k:=by simpa using hj
  refine⟨?_,hb.frozen _⟩;have A1:j<xs.toArray.size*k:=by simpa using A0
  rw[cXX,hb.cell,aZZ,dZZ (by rw[Dn hk];exact A0),Yh hk h0 xs j A0,get_flatK enc k _ j A1];rfl
theorem Mf[Inhabited α](w g off m dk os)(_hg:g<w.heap.size):Bd g w (sortWorldK enc k w g off m dk os):=by
  have hs:(putRowK enc k (Sort.ahead w m) g off dk).heap.size=w.heap.size:=size_putRowK enc k _ _ _ _;refine⟨rfl,rfl,rfl,?_,fun i hi hne=> ?_⟩
  · unfold sortWorldK
    rw[size_grow,hs];exact Nat.le_add_right _ _
  unfold sortWorldK;rw[heap_grow_old _ _ (by rw[hs];exact hi)];show(w.heap.modify g _)[i]?=_;rw[Array.getElem?_modify,if_neg (fun e=>hne (by rw[e]))]
theorem Vo[Inhabited α](hk:∀x,(enc x).length=k)(h0:0<k){w g T}{xs ys:List α}{rest}(hb:Aj w g T (xs.flatMap enc++rest).toArray)(hl:ys.length=xs.length)(m os):
  Aj (sortWorldK enc k w g 0 m ys.toArray os) g T (ys.flatMap enc++rest).toArray:=by
 have hg:=hb.lt;have hs:(putRowK enc k (Sort.ahead w m) g 0 ys.toArray).heap.size=w.heap.size:=size_putRowK enc k _ _ _ _;unfold sortWorldK Aj;rw[heap_grow_old _ _ (by rw[hs];exact hg)];show(w.heap.modify g (onCells (putCells id 0 (flatK enc k ys.toArray))))[g]?=_;have A5:w.heap[g]?=some (.cells (xs.flatMap enc++rest).toArray T (0,0)):=hb;rw[Array.getElem?_modify,if_pos rfl,A5];simp only[Option.map_some,onCells];congr 2;apply Array.ext_getElem?;intro j;unfold putCells;rw[Array.getElem?_mapIdx,aZZ,aZZ];have A4:(flatK enc k ys.toArray).size=ys.length*k:=by simp
 have A3:(xs.flatMap enc).length=xs.length*k:=Dn hk xs;have A2:(ys.flatMap enc).length=ys.length*k:=Dn hk ys;by_cases hj:j<ys.length*k
 ·have A0:j<(xs.flatMap enc).length:=by rw[A3,<-hl];exact hj
  rw[dZZ A0,aQQ A0,dZZ (by rw[A2];exact hj),Yh hk h0 ys j hj];simp only[Option.map_some];rw[if_pos (by rw[A4];omega),Nat.sub_zero,get_flatK enc k _ j (by simpa using hj)];rfl
 have A1:¬(0<=j/\j<0+(flatK enc k ys.toArray).size):=by rw[A4];omega
 have A0:(xs.flatMap enc).length<=j:=by rw[A3,<-hl];omega
 rw[dQQ A0,dQQ (by rw[A2];omega),A3,A2,hl];cases (rest[j-xs.length*k]?)with
 |none=>rfl
 |some v=>simp only[Option.map_some];rw[if_neg A1]
end
theorem lF{ρ:Ren}(LL:SlLaysF0.n6 prog ρ)(k)(h0:0<k)(aE:∀w,(isAgg (ρ.t 24)).run prog w= .ok true w)(zE:∀w,(Go.sizeOf (ρ.t 24)).run prog w= .ok k w){α:Type}(enc)(hk:∀x,(enc x).length=k)
(h1:∀x,∀v∈enc x,v.oneCell'=true)(hu:∀x,Av (enc x))(Ok:World->α->Prop)(hOk:∀{w w' x},Ok w x->Ac w w'->Ok w' x)(cf:α->α->Int)
(hO1:∀x,¬cf x x<0)(hO2:∀x y z,cf x y<0->cf y z<0->cf x z<0)(hO3:∀x y z,¬cf x y<0->¬cf y z<0->¬cf x z<0)(f)(eg:∀args w,(callFunc f args).run prog w= .ok (.enter f args) w)
(hcmp:∀w x y,Ok w x->Ok w y->Calls prog f #[.agg (enc x).toArray,.agg (enc y).toArray] w fun e w'=>e= .returned (iV (cf x y))/\Aa w w')
(v es base T w)(h:Bg w base T k v es.length (es.flatMap enc))(hok:∀e,e∈es->Ok w e)(hn:es.length<4611686018427387904):
  Calls prog (ρ.f 6) #[v,.func (.func f) #[] #[]] w fun e w'=>e= .returned (.tuple #[])/\
   ∃es':List α,es'.Perm es/\es'.Pairwise (fun x y=>¬cf y x<0)/\Bg w' base T k v es'.length (es'.flatMap enc)/\w.grownBy w' v.ownBlock/\Ac w w':=by
 cases es with
 |nil=>
  obtain⟨A,c,rfl,_⟩:=Bg.form h;refine(AnyF.slices_SortFunc_none LL A c _ w).mono ?_;rintro e w' ⟨rfl,rfl⟩;exact⟨rfl,[],.refl _,.nil,h,World.grownBy.refl _ _,Ac.refl _⟩
 |cons e0 es0=>
  rcases h.2 with⟨_,hn0⟩|⟨g,cap,rest,rfl,hb,hg,hc1,hc2,hc3,hc4⟩
  ·simp at hn0
  have hxs:∃xs:List {e:α//Ok w e},xs.map Subtype.val=e0::es0:=by
   clear h hg hc1 hc3 hn hc4;generalize e0::es0=es at hok;induction es with
   |nil=>exact⟨[],rfl⟩
   |cons e es ih=>
    obtain⟨xs,hx⟩:=ih (fun f hf=>hok f (by simp[hf]));exact⟨⟨e,hok e (by simp)⟩::xs,by rw[List.map_cons,hx]⟩
  obtain⟨xs,hxs⟩:=hxs;haveI:Inhabited {e:α//Ok w e}:=⟨⟨e0,hok e0 (by simp)⟩⟩
  have hfm:∀ys:List {e:α//Ok w e},ys.flatMap (fun x=>enc x.1)=(ys.map Subtype.val).flatMap enc:=fun ys=>by rw[List.flatMap_map]
  have hlen:xs.length=(e0::es0).length:=by rw[<-hxs,fXX]
  rw[<-hxs,<-hfm]at hg hc3 hc4;rw[<-hlen]at hn h hc1⊢;have hk':∀x: {e:α//Ok w e},(enc x.1).length=k:=fun x=>hk x.1
  have hswo:SWO (ltOf (fun x y: {e:α//Ok w e}=>cf x.1 y.1)):=
   ⟨fun x=>decide_eq_false (hO1 x.1),fun x y z a b=>decide_eq_true (hO2 x.1 y.1 z.1 (of_decide_eq_true a) (of_decide_eq_true b)),fun x y z a b=>decide_eq_false (hO3 x.1 y.1 z.1 (of_decide_eq_false a) (of_decide_eq_false b))⟩
  have hdig:∀(m:Nat) (os:Array Obj) (dk:Array {e:α//Ok w e}),Ac w (sortWorldK (fun x=>enc x.1) k w g 0 m dk os):=fun m os dk=>
   Ac.of_own hg hc4.arr (Mf w g 0 m dk os hg.lt)
  have hlays:CmpLays prog f #[] (fun x: {e:α//Ok w e}=>enc x.1) k (fun x y=>cf x.1 y.1) g 0 xs.toArray.size w:=by
   intro m os dk _ x y;have hd:=hdig m os dk;revert hd
   generalize sortWorldK (fun x: {e:α//Ok w e}=>enc x.1) k w g 0 m dk os=W;intro hd;have hx:Ok W x.1:=hOk (w:=w) (w':=W) (x:=x.1) x.2 hd;have hy:Ok W y.1:=hOk (w:=w) (w':=W) (x:=y.1) y.2 hd;have hc:=Calls.drawn (hcmp W x.1 y.1 hx hy) (fun e w' he=>⟨_,he.1⟩);rw[Array.append_empty];exact hc.mono fun e w' he=>⟨he.1.1,sL he.1.2 he.2⟩
  have hH:HoldsK (fun x: {e:α//Ok w e}=>enc x.1) k w g 0 xs.toArray:=iA (enc:=fun x: {e:α//Ok w e}=>enc x.1) hk' h0 (xs:=xs) (T:=T) (rest:=rest) hg;have hsz:xs.toArray.size<4611686018427387904:=by simpa using hn
  have hS:=AnyQ.slices_SortFunc LL k aE zE (fun x: {e:α//Ok w e}=>enc x.1) hk' (fun x=>h1 x.1) (fun x y=>cf x.1 y.1) hswo f #[] g 0 cap xs.toArray w eg hlays hH hg.lt hsz;rw[List.size_toArray]at hS;refine hS.mono ?_;rintro e w' ⟨rfl,d',n,os,hp,hs,rfl⟩;obtain⟨hp1,_,hp3⟩:=hp;have hl:d'.toList.length=xs.length:=by simpa using hp1
  have hperm:d'.toList.Perm xs:=by
   have e1:d'.extract 0 xs.length=d':=by
    have hsz:d'.size=xs.length:=by simpa using hp1
    rw[<-hsz];simp
   have e2:xs.toArray.extract 0 xs.length=xs.toArray:=by simp
   rw[e1,e2]at hp3;simpa using hp3
  have hb2:=Vo (k:=k) (enc:=fun x: {e:α//Ok w e}=>enc x.1) hk' h0 hg hl n os;rw[Array.toArray_toList]at hb2;have hml:(d'.toList.map Subtype.val).length=xs.length:=by rw[fXX,hl]
  have hfl:∀ys:List {e:α//Ok w e},(ys.flatMap (fun x=>enc x.1)).length=ys.length*k:=fun ys=>Dn hk' ys
  refine⟨rfl,d'.toList.map Subtype.val,by rw[<-hxs];exact hperm.map _,?_,?_,?_,?_⟩
  ·rw[List.pairwise_map,List.pairwise_iff_getElem]
   intro i j hi hj hij;have h3:=hs i j (dXX _) hij (by rw[hl]at hj;simpa using hj);have hi':i<d'.size:=by simpa using hi
   have hj':j<d'.size:=by simpa using hj
   rw[getElem!_pos d' i hi',getElem!_pos d' j hj']at h3;have h4:=of_decide_eq_false h3;simpa using h4
  ·rw[hml,<-hfm]
   refine⟨by rw[hfl,hl],.inr ⟨g,cap,rest,rfl,hb,hb2,hc1,hc2,?_,?_⟩⟩
   ·rw[hfl,hl,<-hfl];exact hc3
   refine Av.app ?_ hc4.right;intro z hz;obtain⟨x,_,hx⟩:=List.mem_flatMap.1 hz;exact hu x.1 z hx
  ·have ho:=Mf (k:=k) (enc:=fun x: {e:α//Ok w e}=>enc x.1) w g 0 n d' os hg.lt
   simpa[Value.ownBlock,Bd]using ho
  exact hdig n os d'
end
section
structure Ba where
  a:RV
  q:Rat
def Ba.cells (e:Ba):List Value:=(rc e.a)
theorem Ba.len (e:Ba):e.cells.length=4:=rfl
theorem Ba.one (e:Ba):∀v,v∈e.cells->v.oneCell'=true:=by simp[Ba.cells,Value.oneCell']
theorem xI (e:Ba):Av e.cells:=by simp[Ba.cells,Av]
def Ba.Ok (L:Nat)(w:World)(e:Ba):Prop:=e.a.Is w e.q/\Nm.rl e.q<=L
theorem Ba.Ok.dig{L w w'}{e:Ba}(h:e.Ok L w)(d:Ac w w'):e.Ok L w':=⟨h.1.dig d,h.2⟩
theorem Jc{w:World}{g o v}(h:w.cell? ⟨g,o,none⟩=some v):w.rangeAt g o [v]:=by
  intro j u hj;match j,hj with
  |0,hj=>simp at hj;subst hj;exact h
  |j+1,hj=>simp at hj
section
variable {α:Type} (eqv:α->α->Bool)
def Hv (p:α):List α->List α
  | []=>[]
  |x::l=>if eqv x p then Hv x l else x::Hv x l
def Do:List α->List α
  | []=>[]
  |x::l=>x::Hv eqv x l
theorem iP(l):∀(p:α) (q x:α),(p::l).getLast?=some q->Hv eqv p (l++[x])=Hv eqv p l++(if eqv x q then[]else[x]):=by
  induction l with
  | nil=>
    intro p q x h;simp at h;subst h;simp[Hv]
  | cons y l ih=>
    intro p q x h;have h2:(y::l).getLast?=some q:=by simpa using h
    have h3:=ih y q x h2;simp only[jXX,Hv];split
    · exact h3
    rw[h3,jXX]
theorem Wg{l q x}(h:l.getLast?=some q):Do eqv (l++[x])=Do eqv l++(if eqv x q then[]else[x]):=by
  cases l with
  |nil=>simp at h
  | cons p l=>
    simp only[jXX,Do];rw[iP eqv l p q x h]
theorem oK(l):∀(p z:α),z∈Hv eqv p l->z∈l:=by
  induction l with
  |nil=>intro p z h;simp[Hv]at h
  | cons y l ih=>
    intro p z h;unfold Hv at h;split at h
    · exact cZZ _ (ih y z h)
    rcases List.mem_cons.1 h with h|h
    · rw[h];simp
    exact cZZ _ (ih y z h)
theorem Qc{l z}(h:z∈Do eqv l):z∈l:=by
  cases l with
  |nil=>simp[Do]at h
  | cons p l=>
    rcases List.mem_cons.1 h with h|h
    · rw[h];simp
    exact cZZ _ (oK eqv l p z h)
variable {eqv}
theorem oL{β:Type}{key:α->β}(hk:∀x y,eqv x y=true->key x=key y)(l):∀(p z:α),z∈p::l->∃y∈p::Hv eqv p l,key y=key z:=by
 induction l with
 |nil=>intro p z h;exact⟨z,by simpa[Hv]using h,rfl⟩
 |cons x l ih=>
  intro p z h;rcases List.mem_cons.1 h with rfl|h
  ·exact⟨z,by simp,rfl⟩
  obtain⟨y,h1,h2⟩:=ih x z h;unfold Hv;split
  ·rename_i he
   rcases List.mem_cons.1 h1 with rfl|h1
   ·exact⟨p,by simp,by rw[<-h2,hk _ _ he]⟩
   exact⟨y,cZZ _ h1,h2⟩
  exact⟨y,cZZ _ h1,h2⟩
theorem aN{β:Type}{key:α->β}(hk:∀x y,eqv x y=true->key x=key y){l z}(h:z∈l):∃y∈Do eqv l,key y=key z:=by
  cases l with
  |nil=>simp at h
  |cons p l=>exact oL hk l p z h
theorem aO{lt le}(ht:∀a b c,le a b->lt b c->lt a c)(h1:∀x y,le y x->eqv x y=false->lt y x)(h2:∀x y,eqv x y=true->∀z,lt x z->lt y z)(l):∀p:α,(p::l).Pairwise le->(p::Hv eqv p l).Pairwise lt/\∀z,z∈Hv eqv p l->lt p z:=by
 induction l with
 |nil=>intro p _;simp[Hv]
 |cons x l ih=>
  intro p hp;have A1:=List.pairwise_cons.1 hp;obtain⟨h3,h4⟩:=ih x A1.2;have A0:=A1.1 x (by simp);unfold Hv;split
  ·rename_i he
   have h5:∀z,z∈Hv eqv x l->lt p z:=fun z hz=>h2 _ _ he z (h4 z hz)
   exact⟨List.pairwise_cons.2 ⟨h5,(List.pairwise_cons.1 h3).2⟩,h5⟩
  rename_i he;have A2:=h1 x p A0 (by simpa using he);have h5:∀z,z∈x::Hv eqv x l->lt p z:=fun z hz=>by
   rcases List.mem_cons.1 hz with rfl|hz
   ·exact A2
   exact ht p x z A0 (h4 z hz)
  exact⟨List.pairwise_cons.2 ⟨h5,h3⟩,h5⟩
theorem Sp{lt le}(ht:∀a b c,le a b->lt b c->lt a c)(h1:∀x y,le y x->eqv x y=false->lt y x)(h2:∀x y,eqv x y=true->∀z,lt x z->lt y z){l}(hl:l.Pairwise le):(Do eqv l).Pairwise lt:=by
  cases l with
  |nil=>exact .nil
  |cons p l=>exact(aO ht h1 h2 l p hl).1
end
theorem Nq {α:Type}{lt:α->α->Prop}(hi:∀a,¬lt a a)(ht:∀a b c,lt a b->lt b c->lt a c):∀{l m:List α},l.Pairwise lt->m.Pairwise lt->(∀z,z∈l↔z∈m)->l=m
 | [],[],_,_,_=>rfl
 | [],y::m,_,_,h=>by have:=(h y).2 (by simp);simp at this
 |x::l,[],_,_,h=>by have:=(h x).1 (by simp);simp at this
 |x::l,y::m,hl,hm,h=>by
  have A1:=List.pairwise_cons.1 hl;have A0:=List.pairwise_cons.1 hm;have e:x=y:=by
   rcases List.mem_cons.1 ((h x).1 (by simp))with e|hx
   ·exact e
   rcases List.mem_cons.1 ((h y).2 (by simp))with e|hy
   ·exact e.symm
   exact absurd (ht _ _ _ (A1.1 y hy) (A0.1 x hx)) (hi x)
  subst e;rw[Nq hi ht A1.2 A0.2 (fun z=>by
   constructor
   ·intro hz
    rcases List.mem_cons.1 ((h z).1 (cZZ _ hz))with e|h2
    ·subst e;exact absurd (A1.1 z hz) (hi z)
    exact h2
   intro hz;rcases List.mem_cons.1 ((h z).2 (cZZ _ hz))with e|h2
   ·subst e;exact absurd (A0.1 z hz) (hi z)
   exact h2)]
theorem kG{P}{ρ:Operand->Value}{o w}{g n c size k d c2:Nat}{z t e x y}(ho:o.op= .slice t x (some y) none none)(ht:P.underlying t=some (.slice e))(hs:(P.info? e).map (·.size)=some size)
(hx:ρ x= .slice (π g) n c)(hy:ρ y= iV z)(hz:z=(k:Int))(hn:n=k+d)(hd:0<d)(hc:c=k+c2)(hc2:d<=c2):(execOp ρ o).run P w= .ok (.value (.slice (some ⟨g,k*size,none⟩) d c2)) w:=by
 subst hz;subst hn;subst hc;have hel:P.elem t=e:=by simp[Program.elem,ht]
 have h1:P.underlying t=some (.slice (P.elem t)):=by rw[hel];exact ht
 unfold execOp;simp only[ho,hx,hy,Option.map_some,Option.map_none,Sem.run_bind,run_sliceAt_slice _ _ _ _ _ _ h1,run_slice_l w t _ _ _ h1 .i64 (k:Int) ω (by omega:(k:Int)<=((k+d:Nat):Int)),hel];cases hq:P.info? e with
 |none=>simp[hq]at hs
 |some i=>
  have h2:i.size=size:=by simpa[hq]using hs
  have h3:k+d-k=d:=ω;have h4:k+c2-k=c2:=ω;simp[sizeOf,typeInfo,hq,sliced,h2,h3,h4,Int.toNat_natCast,show¬c2=0 by omega,Addr.add_lit]
theorem Mo{w:World}{g a b c cs}(h:w.rangeAt g ((a+b)*c) cs):w.rangeAt g (a*c+b*c) cs:=by rw[kZZ]at h;exact h
theorem Sa{α:Type}{l m:List α}{i x}(h:l.drop i=m.drop i)(hx:i<=x):l[x]?=m[x]?:=by
  have e1:(l.drop i)[x-i]?=(m.drop i)[x-i]?:=by rw[h]
  rw[List.getElem?_drop,List.getElem?_drop]at e1;rwa[show i+(x-i)=x by omega]at e1
theorem Fr.grownBy{r w w'}(h:Fr (fun k=>r=some k) w w'):w.grownBy w' r:=⟨h.os,h.tape,h.output,h.size,fun k hk hne=>h.block k hk (fun e=>hne e.symm)⟩
theorem xM(w b)(h:b<=w.heap.size):∃w0,Aa w0 w/\w0.heap.size=b:=
  ⟨{w with heap:=w.heap.extract 0 b},⟨rfl,rfl,rfl,by rw[show({w with heap:=w.heap.extract 0 b}:World).heap.size=min b w.heap.size-0 from Array.size_extract];omega,fun k hk=>by
    have A0:k<b:=by simp at hk;omega
    simp[show k<min b w.heap.size by omega]⟩,by simp;omega⟩
theorem Hp.one{w0 w t size n v xs}(x:Aa w0 w)(h:Bg w w0.heap.size t size v n xs):Hp w0 w [.row t size v n xs]:=
  ((Hp.start w0).step x).add h (fun i f hf=>by simp at hf)
theorem Vw{α:Type}{l:List α}{k e}(h:k<l.length):(l.set k e).take (k+1)=l.take k++[e]:=by
  rw[List.take_add_one,List.take_set_of_le (Cp k)];simp[h]
theorem Qb{α:Type}{eqv}{es:List α}{j e f}(he:es[j+1]?=some e)(hf:es[j]?=some f):Do eqv (es.take (j+1+1))=Do eqv (es.take (j+1))++(if eqv e f then[]else[e]):=by
  have h1:es.take (j+1+1)=es.take (j+1)++[e]:=by rw[List.take_add_one,he];rfl
  rw[h1];refine Wg eqv ?_;rw[List.take_add_one,hf];simp
theorem wP{P}{ρ:Operand->Value}{o w}{g n c size k:Nat}{z t e x y}(ho:o.op= .slice t x none (some y) none)(ht:P.underlying t=some (.slice e))(hs:(P.info? e).map (·.size)=some size)
(hx:ρ x= .slice (π g) n c)(hy:ρ y= iV z)(hz:z=(k:Int))(hk:k<=n)(hn:n<=c)(hc:0<c):(execOp ρ o).run P w= .ok (.value (.slice (π g) k c)) w:=by
 subst hz;have hel:P.elem t=e:=by simp[Program.elem,ht]
 have h1:P.underlying t=some (.slice (P.elem t)):=by rw[hel];exact ht
 unfold execOp;simp only[ho,hx,hy,Option.map_some,Option.map_none,Sem.run_bind,run_sliceAt_slice _ _ _ _ _ _ h1,run_slice_h w t _ _ _ h1 .i64 (k:Int) ω (by omega:(k:Int)<=(c:Int)),hel];cases hq:P.info? e with
 |none=>simp[hq]at hs
 |some i=>
  have h2:i.size=size:=by simpa[hq]using hs
  simp[sizeOf,typeInfo,hq,sliced,h2,Int.toNat_natCast,show¬c=0 by omega,Addr.add_lit]
theorem Bg.cut{w base t size g n cap k xs}(h:Bg w base t size (.slice (π g) n cap) n xs)(hk:k<=n):Bg w base t size (.slice (π g) k cap) k (xs.take (k*size)):=by
 obtain⟨h1,⟨hv,_⟩|⟨g',A0,rest,hv,a,hb,h3,h4,h5,h6⟩⟩:=h
 ·cases hv
 injection hv with e1 e2 e3
 injection e1 with e1
 injection e1 with e1
 subst e1;subst e3;have hl:k*size<=xs.length:=by rw[h1];exact gQQ _ hk
 have e:xs.take (k*size)++(xs.drop (k*size)++rest)=xs++rest:=by rw[<-jQQ,List.take_append_drop]
 refine⟨by rw[eQQ];omega,.inr ⟨g,cap,xs.drop (k*size)++rest,rfl,a,by rw[e];exact hb,ω,h4,?_,by rw[e];exact h6⟩⟩;rw[eQQ,aXX,List.length_drop];omega
theorem rL{α:Type}{f P w0 w m ix a Q rest op ops}(hw:Region.wanted op (yielded ops a.tmps)=true)(x ty)(ho:op.op= .call {callee:= .builtin .clear,args:=#[x],argTypes:=#[ty]})
{g n cap size}{t:TypeId}{es:List α}(hH:Hp w0 w m)(hi:m[ix]?=some (.row t size (.slice (π g) n cap) n (es.flatMap f)))(hc:∀x,(f x).length=size)(hl:es.length=n)(k c:Nat)(hk:k<n)(hx:a.eval x= .slice (some ⟨g,k*size,none⟩) (n-k) c)
(ht:P.underlying ty=some (.slice t))(z:Value)(hz:∀w,(zeroValue t).run P w= .ok z w)(hzs:z.cells.size=size)(h1:∀v,v∈z.cells.toList->v.oneCell'=true)(hn:Av z.cells.toList)(h0:0<size)
(h:∀w',Hp w0 w' (m.set ix (.row t size (.slice (π g) k cap) k ((es.take k).flatMap f)))->Ac w w'->Bd g w w'->wpList P ops Q rest (a.put op.dst (.tuple #[])) w'):wpList P ops Q (op::rest) a w:=by
 have hzl:(Builtin.zeroCells z.cells (n-k)).size=(n-k)*size:=by rw[size_zeroCells,hzs]
 have hfl:(es.flatMap f).length=n*size:=by rw[Dn hc,hl]
 have hks:k*size+(n-k)*size=n*size:=by rw[<-kZZ];congr 1;omega
 have hth:w.there g (k*size) ((n-k)*size):=(hH.row hi).there (k*size) ((n-k)*size) (by rw[hfl];omega);have hnz:Av (Builtin.zeroCells z.cells (n-k)).toList:=Qw _ _ ω hn;have hone:∀v,v∈(Builtin.zeroCells z.cells (n-k)).toList->v.oneCell'=true:=by
  intro v hv;unfold Builtin.zeroCells at hv;simp only[Array.toList_map,List.mem_map]at hv;obtain⟨i,_,rfl⟩:=hv;have hlt:i%z.cells.size<z.cells.size:=Nat.mod_lt _ ω;rw[getElem!_pos z.cells _ hlt];exact h1 _ (by simp)
 have hst:=run_storeCells_cells (P:=P) g (k*size) (Builtin.zeroCells z.cells (n-k)).toList 0 w (fun j hj=>by simpa using(hth j (by simpa[hzl]using hj)).1) (fun j hj=>by simpa using(hth j (by simpa[hzl]using hj)).2) hone;have hrun:(Builtin.clear_ #[ty] op.type #[.slice (some ⟨g,k*size,none⟩) (n-k) c]).run P w= .ok (.tuple #[]) (w.setCells g (k*size) (Builtin.zeroCells z.cells (n-k)).toList):=by
  obtain⟨d,hd⟩:∃d,n-k=d+1:=⟨n-k-1,ω⟩;rw[hd]at hst⊢;simp[Builtin.clear_,run_underlying ht,hz,hst]
 have hset:=(hH.row hi).setPart (k*size) (Builtin.zeroCells z.cells (n-k)).toList (by rw[hfl,Array.length_toList,hzl];omega) hnz;have hcut:=hset.cut (nXX hk);have e:((es.flatMap f).take (k*size)++(Builtin.zeroCells z.cells (n-k)).toList++(es.flatMap f).drop (k*size+(Builtin.zeroCells z.cells (n-k)).toList.length)).take (k*size)=(es.take k).flatMap f:=by
  have hkl:((es.flatMap f).take (k*size)).length=k*size:=by rw[eQQ,hfl];exact Nat.min_eq_left (gQQ _ ω)
  rw[jQQ,List.take_append_of_le_length ω,cQQ ω,Rf hc]
 rw[e]at hcut;have hgr:w.grownBy (w.setCells g (k*size) (Builtin.zeroCells z.cells (n-k)).toList) (some g):=Dj _ _ _ _;have hnew:=hH.turn (r:=some g) (e':= .row t size (.slice (π g) k cap) k ((es.take k).flatMap f)) hi (fun k hk=>by simpa[Et.own,Value.ownBlock]using hk) hgr hcut (fun k hk=> .inl hk);have hdig:Ac w (w.setCells g (k*size) (Builtin.zeroCells z.cells (n-k)).toList):=by
  refine Ac.grown (hH.row hi) ?_;exact hgr
 have h2:=h _ hnew hdig hgr;refine Cn hw ?_;unfold Oper.wp;simp[execOp,ho,resolve,invoke,builtin,hx,hrun,Result.andThen];exact h2
end
section
def Nk:List Rat->Rat->List Rat
  | [],y=>[y]
  |x::l,y=>if x<y then x::Nk l y else if x=y then x::l else y::x::l
theorem Uk {y z:Rat}:∀{l:List Rat},z∈Nk l y↔z=y\/z∈l
  | []=>by simp[Nk]
  | x::l=>by
    unfold Nk;split
    · rw[List.mem_cons,Uk,List.mem_cons]
      constructor
      · rintro(h|h|h)
        · exact .inr (.inl h)
        · exact .inl h
        exact .inr (.inr h)
      rintro(h|h|h)
      · exact .inr (.inl h)
      · exact .inl h
      exact .inr (.inr h)
    split
    · rename_i h;subst h;simp
    simp
theorem cW {y:Rat}:∀{l:List Rat},l.Pairwise (· < ·)->(Nk l y).Pairwise (· < ·)
 | [],_=>by simp[Nk]
 |x::l,h=>by
  obtain⟨h1,h2⟩:=List.pairwise_cons.1 h;unfold Nk;split
  ·rename_i hx
   refine List.pairwise_cons.2 ⟨fun z hz=> ?_,cW h2⟩;rcases Uk.1 hz with e|e
   ·rw[e];exact hx
   exact h1 z e
  split
  ·exact h
  rename_i hx hy;have A0:y<x:=by
   have:=Rat.not_lt.1 hx;grind
  refine List.pairwise_cons.2 ⟨fun z hz=> ?_,h⟩;rcases List.mem_cons.1 hz with e|e
  ·rw[e];exact A0
  have:=h1 z e;grind
def Zp (lo hi:Rat)(l all:List Rat):List Rat:=all.foldl (fun o x=>if lo<x/\x<hi then Nk o x else o) l
theorem Kp {lo hi z:Rat}:∀{all l:List Rat},z∈Zp lo hi l all↔z∈l\/(z∈all/\lo<z/\z<hi)
  | [],l=>by simp[Zp]
  | x::all,l=>by
    show z∈Zp lo hi (if lo<x/\x<hi then Nk l x else l) all↔_;rw[Kp];by_cases h:lo<x/\x<hi
    · rw[if_pos h,Uk,List.mem_cons]
      constructor
      · rintro((e|e)|e)
        · subst e;exact .inr ⟨.inl rfl,h⟩
        · exact .inl e
        exact .inr ⟨.inr e.1,e.2⟩
      rintro(e|⟨e|e,f⟩)
      · exact .inl (.inr e)
      · exact .inl (.inl e)
      exact .inr ⟨e,f⟩
    rw[if_neg h,List.mem_cons];constructor
    · rintro(e|e)
      · exact .inl e
      exact .inr ⟨.inr e.1,e.2⟩
    rintro(e|⟨e|e,f⟩)
    · exact .inl e
    · subst e;exact absurd f h
    exact .inr ⟨e,f⟩
theorem Uo {lo hi:Rat}:∀{all l:List Rat},l.Pairwise (· < ·)->(Zp lo hi l all).Pairwise (· < ·)
  | [],l,h=>h
  | x::all,l,h=>by
    show(Zp lo hi (if lo<x/\x<hi then Nk l x else l) all).Pairwise (· < ·);refine Uo ?_;split
    · exact cW h
    exact h
def Ph (a b:Int×Int)(pre:List He)(x:He):List Rat:=pre.flatMap (fun o=>Ub x o)++Qi x a.1++Qi x b.1
def cM (a b:Int×Int):List He->List He->List Rat
  |_,[]=>[]
  |pre,x::l=>Ph a b pre x++cM a b (pre++[x]) l
def qO (rs:List Dr):List Rat:=rs.flatMap fun r=>r.map fun p=>(p.2:Rat)
def Nw (a b:Int×Int)(rs:List Dr):List Rat:=qO rs++cM a b [] (Cd rs)
theorem Wq(x o):Ub o x=Ub x o:=by unfold Ub;rw[lM,lK]
theorem aQ{lo hi q z}:z∈eT lo hi q↔z=q/\lo<z/\z<hi:=by
  unfold eT;split
  · rename_i h;simp;intro e;rw[e];exact h
  rename_i h;simp;intro e h1 h2;rw[e]at h1 h2;exact h ⟨h1,h2⟩
theorem Qe{lo hi z}{l:List Rat}:z∈l.flatMap (eT lo hi)↔z∈l/\lo<z/\z<hi:=by
  rw[List.mem_flatMap];constructor
  · rintro⟨q,h1,h2⟩;obtain⟨e,h3⟩:=aQ.1 h2;rw[e]at h3⊢;exact⟨h1,h3⟩
  rintro⟨h1,h2⟩;exact⟨z,h1,aQ.2 ⟨rfl,h2⟩⟩
theorem pD{a b pre x z}:z∈Vi a b pre x↔z∈Ph a b pre x/\(a.2:Rat)<z/\z<(b.2:Rat):=by
 unfold Vi Ph;rw[oQQ,oQQ,oQQ,oQQ,Qe,Qe,List.mem_flatMap,List.mem_flatMap];constructor
 ·rintro((⟨h1,h2⟩|⟨h1,h2⟩)|⟨o,h1,h2⟩)
  ·exact⟨.inl (.inr h1),h2⟩
  ·exact⟨.inr h1,h2⟩
  rw[Qe,Wq]at h2;exact⟨.inl (.inl ⟨o,h1,h2.1⟩),h2.2⟩
 rintro⟨(⟨o,h1,h2⟩|h1)|h1,h3⟩
 ·exact .inr ⟨o,h1,by rw[Qe,Wq];exact⟨h2,h3⟩⟩
 ·exact .inl (.inl ⟨h1,h3⟩)
 exact .inl (.inr ⟨h1,h3⟩)
theorem kH {a b:Int×Int}{z:Rat}:∀{l p:List He},z∈oE a b p l↔z∈cM a b p l/\(a.2:Rat)<z/\z<(b.2:Rat)
  | [],p=>by simp[oE,cM]
  | x::l,p=>by
    unfold oE cM;rw[oQQ,oQQ,pD,kH];constructor
    · rintro(h|h)
      · exact⟨.inl h.1,h.2⟩
      exact⟨.inr h.1,h.2⟩
    rintro⟨h|h,k⟩
    · exact .inl ⟨h,k⟩
    exact .inr ⟨h,k⟩
theorem wR{a b rs z}:z∈xU a b rs↔z∈qO rs/\(a.2:Rat)<z/\z<(b.2:Rat):=by
  unfold xU qO;simp only[List.mem_flatMap,List.mem_map,aQ];constructor
  · rintro⟨r,h1,p,h2,h3,h4⟩;exact⟨⟨r,h1,p,h2,h3.symm⟩,h4⟩
  rintro⟨⟨r,h1,p,h2,h3⟩,h4⟩;exact⟨r,h1,p,h2,h3.symm,h4⟩
def Ek (a b:Int×Int)(rs:List Dr):List Rat:=if So a b rs then Zp (a.2:Rat) (b.2:Rat) [(a.2:Rat),(b.2:Rat)] (Nw a b rs)else[]
theorem wM{a b rs l}(h:l.Pairwise (· < ·))(hm:∀x,x∈l↔x∈zT a b rs):l=Ek a b rs:=by
 unfold Ek;unfold zT at hm;by_cases k:So a b rs
 ·rw[if_pos k]at hm⊢
  have A0:(a.2:Rat)<(b.2:Rat):=by exact_mod_cast k.2.2.2
  refine Nq (lt:=(· < ·)) (fun x=>Rat.lt_irrefl) (fun x y z h1 h2=>by grind) h (Uo (by simp[A0])) (fun z=> ?_);rw[hm,Kp];unfold Nw;rw[oQQ,oQQ,oQQ,wR,kH];constructor
  ·rintro((e|e)|e)
   ·exact .inl e
   ·exact .inr ⟨.inl e.1,e.2⟩
   exact .inr ⟨.inr e.1,e.2⟩
  rintro(e|⟨e|e,f⟩)
  ·exact .inl (.inl e)
  ·exact .inl (.inr ⟨e,f⟩)
  exact .inr ⟨e,f⟩
 rw[if_neg k]at hm⊢;cases l with
 |nil=>rfl
 |cons x l=>have:=(hm x).1 (by simp);simp at this
def Dc (W:Rat->Rat):List Rat->Rat
  |x::y::l=>W ((x+y)/2)*(y-x)+Dc W (y::l)
  |_=>0
theorem yV {p q:Rat}(h:p<q):p<(p+q)/2/\(p+q)/2<q:=by
  rw[Rat.div_def];have e:(2:Rat)*(2:Rat)⁻¹=1:=Rat.mul_inv_cancel 2 (by decide);have k:(0:Rat)<(2:Rat)⁻¹:=by decide+kernel
  have e2:(2:Rat)⁻¹+(2:Rat)⁻¹=1:=by decide+kernel
  generalize (2:Rat)⁻¹=i at*;have h1:=Rat.mul_lt_mul_of_pos_left h k;have e3:p=i*p+i*p:=by grind
  have e4:q=i*q+i*q:=by grind
  have e5:(p+q)*i=i*p+i*q:=by grind
  rw[e5];generalize i*p=a at*;generalize i*q=b at*;constructor<;>grind
structure aDI (lo hi:Rat) (l:List Rat):Prop where
  srt:l.Pairwise (· < ·)
  bd:∀z,z∈l->lo<=z/\z<=hi
  lo:lo∈l
  hi:hi∈l
def Vt (l:List QQ)(x:Rat):Prop:=∃p,p∈l/\p.1<=x/\x<=p.2
def Sg (l:List QQ):Prop:=l.Pairwise (fun a b=>a.2<b.1)/\∀p,p∈l->p.1<p.2
theorem jF:Sg []:=⟨List.Pairwise.nil,by simp⟩
theorem Sg.tail{a l}(h:Sg (a::l)):Sg l:=⟨(List.pairwise_cons.1 h.1).2,fun p hp=>h.2 p (cZZ _ hp)⟩
theorem Sg.far{a l}(h:Sg (a::l)){p}(hp:p∈l):a.2<p.1:=(List.pairwise_cons.1 h.1).1 p hp
theorem Sg.head{a l}(h:Sg (a::l)):a.1<a.2:=h.2 a (eXX ..)
theorem Gc{a l x}:Vt (a::l) x↔(a.1<=x/\x<=a.2)\/Vt l x:=by
  constructor
  · rintro⟨p,hp,h⟩
    rcases List.mem_cons.1 hp with rfl|hp
    · exact Or.inl h
    exact Or.inr ⟨p,hp,h⟩
  rintro(h|⟨p,hp,h⟩)
  · exact⟨a,eXX ..,h⟩
  exact⟨p,cZZ _ hp,h⟩
theorem Ms{a l x}:Vt (l++[a]) x↔Vt l x\/(a.1<=x/\x<=a.2):=by
  constructor
  · rintro⟨p,hp,h⟩
    rcases List.mem_append.1 hp with hp|hp
    · exact Or.inl ⟨p,hp,h⟩
    rw[mXX]at hp;subst hp;exact Or.inr h
  rintro(⟨p,hp,h⟩|h)
  · exact⟨p,List.mem_append.2 (Or.inl hp),h⟩
  exact⟨a,List.mem_append.2 (Or.inr (List.mem_singleton.2 rfl)),h⟩
theorem Jq{x}:¬Vt [] x:=by rintro⟨p,hp,_⟩;simp at hp
theorem Sg.tail_cov{a l}(h:Sg (a::l)){x}:Vt l x↔Vt (a::l) x/\a.2<x:=by
  constructor
  · rintro⟨p,hp,h1,h2⟩
    refine⟨Gc.2 (Or.inr ⟨p,hp,h1,h2⟩),?_⟩;have:=h.far hp;grind
  rintro⟨hc,hx⟩;rcases Gc.1 hc with h1|h1
  · grind
  exact h1
theorem Sg.first_le{a l}(h:Sg (a::l)){x}(hc:Vt (a::l) x):a.1<=x:=by
  rcases Gc.1 hc with h1|⟨p,hp,h1,_⟩
  · exact h1.1
  have:=h.far hp;have:=h.head;grind
theorem Sg.gap{a l}(h:Sg (a::l)){y}(hy:a.2<y):∃x,a.2<x/\x<y/\¬Vt (a::l) x:=by
 have hm:∃z,a.2<z/\z<=y/\∀p,p∈l->z<=p.1:=by
  cases l with
  |nil=>exact⟨y,hy,by grind,by simp⟩
  |cons b l=>
   have A1:=h.far (eXX (a:=b) (l:=l));have ht:=h.tail;have hb:∀p,p∈b::l->b.1<=p.1:=by
    intro p hp;rcases List.mem_cons.1 hp with rfl|hp
    ·grind
    have:=ht.far hp;have:=ht.head;grind
   by_cases hyb:y<=b.1
   ·exact⟨y,hy,by grind,fun p hp=>by have:=hb p hp;grind⟩
   exact⟨b.1,A1,by grind,hb⟩
 obtain⟨z,A3,A2,A0⟩:=hm;refine⟨(a.2+z)/2,by grind,by grind,?_⟩;intro hc;rcases Gc.1 hc with h1|⟨p,hp,h1,_⟩
 ·grind
 have:=A0 p hp;grind
theorem Ua:∀{l m:List QQ},Sg l->Sg m->(∀x,Vt l x↔Vt m x)->l=m
 | [],[],_,_,_=>rfl
 | [],b::m,_,hm,h=>by
  have:=(h b.1).2 (Gc.2 (Or.inl ⟨by grind,by have:=hm.head;grind⟩));exact(Jq this).elim
 |a::l,[],hl,_,h=>by
  have:=(h a.1).1 (Gc.2 (Or.inl ⟨by grind,by have:=hl.head;grind⟩));exact(Jq this).elim
 |a::l,b::m,hl,hm,h=>by
  have ha:=hl.head;have hb:=hm.head;have e1:a.1=b.1:=by
   have h1:=hm.first_le ((h a.1).1 (Gc.2 (Or.inl ⟨by grind,by grind⟩)));have h2:=hl.first_le ((h b.1).2 (Gc.2 (Or.inl ⟨by grind,by grind⟩)));grind
  have e2:a.2=b.2:=by
   by_cases h1:a.2<b.2
   ·obtain⟨x,A2,A1,A0⟩:=hl.gap h1
    exact(A0 ((h x).2 (Gc.2 (Or.inl ⟨by grind,by grind⟩)))).elim
   by_cases h2:b.2<a.2
   ·obtain⟨x,A2,A1,A0⟩:=hm.gap h2
    exact(A0 ((h x).1 (Gc.2 (Or.inl ⟨by grind,by grind⟩)))).elim
   grind
  have e:a=b:=Prod.ext e1 e2;subst e;rw[Ua hl.tail hm.tail (fun x=>by rw[hl.tail_cov,hm.tail_cov,h])]
theorem tC{l m}(h:∀p,p∈l↔p∈m)(x):Vt l x↔Vt m x:=
  ⟨fun⟨p,hp,k⟩=>⟨p,(h p).1 hp,k⟩,fun⟨p,hp,k⟩=>⟨p,(h p).2 hp,k⟩⟩
theorem jV{l}{a:QQ}(h:l.getLast?=some a):l=l.dropLast++[a]:=by
  obtain⟨ys,rfl⟩:=List.getLast?_eq_some_iff.1 h;simp
theorem Pa{l a}:Sg (l++[a])↔Sg l/\a.1<a.2/\∀p,p∈l->p.2<a.1:=by
 constructor
 ·rintro⟨h1,h2⟩
  rw[List.pairwise_append]at h1;exact⟨⟨h1.1,fun p hp=>h2 p (List.mem_append.2 (Or.inl hp))⟩,h2 a (by simp),fun p hp=>h1.2.2 p hp a (by simp)⟩
 rintro⟨h1,h2,h3⟩;refine⟨List.pairwise_append.2 ⟨h1.1,List.pairwise_singleton ..,fun p hp q hq=> ?_⟩,fun p hp=> ?_⟩
 ·rw[mXX]at hq
  subst hq;exact h3 p hp
 rcases List.mem_append.1 hp with hp|hp
 ·exact h1.2 p hp
 rw[mXX]at hp;subst hp;exact h2
theorem nE{out s}(h:Sg out)(hs:s.1<s.2)(hl:∀p,p∈out->p.1<=s.1):
  Sg (Fh out s)/\(∀x,Vt (Fh out s) x↔Vt out x\/(s.1<=x/\x<=s.2))/\∀p,p∈Fh out s->p.1<=s.1:=by
 unfold Fh;split
 ·rename_i h0
  rw[List.getLast?_eq_none_iff]at h0;subst h0;refine⟨Pa.2 ⟨jF,hs,by simp⟩,fun x=>Ms,?_⟩;intro p hp;simp at hp;subst hp;grind
 rename_i l h0;have e:=jV h0;generalize out.dropLast=o at e
 subst e;obtain⟨k1,k2,k3⟩:=Pa.1 h;have A0:=hl l (by simp);split
 ·rename_i h1
  refine⟨Pa.2 ⟨h,hs,?_⟩,fun x=>Ms,?_⟩
  ·intro p hp
   rcases List.mem_append.1 hp with hp|hp
   ·have:=k3 p hp
    grind
   rw[mXX]at hp;subst hp;exact h1
  intro p hp;rcases List.mem_append.1 hp with hp|hp
  ·exact hl p hp
  rw[mXX]at hp;subst hp;grind
 rename_i h1;split
 ·rename_i h2
  refine⟨Pa.2 ⟨k1,by show l.1<s.2;grind,k3⟩,fun x=> ?_,?_⟩
  ·rw[Ms,Ms]
   show Vt o x\/(l.1<=x/\x<=s.2)↔(Vt o x\/(l.1<=x/\x<=l.2))\/(s.1<=x/\x<=s.2);grind
  intro p hp;rcases List.mem_append.1 hp with hp|hp
  ·exact hl p (List.mem_append.2 (Or.inl hp))
  rw[mXX]at hp;subst hp;exact A0
 rename_i h2;refine⟨h,fun x=> ?_,hl⟩;rw[Ms];grind
theorem sG(l):∀(out:List QQ),Sg out->(∀p,p∈l->p.1<p.2)->l.Pairwise (fun a b=>a.1<=b.1)->(∀p,p∈out->∀q,q∈l->p.1<=q.1)->
  Sg (l.foldl Fh out)/\∀x,Vt (l.foldl Fh out) x↔Vt out x\/Vt l x:=by
 induction l with
 |nil=>intro out h _ _ _;exact⟨h,fun x=>⟨Or.inl,fun k=>k.elim id fun k=>(Jq k).elim⟩⟩
 |cons s l ih=>
  intro out h h1 h2 h3;obtain⟨a1,a2,a3⟩:=nE h (h1 s (eXX ..)) (fun p hp=>h3 p hp s (eXX ..));obtain⟨p1,p2⟩:=List.pairwise_cons.1 h2;obtain⟨b1,b2⟩:=ih (Fh out s) a1 (fun p hp=>h1 p (cZZ _ hp)) p2 (fun p hp q hq=>by have:=a3 p hp;have:=p1 q hq;grind);refine⟨b1,fun x=> ?_⟩;rw[List.foldl_cons,b2,a2,Gc,or_assoc]
theorem Xx{ps p}:p∈Lp ps↔p∈ps/\p.1<p.2:=by unfold Lp;simp
theorem Lg(ps):Sg (Fz ps)/\∀x,Vt (Fz ps) x↔Vt (Lp ps) x:=by
  have hs:Stb.Srt aBM (Hk ps):=Stb.stab_srt (aCP fun p:QQ=>p.1) _;have hm:∀p,p∈Hk ps↔p∈Lp ps:=fun p=>Stb.mem_stab
  obtain⟨a,b⟩:=sG (Hk ps) [] jF (fun p hp=>(Xx.1 ((hm p).1 hp)).2) (List.Pairwise.imp (fun {x y} h=>by unfold aBM at h;rw[decide_eq_false_iff_not]at h;grind) hs) (by simp);refine⟨a,fun x=> ?_⟩;unfold Fz;rw[b,tC hm];exact⟨fun k=>k.elim (fun k=>(Jq k).elim) id,Or.inr⟩
theorem lG{l}(h:Sg l):Lp l=l:=by
  unfold Lp;rw[List.filter_eq_self];intro p hp;rw[decide_eq_true_iff];exact h.2 p hp
theorem gV{l}(h:Sg l):Fz l=l:=Ua (Lg l).1 h (fun x=>by rw[(Lg l).2,lG h])
theorem dQ(ps):Fz (Fz ps)=Fz ps:=gV (Lg ps).1
def It (f t:Rat)(p:QQ):Rat:=
  if (if p.1<f then f else p.1)<(if t<p.2 then t else p.2)then(if t<p.2 then t else p.2)-(if p.1<f then f else p.1)else 0
def Hg (f t:Rat)(l:List QQ):Rat:=(l.map (It f t)).sum
theorem Mk(f t):Hg f t []=0:=rfl
theorem Gk(f t p l):Hg f t (p::l)=It f t p+Hg f t l:=by unfold Hg;rw[List.map_cons,List.sum_cons]
theorem rV(f t l m):Hg f t (l++m)=Hg f t l+Hg f t m:=by
  induction l with
  |nil=>rw[Mk,fQQ];grind
  |cons p l ih=>rw[jXX,Gk,Gk,ih];grind
theorem vW(f t p):0<=It f t p:=by unfold It;grind
theorem vV(f t l):0<=Hg f t l:=by
  induction l with
  |nil=>rw[Mk];grind
  |cons p l ih=>rw[Gk];have:=vW f t p;grind
theorem nP{f t}(h:t<=f)(l):Hg f t l=0:=by
  induction l with
  |nil=>rfl
  | cons p l ih=>
    rw[Gk,ih];have:It f t p=0:=by unfold It;grind
    grind
theorem Zx {f t:Rat}:∀(l:List QQ),Sg l->f<=t->Hg f t l<=t-f
 | [],_,h=>by rw[Mk];grind
 |p::l,hs,h=>by
  rw[Gk];have hp:=hs.head;by_cases h1:p.2<=f
  ·have:=Zx l hs.tail h
   have:It f t p=0:=by unfold It;grind
   grind
  by_cases h2:t<=p.2
  ·have hz:Hg f t l=0:=by
    have A0:∀q,q∈l->It f t q=0:=fun q hq=>by have:=hs.far hq;unfold It;grind
    clear hs;induction l with
    |nil=>rfl
    |cons q l ih=>rw[Gk,A0 q (eXX ..),ih fun r hr=>A0 r (cZZ _ hr)];grind
   have:It f t p<=t-f:=by unfold It;grind
   grind
  have hz:Hg f t l=Hg p.2 t l:=by
   have A0:∀q,q∈l->It f t q=It p.2 t q:=fun q hq=>by have:=hs.far hq;unfold It;grind
   unfold Hg;rw[List.map_congr_left A0]
  have h3:=Zx (f:=p.2) (t:=t) l hs.tail (by grind);have:It f t p<=p.2-f:=by unfold It;grind
  grind
end
section
attribute [local go_sem ↓] Go.wp_at_zero Go.wp_at_succ Aq An
theorem Mw(L)(hL:L<=60000)(Bc w)(e f:Ba)(he:e.Ok L w)(hf:f.Ok L w)(hc:w.cell? ⟨Bc,0,none⟩=some (.func (.func 24) #[] #[])):
  Calls prog 185 #[(rg e.a),(rg f.a),.pointer (π Bc)] w fun x w'=>x= .returned (.bool (decide (e.q=f.q)))/\Aa w w':=by
 have RE:=zH he.1;have A2:=zH he.2;have RF:=zH hf.1;have A1:=zH hf.2;have HC:=zH hc;clear he hf hc;go_enter func185,ntmps185
 have H0:=zH (Hp.start w);go_upto_region 0 with fail;apply wl;apply Ca 26 (rc e.a) H0.1;intro B1 A9 A5 _;apply Ca 26 (rc f.a) A5.1;intro B0 A8 A0 _;apply zq φ;rcases Cl (e.q=f.q)with CQ|CQ
 ·go_upto_region 1 with fail
  apply wl;refine ze Bc 0 (.func (.func 24) #[] #[]) (Jc (A0.1.ext.get HC.1)) ?_;refine Cc A0.1 _ _ ?_;refine aC A0.1 (Fx (L:=60000) (RV.Is.nin (RE.1.dig A0.1.dig0) (Al A2.1 ω)) (RV.Is.nin (RF.1.dig A0.1.dig0) (Al A1.1 ω)) ω) ?_;intro A7 A4 _;apply zp τ (by exact Sn (e:=(Ar (Qs.2 CQ.1))));apply zq τ;go_wp2_with fail;go_ret;exact⟨by rw[decide_eq_true CQ.1];rfl,A4.1.ext⟩
 go_upto_region 1 with fail;apply wl;refine ze Bc 0 (.func (.func 24) #[] #[]) (Jc (A0.1.ext.get HC.1)) ?_;refine Cc A0.1 _ _ ?_;refine aC A0.1 (Fx (L:=60000) (RV.Is.nin (RE.1.dig A0.1.dig0) (Al A2.1 ω)) (RV.Is.nin (RF.1.dig A0.1.dig0) (Al A1.1 ω)) ω) ?_;intro A6 A3 _;apply zp φ (by exact Sn (e:=(Af (fun hh=>CQ.1 (Qs.1 hh)))));apply zq φ;go_wp2_with fail;go_ret;exact⟨by rw[decide_eq_false CQ.1];rfl,A3.1.ext⟩
theorem oJ(L)(hL:L<=60000)(Bc v es base w)(h:Bg w base 26 4 v es.length (es.flatMap Ba.cells))(hbase:base<=w.heap.size)(hok:∀e,e∈es->e.Ok L w)(hc:w.cell? ⟨Bc,0,none⟩=some (.func (.func 24) #[] #[]))(hB:¬v.ownBlock=some Bc)(hn:es.length<=100000000):
  Calls prog 184 #[v,.func (.func 185) #[] #[.pointer (π Bc)]] w fun x w'=>∃v',x= .returned v'/\Bg w' base 26 4 v' (Do (fun x y:Ba=>decide (x.q=y.q)) es).length ((Do (fun x y:Ba=>decide (x.q=y.q)) es).flatMap Ba.cells)/\w.grownBy w' v.ownBlock/\Ac w w'/\v'.ownBlock=v.ownBlock:=by
 obtain⟨w0,I3,rfl⟩:=xM w base hbase;have F2:=zH hok;have HC:=zH hc;have HB:=zH hB;clear hc hB hok;rcases h.2 with⟨rfl,h0⟩|⟨g,cap,rest,rfl,hb,hg,hc1,E9,E8,hc4⟩
 ·have he:es=[]:=iXX h0
  subst he;go_enter func184,ntmps184;go_wp2_with fail;go_ret;exact⟨_,rfl,h,World.grownBy.refl _ _,Ac.refl _,rfl⟩
 have H0:=zH (Hp.one I3 h);have A5:=zH hc1;clear h I3 hb hg E9 E8 hc4;have B6:=zH (show Fr (fun kz=>Value.ownBlock (.slice (π g) es.length cap)=some kz) w w from Fr.of_ext (Aa.refl w));go_enter func184,ntmps184
 go_upto_region 0 with fail;apply wl;refine Cg Ah _ ?_;by_cases c2:es.length<2
 ·have HS:=zH c2
  clear c2;go_upto_region 1 with fail;apply wl;refine Cc Ah _ (iV ((es.length:Nat):Int)) ?_;apply zp τ (by exact Df (e:=(Ar (by have A0:=HS.1;omega))));go_upto_region 2 with fail;apply wl;refine Cc Ah _ _ ?_;have G0:Do (fun x y:Ba=>decide (x.q=y.q)) es=es:=by have hs:=HS.1;match es,hs with| [],_=>rfl| [x],_=>rfl|x::y::l,hs=>exact absurd hs (by simp)
  go_wp2_with fail;go_ret;exact⟨_,rfl,by rw[G0];exact H0.1.row (i:=0) (by rfl),World.grownBy.refl _ _,Ac.refl _,rfl⟩
 have HS:=zH c2;clear c2;go_upto_region 1 with fail;apply wl;refine Cc Ah _ (iV ((es.length:Nat):Int)) ?_;apply zp φ (by exact Df (e:=(Af (by have A0:=HS.1;omega))));go_upto_region 3 with fail;apply wl;apply zq (iV 1);go_wp2_with fail;go_loopg [5] (es.length) (fun cq K8 wr=>∃(j:Nat),cq=es.length-j/\K8= iV ((j+1:Nat):Int)/\(j+1<=es.length)/\(Do (fun x y:Ba=>decide (x.q=y.q)) (es.take (j+1))=es.take (j+1))/\(Fr (fun kz=>Value.ownBlock (.slice (π g) es.length cap)=some kz) w wr)/\Hp w0 wr [.row 26 4 (.slice (π g) es.length cap) (es.length) (List.flatMap Ba.cells es)]/\Ac w wr)
 case atStart=>exact⟨0,rfl,rfl,(by have h_:=HS.1;omega),(by have hs:=HS.1;match es,hs with| [],hs=>exact absurd hs (by decide)|x::l,_=>rfl),B6.1,H0.1,Ac.refl _⟩
 obtain⟨j,rfl,rfl,C9,C4,A2,D2,D3⟩:=hrel;generalize wr=B9 at*;have HK:=zH C9;clear C9;have G7:=zH C4;clear C4;have B6:=zH A2;clear A2;have C8:=zH D2;have F5:=zH D3;clear D2 D3;rcases Cl (j+1<es.length)with HLT|HLT
 ·go_upto_region 4 with fail
  apply wl;refine Da Ah (iV ((j+1:Nat):Int)) _ (iV ((es.length:Nat):Int)) ?_;apply zp τ (by exact Df (e:=(Ar (by have A0:=HK.1;have A3:=HLT.1;omega))));obtain⟨e,he⟩:∃e,es[j+1]?=some e:=⟨_,aQQ HLT.1⟩;obtain⟨f,hf⟩:∃f,es[j]?=some f:=⟨_,aQQ (by have h_:=HLT.1;omega)⟩;have F1:=zH he;have A6:=F2.1 e (bZZ he);have J5:=zH A6.1;have K2:=zH A6.2;clear he A6;have G5:=zH hf;have A6:=F2.1 f (bZZ hf);have J4:=zH A6.1;have K1:=zH A6.2;clear hf A6;have J2:=zH (Qb (eqv:=(fun x y:Ba=>decide (x.q=y.q))) F1.1 G5.1);rcases Cl (e.q=f.q)with HEQ|HEQ
  ·go_upto_region 6 with fail
   refine zy ?_;have L7:=zH (C8.1.step (Aa.refl B9).drew);have K0:=zH (Ac.of_ext (w:=B9) zb);have J1:=zH (B6.1.trans (Fr.of_ext (Aa.refl B9).drew));refine iT Ah zb (bs 11 7) 0 1 2 _ _ (iV ((j+1:Nat):Int)) ?_;refine zo 3 (bs 11 15) (v:= .pointer (some ⟨g,(j+1)*4,none⟩)) zb ?_ (hv:=by intro w B2;exact Gw (k:=j+1) underlying105 (l:=(by have h_:=HLT.1;omega)) (f:=(cXX _).symm));refine zg 4 (bs 11 31) g ((j+1)*4) (rc e.a) (C8.1.elem (f:=Ba.cells) (i:=0) rR Ba.len F1.1) underlying26 zb ?_;refine Sh Ah zb (bs 11 127) 5 6 _ (iV ((j+1:Nat):Int)) ?_;refine zu 7 (bs 11 255) (v:= iV (j:Int)) zb ?_ (hv:=by intro w B2;exact Rh (by have A0:=HK.1;have A3:=HLT.1;omega));refine zo 8 (bs 11 511) (v:= .pointer (some ⟨g,j*4,none⟩)) zb ?_ (hv:=by intro w B2;exact Gw (k:=j) underlying105 (l:=(by have h_:=HLT.1;omega)) (f:=(cXX _).symm));refine zg 9 (bs 11 1023) g (j*4) (rc f.a) (C8.1.elem (f:=Ba.cells) (i:=0) rR Ba.len G5.1) underlying26 zb ?_;have B7:=tD F5 K0;refine mC 10 (bs 11 2047) (Mw L hL Bc _ e f ⟨(J5.1.dig B7.1),K2.1⟩ ⟨(J4.1.dig B7.1),K1.1⟩ (J1.1.cell HC.1 HB.1)) ?_;rintro e I0 ⟨rfl,hx⟩;have J7:=zH (L7.1.step hx);have H5:=zH (show Ac B9.drew I0 from Ac.of_ext hx);have L2:=zH (J1.1.trans (Fr.of_ext hx));have K9:=zH (zb.trans hx);clear hx;refine⟨.bool true,by rw[decide_eq_true HEQ.1],K9.1,?_⟩;try simp only[ζ]
   refine wpAnyH_done kR ?_ _;obtain⟨d,hd⟩:∃d,es.length=j+1+d:=⟨es.length-(j+1),by have h_:=HLT.1;omega⟩;obtain⟨c2,E9⟩:∃c2,cap=j+1+c2:=⟨cap-(j+1),by have h_:=HLT.1;have A7:=A5.1;omega⟩;have HD:=zH hd;have A8:=zH E9;clear hd E9;go_upto_region 7 with fail
   apply wl;refine Cc Ah _ (iV ((j+1:Nat):Int)) ?_;apply zp (.slice (some ⟨g,(j+1)*4,none⟩) d c2) (by exact kG rR underlying105 kR rR rR (by first|rfl|omega) HD.1 (by have A0:=HK.1;have A3:=HLT.1;have B1:=HD.1;have A9:=A8.1;have B0:=A5.1;omega) A8.1 (by have A0:=HK.1;have A3:=HLT.1;have B1:=HD.1;have A9:=A8.1;have B0:=A5.1;omega));apply zq (.slice (some ⟨g,(j+1)*4,none⟩) d c2);go_upto_region 8 with fail;apply wl;apply zq (iV 1);go_wp2_with fail;go_loopg [5,7] (d) (fun cq K7 v45 wr=>∃(i:Nat) (k:Nat) (ds:List Ba),cq=d-i/\K7= iV (k:Int)/\v45= iV ((i+1:Nat):Int)/\(i+1<=d)/\(k<j+1+(i+1))/\(ds.length=es.length)/\(ds.take k=Do (fun x y:Ba=>decide (x.q=y.q)) (es.take (j+1+(i+1))))/\(ds.drop (j+1+i)=es.drop (j+1+i))/\(Fr (fun kz=>Value.ownBlock (.slice (π g) es.length cap)=some kz) w wr)/\Hp w0 wr [.row 26 4 (.slice (π g) es.length cap) (es.length) (List.flatMap Ba.cells ds)]/\Ac I0 wr)
   case atStart=>exact⟨0,j+1,es,rfl,rfl,rfl,(by have h_:=HLT.1;have A7:=HD.1;omega),ω,rfl,(by rw[show j+1+(0+1)=j+1+1 by omega,J2.1,if_pos (decide_eq_true HEQ.1),hZZ];exact G7.1.symm),rfl,L2.1,J7.1,Ac.refl _⟩
   obtain⟨i,k,ds,rfl,rfl,rfl,D0,C0,C1,C3,C2,A2,D2,D3⟩:=hrel;generalize wr=B8 at*;have HI:=zH D0;clear D0;have A1:=zH C0;clear C0;have A4:=zH C1;clear C1;have G6:=zH C3;clear C3;have F3:=zH C2;clear C2;have B6:=zH A2;clear A2;have C7:=zH D2;have E5:=zH D3;clear D2 D3 J7;rcases Cl (i+1<d)with HLT2|HLT2
   ·go_upto_region 9 with fail
    apply wl;refine Da Ah (iV ((i+1:Nat):Int)) (.slice (some ⟨g,(j+1)*4,none⟩) d c2) (iV (d:Int)) ?_;apply zp τ (by exact Df (e:=(Ar (by have A0:=HI.1;have A3:=A1.1;have B1:=HD.1;have A9:=A8.1;have B0:=A5.1;have B5:=A4.1;have B4:=HLT2.1;omega))));obtain⟨e2,F9⟩:∃e2,es[j+1+i+1]?=some e2:=⟨_,aQQ (by have h_:=HLT2.1;have A7:=HD.1;omega)⟩;obtain⟨f2,F8⟩:∃f2,es[j+1+i]?=some f2:=⟨_,aQQ (by have h_:=HLT2.1;have A7:=HD.1;omega)⟩;have D8:=zH F9;have A6:=F2.1 e2 (bZZ F9);have E0:=zH A6.1;have E7:=zH A6.2;clear F9 A6;have D7:=zH F8;have A6:=F2.1 f2 (bZZ F8);have D9:=zH A6.1;have E6:=zH A6.2;clear F8 A6;have C5:=zH (show ds[j+1+(i+1)]?=some e2 from(Sa F3.1 ω).trans D8.1);have D6:=zH (show ds[j+1+i]?=some f2 from(Sa F3.1 ω).trans D7.1);have D5:=zH (Qb (eqv:=(fun x y:Ba=>decide (x.q=y.q))) D8.1 D7.1);rcases Cl (e2.q=f2.q)with HEQ2|HEQ2
    ·go_upto_region 11 with fail
     refine zy ?_;have L6:=zH (C7.1.step (Aa.refl B8).drew);have J9:=zH (Ac.of_ext (w:=B8) zb);have J0:=zH (B6.1.trans (Fr.of_ext (Aa.refl B8).drew));refine iT Ah zb (bs 12 7) 0 1 2 _ (.slice (some ⟨g,(j+1)*4,none⟩) d c2) (iV ((i+1:Nat):Int)) ?_;refine zo 3 (bs 12 15) (v:= .pointer (some ⟨g,(j+1)*4+(i+1)*4,none⟩)) zb ?_ (hv:=by intro w B2;exact Gw (k:=i+1) underlying105 (l:=(by have h_:=HLT2.1;omega)) (f:=rfl));refine zg 4 (bs 12 31) g ((j+1)*4+(i+1)*4) (rc e2.a) (Mo (C7.1.elem (f:=Ba.cells) (i:=0) rR Ba.len C5.1)) underlying26 zb ?_;refine Sh Ah zb (bs 12 127) 5 6 (.slice (some ⟨g,(j+1)*4,none⟩) d c2) (iV ((i+1:Nat):Int)) ?_;refine zu 7 (bs 12 255) (v:= iV (i:Int)) zb ?_ (hv:=by intro w B2;exact Rh (by have A0:=HI.1;have A3:=A1.1;have B1:=HD.1;have A9:=A8.1;have B0:=A5.1;have B5:=A4.1;have B4:=HLT2.1;omega));refine zo 8 (bs 12 511) (v:= .pointer (some ⟨g,(j+1)*4+i*4,none⟩)) zb ?_ (hv:=by intro w B2;exact Gw (k:=i) underlying105 (l:=(by have h_:=HLT2.1;omega)) (f:=rfl));refine zg 9 (bs 12 1023) g ((j+1)*4+i*4) (rc f2.a) (Mo (C7.1.elem (f:=Ba.cells) (i:=0) rR Ba.len D6.1)) underlying26 zb ?_;have E2:=tD (tD (tD B7 H5) E5) J9;refine mC 10 (bs 12 2047) (Mw L hL Bc _ e2 f2 ⟨(E0.1.dig E2.1),E7.1⟩ ⟨(D9.1.dig E2.1),E6.1⟩ (J0.1.cell HC.1 HB.1)) ?_;rintro e K4 ⟨rfl,hx⟩;have L5:=zH (L6.1.step hx);have L9:=zH (show Ac B8.drew K4 from Ac.of_ext hx);have L1:=zH (J0.1.trans (Fr.of_ext hx));have I8:=zH (zb.trans hx);clear hx;refine⟨.bool true,by rw[decide_eq_true HEQ2.1],I8.1,?_⟩;try simp only[ζ]
     refine zx 11 (bs 12 4095) φ I8.1 ?_;refine wpAnyH_done kR ?_ _;go_upto_region 10 with fail;apply wl;apply zq (iV ((i+1:Nat):Int));apply zp (iV ((i+2:Nat):Int)) (by exact Gm (by have A0:=HI.1;have A3:=A1.1;have B1:=HD.1;have A9:=A8.1;have B0:=A5.1;have B5:=A4.1;have B4:=HLT2.1;omega));apply zq (iV ((i+2:Nat):Int));have H4:=tD (tD E5 J9) L9;go_wp2_with fail
     go_roundg (d-(i+1))
     case measure=>exact(by have A0:=HI.1;have A3:=A1.1;have B1:=HD.1;have A9:=A8.1;have B0:=A5.1;have B5:=A4.1;have B4:=HLT2.1;have I1:=(show i<d from by have h_:=HLT2.1;omega);omega)
     case rel=>exact⟨i+1,k,ds,rfl,rfl,(by go_num),HLT2.1,(by have h_:=A1.1;omega),A4.1,(by rw[show j+1+(i+1+1)=j+1+i+1+1 by omega,D5.1,if_pos (decide_eq_true HEQ2.1),hZZ];exact G6.1),(by rw[show j+1+(i+1)=(j+1+i)+1 by omega,<-List.drop_drop,F3.1,List.drop_drop]),L1.1,L5.1,H4.1⟩
    go_upto_region 11 with fail;refine zy ?_;have L4:=zH (C7.1.step (Aa.refl B8).drew);have J8:=zH (Ac.of_ext (w:=B8) zb);have I9:=zH (B6.1.trans (Fr.of_ext (Aa.refl B8).drew));refine iT Ah zb (bs 12 7) 0 1 2 _ (.slice (some ⟨g,(j+1)*4,none⟩) d c2) (iV ((i+1:Nat):Int)) ?_;refine zo 3 (bs 12 15) (v:= .pointer (some ⟨g,(j+1)*4+(i+1)*4,none⟩)) zb ?_ (hv:=by intro w B2;exact Gw (k:=i+1) underlying105 (l:=(by have h_:=HLT2.1;omega)) (f:=rfl));refine zg 4 (bs 12 31) g ((j+1)*4+(i+1)*4) (rc e2.a) (Mo (C7.1.elem (f:=Ba.cells) (i:=0) rR Ba.len C5.1)) underlying26 zb ?_;refine Sh Ah zb (bs 12 127) 5 6 (.slice (some ⟨g,(j+1)*4,none⟩) d c2) (iV ((i+1:Nat):Int)) ?_;refine zu 7 (bs 12 255) (v:= iV (i:Int)) zb ?_ (hv:=by intro w B2;exact Rh (by have A0:=HI.1;have A3:=A1.1;have B1:=HD.1;have A9:=A8.1;have B0:=A5.1;have B5:=A4.1;have B4:=HLT2.1;omega));refine zo 8 (bs 12 511) (v:= .pointer (some ⟨g,(j+1)*4+i*4,none⟩)) zb ?_ (hv:=by intro w B2;exact Gw (k:=i) underlying105 (l:=(by have h_:=HLT2.1;omega)) (f:=rfl));refine zg 9 (bs 12 1023) g ((j+1)*4+i*4) (rc f2.a) (Mo (C7.1.elem (f:=Ba.cells) (i:=0) rR Ba.len D6.1)) underlying26 zb ?_;have E1:=tD (tD (tD B7 H5) E5) J8;refine mC 10 (bs 12 2047) (Mw L hL Bc _ e2 f2 ⟨(E0.1.dig E1.1),E7.1⟩ ⟨(D9.1.dig E1.1),E6.1⟩ (I9.1.cell HC.1 HB.1)) ?_;rintro e K3 ⟨rfl,hx⟩;have J6:=zH (L4.1.step hx);have L8:=zH (show Ac B8.drew K3 from Ac.of_ext hx);have L0:=zH (I9.1.trans (Fr.of_ext hx));have I7:=zH (zb.trans hx);clear hx;refine⟨.bool false,by rw[decide_eq_false HEQ2.1],I7.1,?_⟩;try simp only[ζ]
    refine zx 11 (bs 12 4095) τ I7.1 ?_;refine wpAnyH_done kR ?_ _;go_upto_region 12 with fail;apply wl;refine Ef Ah _ (iV (k:Int)) (.slice (some ⟨g,(j+1)*4,none⟩) d c2) (iV ((i+1:Nat):Int)) ?_;apply zp (.pointer (some ⟨g,(j+1)*4+(i+1)*4,none⟩)) (by exact Gw (k:=i+1) underlying105 (l:=(by have h_:=HLT2.1;omega)) (f:=rfl));refine zd g ((j+1)*4+(i+1)*4) (rc e2.a) (Mo (J6.1.elem (f:=Ba.cells) (i:=0) rR Ba.len C5.1)) underlying26 ?_;apply zp (.pointer (some ⟨g,k*4,none⟩)) (by exact Gw (k:=k) underlying105 (l:=(by have h_:=A1.1;have I6:=HLT2.1;have A7:=HD.1;omega)) (f:=(cXX _).symm));refine mW (f:=Ba.cells) rR _ _ _ rR J6.1 (ix:=0) rR Ba.len k e2 (by have h_:=A1.1;have I6:=HLT2.1;have A7:=HD.1;have F0:=A4.1;omega) (rc e2.a) rR (k*4) rR rR rR kR (by simp[Value.oneCell']) (by simp[Av]) ?_;intro K6 hh hd ho;have H3:=hN hh;have H9:=zH (hd);have G4:=zH (L0.1.trans_new ho (fun j hj=> .inl hj));clear hh hd ho
    (try simp only[Act.put])
    go_upto_region 13 with fail;apply wl;apply zq (iV (k:Int));apply zp (iV ((k+1:Nat):Int)) (by exact Gm (by have A0:=HI.1;have A3:=A1.1;have B1:=HD.1;have A9:=A8.1;have B0:=A5.1;have B5:=A4.1;have B4:=HLT2.1;omega));apply zq (iV ((k+1:Nat):Int));go_upto_region 10 with fail;apply wl;apply zq (iV ((i+1:Nat):Int));apply zp (iV ((i+2:Nat):Int)) (by exact Gm (by have A0:=HI.1;have A3:=A1.1;have B1:=HD.1;have A9:=A8.1;have B0:=A5.1;have B5:=A4.1;have B4:=HLT2.1;omega));apply zq (iV ((i+2:Nat):Int));have E4:=tD (tD (tD E5 J8) L8) H9;go_wp2_with fail
    go_roundg (d-(i+1))
    case measure=>exact(by have A0:=HI.1;have A3:=A1.1;have B1:=HD.1;have A9:=A8.1;have B0:=A5.1;have B5:=A4.1;have B4:=HLT2.1;have I1:=(show i<d from by have h_:=HLT2.1;omega);omega)
    case rel=>exact⟨i+1,k+1,(ds.set k e2),rfl,(by go_num),(by go_num),HLT2.1,(by have h_:=A1.1;omega),(by rw[eZZ];exact A4.1),(by rw[show j+1+(i+1+1)=j+1+i+1+1 by omega,D5.1,if_neg (by rw[decide_eq_false HEQ2.1];decide),Vw (by have h_:=A1.1;have I6:=HLT2.1;have A7:=HD.1;have F0:=A4.1;omega)];exact congrArg (· ++[e2]) G6.1),(by rw[List.drop_set_of_lt (by have h_:=A1.1;omega),show j+1+(i+1)=(j+1+i)+1 by omega,<-List.drop_drop,F3.1,List.drop_drop]),G4.1,H3.1,E4.1⟩
   go_upto_region 9 with fail;apply wl;refine Da Ah (iV ((i+1:Nat):Int)) (.slice (some ⟨g,(j+1)*4,none⟩) d c2) (iV (d:Int)) ?_;apply zp φ (by exact Df (e:=(Af (by have A0:=HI.1;have A3:=A1.1;have B1:=HD.1;have A9:=A8.1;have B0:=A5.1;have B5:=A4.1;have B4:=HLT2.1;omega))));have F7:i+1=d:=by have h_:=HLT2.1;have A7:=HI.1;omega
   have L3:=zH (show ds.take k=Do (fun x y:Ba=>decide (x.q=y.q)) es from by rw[G6.1,show j+1+(i+1)=es.length by rw[HD.1];omega,cQQ (Cp _)]);obtain⟨d3,I4⟩:∃d3,es.length=k+d3:=⟨es.length-k,by have h_:=A1.1;have A7:=HD.1;omega⟩;obtain⟨c3,E8⟩:∃c3,cap=k+c3:=⟨cap-k,by have h_:=A1.1;have A7:=HD.1;have F0:=A5.1;omega⟩;have C6:=zH I4;have G8:=zH E8;have I5:0<d3:=by have h_:=A1.1;have A7:=HD.1;omega
   have F4:=zH I5;clear I4 E8 F7 I5;go_upto_region 14 with fail;apply wl;refine Cc Ah _ (iV (k:Int)) ?_;apply zp (.slice (some ⟨g,k*4,none⟩) d3 c3) (by exact kG rR underlying105 kR rR rR (by first|rfl|omega) C6.1 F4.1 G8.1 (by have A0:=HI.1;have A3:=A1.1;have B1:=HD.1;have A9:=A8.1;have B0:=A5.1;have B5:=A4.1;have B4:=HLT2.1;have M1:=C6.1;have I1:=G8.1;have M0:=F4.1;omega));refine rL (f:=Ba.cells) rR _ 105 rR C7.1 (ix:=0) rR Ba.len A4.1 k c3 (by have h_:=C6.1;have A7:=F4.1;omega) (by rw[show es.length-k=d3 by have h_:=C6.1;omega];rfl) underlying105 (.agg z4) Tryz.zeroValue26 rfl (by simp[Value.cells,Value.oneCell']) (by simp[Value.cells,Av]) dC ?_;intro K5 hh hd ho;have H2:=hN hh;have H8:=zH (hd);have G3:=zH (B6.1.trans_new ho (fun j hj=> .inl hj));clear hh hd ho
   (try simp only[Act.put])
   go_upto_region 15 with fail;apply wl;refine Cc Ah _ (iV (k:Int)) ?_;apply zp (.slice (π g) k cap) (by exact wP (size:=4) rR underlying105 kR rR rR (by first|rfl|omega) (by have h_:=C6.1;omega) A5.1 (by have h_:=G8.1;have A7:=C6.1;have F0:=A5.1;have M2:=F4.1;omega));refine Cg Ah _ ?_;have J3:=zH (H2.1.row (i:=0) (by rfl));have D1:(ds.take k).length=k:=by rw[eQQ,A4.1,C6.1];omega
   rw[L3.1]at D1 J3;go_wp2_with fail;go_ret;exact⟨_,rfl,by rw[D1];exact J3.1,G3.1.grownBy,((((F5.1.trans K0.1).trans H5.1).trans E5.1).trans H8.1),rfl⟩
  go_upto_region 6 with fail;refine zy ?_;have H1:=zH (C8.1.step (Aa.refl B9).drew);have H7:=zH (Ac.of_ext (w:=B9) zb);have D4:=zH (B6.1.trans (Fr.of_ext (Aa.refl B9).drew));refine iT Ah zb (bs 11 7) 0 1 2 _ _ (iV ((j+1:Nat):Int)) ?_;refine zo 3 (bs 11 15) (v:= .pointer (some ⟨g,(j+1)*4,none⟩)) zb ?_ (hv:=by intro w B2;exact Gw (k:=j+1) underlying105 (l:=(by have h_:=HLT.1;omega)) (f:=(cXX _).symm));refine zg 4 (bs 11 31) g ((j+1)*4) (rc e.a) (C8.1.elem (f:=Ba.cells) (i:=0) rR Ba.len F1.1) underlying26 zb ?_;refine Sh Ah zb (bs 11 127) 5 6 _ (iV ((j+1:Nat):Int)) ?_;refine zu 7 (bs 11 255) (v:= iV (j:Int)) zb ?_ (hv:=by intro w B2;exact Rh (by have A0:=HK.1;have A3:=HLT.1;omega));refine zo 8 (bs 11 511) (v:= .pointer (some ⟨g,j*4,none⟩)) zb ?_ (hv:=by intro w B2;exact Gw (k:=j) underlying105 (l:=(by have h_:=HLT.1;omega)) (f:=(cXX _).symm));refine zg 9 (bs 11 1023) g (j*4) (rc f.a) (C8.1.elem (f:=Ba.cells) (i:=0) rR Ba.len G5.1) underlying26 zb ?_;have B3:=tD F5 H7;refine mC 10 (bs 11 2047) (Mw L hL Bc _ e f ⟨(J5.1.dig B3.1),K2.1⟩ ⟨(J4.1.dig B3.1),K1.1⟩ (D4.1.cell HC.1 HB.1)) ?_;rintro e F6 ⟨rfl,hx⟩;have G9:=zH (H1.1.step hx);have H6:=zH (show Ac B9.drew F6 from Ac.of_ext hx);have G2:=zH (D4.1.trans (Fr.of_ext hx));have G1:=zH (zb.trans hx);clear hx;refine⟨.bool false,by rw[decide_eq_false HEQ.1],G1.1,?_⟩;try simp only[ζ]
  refine wpAnyH_done kR ?_ _;go_upto_region 5 with fail;apply wl;apply zq (iV ((j+1:Nat):Int));apply zp (iV ((j+2:Nat):Int)) (by exact Gm (by have A0:=HK.1;have A3:=HLT.1;omega));apply zq (iV ((j+2:Nat):Int));have E3:=tD B3 H6;go_wp2_with fail
  go_roundg (es.length-(j+1))
  case measure=>exact(by have A0:=HK.1;have A3:=HLT.1;have A9:=(show j<es.length from by have h_:=HLT.1;omega);omega)
  case rel=>exact⟨j+1,rfl,(by go_num),HLT.1,(by rw[J2.1,if_neg (by rw[decide_eq_false HEQ.1];decide),G7.1,List.take_add_one (i:=j+1),F1.1];rfl),G2.1,G9.1,E3.1⟩
 go_upto_region 4 with fail;apply wl;refine Da Ah (iV ((j+1:Nat):Int)) _ (iV ((es.length:Nat):Int)) ?_;apply zp φ (by exact Df (e:=(Af (by have A0:=HK.1;have A3:=HLT.1;omega))));go_upto_region 16 with fail;apply wl;refine Cc Ah _ _ ?_;have G0:Do (fun x y:Ba=>decide (x.q=y.q)) es=es:=by have h_:=G7.1;rwa[show j+1=es.length by have A7:=HLT.1;have F0:=HK.1;omega,cQQ (Cp _)]at h_
 go_wp2_with fail;go_ret;exact⟨_,rfl,by rw[G0];exact C8.1.row (i:=0) (by rfl),B6.1.grownBy,F5.1,rfl⟩
end
section
open Go.Shelf Go.RowKit
def bQ:Go.Shelf.Ren:=⟨fun|6=>156|15=>173|14=>172|28=>168|29=>194|20=>186|21=>187|22=>188|23=>189|24=>190|25=>191|26=>192|27=>193|46=>200|47=>201|48=>202|49=>203|50=>204|57=>209|n=>n,fun|22=>105|24=>26|25=>29|3=>3|39=>90|0=>0|53=>91|55=>89|4=>4|46=>192|45=>191|50=>57|5=>5|9=>9|66=>202|70=>206|76=>212|77=>213|n=>n,fun|n=>n⟩
theorem uJ:Go.Proofs.SlLaysF0.n6 prog bQ:={
 mixed:=by kernel_rfl
 f6:=⟨Tryz.f156.name,by decide,func156.trans (congrArg some (by kernel_rfl))⟩
 f14:=⟨Tryz.f172.name,by decide,func172.trans (congrArg some (by kernel_rfl))⟩
 f15:=func173.trans (congrArg some (by kernel_rfl))
 f20:=⟨Tryz.f186.name,by decide,func186.trans (congrArg some (by kernel_rfl))⟩
 f21:=⟨Tryz.f187.name,by decide,func187.trans (congrArg some (by kernel_rfl))⟩
 f22:=⟨Tryz.f188.name,by decide,func188.trans (congrArg some (by kernel_rfl))⟩
 f23:=⟨Tryz.f189.name,by decide,func189.trans (congrArg some (by kernel_rfl))⟩
 f24:=⟨Tryz.f190.name,by decide,func190.trans (congrArg some (by kernel_rfl))⟩
 f25:=⟨Tryz.f191.name,by decide,func191.trans (congrArg some (by kernel_rfl))⟩
 f26:=⟨Tryz.f192.name,by decide,func192.trans (congrArg some (by kernel_rfl))⟩
 f27:=⟨Tryz.f193.name,by decide,func193.trans (congrArg some (by kernel_rfl))⟩
 f28:=func168.trans (congrArg some (by kernel_rfl))
 f29:=func194.trans (congrArg some (by kernel_rfl))
 f46:=⟨Tryz.f200.name,by decide,func200.trans (congrArg some (by kernel_rfl))⟩
 f47:=func201.trans (congrArg some (by kernel_rfl))
 f48:=func202.trans (congrArg some (by kernel_rfl))
 f49:=⟨Tryz.f203.name,by decide,func203.trans (congrArg some (by kernel_rfl))⟩
 f50:=⟨Tryz.f204.name,by decide,func204.trans (congrArg some (by kernel_rfl))⟩
 f57:=⟨Tryz.f209.name,by decide,func209.trans (congrArg some (by kernel_rfl))⟩
 t0:=underlying0
 a0:=Tryz.isAgg0
 z0:=Tryz.sizeOf0
 v0:=Tryz.zeroValue0
 t3:=underlying3
 a3:=Tryz.isAgg3
 z3:=Tryz.sizeOf3
 v3:=Tryz.zeroValue3
 t4:=underlying4
 a4:=Tryz.isAgg4
 z4:=Tryz.sizeOf4
 v4:=Tryz.zeroValue4
 t5:=underlying5
 a5:=Tryz.isAgg5
 z5:=Tryz.sizeOf5
 v5:=Tryz.zeroValue5
 t9:=underlying9
 a9:=Tryz.isAgg9
 z9:=Tryz.sizeOf9
 v9:=Tryz.zeroValue9
 t22:=underlying105
 a22:=Tryz.isAgg105
 z22:=Tryz.sizeOf105
 v22:=Tryz.zeroValue105
 t25:=underlying29
 a25:=Tryz.isAgg29
 z25:=Tryz.sizeOf29
 v25:=Tryz.zeroValue29
 t39:=underlying90
 a39:=Tryz.isAgg90
 z39:=Tryz.sizeOf90
 v39:=Tryz.zeroValue90
 t45:=underlying191
 a45:=Tryz.isAgg191
 z45:=Tryz.sizeOf191
 v45:=Tryz.zeroValue191
 t46:=underlying192
 a46:=Tryz.isAgg192
 z46:=Tryz.sizeOf192
 v46:=Tryz.zeroValue192
 t50:=underlying57
 a50:=Tryz.isAgg57
 z50:=Tryz.sizeOf57
 v50:=Tryz.zeroValue57
 t53:=underlying91
 a53:=Tryz.isAgg91
 z53:=Tryz.sizeOf91
 v53:=Tryz.zeroValue91
 t55:=underlying89
 a55:=Tryz.isAgg89
 z55:=Tryz.sizeOf89
 v55:=Tryz.zeroValue89
 t66:=underlying202
 a66:=Tryz.isAgg202
 z66:=Tryz.sizeOf202
 v66:=Tryz.zeroValue202
 t70:=underlying206
 a70:=Tryz.isAgg206
 z70:=Tryz.sizeOf206
 v70:=Tryz.zeroValue206
 t76:=underlying212
 a76:=Tryz.isAgg212
 z76:=Tryz.sizeOf212
 v76:=Tryz.zeroValue212
 t77:=underlying213
 a77:=Tryz.isAgg213
 z77:=Tryz.sizeOf213
 v77:=Tryz.zeroValue213}
theorem Tv(L)(hL:L<=60000)(v es base w)(h:Bg w base 26 4 v es.length (es.flatMap Ba.cells))(hok:∀e,e∈es->e.Ok L w)(hn:es.length<=100000000):
  Calls prog 156 #[v,.func (.func 24) #[] #[]] w fun e w'=>e= .returned (.tuple #[])/\
   ∃es':List Ba,es'.Perm es/\es'.Pairwise (fun x y=>x.q<=y.q)/\Bg w' base 26 4 v es'.length (es'.flatMap Ba.cells)/\w.grownBy w' v.ownBlock/\Ac w w':=by
 have hc:=lF uJ 4 (by decide) Tryz.isAgg26 Tryz.sizeOf26 Ba.cells Ba.len Ba.one xI (fun w e=>e.Ok L w) (fun h d=>h.dig d) (fun x y=>Di x.q y.q)
  (fun x h=>Rat.not_lt.2 Rat.le_refl (rcmp_lt.1 h)) (fun x y z h1 h2=>rcmp_lt.2 (by have a:=rcmp_lt.1 h1;have b:=rcmp_lt.1 h2;grind))
  (fun x y z h1 h2 h3=>by have k1:=Rat.not_lt.1 (fun h=>h1 (rcmp_lt.2 h));have k2:=Rat.not_lt.1 (fun h=>h2 (rcmp_lt.2 h));exact Rat.not_lt.2 (Rat.le_trans k2 k1) (rcmp_lt.1 h3))
  24 (enters_of func24 (by kernel_rfl) rfl)
  (fun w x y hx hy=>(Fx (L:=60000) (RV.Is.nin hx.1 (Al hx.2 hL)) (RV.Is.nin hy.1 (Al hy.2 hL)) ω:Calls _ _ _ _ _)) v es base 26 w h hok (ω)
 refine hc.mono ?_;rintro e w' ⟨rfl,es',h1,h2,h3⟩;exact⟨rfl,es',h1,h2.imp (fun h=>Rat.not_lt.1 (fun k=>h (rcmp_lt.2 k))),h3⟩
end
section
attribute [local go_sem ↓] Go.wp_at_zero Go.wp_at_succ Aq An
theorem gF(L)(hL:L<=60000)(v)(es:List Ba)(base w)(h:Bg w base 26 4 v es.length (es.flatMap Ba.cells))(hbase:base<=w.heap.size)(hok:∀e,e∈es->e.Ok L w)(hn:es.length<=100000000):
  Calls prog 167 #[v,.func (.func 24) #[] #[]] w fun x w'=>∃(v':Value) (es':List Ba),x= .returned v'/\Bg w' base 26 4 v' es'.length (es'.flatMap Ba.cells)/\w.grownBy w' v.ownBlock/\Ac w w'/\v'.ownBlock=v.ownBlock/\
   (es'.map Ba.q).Pairwise (· < ·)/\(∀x,x∈es'.map Ba.q↔x∈es.map Ba.q)/\(∀e,e∈es'->e∈es):=by
 obtain⟨w0,A6,rfl⟩:=xM w base hbase;obtain⟨A,c,rfl,_⟩:=Bg.form h;have A9:=zH hok;have H0:=zH (Hp.one A6 h);have C1:=zH (show Fr (fun kz=>Value.ownBlock (.slice A es.length c)=some kz) w w from Fr.of_ext (Aa.refl w));clear h A6 hok;go_enter func167,ntmps167
 go_upto_region 0 with fail;apply wl;apply aA 29 [.func (.func 24) #[] #[]] H0.1;intro X1 w2 H4 hx B4;have D4:=zH (Ac.of_ext hx);have K6:=zH (C1.1.trans (Fr.of_ext hx));clear hx B4;refine Cg Ah _ ?_;go_upto_region 1 with fail
 apply wl;refine Cc H4.1 _ _ ?_;refine zc (Tv L hL (.slice A es.length c) es _ _ (H4.1.row (i:=0) rR) (fun e he=>(A9.1 e he).dig D4.1) hn) ?_;rintro e B1 ⟨rfl,A1,A4,A7,A3,A5,A8⟩;have A0:=zH A4;have C0:=zH A7;rw[A4.length_eq]at A3;have hh:=H4.1.turn (i:=0) (e:= .row 26 4 (.slice A es.length c) es.length (es.flatMap Ba.cells)) (e':= .row 26 4 (.slice A es.length c) es.length (A1.flatMap Ba.cells)) (by rfl) (fun k h=>h) A5 A3 (fun k hk=> .inl hk);have A2:=hN hh;have B0:=zH (show Ac w2 B1 from A8);have B9:=zH (K6.1.trans_new A5 (fun j hj=> .inl hj));have hx:=True.intro;clear hh A3 A5 A8 A4 A7 hx;refine zn ?_;go_upto_region 2 with fail
 apply wl;refine Cc Ah _ _ ?_;refine zc (oJ L hL X1 (.slice A es.length c) A1 _ _ (by rw[A0.1.length_eq];exact A2.1.row (i:=0) rR) A2.1.ext.size (fun e he=>(A9.1 e (A0.1.mem_iff.1 he)).dig (D4.1.trans B0.1)) (A2.1.cell (i:=1) rR 0 rR) (A2.1.offRow (i:=1) (j:=0) rR rR dC rR) (by rw[A0.1.length_eq];exact hn)) ?_;rintro e C2 ⟨v2,rfl,B3,B5,B6,B7⟩;have B8:=zH (B9.1.trans_new B5 (fun j hj=> .inl hj));have hx:=True.intro;clear hx;refine zn ?_;refine zq (v2) ?_;go_wp2_with fail
 go_ret;have B2:(Do (fun x y:Ba=>decide (x.q=y.q)) A1).Pairwise (fun x y=>x.q<y.q):=Sp (le:=fun x y=>x.q<=y.q) (fun a b c h1 h2=>by grind) (fun x y h1 h2=>by have h3:=of_decide_eq_false h2;grind) (fun x y h1 z h2=>by have h3:=of_decide_eq_true h1;grind) C0.1;refine⟨_,Do (fun x y:Ba=>decide (x.q=y.q)) A1,rfl,B3,B8.1.grownBy,(D4.1.trans B0.1).trans B6,B7,?_,fun x=>⟨fun hx=> ?_,fun hx=> ?_⟩,fun e he=>A0.1.mem_iff.1 (Qc _ he)⟩
 ·rw[List.pairwise_map];exact B2
 ·obtain⟨e,he,rfl⟩:=List.mem_map.1 hx
  exact List.mem_map_of_mem (A0.1.mem_iff.1 (Qc _ he))
 obtain⟨e,he,rfl⟩:=List.mem_map.1 hx;obtain⟨f,hf,h2⟩:=aN (eqv:=(fun x y:Ba=>decide (x.q=y.q))) (key:=Ba.q) (fun x y h=>of_decide_eq_true h) (A0.1.mem_iff.2 he);exact List.mem_map.2 ⟨f,hf,h2⟩
def aX (L:Nat)(y lo hi:Rat)(Bo:Nat)(A:Option Addr)(n c:Nat)(es:List Ba)(w0 w w':World):Prop:=
  ∃ (A':Option Addr) (c' n':Nat) (es':List Ba),Hp w0 w' [.blk Bo 105 [.slice A' n' c'],.row 26 4 (.slice A' n' c') n' (List.flatMap Ba.cells es')]/\Ac w w'/\Fr (fun kz=>kz=Bo\/Value.ownBlock (.slice A n c)=some kz) w w'/\
    (∀k,Value.ownBlock (.slice A' n' c')=some k->Value.ownBlock (.slice A n c)=some k\/w.heap.size<=k)/\es'.map Ba.q=es.map Ba.q++(if lo<y/\y<hi then[y]else[])/\n'=es'.length/\n'<=n+1/\∀e,e∈es'->e.Ok L w'
theorem Zl(L)(hL:L<=60000)(ry rl rh:RV)(y lo hi Xl Xh Bo A n c es w0 w)(hh:Hp w0 w [.blk Bo 105 [.slice A n c],.row 26 4 (.slice A n c) n (List.flatMap Ba.cells es)])
(hy:ry.Is w y)(h1:Nm.rl y<=L)(hl:rl.Is w lo)(hh2:rh.Is w hi)(hl2:Nm.rl lo<=L)(hh3:Nm.rl hi<=L)(hrl:w.rangeAt Xl 0 (rc rl))(hrh:w.rangeAt Xh 0 (rc rh))
(hnl:¬(Xl=Bo\/Value.ownBlock (.slice A n c)=some Xl))(hnh:¬(Xh=Bo\/Value.ownBlock (.slice A n c)=some Xh))(hn:n=es.length)(hn2:n<=90000000)(hok:∀e,e∈es->e.Ok L w):
  Calls prog 165 #[(rg ry),.pointer (π Xl),.pointer (π Xh),.pointer (π Bo)] w fun e w'=>e= .returned (.tuple #[])/\aX L y lo hi Bo A n c es w0 w w':=by
 have RY:=zH hy;have BY:=zH h1;have RL:=zH hl;have RH:=zH hh2;have BL:=zH hl2;have BH:=zH hh3;have GL:=zH hrl;have GH:=zH hrh;have NL:=zH hnl;have NH:=zH hnh;have HN:=zH hn;have HOK:=zH hok;have H0:=zH hh;have HN2:=zH hn2;clear hy h1 hl hh2 hl2 hh3 hrl hrh hnl hnh hn hn2 hok hh;have HFR:=zH (show Fr (fun kz=>kz=Bo\/Value.ownBlock (.slice A n c)=some kz) w w from Fr.of_ext (Aa.refl w));go_enter func165,ntmps165
 go_upto_region 0 with fail;apply wl;apply aA 26 (rc ry) H0.1;intro X1 w2 H4 hx hge;have D4:=zH (Ac.of_ext hx);have K6:=zH (HFR.1.trans (Fr.of_ext hx));clear hx hge;rcases Cl (lo<y/\y<hi)with CL|CL
 ·go_upto_region 1 with fail
  apply wl;refine zd Xl (0) (rc rl) (K6.1.range GL.1 NL.1) underlying26 ?_;refine Cg H4.1 _ ?_;refine zc (Fx (L:=60000) (RV.Is.nin (RL.1.dig D4.1) (Al BL.1 ω)) (RV.Is.nin (RY.1.dig D4.1) (Al BY.1 ω)) ω) ?_;rintro e w9 ⟨rfl,hx⟩;have H10:=zH (H4.1.step hx);have D10:=zH (Ac.of_ext hx);have K12:=zH (K6.1.trans (Fr.of_ext hx));clear hx;refine zn ?_;apply zp τ (by exact Df (e:=(Ar (rcmp_lt.2 CL.1.1))));refine Cc H10.1 τ _ ?_;refine zd Xh (0) (rc rh) (K12.1.range GH.1 NH.1) underlying26 ?_;have DD16:=tD D4 D10;refine zc (Fx (L:=60000) (RV.Is.nin (RY.1.dig DD16.1) (Al BY.1 ω)) (RV.Is.nin (RH.1.dig DD16.1) (Al BH.1 ω)) ω) ?_;rintro e w15 ⟨rfl,hx⟩;have H17:=zH (H10.1.step hx);have D17:=zH (Ac.of_ext hx);have K19:=zH (K12.1.trans (Fr.of_ext hx));clear hx;refine zn ?_;apply zp τ (by exact Df (e:=(Ar (rcmp_lt.2 CL.1.2))));apply zq τ;go_upto_region 2 with fail
  apply wl;refine Cc H17.1 _ _ ?_;refine zp (w':=(w15.alloc (.cells ((rc ry):List Value).toArray 26))) (.slice (π w15.heap.size) 1 1) (by go_simp) ?_;refine Ki rR _ _ _ rR Yk rR H17.1 (ix:=1) rR 1 1 (rc ry) rR rfl (by simp[Value.oneCell']) (by simp[Av]) dC (by unfold maxLen;exact(by have ob0:=HN2.1;omega)) (by have ob0:=HN2.1;omega) ?_;intro g23 cp24 w22 hf hh hd hg;have Fg23:=zH hf;clear hf;rw[show List.flatMap Ba.cells es++(rc ry)=_ from Ee Ba.cells _ (⟨ry,y⟩:Ba)]at hh;have H25:=hN hh;have D25:=zH (hd);have K27:=zH (show Fr (fun kz=>kz=Bo\/Value.ownBlock (.slice A n c)=some kz) w w22 from(K19.1.trans (Fr.of_ext (At.alloc _))).trans_new hg (fun j hj=> .inl (.inr hj)));clear hh hd hg;try simp only[ζ]
  apply aU 0 (.slice (π g23) (n+1) cp24) H25.1;intro w28 H29 hd ho;have D29:=zH (hd);have K31:=zH (K27.1.trans_new ho (fun j hj=> .inl (.inl (by injection hj with hj;exact hj.symm))));clear hd ho;have DD32:=tD (tD (tD DD16 D17) D25) D29;go_wp2_with fail
  first|refine bodyPost_end (v:= .tuple #[]) (results_none rfl _ _ _) rfl ?_|refine bodyPost_ret (results_none rfl _ _ _) rfl ?_
  exact⟨rfl,some ⟨g23,0,none⟩,cp24,n+1,es++[(⟨ry,y⟩:Ba)],H29.1.take 2,((((D4.1.trans D10.1).trans D17.1).trans D25.1).trans D29.1),K31.1,(fun k_ hk_=>by have e_:g23=k_:=(by simpa[Value.ownBlock]using hk_);subst e_;exact Fg23.1.imp id (fun h_=>Al K19.1.size h_)),(by rw[hXX,if_pos CL.1];rfl),(by rw[aXX,<-HN.1];rfl),Cp _,(fun g_ hg_=>(List.mem_append.1 hg_).elim (fun hg_=>(HOK.1 g_ hg_).dig ((((D4.1.trans D10.1).trans D17.1).trans D25.1).trans D29.1)) (fun hg_=>by rw[List.mem_singleton.1 hg_];exact⟨(RY.1.dig DD32.1),BY.1⟩))⟩
 rcases Cl (lo<y)with C1|C1
 ·go_upto_region 1 with fail
  apply wl;refine zd Xl (0) (rc rl) (K6.1.range GL.1 NL.1) underlying26 ?_;refine Cg H4.1 _ ?_;refine zc (Fx (L:=60000) (RV.Is.nin (RL.1.dig D4.1) (Al BL.1 ω)) (RV.Is.nin (RY.1.dig D4.1) (Al BY.1 ω)) ω) ?_;rintro e w34 ⟨rfl,hx⟩;have H35:=zH (H4.1.step hx);have D35:=zH (Ac.of_ext hx);have K37:=zH (K6.1.trans (Fr.of_ext hx));clear hx;refine zn ?_;apply zp τ (by exact Df (e:=(Ar (rcmp_lt.2 C1.1))));refine Cc H35.1 τ _ ?_;refine zd Xh (0) (rc rh) (K37.1.range GH.1 NH.1) underlying26 ?_;have DD41:=tD D4 D35;refine zc (Fx (L:=60000) (RV.Is.nin (RY.1.dig DD41.1) (Al BY.1 ω)) (RV.Is.nin (RH.1.dig DD41.1) (Al BH.1 ω)) ω) ?_;rintro e w40 ⟨rfl,hx⟩;have H42:=zH (H35.1.step hx);have D42:=zH (Ac.of_ext hx);have K44:=zH (K37.1.trans (Fr.of_ext hx));clear hx;refine zn ?_;apply zp φ (by exact Df (e:=(Af (fun hh=>(fun h_=>CL.1 ⟨C1.1,h_⟩) (rcmp_lt.1 hh)))));apply zq φ;go_wp2_with fail
  first|refine bodyPost_end (v:= .tuple #[]) (results_none rfl _ _ _) rfl ?_|refine bodyPost_ret (results_none rfl _ _ _) rfl ?_
  exact⟨rfl,A,c,n,es,H42.1.take 2,((D4.1.trans D35.1).trans D42.1),K44.1,(fun k_ hk_=> .inl hk_),(by rw[if_neg CL.1,hZZ]),HN.1,Nat.le_succ _,(fun g_ hg_=>(HOK.1 g_ hg_).dig ((D4.1.trans D35.1).trans D42.1))⟩
 go_upto_region 1 with fail;apply wl;refine zd Xl (0) (rc rl) (K6.1.range GL.1 NL.1) underlying26 ?_;refine Cg H4.1 _ ?_;refine zc (Fx (L:=60000) (RV.Is.nin (RL.1.dig D4.1) (Al BL.1 ω)) (RV.Is.nin (RY.1.dig D4.1) (Al BY.1 ω)) ω) ?_;rintro e w47 ⟨rfl,hx⟩;have H48:=zH (H4.1.step hx);have D48:=zH (Ac.of_ext hx);have K50:=zH (K6.1.trans (Fr.of_ext hx));clear hx;refine zn ?_;apply zp φ (by exact Df (e:=(Af (fun hh=>C1.1 (rcmp_lt.1 hh)))));refine Qh Ah φ _ _ _ _ φ ?_;go_wp2_with fail
 first|refine bodyPost_end (v:= .tuple #[]) (results_none rfl _ _ _) rfl ?_|refine bodyPost_ret (results_none rfl _ _ _) rfl ?_
 exact⟨rfl,A,c,n,es,H48.1.take 2,(D4.1.trans D48.1),K50.1,(fun k_ hk_=> .inl hk_),(by rw[if_neg CL.1,hZZ]),HN.1,Nat.le_succ _,(fun g_ hg_=>(HOK.1 g_ hg_).dig (D4.1.trans D48.1))⟩
end
section
theorem gP{w g o r k p}(h:Vr w g o r)(hp:r[k]?=some p):w.rangeAt g (o+k*2) [iV p.1,iV p.2]:=by
  obtain⟨hk,rfl⟩:=List.getElem?_eq_some_iff.1 hp;have h2:=h k hk;intro j v hj;match j,hj with
  |0,hj=>simp at hj;subst hj;have h3:=h2.1;simpa[bQQ,hk]using h3
  |1,hj=>simp at hj;subst hj;have h3:=h2.2;simpa[bQQ,hk,Nat.add_assoc]using h3
  |j+2,hj=>simp at hj
theorem yU{rs r}(h:Gf rs=true)(hr:r∈rs):Dk r=true:=by
  unfold Gf at h;rw[iZZ]at h;exact List.all_eq_true.1 h.2 r hr
theorem jJ{rs r}{i k:Nat}{p}(h:Gf rs=true)(hr:rs[i]?=some r)(hp:r[k]?=some p):Dy p:=by
  have h2:=yU h (bZZ hr);unfold Dk at h2;exact List.all_eq_true.1 h2 p (bZZ hp)
theorem sO{a b}{rs:List Dr}{r i}(h:rs[i]?=some r):xU a b (rs.take (i+1))=xU a b (rs.take i)++r.flatMap (fun p=>eT a.2 b.2 (p.2:Rat)):=by
  unfold xU;rw[List.take_add_one,h,List.flatMap_append];simp
theorem Hp.litRow17{w0 w m}{i X n size:Nat}{t cs}(h:Hp w0 w m)(hi:m[i]?=some (.blk X t cs))(hl:cs.length=n*size)(hn:n<=maxLen):Bg w w0.heap.size t size (.slice (π X) n n) n cs:=
  ⟨hl,.inr ⟨X,n,[],rfl,h.ge hi rfl,by rw[hZZ];exact h.blk hi,Cp _,hn,by simp[hl],by rw[hZZ];exact h.noU hi⟩⟩
theorem Ac.keptQ{w w' r}(hg:w.grownBy w' r)(hr:∀k,r=some k->∃o:Obj,w.heap[k]?=some o/\o.isCells=false):Ac w w':=by
 intro v xs h;obtain⟨p,A1,rfl,hc,hd,hp⟩:=h;refine⟨p,A1,rfl,hc,hd,fun h0=> ?_⟩;obtain⟨b,o,rfl,hb⟩:=hp h0;refine⟨b,o,rfl,fun i hi=> ?_⟩;have h1:=hb i hi;have A0:¬(some b=r):=fun e=>by
  obtain⟨ob,h2,h3⟩:=hr b e.symm;cases ob with
  |cells cs t fz=>cases h3
  |_=>simp[World.cell?,h2]at h1
 rw[World.cell?_of_block (hg.block b (World.block_lt_of_cell? w ⟨b,o+i,none⟩ h1) A0)];exact h1
theorem Hp.keptQ{w0 w w' m r}(h:Hp w0 w m)(hg:w.grownBy w' r)(hr:∀k,r=some k->w0.heap.size<=k/\∃o:Obj,w.heap[k]?=some o/\o.isCells=false):Hp w0 w' m:=by
 refine⟨h.ext.grown hg (fun k hk=>(hr k hk).1),fun i e he=>(h.all i e he).kept hg (fun k hk hrk=> ?_),h.apart⟩;obtain⟨o,h2,h3⟩:=(hr k hrk).2;cases e with
 |blk g t cs=>
  injection hk with hk
  subst hk;have:=h.blk he;unfold Aj at this;rw[h2]at this;injection this with this
  rw[this]at h3;cases h3
 |row t size v n xs=>
  obtain⟨h4,⟨rfl,_⟩|⟨g,A0,rest,rfl,a,hb,c⟩⟩:=h.row he
  ·simp[Et.own,Value.ownBlock]at hk
  have hk:g=k:=by simpa[Et.own,Value.ownBlock]using hk
  subst hk;unfold Aj at hb;rw[h2]at hb;injection hb with hb
  rw[hb]at h3;cases h3
theorem dS{w0 w m}{i X:Nat}{t p q}(h:Hp w0 w m)(hi:m[i]?=some (.blk X t [iV p,iV q]))(k)(hk:k<2):w.rangeAt X k [iV (if k=0 then p else q)]:=by
  have:k=0\/k=1:=ω;rcases this with rfl|rfl
  · exact h.range hi 0 1
  exact h.range hi 1 1
theorem Ka.yes{C q w w' e}(h:Ka C q w e w')(hc:C):∃r:RV,e= .returned (.tuple #[(rg r),.bool true])/\r.Is w' q/\Aa w w':=by
  obtain⟨⟨r,_,h1,h2⟩|⟨h1,_⟩,hx⟩:=h
  · exact⟨r,h1,h2,hx⟩
  exact absurd hc h1
theorem Ka.no{C q w w' e}(h:Ka C q w e w')(hc:¬C):e= .returned (.tuple #[.agg z4,.bool false])/\Aa w w':=by
  obtain⟨⟨r,h0,h1,h2⟩|⟨_,h1⟩,hx⟩:=h
  · exact absurd h0 hc
  exact⟨h1,hx⟩
theorem Oq.yes{a b c d w w' e}(h:Oq a b c d w e w')(hc:Gp a b c d=1):∃r s:RV,e= .returned (.tuple #[(rg r),(rg s),iV 1])/\r.Is w' (fV a b c d)/\s.Is w' (Qn a b c d)/\Aa w w':=by
  obtain⟨⟨r,s,_,h1,h2,h3⟩|⟨h1,_⟩,hx⟩:=h
  · exact⟨r,s,h1,h2,h3,hx⟩
  exact absurd hc h1
theorem Oq.no{a b c d w w' e}(h:Oq a b c d w e w')(hc:¬Gp a b c d=1):e= .returned (.tuple #[.agg z4,.agg z4,iV (Gp a b c d)])/\Aa w w':=by
  obtain⟨⟨r,s,h0,h1,h2,h3⟩|⟨_,h1⟩,hx⟩:=h
  · exact absurd h0 hc
  exact⟨h1,hx⟩
theorem oW{e x}(h:Yx e.1 e.2 x):Qi e x=[Il e.1 e.2 x]:=if_pos h
theorem tZ{e x}(h:¬Yx e.1 e.2 x):Qi e x=[]:=if_neg h
theorem pU{o e}(h:Gp o.1 o.2 e.1 e.2=1):Ub o e=[Qn o.1 o.2 e.1 e.2]:=if_pos h
theorem uR{o e}(h:¬Gp o.1 o.2 e.1 e.2=1):Ub o e=[]:=if_neg h
def kT (a b:Int×Int)(e:He)(k:Nat):List Rat:=(if 1<=k then(Qi e a.1).flatMap (eT a.2 b.2)else[])++(if 2<=k then(Qi e b.1).flatMap (eT a.2 b.2)else[])
theorem Wh(a b e k)(hk:k<2):kT a b e (k+1)=kT a b e k++(Qi e (if k=0 then a.1 else b.1)).flatMap (eT a.2 b.2):=by
  have:k=0\/k=1:=ω;rcases this with rfl|rfl<;>simp[kT]
theorem Fr.trans_fr{G G' a b c}(h:Fr G a b)(k:Fr G' b c)(hG:∀j,G' j->G j\/a.heap.size<=j):Fr G a c:=
  ⟨k.os.trans h.os,k.tape.trans h.tape,k.output.trans h.output,Al h.size k.size,fun i hi hn=>(k.block i (kQQ hi h.size) (fun g=>(hG i g).elim hn (fun h2=>ω))).trans (h.block i hi hn)⟩
theorem Hp.addTyp3{w0 w m X Y B T zs us}(h:Hp w0 w m)(B1:Aj w X T zs.toArray)(B2:Aj w Y T us.toArray)(hne:X≠Y)(hB:w0.heap.size<=B)(z1:B<=X)(z2:B<=Y)(n1:Av zs)(n2:Av us)
(ht:∀e,e∈m->e.typ≠T\/∀k,e.own=some k->k<B):Hp w0 w (m++[.blk X T zs]++[.blk Y T us]):=by
 have h1:Hp w0 w (m++[.blk X T zs]):=h.add ⟨Al hB z1,B1,n1⟩ (fun i f hf k hk e=>by
  injection e with e
  subst e;rcases ht f (bZZ hf)with h2|h2
  ·exact h2 (h.typ hf B1 hk)
  have:=h2 _ hk;omega)
 refine h1.add ⟨Al hB z2,B2,n2⟩ (fun i f hf k hk e=> ?_);injection e with e
 subst e;rcases List.mem_append.1 (bZZ hf)with hm|hm
 ·obtain⟨j,hj⟩:=List.mem_iff_getElem?.1 hm
  rcases ht f hm with h2|h2
  ·exact h2 (h.typ hj B2 hk)
  have:=h2 _ hk;omega
 simp at hm;subst hm;injection hk with hk
 exact hne hk
def Kv (F:Fence)(n:Nat)(P:Program)(fn:Func)(R:Ending->World->Prop):Exit->Act->World->Prop
  | .normal,a,w| .ret,a,w=>LeavesInM F n P fn a.tmps R a.defers .returning w
  |_,_,_=>False
theorem Kv.m{F n P fn R}:∀e a w,Kv F n P fn R e a w->bodyPostM F n P fn R e a w:=by
  intro e a w h;cases e<;>first|exact h|exact h.elim
end
section
attribute [local go_sem ↓] Go.wp_at_zero Go.wp_at_succ Aq An
structure aDC where
  a:Int×Int
  b:Int×Int
  r:Nat
  i:Nat
  n:Nat
def aCF (e:aDC)(p:Rat×Rat):Prop:=(((e.b.1-e.a.1):Int):Rat)*(p.2-(((e.a.2):Int):Rat))=(((e.b.2-e.a.2):Int):Rat)*(p.1-(((e.a.1):Int):Rat))/\(((0):Int):Rat)<=(((e.b.1-e.a.1):Int):Rat)*(p.1-(((e.a.1):Int):Rat))+(((e.b.2-e.a.2):Int):Rat)*(p.2-(((e.a.2):Int):Rat))/\(((e.b.1-e.a.1):Int):Rat)*(p.1-(((e.a.1):Int):Rat))+(((e.b.2-e.a.2):Int):Rat)*(p.2-(((e.a.2):Int):Rat))<=(((e.b.1-e.a.1):Int):Rat)*(((e.b.1-e.a.1):Int):Rat)+(((e.b.2-e.a.2):Int):Rat)*(((e.b.2-e.a.2):Int):Rat)
instance aAY (e:aDC) (p:Rat×Rat):Decidable (aCF e p):=inferInstanceAs (Decidable (_/\_))
end
section
def yF (a b:Int×Int):Rat:=((1:Int):Rat)/((b.2-a.2:Int):Rat)*((b.1-a.1:Int):Rat)
theorem oY(a b y):Cz a.1 a.2 b.1 b.2 y=yF a b*y+((a.1:Rat)-(a.2:Rat)*yF a b):=by
  unfold Cz yF;generalize ((1:Int):Rat)/((b.2-a.2:Int):Rat)=i;generalize ((b.1-a.1:Int):Rat)=u;grind
end
section
attribute [local go_sem ↓] Go.wp_at_zero Go.wp_at_succ
def Ml (n rule:Int):Bool:=(decide (rule=1)&&decide (n≠0))||(decide (rule=2)&&decide (n%2≠0))
end
section
def Pc:Int->List QI->List (QQ×Int)
  |s,a::b::t=>((a.1,b.1),s+a.2)::Pc (s+a.2) (b::t)
  |_,[_]=>[]
  |_,[]=>[]
def lJ (rule:Int)(l:List (QQ×Int)):List QQ:=(l.filter fun r=>Ml r.2 rule).map fun r=>r.1
def Ma (rule:Int)(ms:List QI):List QQ:=Fz (lJ rule (Pc 0 ms))
theorem uQ(rule l m):lJ rule (l++m)=lJ rule l++lJ rule m:=by unfold lJ;simp
theorem uO(rule r):lJ rule [r]=if Ml r.2 rule=true then[r.1]else[]:=by
  unfold lJ;by_cases h:Ml r.2 rule=true<;>simp[h]
end
section
attribute [local go_sem ↓] Go.wp_at_zero Go.wp_at_succ Aq An
end
section
theorem gT{P Q:Rat->Prop}{out s}(h:∀p,p∈out->P p.1/\Q p.2)(hs:P s.1/\Q s.2):∀p,p∈Fh out s->P p.1/\Q p.2:=by
 have A0:∀p,p∈out++[s]->P p.1/\Q p.2:=fun p hp=>by
  rcases List.mem_append.1 hp with hp|hp
  ·exact h p hp
  rw[mXX]at hp;subst hp;exact hs
 intro p hp;unfold Fh at hp;split at hp
 ·exact A0 p hp
 rename_i l h0;have e0:=jV h0;split at hp
 ·exact A0 p hp
 split at hp
 ·generalize out.dropLast=o at*
  subst e0;rcases List.mem_append.1 hp with hp|hp
  ·exact h p (List.mem_append.2 (Or.inl hp))
  rw[mXX]at hp;subst hp;exact⟨(h l (by simp)).1,hs.2⟩
 exact h p hp
theorem nZ {P Q:Rat->Prop}(l:List QQ):∀(out:List QQ),(∀p,p∈out->P p.1/\Q p.2)->(∀p,p∈l->P p.1/\Q p.2)->∀p,p∈l.foldl Fh out->P p.1/\Q p.2:=by
  induction l with
  |nil=>intro out h _;exact h
  |cons s l ih=>intro out h k;rw[List.foldl_cons];exact ih _ (gT h (k s (eXX ..))) fun p hp=>k p (cZZ _ hp)
theorem dR{P Q:Rat->Prop}{l}(h:∀p,p∈l->P p.1/\Q p.2):∀p,p∈Fz l->P p.1/\Q p.2:=by
  unfold Fz;refine nZ _ [] (by simp) fun p hp=>h p ?_
  unfold Hk at hp;exact(Xx.1 (Stb.mem_stab.1 hp)).1
end
section
attribute [local go_sem ↓] Go.wp_at_zero Go.wp_at_succ Aq An
theorem Zw(L)(hL:L<=60000)(w e f)(he:e.Ok L w)(hf:f.Ok L w):
  Calls prog 178 #[.agg e.cells.toArray,.agg f.cells.toArray] w fun x w'=>∃z:Int,x= .returned (iV z)/\(z<0↔nL e f=true)/\Aa w w':=by
 have RA:=zH he.1;have RB:=zH hf.1;have BA:=zH he.2.1;have BB:=zH hf.2.1;clear he hf;unfold Gx.cells;go_enter func178,ntmps178
 have H0:=zH (Hp.start w);go_upto_region 0 with fail;apply wl;apply Ca 169 [.bool e.a.n,.slice e.a.p e.a.l e.a.c,.bool e.a.m,.slice e.a.p2 e.a.l2 e.a.c2,iV e.up] H0.1;intro X1 w2 H3 _;apply Ca 169 [.bool f.a.n,.slice f.a.p f.a.l f.a.c,.bool f.a.m,.slice f.a.p2 f.a.l2 f.a.c2,iV f.up] H3.1;intro X6 w7 H8 _;apply zq (iV 0);go_upto_region 1 with fail;refine zy ?_;have A1:=zH (H8.1.step (Aa.refl w7).drew);refine Os Ah zb (bs 13 1) 0 _ ?_;refine zg 1 (bs 13 3) X1 (0) (rc e.a) (H8.1.range (i:=0) rR 0 4) underlying26 zb ?_;refine Os Ah zb (bs 13 7) 2 _ ?_;refine zg 3 (bs 13 15) X6 (0) (rc f.a) (H8.1.range (i:=1) rR 0 4) underlying26 zb ?_;refine oV H8.1 zb (bs 13 495) 5 6 7 8 _ _ _ _ ?_;refine mC 4 (bs 13 511) (Fx (L:=60000) (RV.Is.nin (RA.1.dig A1.1.dig0) (Al BA.1 ω)) (RV.Is.nin (RB.1.dig A1.1.dig0) (Al BB.1 ω)) ω) ?_;rintro e B4 ⟨rfl,hx⟩;have B0:=zH (A1.1.step hx);have A5:=zH (zb.trans hx);clear hx;apply zm A5.1;refine mC 9 (bs 13 1023) (eR f.up e.up _) ?_;rintro e B3 ⟨rfl,hx⟩;have A9:=zH (B0.1.step hx);have A4:=zH (A5.1.trans hx);clear hx;apply zm A4.1;refine rP (T:=3) (zs:=[iV (Di e.q f.q),iV (Om f.up e.up)]) (n:=2) (i:=10) (listed':=(bs 13 2047)) rR kR rR (by go_simp) kR A9.1 (by simp[Av]) ?_;intro A7 B2 hh hx A6;have A0:=hN hh;have A3:=zH (A4.1.trans hx);clear hh hx A6;refine⟨A3.1,?_⟩;try simp only[ζ]
 refine mC 11 (bs 13 4095) (yP A7 0 2 (Di e.q f.q) (Om f.up e.up) _ (A0.1.cell (i:=2) rR 0 rR) (A0.1.cell (i:=2) rR 1 rR)) ?_;rintro e B1 ⟨rfl,hx⟩;have A8:=zH (A0.1.step hx);have A2:=zH (A3.1.trans hx);clear hx;apply zm A2.1;refine zx 12 (bs 13 8191) (iV (yQ (Di e.q f.q) (Om f.up e.up))) A2.1 ?_;refine wpAnyH_done kR ?_ _;go_wp2_with fail
 go_ret;exact⟨_,rfl,by show _↔Qf e.q e.up f.q f.up=true;rw[<-yO,decide_eq_true_iff],A8.1.ext⟩
end
section
open Go.RowKit Go.Shelf
attribute [local go_sem] Oper.semAt_some
attribute [local go_sem ↓] Go.wp_at_zero Go.wp_at_succ Ed Ec Aq An
def aCZ (L X3 Bo:Nat)(ry:RV)(y:Rat)(w W1:World)(pre:List fD)(W:World):Prop:=
  ∃(A:Option Addr) (n c:Nat) (es:List Gx),Hp w W [.blk X3 26 (rc ry),.blk Bo 166 [.slice A n c],.row 169 5 (.slice A n c) n (List.flatMap Gx.cells es)]/\Ac W1 W/\(∀k,Value.ownBlock (.slice A n c)=some k->W1.heap.size<=k)/\(∀e,e∈es->e.Ok (L+8) W)/\es.map Gx.vl=(pre.map Subtype.val).filterMap (Kl y)/\n=es.length/\n<=pre.length/\W1.heap.size<=W.heap.size
def aDA (u:Value)(X3 Bo Bx:Nat)(ry:RV)(W1:World)(x:fD)(a':Act)(W:World):Prop:=
  ∃ Xa Xb,Aj W Xa 52 ([iV x.1.1.1,iV x.1.1.2]:List Value).toArray/\Aj W Xb 52 ([iV x.1.2.1,iV x.1.2.2]:List Value).toArray/\Xa≠Xb/\W1.heap.size<=Xa/\W1.heap.size<=Xb/\
    a'={tmps:=#[u,(rg ry),undef,.pointer (π X3),.slice none 0 0,.pointer (π Bo),.pointer (π Xa),.pointer (π Xb),undef,undef,undef,undef,u,.func (.func 122) #[] #[.pointer (π Bx)],.agg #[iV x.1.1.1,iV x.1.1.2],.agg #[iV x.1.2.1,iV x.1.2.2],undef,undef,undef,undef,undef,undef,undef,undef,undef,undef,undef,undef,undef,undef,undef,undef,undef,undef,undef,undef,undef,undef,undef,undef,undef,undef,undef,undef,undef,undef,undef],defers:=[]}
theorem vQ(L X3 Bo ry y w W1)(hw:w.heap.size<=W1.heap.size):OwnFrom W1.heap.size (aCZ L X3 Bo ry y w W1):=by
  rintro s W W' row ⟨A,n,c,es,h1,h2,h3,h4,h5,h6,h7,h8⟩ hg hr;have d:Ac W W':=Ac.kept hg (fun k hk=>(hr k hk).2);exact⟨A,n,c,es,h1.kept hg (fun k hk=>⟨Al hw (hr k hk).1,(hr k hk).2⟩),h2.trans d,h3,fun e he=>(h4 e he).dig d,h5,h6,h7,Al h8 hg.size⟩
theorem vR(u X3 Bo Bx ry W1 x a'):OwnFrom W1.heap.size (fun(_:Unit) W=>aDA u X3 Bo Bx ry W1 x a' W):=by
  rintro _ W W' row ⟨Xa,Xb,h1,h2,h3⟩ hg hr;exact⟨Xa,Xb,h1.kept hg (fun k hk=>(hr k hk).2),h2.kept hg (fun k hk=>(hr k hk).2),h3⟩
theorem zK{L w w'}{a:RV}{q}(h:a.In L w q)(x:Aa w w'):a.In L w' q:=h.ext x
theorem nJ(L u rs)(ry:RV)(y w)(hu:Cs w u rs)(hy:ry.In L w y)(h1L:1<=L)(hL:L<=2000)(hn:rs.length<=1048576)(hr:∀r,r∈rs->r.length<=1048576)(htot:Gy rs<20):
  Calls prog 163 #[u,(rg ry)] w fun e w'=>∃A n c es,e= .returned (.slice A n c)/\n=List.length es/\Bg w' w.heap.size 169 5 (.slice A n c) n (List.flatMap Gx.cells es)/\
   (∀e,e∈es->e.Ok (L+8) w')/\es.map Gx.vl=Ez y rs/\Aa w w':=by
 obtain⟨qs,D5⟩:∃qs,qs=if Gf rs=true then rs else[]:=⟨_,rfl⟩
 have I0:Gf qs=true:=by
  rw[D5];split
  ·assumption
  rfl
 have N5:qs.length<=1048576:=by
  rw[D5];split
  ·exact hn
  simp
 have P8:=zH (show Gy qs<=Gy rs by rw[D5];split;exact Cp _;exact dXX _);have Q0:=zH (show Ez y rs=Stb.stab vT (Vj y qs)by rw[D5];rfl);have L3:=(((Hp.start w).alloc 26 (rc ry) (by simp[Av])).alloc 166 [.slice none 0 0] (by simp[Av])).addNil 169 5;have G8:Aa w ((μ w ry.n ry.p ry.l ry.c ry.m ry.p2 ry.l2 ry.c2).alloc (.cells #[.slice none 0 0] 166)):=((Aa.refl w).alloc _).alloc _;have HC:=zH (Rj u rs _ (hu.ext G8) hn hr);have HY:=zH (hy.ext G8);clear hu hy;have M8:=zH L3;clear L3;have S8:=zH G8;clear G8;refine(callsIn_wide (n:=4)).1 ?_;refine callsIn_of_wp_marks func163 rfl trivial ?_ rfl;simp only[ntmps163,List.size_toArray,hQQ,List.length_nil,Nat.reduceAdd,Nat.reduceSub,Array.replicate_succ,Array.replicate_zero,List.push_toArray,List.append_toArray,fQQ,jXX];gi_wp2_with (refine⟨trivial,?_⟩;gi_at_call 82;refine(callsIn_wide.2 HC.1).mono ?_;rintro e W1 ⟨Bx,v,rfl,L7,S6,E5,hR,hx⟩)
 rw[<-D5]at hR;have M7:=zH (M8.1.step hx);have HR:=zH hR;have M6:=zH (zK HY.1 hx);have N9:w.heap.size+1<Bx:=by simp at L7;omega
 obtain⟨X3,I7⟩:∃X3,X3=w.heap.size:=⟨_,rfl⟩;obtain⟨Bo,I9⟩:∃Bo,Bo=w.heap.size+1:=⟨_,rfl⟩;have H2:=zH (show Hp w W1 [.blk X3 26 (rc ry),.blk Bo 166 [.slice none 0 0],.row 169 5 (.slice none 0 0) 0 (List.flatMap Gx.cells [])]from by rw[I7,I9];have h:=M7.1;simpa using h);have O1:X3<W1.heap.size:=H2.1.lt (i:=0) (by rfl) rfl;have O2:Bo<W1.heap.size:=H2.1.lt (i:=1) (by rfl) rfl;have P7:=zH (show Gd (fun k=>¬(k=Bo\/W1.heap.size<=k)) W1 v qs from HR.1.imp (fun k h=>by have h1:=h.1;simp at h1;omega));rw[<-I9,<-I7];clear M7 HR M8 HY D5 hx hR L7;have I4:Bx≠Bo:=ω
 clear I7 I9 N9;have H1:=zH (show w.heap.size<=W1.heap.size from by have:=H2.1.ext.size;exact this);have M5:=zH (show Nm.rl y<=L from by have h:=M6.1.rl;omega);refine Oh ω (fun k=>k=Bo\/W1.heap.size<=k) Bx v qs rR E5 (fun hk=>hk.elim I4 (fun h=>ω)) P7.1 N5 I0 (Al (Eg _) (Hr I0)) (fun k h=> .inr h) (aCZ L X3 Bo ry y w W1) (vQ L X3 Bo ry y w W1 H1.1) ⟨none,0,0,[],H2.1,Ac.refl _,by simp[Value.ownBlock],by simp,rfl,rfl,Cp _,Cp _⟩ (aDA u X3 Bo Bx ry W1) (vR u X3 Bo Bx ry W1) ?assign ?body ?done;case assign=>
  intro l pre x W K hi hK;obtain⟨A,n,c,es,hh,hd,A5,B3,B8,B4,C1,D4⟩:=hi;have B5:=zH D4;clear D4;have H0:=zH hh;have HK:=zH hK;have HF:=zH (And.intro A5 (And.intro B8 (And.intro B4 C1)));have B0:=zH B3;have HD:=zH hd;clear hh hK A5 B3 B8 B4 C1 hd;unfold Ip;simp only[zA,zB,zC];refine wpIn_seq ?_;refine Ab kR (fun⟨_,_,h⟩=>h) ?_;apply aA 52 [iV 0,iV 0] H0.1;intro J0 N1 Q8 hx A9;have M3:=zH (show W.heap.size<=J0 from Al (Fr.of_ext (G:=fun kz=>False) (Aa.refl W)).size A9);have R2:=zH (Ac.of_ext hx);have P4:=zH (show Fr (fun kz=>False) W N1 from(Fr.of_ext (G:=fun kz=>False) (Aa.refl W)).trans (Fr.of_ext hx));clear hx A9;apply aS 3 [iV x.1.1.1,iV x.1.1.2] Q8.1;intro S3 Q7 hd ho;have R1:=zH (hd);have M4:=zH (P4.1.trans_new ho (fun j hj=> .inr (by injection hj with hj;rw[<-hj];exact M3.1)));clear hd ho;refine Ab kR (fun⟨_,_,h⟩=>h) ?_;apply aA 52 [iV 0,iV 0] Q7.1;intro O3 S2 Q6 hx A9;have M2:=zH (Al M4.1.size A9);have R0:=zH (Ac.of_ext hx);have P3:=zH (M4.1.trans (Fr.of_ext hx));clear hx A9;apply aS 4 [iV x.1.2.1,iV x.1.2.2] Q6.1;intro S1 H3 hd ho;have Q9:=zH (hd);have J4:=zH (P3.1.trans_new ho (fun j hj=> .inr (by injection hj with hj;rw[<-hj];exact M2.1)));clear hd ho;have G3:=tD (tD (tD R2 R1) R0) Q9;refine HK.1 _ _ (KeepsFrom.of_fr J4.1 (fun _ h=>h.elim)) (J4.1.imp (fun _ h=>h.elim)) ⟨A,n,c,es,H3.1.take 3,HD.1.trans G3.1,HF.1.1,fun e he=>(B0.1 e he).dig G3.1,HF.1.2.1,HF.1.2.2.1,HF.1.2.2.2,Al B5.1 J4.1.size⟩ ⟨J0,O3,H3.1.blk (i:=3) rR,H3.1.blk (i:=4) rR,?_,Al B5.1 M3.1,Al B5.1 M2.1,rfl⟩;exact fun e=>H3.1.apart 3 4 _ _ (by rfl) (by rfl) (by decide) J0 (by rfl) (by rw[e];rfl)
 case body=>
  intro l pre x a' W hi O0 N7;obtain⟨A,n,c,es,hh,hd,A5,B3,B8,B4,C1,D4⟩:=hi;have B5:=zH D4;clear D4;obtain⟨Xa,Xb,I6,I5,L4,L6,L5,rfl⟩:=O0;obtain⟨⟨⟨ax,ay⟩,⟨bx,bY⟩⟩,C0⟩:=x;dsimp only at I6 I5⊢
  have A2:=zH C0;have HD:=zH hd;have A7:=zH A5;have B0:=zH B3;have F5:=zH B8;have D6:=zH B4;have E3:n<4096:=ω
  have K0:=zH C1;have H0:=zH (show Hp w W [.blk X3 26 (rc ry),.blk Bo 166 [.slice A n c],ro 169 5 A n c Gx.cells es,.blk Xa 52 [iV ax,iV ay],.blk Xb 52 [iV bx,iV bY]]from hh.addTyp2 I6 I5 L4 (Al H1.1 L6) (Al H1.1 L5) (by simp[Av]) (by simp[Av]) (by simp[Et.typ]));have G9:=zH (M6.1.dig hd);have E2: -1048576<=ay/\ay<=1048576/\ -1048576<=bY/\bY<=1048576:=by have h1:=C0.1;have h2:=C0.2;simp only[De,iZZ,decide_eq_true_eq]at h1 h2;omega
  have A3:=zH E2;clear hh hd A5 B3 B8 B4 I6 I5 L4 E2 C1 L6 L5;refine wpIn_block ?_;refine wpIn_seq ?_;refine Eh (S:=fun x=>Aa W x) kR kR (fun⟨_,_,h⟩=>h) zb (fun _=> ?_);have Q5:=zH (H0.1.step (Aa.refl W).drew);have B2:=zH (Ac.of_ext (w:=W) zb);have P2:=zH (show Fr (fun kz=>kz=Bo\/Value.ownBlock (.slice A n c)=some kz) W W.drew from(Fr.of_ext (G:=fun kz=>kz=Bo\/Value.ownBlock (.slice A n c)=some kz) (Aa.refl W)).trans (Fr.of_ext (Aa.refl W).drew));refine Os Ah zb (bs 12 1) 0 _ ?_;refine Dv (g:=Xa) (o:=1) (v:= iV ay) (i:=1) (listed':=(bs 12 3)) rR kR kR kR (by intro _ _ _ h;exact h) rR (fun x hx=>Aa.get hx (show World.cell? W ⟨Xa,1,none⟩=some (iV ay)from Ai (H0.1.range (i:=3) rR 1 1))) (by intro x hq;go_simp<;>with_reducible rfl) zb kR ?_;refine Sh H0.1 zb (bs 12 43) 3 5 _ _ ?_;refine Dv (g:=Xb) (o:=1) (v:= iV bY) (i:=6) (listed':=(bs 12 107)) rR kR kR kR (by intro _ _ _ h;exact h) rR (fun x hx=>Aa.get hx (show World.cell? W ⟨Xb,1,none⟩=some (iV bY)from Ai (H0.1.range (i:=4) rR 1 1))) (by intro x hq;go_simp<;>with_reducible rfl) zb kR ?_;refine Os H0.1 zb (bs 12 363) 8 _ ?_;refine mC 2 (bs 12 367) (Cy ay _ (by have A4:=A3.1;omega) (by have A4:=A3.1;omega)) ?_;rintro e N0 ⟨c_,rfl,C2,hx⟩;have Q4:=zH (Q5.1.step hx);have B1:=zH (show Ac W.drew N0 from Ac.of_ext hx);have P1:=zH (P2.1.trans (Fr.of_ext hx));have M1:=zH (zb.trans hx);obtain⟨S5,rfl,A8⟩:=C2;have O8:=zH A8;have R6:=zH (Ay ay (by have A4:=A3.1;omega) (by have A4:=A3.1;omega));clear A8 hx;apply zm M1.1;have L0:=tD B2 B1;refine mC 4 (bs 12 383) (Fx (L:=60000) (RV.Is.nin O8.1 (Al R6.1 ω)) (RV.In.nin (RV.In.mono (G9.1.dig L0.1) ω)) ω) ?_;rintro e S0 ⟨rfl,hx⟩;have Q3:=zH (Q4.1.step hx);have B7:=zH (Ac.of_ext hx);have P0:=zH (P1.1.trans (Fr.of_ext hx));have M0:=zH (M1.1.trans hx);clear hx;apply zm M0.1;refine mC 7 (bs 12 511) (Cy bY _ (by have A4:=A3.1;omega) (by have A4:=A3.1;omega)) ?_;rintro e R9 ⟨c_,rfl,C2,hx⟩;have Q2:=zH (Q3.1.step hx);have B6:=zH (Ac.of_ext hx);have O9:=zH (P0.1.trans (Fr.of_ext hx));have L9:=zH (M0.1.trans hx);obtain⟨S4,rfl,A8⟩:=C2;have O7:=zH A8;have R5:=zH (Ay bY (by have A4:=A3.1;omega) (by have A4:=A3.1;omega));clear A8 hx;apply zm L9.1;have K9:=tD (tD (tD B2 B1) B7) B6;refine mC 9 (bs 12 1023) (Fx (L:=60000) (RV.Is.nin O7.1 (Al R5.1 ω)) (RV.In.nin (RV.In.mono (G9.1.dig K9.1) ω)) ω) ?_;rintro e R8 ⟨rfl,hx⟩;have F8:=zH (Q2.1.step hx);have B9:=zH (Ac.of_ext hx);have F0:=zH (O9.1.trans (Fr.of_ext hx));have L8:=zH (L9.1.trans hx);clear hx;apply zm L8.1;refine Sh Ah L8.1 (bs 12 4095) 10 11 (iV (Di (((ay):Int):Rat) y)) (iV (Di (((bY):Int):Rat) y)) ?_;refine wpAnyH_done kR ?_ _;rcases Cl ((((ay):Int):Rat)<y/\y<(((bY):Int):Rat))with CU|CU
  ·have F7:=zH (tA (a:=(ax,ay)) (b:=(bx,bY)) CU.1)
   have A6:=zH (iU (a:=ay) (b:=bY) (.inl CU.1));have E0:Di (((ay):Int):Rat) y= -1:=Sy CU.1.1;have D9:Di (((bY):Int):Rat) y=1:=Sx CU.1.2;rw[E0,D9];clear E0 D9;change Code.wpIn _ _ _ _ _ _ _;refine wpIn_seq ?_;refine wpIn_seq ?_;refine Ab kR (fun⟨_,_,h⟩=>h) ?_;refine Cc Ah (iV (-1)) _ ?_;apply zp (iV (-1)) (by exact aG (by have A4:=A3.1;omega));apply zp φ (by exact Lj (e:=(Af (by have A4:=A3.1;omega))));change Code.wpIn _ _ _ _ _ _ _;refine wpIn_cond_false rR ?_;refine wpIn_skip ?_;change Code.wpIn _ _ _ _ _ _ _;refine wpIn_seq ?_;refine Ab kR (fun⟨_,_,h⟩=>h) ?_;refine Da F8.1 _ _ _ ?_;have K8:=tD (tD (tD (tD B2 B1) B7) B6) B9;refine zc (St L ax ay bx bY _ y _ (RV.In.nin (G9.1.dig K8.1)) h1L ω A2.1.1 A2.1.2 A6.1.1 A6.1.2.1 A6.1.2.2) ?_;rintro e R7 ⟨c_,rfl,C2,hx⟩;have Q1:=zH (F8.1.step hx);have M9:=zH (Ac.of_ext hx);have F4:=zH (F0.1.trans (Fr.of_ext hx));obtain⟨A1,rfl,A8⟩:=C2;have O6:=zH A8;have R3:=zH (Jb A2.1.1 A2.1.2 M5.1);clear A8 hx;refine zn ?_;refine Da Ah _ _ τ ?_;refine aA 26 rz Q1.1 ?_;intro O5 N4 K7 hx A9;have J3:=zH (Al F4.1.size A9);have D3:=zH (Ac.of_ext hx);have J8:=zH (F4.1.trans (Fr.of_ext hx));clear hx A9;apply aS 5 (rc A1) K7.1;intro D8 G0 hd ho;have D2:=zH (hd);have F3:=zH (J8.1.trans_new ho (fun j hj=> .inr (by injection hj with hj;rw[<-hj];exact J3.1)));clear hd ho;apply zq τ;change Code.wpIn _ _ _ _ _ _ _;refine wpIn_seq ?_;refine Ab kR (fun⟨_,_,h⟩=>h) ?_;apply zq τ;change Code.wpIn _ _ _ _ _ _ _;refine wpIn_cond_true rR ?_;have F6:=zH E3;refine Ab kR (fun⟨_,_,h⟩=>h) ?_;refine Ef G0.1 _ _ _ _ ?_;refine zp (w':=(D8.alloc (.cells ([.bool A1.n,.slice A1.p A1.l A1.c,.bool A1.m,.slice A1.p2 A1.l2 A1.c2,iV 1]:List Value).toArray 169))) (.slice (π D8.heap.size) 1 1) (by go_simp) ?_;refine Ki rR _ _ _ rR sP rR G0.1 (ix:=2) rR 1 1 [.bool A1.n,.slice A1.p A1.l A1.c,.bool A1.m,.slice A1.p2 A1.l2 A1.c2,iV 1] rR rfl (by simp[Value.oneCell']) (by simp[Av]) dC (by unfold maxLen;exact(by have A4:=A3.1;have H8:=F6.1;omega)) (by have A4:=A3.1;have H8:=F6.1;omega) ?_;intro E7 E9 H7 hf hh hd hg;have G2:=zH hf;clear hf;rw[show List.flatMap Gx.cells es++[.bool A1.n,.slice A1.p A1.l A1.c,.bool A1.m,.slice A1.p2 A1.l2 A1.c2,iV 1]=_ from Ee Gx.cells _ (⟨A1,(Cz ax ay bx bY y),1⟩:Gx)]at hh;have K6:=hN hh;have D1:=zH (hd);have J7:=zH (show Fr (fun kz=>kz=Bo\/Value.ownBlock (.slice A n c)=some kz) W H7 from(F3.1.trans (Fr.of_ext (At.alloc _))).trans_new hg (fun j hj=> .inl (.inr hj)));clear hh hd hg;try simp only[ζ]
   apply aU 1 (.slice (π E7) (n+1) E9) K6.1;intro H6 K5 hd ho;have D0:=zH (hd);have C4:=zH (J7.1.trans_new ho (fun j hj=> .inl (.inl (by injection hj with hj;exact hj.symm))));clear hd ho;have G6:=tD (tD (tD D3 D2) D1) D0;have C5:=zH (show Gx.Ok (L+8) H6 (⟨A1,(Cz ax ay bx bY y),1⟩:Gx)from⟨(O6.1.dig G6.1),R3.1,(show(-1:Int)<=1 by decide),(show(1:Int)<=1 by decide)⟩);exact⟨(KeepsFrom.of_fr C4.1 (fun k hk o ho=>hk.elim (fun e=>H0.1.cells (i:=1) (by rfl) (by rw[e];rfl) o ho) (fun e=>H0.1.cells (i:=2) (by rfl) (by exact e) o ho))),(C4.1.imp (fun k hk=>hk.imp id (fun e=>A7.1 k e))),_,_,_,_,K5.1.take 3,HD.1.trans (((((((((B2.1.trans B1.1).trans B7.1).trans B6.1).trans B9.1).trans M9.1).trans D3.1).trans D2.1).trans D1.1).trans D0.1),(fun k hk=>by (have I1:E7=k:=by simpa[Value.ownBlock]using hk);(subst I1);exact G2.1.elim (fun q=>A7.1 _ q) (fun q=>Al B5.1 (Al F3.1.size q))),(fun e he=>(List.mem_append.1 he).elim (fun he=>(B0.1 e he).dig (((((((((B2.1.trans B1.1).trans B7.1).trans B6.1).trans B9.1).trans M9.1).trans D3.1).trans D2.1).trans D1.1).trans D0.1)) (fun he=>by rw[List.mem_singleton.1 he];exact C5.1)),(by rw[hXX,F5.1,hXX,List.filterMap_append];simp[F7.1,Gx.vl]),(by rw[aXX,<-D6.1];rfl),(by have h:=K0.1;simp;omega),Al B5.1 C4.1.size⟩
  rcases Cl ((((bY):Int):Rat)<y/\y<(((ay):Int):Rat))with CD|CD
  ·have F7:=zH (iN (a:=(ax,ay)) (b:=(bx,bY)) CD.1)
   have A6:=zH (iU (a:=ay) (b:=bY) (.inr CD.1));have E0:Di (((ay):Int):Rat) y=1:=Sx CD.1.2;have D9:Di (((bY):Int):Rat) y= -1:=Sy CD.1.1;rw[E0,D9];clear E0 D9;change Code.wpIn _ _ _ _ _ _ _;refine wpIn_seq ?_;refine wpIn_seq ?_;refine Ab kR (fun⟨_,_,h⟩=>h) ?_;refine Cc Ah _ (iV (-1)) ?_;apply zp (iV (-1)) (by exact aG (by have A4:=A3.1;omega));apply zp φ (by exact Lj (e:=(Af (by have A4:=A3.1;omega))));change Code.wpIn _ _ _ _ _ _ _;refine wpIn_cond_false rR ?_;refine wpIn_skip ?_;change Code.wpIn _ _ _ _ _ _ _;refine wpIn_seq ?_;refine Ab kR (fun⟨_,_,h⟩=>h) ?_;refine Da F8.1 _ _ _ ?_;have G5:=tD (tD (tD (tD B2 B1) B7) B6) B9;refine zc (St L ax ay bx bY _ y _ (RV.In.nin (G9.1.dig G5.1)) h1L ω A2.1.1 A2.1.2 A6.1.1 A6.1.2.1 A6.1.2.2) ?_;rintro e N3 ⟨c_,rfl,C2,hx⟩;have K4:=zH (F8.1.step hx);have G7:=zH (Ac.of_ext hx);have F2:=zH (F0.1.trans (Fr.of_ext hx));obtain⟨A0,rfl,A8⟩:=C2;have J1:=zH A8;have L1:=zH (Jb A2.1.1 A2.1.2 M5.1);clear A8 hx;refine zn ?_;refine Da Ah _ _ τ ?_;refine aA 26 rz K4.1 ?_;intro O4 N2 K3 hx A9;have J2:=zH (Al F2.1.size A9);have C9:=zH (Ac.of_ext hx);have J6:=zH (F2.1.trans (Fr.of_ext hx));clear hx A9;apply aS 5 (rc A0) K3.1;intro D7 F9 hd ho;have C8:=zH (hd);have F1:=zH (J6.1.trans_new ho (fun j hj=> .inr (by injection hj with hj;rw[<-hj];exact J2.1)));clear hd ho;apply zq τ;change Code.wpIn _ _ _ _ _ _ _;refine wpIn_seq ?_;refine Ab kR (fun⟨_,_,h⟩=>h) ?_;apply zq τ;change Code.wpIn _ _ _ _ _ _ _;refine wpIn_cond_true rR ?_;have F6:=zH E3;refine Ab kR (fun⟨_,_,h⟩=>h) ?_;refine Ef F9.1 _ _ (iV (-1)) _ ?_;refine zp (w':=(D7.alloc (.cells ([.bool A0.n,.slice A0.p A0.l A0.c,.bool A0.m,.slice A0.p2 A0.l2 A0.c2,iV (-1)]:List Value).toArray 169))) (.slice (π D7.heap.size) 1 1) (by go_simp) ?_;refine Ki rR _ _ _ rR sP rR F9.1 (ix:=2) rR 1 1 [.bool A0.n,.slice A0.p A0.l A0.c,.bool A0.m,.slice A0.p2 A0.l2 A0.c2,iV (-1)] rR rfl (by simp[Value.oneCell']) (by simp[Av]) dC (by unfold maxLen;exact(by have A4:=A3.1;have H8:=F6.1;omega)) (by have A4:=A3.1;have H8:=F6.1;omega) ?_;intro E6 E8 H5 hf hh hd hg;have G1:=zH hf;clear hf;rw[show List.flatMap Gx.cells es++[.bool A0.n,.slice A0.p A0.l A0.c,.bool A0.m,.slice A0.p2 A0.l2 A0.c2,iV (-1)]=_ from Ee Gx.cells _ (⟨A0,(Cz ax ay bx bY y),-1⟩:Gx)]at hh;have K2:=hN hh;have C7:=zH (hd);have J5:=zH (show Fr (fun kz=>kz=Bo\/Value.ownBlock (.slice A n c)=some kz) W H5 from(F1.1.trans (Fr.of_ext (At.alloc _))).trans_new hg (fun j hj=> .inl (.inr hj)));clear hh hd hg;try simp only[ζ]
   apply aU 1 (.slice (π E6) (n+1) E8) K2.1;intro H4 K1 hd ho;have C6:=zH (hd);have C3:=zH (J5.1.trans_new ho (fun j hj=> .inl (.inl (by injection hj with hj;exact hj.symm))));clear hd ho;have G4:=tD (tD (tD C9 C8) C7) C6;have C5:=zH (show Gx.Ok (L+8) H4 (⟨A0,(Cz ax ay bx bY y),-1⟩:Gx)from⟨(J1.1.dig G4.1),L1.1,(show(-1:Int)<= -1 by decide),(show(-1:Int)<=1 by decide)⟩);exact⟨(KeepsFrom.of_fr C3.1 (fun k hk o ho=>hk.elim (fun e=>H0.1.cells (i:=1) (by rfl) (by rw[e];rfl) o ho) (fun e=>H0.1.cells (i:=2) (by rfl) (by exact e) o ho))),(C3.1.imp (fun k hk=>hk.imp id (fun e=>A7.1 k e))),_,_,_,_,K1.1.take 3,HD.1.trans (((((((((B2.1.trans B1.1).trans B7.1).trans B6.1).trans B9.1).trans G7.1).trans C9.1).trans C8.1).trans C7.1).trans C6.1),(fun k hk=>by (have I1:E6=k:=by simpa[Value.ownBlock]using hk);(subst I1);exact G1.1.elim (fun q=>A7.1 _ q) (fun q=>Al B5.1 (Al F1.1.size q))),(fun e he=>(List.mem_append.1 he).elim (fun he=>(B0.1 e he).dig (((((((((B2.1.trans B1.1).trans B7.1).trans B6.1).trans B9.1).trans G7.1).trans C9.1).trans C8.1).trans C7.1).trans C6.1)) (fun he=>by rw[List.mem_singleton.1 he];exact C5.1)),(by rw[hXX,F5.1,hXX,List.filterMap_append];simp[F7.1,Gx.vl]),(by rw[aXX,<-D6.1];rfl),(by have h:=K0.1;simp;omega),Al B5.1 C3.1.size⟩
  have F7:=zH (tB (a:=(ax,ay)) (b:=(bx,bY)) CU.1 CD.1);have J9:=zH (iM CU.1 CD.1);change Code.wpIn _ _ _ _ _ _ _;refine wpIn_seq ?_;refine wpIn_seq ?_;refine Ab kR (fun⟨_,_,h⟩=>h) ?_;refine Cc Ah (iV (Di (((ay):Int):Rat) y)) (iV (Di (((bY):Int):Rat) y)) ?_;apply zp (iV (Di (((ay):Int):Rat) y*Di (((bY):Int):Rat) y)) (by exact sM rR rR rR rfl (by have:=J9.1.1;omega) (by have:=J9.1.2;omega));apply zp τ (by exact Lj (e:=(Ar J9.1.1)));change Code.wpIn _ _ _ _ _ _ _;refine wpIn_cond_true rR ?_;refine wpIn_exit ?_;exact⟨(KeepsFrom.of_fr F0.1 (fun k hk o ho=>hk.elim (fun e=>H0.1.cells (i:=1) (by rfl) (by rw[e];rfl) o ho) (fun e=>H0.1.cells (i:=2) (by rfl) (by exact e) o ho))),(F0.1.imp (fun k hk=>hk.imp id (fun e=>A7.1 k e))),A,n,c,es,F8.1.take 3,HD.1.trans ((((B2.1.trans B1.1).trans B7.1).trans B6.1).trans B9.1),A7.1,(fun e he=>(B0.1 e he).dig ((((B2.1.trans B1.1).trans B7.1).trans B6.1).trans B9.1)),(by rw[F5.1,hXX,List.filterMap_append];simp[F7.1]),D6.1,(by have h:=K0.1;simp;omega),Al B5.1 F0.1.size⟩
 rintro D xs W hD H9 ⟨A,n,c,es,hh,hd,A5,B3,B8,B4,C1,D4⟩ hK;have cB:W.cell? ⟨Bo,0,none⟩=some (.slice A n c):=hh.cell (i:=1) (by rfl) 0 (by rfl);have E1:=hh.row (i:=2) (by rfl);have N6:es.length<20:=by
  have h4:=P8.1;have h1:xs.length=(Cd qs).length:=by rw[<-H9,fXX]
  have h2:=Eg qs;have h3:=Hr I0;omega
 have P6:=zH (fQ (L+8) (.slice A n c) es w.heap.size W (by rw[<-B4];exact E1) B3 (fun w e f he hf=>Zw (L+8) ω w e f he hf) N6);have HH:=zH hh;have F5:=zH B8;have D6:=zH B4;have P9:=zH B3;have P5:=zH H9;have HD:=zH hK;clear E1 hh B8 B4 B3 H9 hK A5 C1 hd;gi_wp2
 refine⟨trivial,?_⟩;gi_at_call 177
 refine(callsIn_wide.2 P6.1).mono ?_;rintro e Ws ⟨rfl,L2,I3⟩;have HS:=zH (HH.1.turn (i:=2) (e:= .row 169 5 (.slice A n c) n (List.flatMap Gx.cells es)) (e':= .row 169 5 (.slice A n c) n (List.flatMap Gx.cells (Stb.stab nL es))) (by rfl) (fun k h=>h) I3 (by rw[<-D6.1]at L2;exact L2) (fun k hk=> .inl hk));have S7:Ws.cell? ⟨Bo,0,none⟩=some (.slice A n c):=HS.1.cell (i:=1) (by rfl) 0 (by rfl);gi_wp2
 have I8:Ws.heap[D]?=some (.deferred (some [])):=(I3.block D (Array.getElem?_eq_some_iff.1 HD.1).1 (fun e=>by
  have h1:=HH.1.cells (i:=2) (by rfl) (by exact e.symm) _ HD.1;cases h1)).trans HD.1
 refine⟨by simp,.inl ⟨_,_,rfl,run_takeDeferred I8,?_⟩⟩;have E4:=HS.1.kept (grownBy_putObj' Ws D (.deferred none)) (fun k hk=>by injection hk with hk;subst hk;exact⟨Al H1.1 hD,_,I8,rfl⟩);have N8:Ac W _:=((HH.1.growDig (i:=2) (by rfl) I3).trans (Ac.kept (grownBy_putObj' Ws D (.deferred none)) (fun k hk=>by injection hk with hk;subst hk;exact⟨_,I8,rfl⟩)));refine⟨_,results_tmp rfl _ _ _,A,n,c,Stb.stab nL es,rfl,by rw[Stb.stab_len];exact D6.1,E4.row (i:=2) rR,fun e he=>(P9.1 e ((Stb.mem_stab).1 he)).dig N8,?_,E4.ext⟩;rw[Q0.1,Ov Gx.vl (lt:=nL) (lt':=vT) (fun _ _=>rfl),F5.1,P5.1];rfl
end
section
attribute [local go_sem ↓] Go.wp_at_zero Go.wp_at_succ Aq An
theorem hF(y rs):(Ez y rs).length<=Gy rs:=by
  unfold Ez;rw[Stb.stab_len];unfold Vj;refine Al (List.length_filterMap_le _ _) (Al (Eg _) ?_);split
  · exact Cp _
  exact dXX _
theorem Wi{α:Type}{l:List α}{k e}(h:l[k]?=some e):l.take (k+1)=l.take k++[e]:=by rw[List.take_add_one,h];rfl
end
section
def Ul (ms:List QI)(k:Nat):Int:=((ms.take k).map fun a=>a.2).sum
theorem mK{ms k a}(h:ms[k]?=some a):Ul ms (k+1)=Ul ms k+a.2:=by
  unfold Ul;rw[Wi h,hXX,List.sum_append];simp
theorem cC:∀(ms:List QI) (s:Int) (k:Nat) (a b:QI),ms[k]?=some a->ms[k+1]?=some b->(Pc s ms)[k]?=some ((a.1,b.1),s+Ul ms (k+1))
 | [],s,k,a,b,h,_=>by simp at h
 | [x],s,0,a,b,_,h=>by simp at h
 | [x],s,k+1,a,b,h,_=>by simp at h
 |x::y::t,s,0,a,b,h1,h2=>by
  simp at h1 h2;subst h1 h2;simp[Pc,Ul]
 |x::y::t,s,k+1,a,b,h1,h2=>by
  have ih:=cC (y::t) (s+x.2) k a b (by simpa using h1) (by simpa using h2);show(Pc (s+x.2) (y::t))[k]?=_;rw[ih];have e:Ul (x::y::t) (k+1+1)=x.2+Ul (y::t) (k+1):=by unfold Ul;rw[List.take_succ_cons];simp
  rw[e];congr 2;omega
theorem Mc:∀(ms:List QI) (s:Int),(Pc s ms).length=ms.length-1
  | [],s=>rfl
  | [x],s=>rfl
  | x::y::t,s=>by
    have:=Mc (y::t) (s+x.2);simp[Pc,this]
theorem bZ{rule}{l:List (QQ×Int)}{k r}(h:l[k]?=some r):lJ rule (l.take (k+1))=lJ rule (l.take k)++(if Ml r.2 rule=true then[r.1]else[]):=by rw[Wi h,uQ,uO]
theorem uP(rule l):(lJ rule l).length<=l.length:=by
  unfold lJ;rw[fXX];exact List.length_filter_le _ _
theorem Eb.Ok.dig{L w w'}{e:Eb}(h:e.Ok L w)(d:Ac w w'):e.Ok L w':=⟨h.1.dig d,h.2.1.dig d,h.2.2⟩
theorem Bg.base{w b b' t size v n xs}(h:Bg w b t size v n xs)(hb:b'<=b):Bg w b' t size v n xs:=by
  obtain⟨h1,h2|⟨g,A0,rest,a,c,d⟩⟩:=h
  · exact⟨h1,.inl h2⟩
  exact⟨h1,.inr ⟨g,A0,rest,a,Al hb c,d⟩⟩
theorem Lz.base{L w b b' v es}(h:Lz L w b v es)(hb:b'<=b):Lz L w b' v es:=⟨h.1.base hb,h.2⟩
end
section
theorem Sv{a b rs z}(h:z∈Ek a b rs):(a.2:Rat)<=z/\z<=(b.2:Rat):=by
  unfold Ek at h;split at h
  · rename_i k
    have A0:(a.2:Rat)<(b.2:Rat):=by exact_mod_cast k.2.2.2
    rcases Kp.1 h with e|⟨_,e1,e2⟩
    · simp at e
      rcases e with rfl|rfl
      · exact⟨Rat.le_refl,Rat.le_of_lt A0⟩
      exact⟨Rat.le_of_lt A0,Rat.le_refl⟩
    exact⟨Rat.le_of_lt e1,Rat.le_of_lt e2⟩
  simp at h
theorem Uh(a b rs):(Ek a b rs).Pairwise (· < ·):=by
  unfold Ek;split
  · rename_i k
    have A0:(a.2:Rat)<(b.2:Rat):=by exact_mod_cast k.2.2.2
    exact Uo (by simp[A0])
  simp
theorem uU{a b rs z}(k:So a b rs)(h:z∈Nw a b rs)(h1:(a.2:Rat)<z)(h2:z<(b.2:Rat)):z∈Ek a b rs:=by
  unfold Ek;rw[if_pos k];exact Kp.2 (.inr ⟨h,h1,h2⟩)
theorem nM{a b rs y p q i}(k:So a b rs)(hy:y∈Nw a b rs)(hp:(Ek a b rs)[i]?=some p)(hq:(Ek a b rs)[i+1]?=some q):¬(p<y/\y<q):=by
 rintro⟨h1,h2⟩;have bp:=Sv (bZZ hp);have bq:=Sv (bZZ hq);have hm:=uU k hy (by grind) (by grind);obtain⟨j,hj⟩:=List.mem_iff_getElem?.1 hm;have hs:=List.pairwise_iff_getElem.1 (Uh a b rs);obtain⟨li,ei⟩:=List.getElem?_eq_some_iff.1 hp;obtain⟨lq,eq⟩:=List.getElem?_eq_some_iff.1 hq;obtain⟨lj,ej⟩:=List.getElem?_eq_some_iff.1 hj;rcases Nat.lt_trichotomy j i with h|h|h
 ·have:=hs j i lj li h;rw[ej,ei]at this;grind
 ·subst h;rw[ej]at ei;rw[ei]at h1;exact absurd h1 (Rat.lt_irrefl)
 rcases Nat.lt_trichotomy j (i+1)with h'|h'|h'
 ·omega
 ·subst h';rw[ej]at eq;rw[eq]at h2;exact absurd h2 (Rat.lt_irrefl)
 have:=hs (i+1) j lq lj h';rw[ej,eq]at this;grind
end
section
theorem Oc(y rs):Ez y rs=Stb.stab vT ((Bj rs).filterMap (Kl y)):=rfl
def aCE (e:He)(y:Rat):Rat:=Cz e.1.1 e.1.2 e.2.1 e.2.2 y
theorem wV(e y):aCE e y=yF e.1 e.2*y+((e.1.1:Rat)-(e.1.2:Rat)*yF e.1 e.2):=oY e.1 e.2 y
theorem Rk{rs e}(h:e∈Cd rs):∃r,r∈rs/\e.1∈r/\e.2∈r:=by
  unfold Cd at h;obtain⟨r,hr,h⟩:=List.mem_flatMap.1 h;unfold El at h;obtain⟨i,_,h⟩:=List.mem_filterMap.1 h;unfold Mq at h;split at h
  · rename_i a b ha hb
    split at h
    · cases h
    injection h with h;subst h;exact⟨r,hr,bZZ ha,bZZ hb⟩
  cases h
section
variable {a b:Int×Int} {rs:List Dr} {p q:Rat} {i:Nat}
theorem gap(k:So a b rs)(hp:(Ek a b rs)[i]?=some p)(hq:(Ek a b rs)[i+1]?=some q){r}(h1:p<r)(h2:r<q):r∉Nw a b rs:=fun h=>nM k h hp hq ⟨h1,h2⟩
def Ke (rule:Int)(a b:Int×Int)(rs:List Dr)(y:Rat):Rat:=Hg (a.1:Rat) (b.1:Rat) (Ma rule (Ez y rs))
end
end
section
def Iu (rule:Int)(a b:Int×Int)(rs:List Dr):Rat:=if b.1<=a.1\/b.2<=a.2 then 0 else Dc (Ke rule a b rs) (Ek a b rs)
theorem cJ{a b rs}(k:So a b rs):aDI (a.2:Rat) (b.2:Rat) (Ek a b rs):=by
  refine⟨Uh a b rs,fun z hz=>Sv hz,?_,?_⟩
  · unfold Ek;rw[if_pos k];exact Kp.2 (.inl (by simp))
  unfold Ek;rw[if_pos k];exact Kp.2 (.inl (by simp))
theorem Rm {W:Rat->Rat}(h:∀y,W y=0):∀l:List Rat,Dc W l=0
  | x::y::l=>by
    show W _*_+Dc W (y::l)=0;rw[h,Rm h (y::l)];grind
  | [x]=>rfl
  | []=>rfl
theorem tP{rule a b rs}(h:a.2<b.2)(_:a.1<=b.1):Iu rule a b rs=Dc (Ke rule a b rs) (Ek a b rs):=by
  unfold Iu;by_cases c:b.1<=a.1
  · rw[if_pos (.inl c)]
    exact(Rm (W:=Ke rule a b rs) (fun y=>nP (by exact_mod_cast c) _) _).symm
  rw[if_neg ω]
theorem fO{l}{c:Rat}(hs:l.Pairwise (· < ·))(hb:∀z,z∈l->z<=c)(hc:c∈l):∃m,l=m++[c]:=by
  have A0:l≠ []:=fun e=>by rw[e]at hc;cases hc
  obtain⟨m,z,rfl⟩:∃m z,l=m++[z]:=⟨l.dropLast,l.getLast A0,(List.dropLast_concat_getLast A0).symm⟩;have h1:=List.pairwise_append.1 hs;rcases List.mem_append.1 hc with h|h
  · have h2:=h1.2.2 c h z (by simp)
    have h3:=hb z (by simp);grind
  have:c=z:=by simpa using h
  exact⟨m,by rw[this]⟩
theorem bP{l}{c:Rat}(hs:l.Pairwise (· < ·))(hb:∀z,z∈l->c<=z)(hc:c∈l):∃m,l=c::m:=by
  cases l with
  |nil=>cases hc
  | cons z m=>
    rcases List.mem_cons.1 hc with h|h
    · exact⟨m,by rw[h]⟩
    have h2:=(List.pairwise_cons.1 hs).1 c h;have h3:=hb z (by simp);grind
theorem iY{rule a b rs}(h:a.1<=b.1)(y):Ke rule a b rs y<=(b.1:Rat)-(a.1:Rat):=Zx _ (Lg _).1 (by exact_mod_cast h)
theorem iX{rule a b rs}(y):0<=Ke rule a b rs y:=vV _ _ _
theorem lV{a b rs}(k:So a b rs):∃x l,Ek a b rs=x::l/\x=(a.2:Rat)/\(x::l).getLast?=some (b.2:Rat):=by
  have h:=cJ k;obtain⟨m,hm⟩:=bP h.srt (fun z hz=>(h.bd z hz).1) h.lo;obtain⟨n,hn⟩:=fO h.srt (fun z hz=>(h.bd z hz).2) h.hi;refine⟨_,m,hm,rfl,?_⟩;rw[<-hm,hn];simp
theorem kQ {W:Rat->Rat}{c:Rat}:∀{l:List Rat},l.Pairwise (· < ·)->(∀y,(∀z,l.head?=some z->z<y)->(∀z,l.getLast?=some z->y<z)->W y=c)->Dc W l=Dc (fun _=>c) l
 | [],_,_=>rfl
 | [_],_,_=>rfl
 |x::y::l,hs,h=>by
  obtain⟨h1,h2⟩:=List.pairwise_cons.1 hs;have A0:=h1 y (by simp);have hl:∀z,(x::y::l).getLast?=some z->y<=z:=fun z hz=>by
   rw[List.getLast?_cons_cons]at hz;have hm:=List.mem_of_getLast? hz;rcases List.mem_cons.1 hm with e|e
   ·rw[e];exact Rat.le_refl
   exact Rat.le_of_lt ((List.pairwise_cons.1 h2).1 z e)
  have ih:=kQ (W:=W) (c:=c) h2 (fun w a1 a2=>h w (fun z hz=>by
   have:x=z:=by simpa using hz
   subst this;have:=a1 y rfl;grind) (fun z hz=>a2 z (by rwa[List.getLast?_cons_cons]at hz)))
  have m:=yV A0;have hm:=h ((x+y)/2) (fun z hz=>by
   have:x=z:=by simpa using hz
   subst this;exact m.1) (fun z hz=>by have:=hl z hz;grind)
  show W _*_+Dc W (y::l)=c*_+Dc (fun _=>c) (y::l);rw[ih,hm]
theorem Pn{rs r p}(h:Gf rs=true)(hr:r∈rs)(hp:p∈r):Dy p:=by
  obtain⟨i,hi⟩:=List.mem_iff_getElem?.1 hr;obtain⟨k,hk⟩:=List.mem_iff_getElem?.1 hp;exact jJ h hi hk
def Kd (D:Nat)(q:Rat):Prop:=∃z:Int,q*((D:Int):Rat)=(z:Rat)
theorem Kd.add{D q r}(h:Kd D q)(k:Kd D r):Kd D (q+r):=by
  obtain⟨a,ha⟩:=h;obtain⟨b,hb⟩:=k;exact⟨a+b,by rw[Rat.intCast_add,<-ha,<-hb];grind⟩
theorem Kd.sub{D q r}(h:Kd D q)(k:Kd D r):Kd D (q-r):=by
  obtain⟨a,ha⟩:=h;obtain⟨b,hb⟩:=k;exact⟨a-b,by rw[Rat.intCast_sub,<-ha,<-hb];grind⟩
theorem Kd.mul{D E q r}(h:Kd D q)(k:Kd E r):Kd (D*E) (q*r):=by
  obtain⟨a,ha⟩:=h;obtain⟨b,hb⟩:=k;exact⟨a*b,by rw[fZZ,Rat.intCast_mul,Rat.intCast_mul,<-ha,<-hb];grind⟩
theorem Kd.int(D)(z:Int):Kd D (z:Rat):=⟨z*D,by rw[Rat.intCast_mul]⟩
theorem Kd.up{D E q}(h:Kd D q)(k:D∣E):Kd E q:=by
  obtain⟨m,rfl⟩:=k;obtain⟨a,ha⟩:=h;exact⟨a*m,by rw[fZZ,Rat.intCast_mul,Rat.intCast_mul,<-ha];grind⟩
theorem Kd.den(q):Kd q.den q:=⟨q.num,by
  have e:q=(q.num:Rat)/(((q.den:Nat):Int):Rat):=by rw[<-Rat.divInt_eq_div];exact(Rat.num_divInt_den q).symm
  have h:(((q.den:Nat):Int):Rat)≠0:=by exact_mod_cast q.den_nz
  have k:=Rat.inv_mul_cancel _ h;rw[Rat.div_def]at e;generalize (((q.den:Nat):Int):Rat)=u at*;generalize (q.num:Rat)=v at*;rw[e];grind⟩
theorem Kd.half{D q r}(h:Kd D q)(k:Kd D r):Kd (2*D) ((q+r)/2):=by
  obtain⟨a,ha⟩:=h;obtain⟨b,hb⟩:=k;refine⟨a+b,?_⟩;rw[fZZ,Rat.intCast_mul,Rat.intCast_add,<-ha,<-hb,Rat.div_def];have e:(2:Rat)⁻¹*(((2:Nat):Int):Rat)=1:=by decide+kernel
  generalize (2:Rat)⁻¹=i at*;generalize (((2:Nat):Int):Rat)=u at*;grind
theorem Kd.rl{D M:Nat}{q}(hD:0<D)(h:Kd D q)(h1: -((M:Int):Rat)<=q)(h2:q<=((M:Int):Rat)):Nm.rl q<=max (Nm.nl (M*D)) (max (Nm.nl D) 1):=by
 obtain⟨a,ha⟩:=h;have hd:(0:Rat)<((D:Int):Rat):=by exact_mod_cast hD
 have e:q=Rat.divInt a D:=by
  rw[Rat.divInt_eq_div,<-ha,Rat.div_def,Rat.mul_assoc,Rat.mul_inv_cancel _ (by grind),Rat.mul_one]
 rw[e];refine Al (Nm.rl_divInt _ _) ?_;have k:a.natAbs<=M*D:=by
  have k1:(a:Rat)<=(((M*D:Nat):Int):Rat):=by
   rw[<-ha,fZZ,Rat.intCast_mul];exact Rat.mul_le_mul_of_nonneg_right h2 (by grind)
  have k2:(((-(M*D:Nat):Int)):Rat)<=(a:Rat):=by
   rw[<-ha,fZZ,Rat.intCast_neg,Rat.intCast_mul];have:=Rat.mul_le_mul_of_nonneg_right h1 (c:=((D:Int):Rat)) (by grind);grind
  have k3:a<=((M*D:Nat):Int):=by exact_mod_cast k1
  have k4: -((M*D:Nat):Int)<=a:=by exact_mod_cast k2
  omega
 have:=Nm.nl_mono k;have:Nm.nl (D:Int).natAbs=Nm.nl D:=by rw[lQQ]
 omega
def dn:List Rat->Nat
  | []=>1
  |x::l=>x.den*dn l
theorem iJ:∀l:List Rat,0<dn l
  | []=>Nat.one_pos
  |x::l=>Nat.mul_pos x.den_pos (iJ l)
theorem xW {q:Rat}:∀{l:List Rat},q∈l->Kd (dn l) q
  | x::l,h=>by
    rcases List.mem_cons.1 h with e|e
    · subst e;exact(Kd.den q).up ⟨dn l,rfl⟩
    exact(xW e).up ⟨x.den,lXX _ _⟩
theorem xV {c:Nat}:∀{l:List Rat},(∀x,x∈l->Nm.rl x<=c)->Nm.nl (dn l)<=c*l.length+1
  | [],_=>Al (Nm.nl_le (k:=1) (by decide)) (by simp)
  | x::l,h=>by
    have h1:=Nm.nl_mul x.den (dn l);have h2:=xV (l:=l) fun z hz=>h z (cZZ _ hz)
    have h3:Nm.nl x.den<=c:=Al (Nat.le_max_right _ _) (h x eXX);show Nm.nl (x.den*dn l)<=_;rw[hQQ,gZZ];omega
def oG (e:He):Nat:=if e.2.2-e.1.2=0 then 1 else(e.2.2-e.1.2).natAbs
def Ym:List He->Nat
  | []=>1
  |e::l=>oG e*Ym l
theorem wW(e):0<oG e:=by unfold oG;split<;>omega
theorem aK:∀l:List He,0<Ym l
  | []=>Nat.one_pos
  |e::l=>Nat.mul_pos (wW e) (aK l)
theorem kL {e:He}:∀{l:List He},e∈l->oG e∣Ym l
  | x::l,h=>by
    rcases List.mem_cons.1 h with e|e
    · subst e;exact⟨Ym l,rfl⟩
    obtain⟨m,hm⟩:=kL e;exact⟨oG x*m,by show oG x*Ym l=_;rw[hm,Nat.mul_left_comm]⟩
theorem iH:∀{l:List He},(∀e,e∈l->Dy e.1/\Dy e.2)->Nm.nl (Ym l)<=l.length+1
  | [],_=>Nm.nl_le (by decide)
  | e::l,h=>by
    have h1:=Nm.nl_mul (oG e) (Ym l);have h2:=iH (l:=l) fun z hz=>h z (cZZ _ hz)
    have h3:Nm.nl (oG e)<=1:=by
      obtain⟨a,b⟩:=h e eXX;have a2:=Bi a;have b2:=Bi b;refine Nm.nl_le ?_;unfold oG;split<;>omega
    show Nm.nl (oG e*Ym l)<=_;rw[hQQ];omega
theorem pG(e):Kd (oG e) (yF e.1 e.2):=by
 unfold yF oG;split
 ·rename_i h;rw[h];exact⟨0,by rw[show((1:Int):Rat)/((0:Int):Rat)=0 from by decide+kernel];grind⟩
 rename_i h;have hz:(((e.2.2-e.1.2:Int)):Rat)≠0:=by exact_mod_cast h
 rcases Int.natAbs_eq (e.2.2-e.1.2)with k|k
 ·refine⟨e.2.1-e.1.1,?_⟩
  rw[<-k,Rat.div_def];have:=Rat.inv_mul_cancel _ hz;generalize (((e.2.2-e.1.2:Int)):Rat)=u at*
  grind
 refine⟨-(e.2.1-e.1.1),?_⟩;rw[show(((e.2.2-e.1.2).natAbs:Int))= -(e.2.2-e.1.2)from ω,Rat.div_def,Rat.intCast_neg,Rat.intCast_neg];have:=Rat.inv_mul_cancel _ hz;generalize (((e.2.2-e.1.2:Int)):Rat)=u at*
 grind
theorem zX{e F y}(h:Kd F y):Kd (oG e*F) (aCE e y):=by
  rw[wV];refine((pG e).mul h).add (Kd.sub (Kd.int _ _) ?_);have:=(Kd.int 1 e.1.2).mul (pG e);exact this.up ⟨F,by rw[Nat.one_mul]⟩
theorem nK{y rs m}(h:m∈Ez y rs):∃e,e∈Bj rs/\m.1=aCE e y:=by
  rw[Oc,Stb.mem_stab]at h;obtain⟨e,he,h⟩:=List.mem_filterMap.1 h;refine⟨e,he,?_⟩;unfold Kl at h;split at h
  · injection h with h;rw[<-h];rfl
  split at h
  · injection h with h;rw[<-h];rfl
  cases h
theorem cA {P:Rat->Prop}:∀{ms:List QI} {s:Int},(∀m,m∈ms->P m.1)->∀r,r∈Pc s ms->P r.1.1/\P r.1.2
  | [],_,_,_,h=>by simp[Pc]at h
  | [_],_,_,_,h=>by simp[Pc]at h
  | a::b::t,s,hp,r,h=>by
    rcases List.mem_cons.1 (show r∈((a.1,b.1),s+a.2)::Pc (s+a.2) (b::t)from h)with e|e
    · subst e;exact⟨hp a eXX,hp b (cZZ _ eXX)⟩
    exact cA (fun m hm=>hp m (cZZ _ hm)) r e
theorem Kn{P:Rat->Prop}{rule ms}(h:∀m,m∈ms->P m.1):∀p,p∈Ma rule ms->P p.1/\P p.2:=by
  refine dR fun p hp=> ?_
  unfold lJ at hp;obtain⟨r,hr,rfl⟩:=List.mem_map.1 hp;exact cA h r (List.mem_filter.1 hr).1
theorem vX{D f t p}(hf:Kd D f)(ht:Kd D t)(h1:Kd D p.1)(h2:Kd D p.2):Kd D (It f t p):=by
  unfold It;have k1:Kd D (if p.1<f then f else p.1):=by split<;>assumption
  have k2:Kd D (if t<p.2 then t else p.2):=by split<;>assumption
  generalize (if p.1<f then f else p.1)=u at*;generalize (if t<p.2 then t else p.2)=v at*;split
  · exact k2.sub k1
  exact Kd.int D 0
theorem jT {D:Nat}{f t:Rat}(hf:Kd D f)(ht:Kd D t):∀{l:List QQ},(∀p,p∈l->Kd D p.1/\Kd D p.2)->Kd D (Hg f t l)
  | [],_=>by rw[Mk];exact Kd.int D 0
  | p::l,h=>by
    rw[Gk];exact(vX hf ht (h p eXX).1 (h p eXX).2).add (jT hf ht fun z hz=>h z (cZZ _ hz))
theorem iZ{rule a b rs F y}(h:Kd F y):Kd (Ym (Bj rs)*F) (Ke rule a b rs y):=by
  refine jT (Kd.int _ _) (Kd.int _ _) (Kn (P:=Kd (Ym (Bj rs)*F)) fun m hm=> ?_);obtain⟨e,he,hx⟩:=nK hm;rw[hx];exact(zX h).up (Nat.mul_dvd_mul_right (kL he) F)
theorem gW(l):(Fz l).length<=l.length:=by
  have h:=sE (Hk l) (Hk l).length;rw[mZZ]at h;refine Al h ?_;unfold Hk;rw[Stb.stab_len];exact List.length_filter_le _ _
theorem lD(rule ms):(Ma rule ms).length<=ms.length:=by
  refine Al (gW _) (Al (uP _ _) ?_);rw[Mc];omega
theorem nI(y rs):(Ez y rs).length<=(Bj rs).length:=by
  rw[Oc,Stb.stab_len];exact List.length_filterMap_le _ _
theorem Ri(rs):(Bj rs).length<=Gy rs:=by
  unfold Bj;split
  · exact Eg rs
  simp[Cd]
theorem cZ {y:Rat}:∀{l:List Rat},(Nk l y).length<=l.length+1
  | []=>by simp[Nk]
  | x::l=>by
    have:=cZ (y:=y) (l:=l);unfold Nk;split
    · simp;omega
    split<;>simp
theorem dL {lo hi:Rat}:∀{all l:List Rat},(Zp lo hi l all).length<=l.length+all.length
  | [],l=>by simp[Zp]
  | x::all,l=>by
    show(Zp lo hi (if lo<x/\x<hi then Nk l x else l) all).length<=_;have h1:=dL (lo:=lo) (hi:=hi) (all:=all) (l:=if lo<x/\x<hi then Nk l x else l);have h2:(if lo<x/\x<hi then Nk l x else l).length<=l.length+1:=by
      split
      · exact cZ
      omega
    rw[hQQ];omega
theorem eH {α β:Type}{f:α->List β}(h:∀x,(f x).length<=1):∀l:List α,(l.flatMap f).length<=l.length
  | []=>by simp
  | x::l=>by
    have:=h x;have:=eH h l;rw[List.flatMap_cons,aXX,hQQ];omega
theorem bE(e x):(Qi e x).length<=1:=by unfold Qi;split<;>simp
theorem pW(o e):(Ub o e).length<=1:=by unfold Ub;split<;>simp
theorem cL (a b:Int×Int)(N:Nat):∀(l p:List He),p.length+l.length<=N->(cM a b p l).length<=l.length*(N+2)
  | [],p,_=>by simp[cM]
  | x::l,p,h=>by
    have h1:=cL a b N l (p++[x]) (by simp at h⊢;omega);have h2:=eH (f:=fun o=>Ub x o) (fun o=>pW x o) p;have h3:=bE x a.1;have h4:=bE x b.1;show(Ph a b p x++cM a b (p++[x]) l).length<=_;unfold Ph;simp only[aXX,hQQ,kZZ,Nat.one_mul]at h⊢;omega
theorem cI:∀rs:List Dr,(qO rs).length=Gy rs
  | []=>rfl
  | r::rs=>by
    have:=cI rs;have e:Gy (r::rs)=r.length+Gy rs:=by
      have:=jA [r] rs;simpa[Gy]using this
    rw[e,<-this];simp[qO]
theorem qP{a b rs N}(h:Gy rs<=N):(Ek a b rs).length<=2+N+N*(N+2):=by
  unfold Ek;split
  · rename_i k
    have h1:=dL (lo:=(a.2:Rat)) (hi:=(b.2:Rat)) (all:=Nw a b rs) (l:=[(a.2:Rat),(b.2:Rat)]);have h2:=cL a b N (Cd rs) [] (by have:=Eg rs;simp;omega);have h3:=cI rs;have h4:=gQQ (N+2) (Al (Eg rs) h);unfold Nw at h1⊢;simp only[aXX,hQQ,List.length_nil]at h1;omega
  simp
theorem kP {W:Rat->Rat}{D F C M:Nat}(hW:∀y,Kd (2*D) y->Kd F (W y))(h0:∀y,0<=W y/\W y<=((C:Int):Rat)):∀{l:List Rat},(∀x,x∈l->Kd D x/\ -((M:Int):Rat)<=x/\x<=((M:Int):Rat))->l.Pairwise (· < ·)->Kd (F*D) (Dc W l)/\0<=Dc W l/\Dc W l<=(((l.length*(C*(2*M)):Nat):Int):Rat)
 | [],_,_=>⟨Kd.int _ 0,by simp[Dc],by simp[Dc]⟩
 | [x],_,_=>⟨Kd.int _ 0,by simp[Dc],by show(0:Rat)<=_;exact_mod_cast Int.natCast_nonneg _⟩
 |x::y::l,h,hs=>by
  obtain⟨k1,k2,k3⟩:=kP hW h0 (l:=y::l) (fun z hz=>h z (cZZ _ hz)) (List.pairwise_cons.1 hs).2;obtain⟨x1,x2,x3⟩:=h x eXX;obtain⟨y1,y2,y3⟩:=h y (cZZ _ eXX);have A0:x<y:=(List.pairwise_cons.1 hs).1 y eXX;obtain⟨w1,w2⟩:=h0 ((x+y)/2);have wk:=hW _ (x1.half y1);have hd:0<=y-x/\y-x<=(((2*M:Nat):Int):Rat):=by
   rw[fZZ,Rat.intCast_mul];have:(((2:Nat):Int):Rat)=2:=rfl;constructor<;>grind
  show Kd (F*D) (W ((x+y)/2)*(y-x)+Dc W (y::l))/\0<=W ((x+y)/2)*(y-x)+Dc W (y::l)/\W ((x+y)/2)*(y-x)+Dc W (y::l)<=_;refine⟨(wk.mul (y1.sub x1)).add k1,?_,?_⟩
  ·have:=Rat.mul_nonneg w1 hd.1
   grind
  have e1:W ((x+y)/2)*(y-x)<=((C:Int):Rat)*(((2*M:Nat):Int):Rat):=by
   have a1:=Rat.mul_le_mul_of_nonneg_right w2 hd.1;have a2:=Rat.mul_le_mul_of_nonneg_left hd.2 (show(0:Rat)<=((C:Int):Rat)from by exact_mod_cast Int.natCast_nonneg C);grind
  have e2:((((x::y::l).length*(C*(2*M)):Nat):Int):Rat)=((C:Int):Rat)*(((2*M:Nat):Int):Rat)+((((y::l).length*(C*(2*M)):Nat):Int):Rat):=by
   rw[<-Rat.intCast_mul,<-fZZ,<-Rat.intCast_add,<-Int.natCast_add];congr 2;rw[hQQ (a:=x),Nat.succ_mul,Nat.add_comm]
  rw[e2];grind
def part (rule:Int)(a b:Int×Int)(rs:List Dr)(k:Nat):Rat:=Dc (Ke rule a b rs) ((Ek a b rs).take (k+1))
theorem mM(rule a b rs):part rule a b rs 0=0:=by
  unfold part;cases Ek a b rs with
  |nil=>rfl
  |cons x l=>rfl
theorem Yu (W:Rat->Rat):∀(l:List Rat) (k:Nat) (x y:Rat),l[k]?=some x->l[k+1]?=some y->Dc W (l.take (k+2))=Dc W (l.take (k+1))+W ((x+y)/2)*(y-x)
  | [],k,x,y,h,_=>by simp at h
  | [z],0,x,y,_,h=>by simp at h
  | [z],k+1,x,y,h,_=>by simp at h
  | a::b::l,0,x,y,h,h2=>by
    simp at h h2;subst h h2;show W ((a+b)/2)*(b-a)+Dc W [b]=Dc W [a]+_;show W ((a+b)/2)*(b-a)+0=0+_;grind
  | a::b::l,k+1,x,y,h,h2=>by
    have ih:=Yu W (b::l) k x y (by simpa using h) (by simpa using h2);show W ((a+b)/2)*(b-a)+Dc W (b::l.take (k+1))=W ((a+b)/2)*(b-a)+Dc W (b::l.take k)+_;rw[List.take_succ_cons,List.take_succ_cons]at ih;rw[ih];grind
theorem mN{rule a b rs k x y}(h:(Ek a b rs)[k]?=some x)(h2:(Ek a b rs)[k+1]?=some y):part rule a b rs (k+1)=part rule a b rs k+Ke rule a b rs ((x+y)/2)*(y-x):=Yu _ _ _ _ _ h h2
theorem qZ{rule a b rs k}(h:(Ek a b rs).length<=k+1)(h1:a.1<b.1):part rule a b rs k=Iu rule a b rs:=by
  unfold part Iu;rw[cQQ h];split
  · rename_i c
    have:¬So a b rs:=fun k=>by have:=k.2.2.2;omega
    rw[show Ek a b rs=[]from if_neg this];rfl
  rfl
theorem vC{rule a b rs}(ha:Dy a)(hb:Dy b)(h1:a.1<=b.1)(ht:Gy rs<=24)(hh:∀x,x∈Ek a b rs->Nm.rl x<=24)(k):Nm.rl (part rule a b rs k)<=50000:=by
 have a2:=Bi ha;have b2:=Bi hb;by_cases c:So a b rs
 ·have hD:=xV hh
  have hc:=qP (a:=a) (b:=b) ht;have hE:Nm.nl (Ym (Bj rs))<=25:=by
   refine Al (iH fun e he=> ?_) (by have:=Ri rs;omega);rw[Ku c.1]at he;obtain⟨r,hr,h3,h4⟩:=Rk he;exact⟨Pn c.1 hr h3,Pn c.1 hr h4⟩
  have hp:=kP (W:=Ke rule a b rs) (D:=dn (Ek a b rs)) (F:=Ym (Bj rs)*(2*dn (Ek a b rs))) (C:=2097152) (M:=1048576) (fun y hy=>iZ hy)
   (fun y=>⟨iX y,Rat.le_trans (iY h1 y) (by rw[<-Rat.intCast_sub];exact Rat.intCast_le_intCast.2 ω)⟩) (l:=(Ek a b rs).take (k+1))
   (fun x hx=>⟨xW (List.mem_of_mem_take hx),by
    have h5:=Sv (List.mem_of_mem_take hx);have h6:(((-1048576:Int)):Rat)<=(a.2:Rat):=Rat.intCast_le_intCast.2 ω;have h7:(b.2:Rat)<=(((1048576:Nat):Int):Rat):=Rat.intCast_le_intCast.2 ω;exact⟨Rat.le_trans (by rw[<-Rat.intCast_neg];exact h6) h5.1,Rat.le_trans h5.2 h7⟩⟩)
   ((Uh a b rs).sublist (List.take_sublist _ _))
  have A0:0<Ym (Bj rs)*(2*dn (Ek a b rs))*dn (Ek a b rs):=Nat.mul_pos (Nat.mul_pos (aK _) (Nat.mul_pos (by decide) (iJ _))) (iJ _);have hr:=Kd.rl (M:=((Ek a b rs).take (k+1)).length*(2097152*(2*1048576))) A0 hp.1 (Rat.le_trans (by
   have:(0:Rat)<=(((((Ek a b rs).take (k+1)).length*(2097152*(2*1048576)):Nat):Int):Rat):=by exact_mod_cast Int.natCast_nonneg _
   grind) hp.2.1) hp.2.2
  refine Al hr ?_;have n1:=Nm.nl_mul (((Ek a b rs).take (k+1)).length*(2097152*(2*1048576))) (Ym (Bj rs)*(2*dn (Ek a b rs))*dn (Ek a b rs));have n2:=Nm.nl_mul (Ym (Bj rs)*(2*dn (Ek a b rs))) (dn (Ek a b rs));have n3:=Nm.nl_mul (Ym (Bj rs)) (2*dn (Ek a b rs));have n4:=Nm.nl_mul 2 (dn (Ek a b rs));have n5:Nm.nl 2<=1:=Nm.nl_le (by decide);have n6:Nm.nl (((Ek a b rs).take (k+1)).length*(2097152*(2*1048576)))<=2:=by
   refine Nm.nl_le ?_;have:((Ek a b rs).take (k+1)).length<=650:=by rw[eQQ];omega
   have:=gQQ (2097152*(2*1048576)) this;exact nZZ this (by decide)
  omega
 unfold part;rw[show Ek a b rs=[]from if_neg c];exact Al (show Nm.rl (0:Rat)<=1 from by decide+kernel) (by decide)
def sK (rule:Int)(rs:List Dr):Int:=if Gf rs=true then(if rule=1\/rule=2 then 0 else 2)else 12
def Hh (rule:Int)(a b:Int×Int)(rs:List Dr):Int:=if Gf rs=true then(if rule=1\/rule=2 then(if De a.1 a.2=true/\De b.1 b.2=true then 0 else 6)else 2)else 12
theorem Ye{rule a b rs}:Hh rule a b rs=0↔Gf rs=true/\(rule=1\/rule=2)/\De a.1 a.2=true/\De b.1 b.2=true:=by
  unfold Hh;by_cases h1:Gf rs=true<;>by_cases h2:rule=1\/rule=2<;>by_cases h3:De a.1 a.2=true/\De b.1 b.2=true<;>simp[h1,h2,h3]
def Of (n:Int):Bool:=decide (n< -4096)||decide (4096<n)
def Bu (x y:Int):Int×Int:=if (Of x||Of y)=true then(1048577,0)else(x*256,y*256)
def Kh (x y:Int):Int×Int:=if De (Bu x y).1 (Bu x y).2=true then Bu (x+1) (y+1)else Bu x y
theorem yB{rule a b rs y c}(hok:Gf rs=true)(ha:Dy a)(hb:Dy b)(h1:a.1<=b.1)(ht:Gy rs<=24)(hy:Nm.rl y<=c):Nm.rl (Ke rule a b rs y)<=c+30:=by
 have a2:=Bi ha;have b2:=Bi hb;have hE:Nm.nl (Ym (Bj rs))<=25:=by
  refine Al (iH fun e he=> ?_) (by have:=Ri rs;omega);rw[Ku hok]at he;obtain⟨r,hr,h3,h4⟩:=Rk he;exact⟨Pn hok hr h3,Pn hok hr h4⟩
 have hd:Nm.nl y.den<=c:=Al (Nat.le_max_right _ _) hy;have k:=iZ (rule:=rule) (a:=a) (b:=b) (rs:=rs) (Kd.den y);have A0:0<Ym (Bj rs)*y.den:=Nat.mul_pos (aK _) y.den_pos;have hr:=Kd.rl (M:=2097152) A0 k (Rat.le_trans (by decide+kernel) (iX y)) (Rat.le_trans (iY h1 y) (by rw[<-Rat.intCast_sub];exact Rat.intCast_le_intCast.2 ω));refine Al hr ?_;have n1:=Nm.nl_mul 2097152 (Ym (Bj rs)*y.den);have n2:=Nm.nl_mul (Ym (Bj rs)) y.den;have n3:Nm.nl 2097152<=1:=Nm.nl_le (by decide);omega
theorem gC{p q c}(hp:Nm.rl p<=c)(hq:Nm.rl q<=c):Nm.rl ((p+q)/2)<=2*c+3:=by
  have h1:=Nm.rl_add p q;have h2:=Nm.rl_div (p+q) 2;have h3:Nm.rl (2:Rat)<=1:=by decide+kernel
  omega
theorem lC(rule y){rs}(h:Gy rs<=16):(Ma rule (Ez y rs)).length<=16:=by
  have h1:=lD rule (Ez y rs);have h2:=nI y rs;have h3:=Ri rs;omega
theorem vU(rule a b rs y):Hg (((a.1:Int)):Rat) (((b.1:Int)):Rat) (Fz (Ma rule (Ez y rs)))=Ke rule a b rs y:=by
  unfold Ke Ma;rw[dQ]
end
section
attribute [local go_sem ↓] Go.wp_at_zero Go.wp_at_succ Aq An
theorem Vh(A cap rs rule k w)(hu:Cs w (.slice A rs.length cap) rs)(hn:rs.length<=1048576)(hr:∀r,r∈rs->r.length<=1048576)(hk:sK rule rs=k):
  Calls prog 133 #[.slice A rs.length cap,iV rule] w fun e w'=>e= .returned (iV k)/\Aa w w':=by
 subst hk;have HU:=zH hu;have HN:=zH hn;have A0:=zH hr;clear hu hr;go_enter func133,ntmps133
 have H0:=zH (Hp.start w);go_upto_region 0 with fail;apply wl;apply zq (iV 0);rcases Cl (Gf rs=true)with HV|HV
 ·go_upto_region 1 with fail
  apply wl;refine Cg Ah _ ?_;refine zc (Ck _ rs _ (HU.1.ext H0.1.ext) HN.1 A0.1) ?_;rintro e w4 ⟨rfl,hx⟩;have H5:=zH (H0.1.step hx);clear hx;refine⟨.bool true,by rw[HV.1],?_⟩;try simp only[ζ]
  refine Cc Ah φ φ ?_;rcases Cl (rule=1)with H1|H1
  ·go_upto_region 3 with fail
   apply wl;apply zq (iV rule);apply zp φ (by exact Nn (e:=(Af (fun h_=>h_ H1.1))));refine Lt Ah φ _ _ φ φ ?_;go_upto_region 5 with fail;apply wl;apply zq (iV 0);go_wp2_with fail;go_ret;exact⟨by rw[show sK rule rs=0 from(if_pos HV.1).trans (if_pos (.inl H1.1))]<;>rfl,H5.1.ext⟩
  rcases Cl (rule=2)with H2|H2
  ·go_upto_region 3 with fail
   apply wl;apply zq (iV rule);apply zp τ (by exact Nn (e:=(Ar H1.1)));refine Cc Ah τ (iV rule) ?_;apply zp φ (by exact Nn (e:=(Af (fun h_=>h_ H2.1))));refine Cc Ah φ φ ?_;go_upto_region 5 with fail;apply wl;apply zq (iV 0);go_wp2_with fail;go_ret;exact⟨by rw[show sK rule rs=0 from(if_pos HV.1).trans (if_pos (.inr H2.1))]<;>rfl,H5.1.ext⟩
  go_upto_region 3 with fail;apply wl;apply zq (iV rule);apply zp τ (by exact Nn (e:=(Ar H1.1)));refine Cc Ah τ (iV rule) ?_;apply zp τ (by exact Nn (e:=(Ar H2.1)));refine Cc Ah τ τ ?_;go_upto_region 4 with fail;apply wl;apply zq (iV 2);go_wp2_with fail;go_ret;exact⟨by rw[show sK rule rs=2 from(if_pos HV.1).trans (if_neg (fun h_=>h_.elim H1.1 H2.1))]<;>rfl,H5.1.ext⟩
 go_upto_region 1 with fail;apply wl;refine Cg Ah _ ?_;refine zc (Ck _ rs _ (HU.1.ext H0.1.ext) HN.1 A0.1) ?_;rintro e A2 ⟨rfl,hx⟩;have A1:=zH (H0.1.step hx);clear hx;refine⟨.bool false,by rw[Bool.eq_false_iff.2 HV.1],?_⟩;try simp only[ζ]
 apply qV τ;apply zq τ;go_upto_region 2 with fail;apply wl;apply zq (iV 12);go_wp2_with fail;go_ret;exact⟨by rw[show sK rule rs=12 from if_neg HV.1]<;>rfl,A1.1.ext⟩
end
end Go.Proofs.YtlipfipniibpoaaGreat
