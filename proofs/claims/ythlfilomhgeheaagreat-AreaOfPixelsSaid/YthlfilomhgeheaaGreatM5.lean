import Derived.Deep.Upon
import Derived.Deep.LoopGhost
import Derived.Deep.DeepCutAuto
import Derived.RangeFuncNested
import Derived.RangeFuncBound
import Derived.RangeFuncCalls
import Derived.RangeFuncLeaves
import Derived.Shelf.Abstract
import Derived.Shelf.RegionOpen
import Derived.OwnWalkIn
import Derived.TacticsInMore
import Derived.LoopNIn
import Derived.LoopIn
import Derived.Maps.AppendAt
import Derived.OrdersIn
import Derived.Test.YthlfilomhgeheaaGreatM4
set_option maxRecDepth 100000
set_option maxHeartbeats 4000000
namespace Go.Proofs.YthlfilomhgeheaaGreat
open Go.RowKit
open Go.Proofs.Tryz
section
attribute [local go_sem ↓] Go.wp_at_zero Go.wp_at_succ Az Ay
theorem Ad {P:Program}{fn:Func}{i j:Tmp}{t:TypeId}(h:fn.results=#[.cell i t,.tmp j]){tmps:Array Value}{w:World}{p:Addr}{v v2:Value}
    (hi:tmps.getD i undef= .pointer (some p))(h1:(Go.loadVar t p).run P w= .ok v w)(hj:tmps.getD j undef=v2):(results fn tmps).run P w= .ok (.tuple #[v,v2]) w:=by
  simp only[Array.getD_eq_getD_getElem?]at hi hj;simp[results,h,hi,hj,h1,asAddr]
theorem Gs.two {w:World}{X:Nat}{t:TypeId}{ax ay bx bY:Int}(h:Al w X t #[iV ax,iV ay,iV bx,iV bY]):Gs w (.slice (π X) 2 2) [(ax,ay),(bx,bY)]:=by
  refine⟨_,2,rfl,fun _=>⟨X,0,rfl,fun i hi=> ?_⟩⟩;match i,hi with
  |0,_=>exact⟨by rw[h.cell];rfl,by rw[h.cell];rfl⟩
  |1,_=>exact⟨by rw[h.cell];rfl,by rw[h.cell];rfl⟩
theorem uF (u:Value)(ps:List (Int×Int))(w:World)(hu:Gs w u ps)(hn:ps.length<=1048576)(hok:Dd ps=true):
    Calls prog 57 #[u] w fun e w'=>e= .returned τ/\Aa w w':=by
  have h:=Hv u ps w hu hn;rw[hok]at h;exact h
def Ia (ax ay bx bY:Int)(y:Rat):Rat:=(ax:Rat)+(y-(ay:Rat))*(((1:Int):Rat)/((bY-ay:Int):Rat))*((bx-ax:Int):Rat)
theorem sC (a b:Int)(h1: -9223372036854775808<=a/\a<=9223372036854775807)(h2: -9223372036854775808<=b/\b<=9223372036854775807):Nm.rl ((a:Rat)/(b:Rat))<=8:=by
  have h:=Nm.rl_div (a:Rat) (b:Rat);have h3:=Bm a h1.1 h1.2;have h4:=Bm b h2.1 h2.2;omega
theorem dT (L:Nat)(ax ay bx bY:Int)(ry:RV)(y:Rat)(w:World)(hy:ry.In L w y)(h1L:1<=L)(hL:L<=2000)(ha:Cm ax ay=true)(hb:Cm bx bY=true)(hne:ay≠bY)(hlo:((min ay bY:Int):Rat)<=y)(hhi:y<=((max ay bY:Int):Rat)):
  Calls prog 87 #[.agg #[iV ax,iV ay],.agg #[iV bx,iV bY],(rg ry)] w fun e w'=>∃c,e= .returned (.tuple #[.agg c,.bool true])/\Mt w' c (Ia ax ay bx bY y)/\Aa w w':=by
 have HK:=zH (show(-1048576<=ax/\ax<=1048576/\ -1048576<=ay/\ay<=1048576)/\(-1048576<=bx/\bx<=1048576/\ -1048576<=bY/\bY<=1048576)by have h1:=ha;have h2:=hb;unfold Cm at h1 h2;simp only[xA,decide_eq_true_eq]at h1 h2;omega);have H6:=zH (show Dd [(ax,ay),(bx,bY)]=true by simp[Dd,ha,hb]);have H7:=zH (show bY-ay≠0 by omega);have RY:=zH hy;have H9:=zH hne;have I0:=zH hlo;have I1:=zH hhi;clear hy ha hb hne hlo hhi;go_enter func87,ntmps87
 have H0:=zH (Hp.start w);go_upto_region 0 with fail;apply wl;apply Cd 24 [iV ax,iV ay] H0.1;intro X1 w2 H3 _;apply Cd 24 [iV bx,iV bY] H3.1;intro X6 w7 H8 _;apply Cd 31 (rc ry) H8.1;intro K9 K4 I7 _;refine Cd 31 rz I7.1 ?_;intro K8 A7 B6 _;apply zq φ;go_upto_region 1 with fail;refine zy ?_;have I6:=zH (B6.1.step (Aa.refl A7).drew);refine qS B6.1 zb (bs 16 479) 0 1 2 3 4 6 7 8 _ _ _ _ (iV (min ay bY)) _ _ _ ?_;refine Jv B6.1 zb (bs 16 2015) 9 10 _ (iV (max ay bY)) ?_;refine FN.go2 (j1:=⟨12,some 8,31,[.bool false,.slice none 0 0,.bool false,.slice none 0 0]⟩) (j2:=⟨13,some 9,31,[.bool false,.slice none 0 0,.bool false,.slice none 0 0]⟩) (b:=A7) ?_ zb;refine gN 5 (bs 16 2047) (fk (fk trivial)) zb.size (fun xq A0=>Ff (min ay bY) _ (by have A1:=HK.1;omega) (by have A1:=HK.1;omega)) (by rintro x_ e A6 ⟨c_,rfl,A4,hx⟩;exact hx) ?_;rintro xq e K3 A0 ⟨c_,rfl,A4,hx⟩;replace hx:=A0.trans hx;clear A0;have I5:=zH (I6.1.step hx);have E4:=zH (zb.trans hx);obtain⟨G1,rfl,A3⟩:=A4;have H5:=zH A3;have J3:=zH (Bm (min ay bY) (by have A1:=HK.1;omega) (by have A1:=HK.1;omega));clear A3 hx;refine⟨_,rfl,?_⟩;try simp only[ζ]
 refine gN 11 (bs 16 4095) (fk (fk trivial)) E4.1.size (fun xq A0=>Ff (max ay bY) _ (by have A1:=HK.1;omega) (by have A1:=HK.1;omega)) (by rintro x_ e A6 ⟨c_,rfl,A4,hx⟩;exact hx) ?_;rintro xq e K2 A0 ⟨c_,rfl,A4,hx⟩;replace hx:=A0.trans hx;clear A0;have I4:=zH (I5.1.step hx);have J1:=zH (Ah.of_ext hx);have G8:=zH (E4.1.trans hx);obtain⟨G0,rfl,A3⟩:=A4;have H4:=zH A3;have J2:=zH (Bm (max ay bY) (by have A1:=HK.1;omega) (by have A1:=HK.1;omega));clear A3 hx;refine⟨_,rfl,?_⟩;try simp only[ζ]
 refine pU (bs 16 16383) (fk (fk trivial)) G8.1.size B6.1 I4.1 ?_;intro G5 G4 F5 hx hh E3 E2 hs;have I3:=hN hh;have F2:=zH (Ah.of_ext hx);have G7:=zH (show Aa A7 F5 from hs);have I9:=zH (show A7.heap.size<=G5 from E3);have I8:=zH (show A7.heap.size<=G4 from E2);clear hh hx hs E3 E2;try simp only[ζ]
 refine bS 4 14 (bs 16 32767) (rc G1) I3.1 G7.1 I9.1 ?_;intro K1 I2 F1 G6;refine bS 5 15 (bs 16 65535) (rc G0) I2.1 G6.1 I8.1 ?_;intro K0 E7 F0 L0;refine wpAnyH_done kR ?_ _;go_upto_region 2 with fail;apply wl;refine Bq E7.1 _ _ ?_;apply fL 2 24 [iV ax,iV ay,iV bx,iV bY] E7.1;intro G3 J9 E6 E9;refine aC E6.1 (uF (.slice (π G3) 2 2) [(ax,ay),(bx,bY)] _ (Gs.two (E6.1.blk (i:=6) rR)) (by simp) H6.1) ?_;intro J8 B5 E8;refine dR B5.1 φ φ _ _ _ _ ?_;apply zp φ (by exact Kf (e:=(Aj H9.1)));refine Ek B5.1 φ φ _ _ ?_;have D5:=tD (tD (tD (tD (tD J1 F2) F1) F0) E9) E8;refine aC B5.1 (Ig (L:=60000) (RV.In.nin (RV.In.mono (RY.1.dig B5.1.dig0) ω)) (RV.Is.nin (H5.1.dig D5.1) (Aw J3.1 ω)) ω) ?_;intro J7 C9 J0;apply zp φ (by exact Dp (e:=(Aj (fun hh=>(Rat.not_lt.2 I0.1) (rcmp_lt.1 hh)))));refine Ek C9.1 φ φ _ _ ?_;have D4:=tD (tD (tD (tD (tD F2 F1) F0) E9) E8) J0;refine aC C9.1 (Ig (L:=60000) (RV.In.nin (RV.In.mono (RY.1.dig C9.1.dig0) ω)) (RV.Is.nin (H4.1.dig D4.1) (Aw J2.1 ω)) ω) ?_;intro B4 E5 _;apply zp φ (by exact Ph (e:=(Aj (fun hh=>(Rat.not_lt.2 I1.1) (If.1 hh)))));apply zq φ;go_upto_region 4 with fail
 refine zy ?_;have C8:=zH (E5.1.step (Aa.refl B4).drew);refine vN E5.1 zb (bs 14 487) 0 1 2 5 6 7 8 _ _ _ _ _ _ _ ?_;refine zu 9 (bs 14 999) (v:= iV (bY-ay)) zb ?_ (hv:=by intro w K7;exact Nx (by have A1:=HK.1;omega));refine gG 12 (some 10) 31 rz B4 C8.1 ?_;refine gL 3 (bs 14 5095) (bs 14 1007) zb.size C8.1 zb (fun xq A0=>Ff ay _ (by have A1:=HK.1;omega) (by have A1:=HK.1;omega)) (by rintro x_ e A6 ⟨c_,rfl,A4,hx⟩;exact hx) ?_;rintro xq e J6 A0 ⟨c_,rfl,A4,hx⟩;replace hx:=A0.trans hx;clear A0;have C7:=zH (C8.1.step hx);have C1:=zH (zb.trans hx);obtain⟨K6,rfl,A3⟩:=A4;have H2:=zH A3;have F4:=zH (Bm ay (by have A1:=HK.1;omega) (by have A1:=HK.1;omega));clear A3 hx;refine⟨_,rfl,?_⟩;try simp only[ζ]
 refine gL 4 (bs 14 5103) (bs 14 1023) C1.1.size C7.1 C1.1 (fun xq A0=>sH (L:=60000) (RV.In.nin (RV.In.mono (RY.1.dig (C7.1.dig0.trans (Ah.of_ext A0))) ω)) (RV.Is.nin (H2.1.dig (Ah.of_ext A0)) (Aw F4.1 ω)) ω) (by rintro x_ e A6 ⟨c_,rfl,A4,hx⟩;exact hx) ?_;rintro xq e J5 A0 ⟨c_,rfl,A4,hx⟩;replace hx:=A0.trans hx;clear A0;have C6:=zH (C7.1.step hx);have C0:=zH (C1.1.trans hx);obtain⟨K5,rfl,A3⟩:=A4;have H1:=zH A3;clear A3;have F3:=zH (show Nm.rl (y-(((ay):Int):Rat))<=L+2+1 from by have h1:=(show Nm.rl y<=L from by have h:=(RY.1.dig C6.1.dig0).rl;omega);have h2:=F4.1;have h3:=Nm.rl_sub y (((ay):Int):Rat);omega);clear hx;refine⟨_,rfl,?_⟩;try simp only[ζ]
 refine gL 10 (bs 14 5119) (bs 14 2047) C0.1.size C6.1 C0.1 (fun xq A0=>Yh 1 (bY-ay) _ (by have A1:=HK.1;omega) (by have A1:=HK.1;omega) (by have A1:=HK.1;omega) (by have A1:=HK.1;omega) H7.1) (by rintro x_ e A6 ⟨c_,rfl,A4,hx⟩;exact hx) ?_;rintro xq e J4 A0 ⟨c_,rfl,A4,hx⟩;replace hx:=A0.trans hx;clear A0;have B1:=zH (C6.1.step hx);have D9:=zH (Ah.of_ext hx);have A5:=zH (C0.1.trans hx);obtain⟨G2,rfl,A3⟩:=A4;have C5:=zH A3;have B3:=zH (sC 1 (bY-ay) ⟨(by have A1:=HK.1;omega),(by have A1:=HK.1;omega)⟩ ⟨(by have A1:=HK.1;omega),(by have A1:=HK.1;omega)⟩);clear A3 hx;refine⟨_,rfl,?_⟩;try simp only[ζ]
 refine gL 11 (bs 14 6143) (bs 14 4095) A5.1.size B1.1 A5.1 (fun xq A0=>sI (L:=60000) (RV.Is.nin (H1.1.dig (D9.1.trans (Ah.of_ext A0))) (Aw F3.1 ω)) (RV.Is.nin (C5.1.dig (Ah.of_ext A0)) (Aw B3.1 ω)) ω) (by rintro x_ e A6 ⟨c_,rfl,A4,hx⟩;exact hx) ?_;rintro xq e F9 A0 ⟨c_,rfl,A4,hx⟩;replace hx:=A0.trans hx;clear A0;have D2:=zH (B1.1.step hx);have A8:=zH (A5.1.trans hx);obtain⟨B8,rfl,A3⟩:=A4;have C4:=zH A3;clear A3;have E0:=zH (show Nm.rl ((y-(((ay):Int):Rat))*(((1:Int):Rat)/((bY-ay:Int):Rat)))<=(L+2+1)+8 from by have h1:=F3.1;have h2:=B3.1;have h3:=Nm.rl_mul (y-(((ay):Int):Rat)) (((1:Int):Rat)/((bY-ay:Int):Rat));omega);clear hx;refine⟨_,rfl,?_⟩;try simp only[ζ]
 refine gE (bs 14 8191) A8.1.size D2.1 A8.1 ?_;intro B9 B7 hx hh hs E1;have D1:=hN hh;have D8:=zH (Ah.of_ext hx);have C2:=zH (show Aa B4 B7 from hs);have D3:=zH (show B4.heap.size<=B9 from E1);clear hh hx E1 hs;try simp only[ζ]
 refine bS 7 13 (bs 14 16383) (rc B8) D1.1 C2.1 D3.1 ?_;intro F8 B0 D7 G9;refine wpAnyH_done kR ?_ _;go_upto_region 5 with fail;apply wl;refine Ql B0.1 _ _ _ _ _ ?_;have B2:=tD D8 D7;refine zc (Ms 20000 ax bx _ ((y-(((ay):Int):Rat))*(((1:Int):Rat)/((bY-ay:Int):Rat))) _ (RV.Is.nin (C4.1.dig B2.1) (Aw E0.1 ω)) dC dC ⟨(by have A1:=HK.1;omega),(by have A1:=HK.1;omega)⟩ ⟨(by have A1:=HK.1;omega),(by have A1:=HK.1;omega)⟩) ?_;rintro e F7 ⟨c_,rfl,A4,hx⟩;have D0:=zH (B0.1.step hx);obtain⟨A2,rfl,A3⟩:=A4;have C3:=zH A3;clear A3 hx;refine zn ?_;apply Ca 3 (rc A2) D0.1;intro F6 A9 D6;apply zq τ;go_wp2_with fail
 refine bodyPost_ret (v:= .tuple #[(rg A2),.bool true]) ?_ rfl ⟨_,rfl,⟨A2,rfl,(C3.1.dig D6.1)⟩,A9.1.ext⟩;exact Ad rfl rfl ((A9.1.blk (i:=3) rR).loadVar rfl rfl rR) rfl
end
section
open Go.RowKit Go.Deep
theorem Tj (w:World)(r:Option Nat):w.grownBy w r:=⟨rfl,rfl,rfl,Bz _,fun _ _ _=>rfl⟩
theorem Zd {P:Program}{w:World}{base:Nat}{t ty e:TypeId}{size bytes:Nat}(el:Yr P t e size bytes){v:Value}{n:Nat}{xs:List Value}(hown:Bi w base e size v n xs)
    (A:Option Addr)(k c:Nat)(news:List Value)(hl:news.length=k*size)(hA:0<k->∃ad,A=some ad/\∀j u,news[j]?=some u->w.cell? (ad.add j)=some u)(h1:∀u∈news,u.oneCell'=true)(hnu:Ar news)
    (h63:n+k<=maxLen)(hbytes:(n+k)*bytes<=140737488355328)(hbase:base<=w.heap.size):
    ∃ A' c' w',(Builtin.append_ #[t,t] ty #[v,.slice A k c]).run P w= .ok (.slice A' (n+k) c') w'/\Bi w' base e size (.slice A' (n+k) c') (n+k) (xs++news)/\w.grownBy w' v.ownBlock/\
      ∀g,(Value.slice A' (n+k) c').ownBlock=some g->v.ownBlock=some g\/w.heap.size<=g:=by
  obtain⟨ht,i,z,e1,e2,e3,e4,e5,e6,e7⟩:=el;by_cases hk:0<k
  · obtain⟨ad,rfl,A0⟩:=hA hk
    obtain⟨v',w',hr,q2,q3,q4,g,A1,rfl,hf⟩:=Lb (P:=P) w base t ty e i z size bytes ht e1 e2 e3 e4 e5 e7 e6 v n xs hown ad k c news hl A0 h1 hnu hk h63 hbytes hbase
    exact ⟨_, _, w', hr, q2, q3, fun g' hg' => by obtain rfl:g=g':=by simpa[Value.ownBlock]using hg'
                                                  exact hf⟩
  obtain rfl:k=0:=ω;obtain rfl:news=[]:=wP (by simpa using hl);have hs:Src P i.size t (.slice A 0 c) 0 [] w:=by
    cases A with
    |none=>exact Src.ofNil w ht c
    |some ad=>exact Src.ofSlice w ht ad 0 c [] (by simp) (by simp) (by simp)
  obtain⟨A2,A3⟩:=hown;rcases A3 with⟨rfl,rfl⟩|⟨g,A1,rest,rfl,q1,q2,q3,q4,q5,q6⟩
  · refine⟨none,0,w,run_append_nothing w t t ty e i ht e1 none 0 0 (Bz _) _ hs,⟨by simpa using A2,.inl ⟨rfl,rfl⟩⟩,Tj _ _,fun g hg=> .inl hg⟩
  refine⟨some ⟨g,0,none⟩,A1,w,run_append_nothing w t t ty e i ht e1 (π g) n A1 q3 _ hs,⟨by simpa using A2,.inr ⟨g,A1,rest,rfl,q1,by simpa using q2,q3,q4,by simpa using q5,by simpa using q6⟩⟩,Tj _ _,fun g hg=> .inl hg⟩
section
variable {P:Program} {w0 w:World} {m:List Dl} {ix:Nat} {a:Act} {Q:Exit->Act->World->Prop}
theorem Pb {rest:List Oper}{o:Oper}{ops:Array Oper}(hw:Region.wanted o (yielded ops a.tmps)=true)(s x:Operand)(t:TypeId)
  (ho:o.op= .call {callee:= .builtin .append,args:=#[s,x],argTypes:=#[t,t]}){e:TypeId}{size bytes:Nat}(el:Yr P t e size bytes){v:Value}{n:Nat}{xs:List Value}(hs:a.eval s=v)
  (hH:Hp w0 w m)(hi:m[ix]?=some (.row e size v n xs))(A:Option Addr)(k c:Nat)(news:List Value)(hx:a.eval x= .slice A k c)(hl:news.length=k*size)
  (hA:0<k->∃ad,A=some ad/\∀j u,news[j]?=some u->w.cell? (ad.add j)=some u)(h1:∀u∈news,u.oneCell'=true)(hnu:Ar news)
  (A0:n+k<=maxLen)(hbytes:(n+k)*bytes<=140737488355328)
  (h:∀A' c' w',Hp w0 w' (m.set ix (.row e size (.slice A' (n+k) c') (n+k) (xs++news)))->Ah w w'->w.grownBy w' v.ownBlock->(∀g,(Value.slice A' (n+k) c').ownBlock=some g->v.ownBlock=some g\/w.heap.size<=g)->
   wpList P ops Q rest (a.put o.dst (.slice A' (n+k) c')) w'):wpList P ops Q (o::rest) a w:=by
 obtain⟨A',c',w',hr,h2,h3,h4⟩:=Zd (P:=P) (ty:=o.type) el (hH.row hi) A k c news hl hA h1 hnu A0 hbytes hH.ext.size;refine Bk hw ?_;unfold Oper.wp execOp;simp only[ho,resolve,invoke,builtin,Sem.run_bind,Sem.run_pure,Result.andThen_ok,List.map_toArray,List.map_cons,List.map_nil,hs,hx,hr];exact h A' c' w' (hH.turn hi (fun k hk=>hk) h3 h2 h4) (Ah.grown (hH.row hi) h3) h3 h4
end
instance:Inhabited Bv:=⟨⟨⟨false,none,0,0,false,none,0,0⟩,⟨false,none,0,0,false,none,0,0⟩,0,0⟩⟩
theorem Dl.Holds.fr {b:Nat}{w w':World}{e:Dl}{G:Nat->Prop}(h:e.Holds b w)(x:Fr G w w')(hn:∀k,e.own=some k->¬G k):e.Holds b w':=by
 have hb:∀(g:Nat) (t:TypeId) (cs:Array Value),Al w g t cs->¬G g->Al w' g t cs:=by
  intro g t cs h1 h2;unfold Al;rw[x.block g h1.lt h2];exact h1
 cases e with
 |blk g t cs=>exact⟨h.1,hb _ _ _ h.2.1 (hn g rfl),h.2.2⟩
 |row t size v n xs=>
  obtain⟨h1,h2|⟨g,A0,rest,rfl,a,h3,c⟩⟩:=h
  ·exact⟨h1,.inl h2⟩
  exact⟨h1,.inr ⟨g,A0,rest,rfl,a,hb _ _ _ h3 (hn g rfl),c⟩⟩
section
variable {w0 w w':World} {m:List Dl}
theorem Wy {e f:Dl}{i:Nat}{x:Dl}(h: [e,f][i]?=some x):(i=0/\x=e)\/(i=1/\x=f):=by
  match i,h with
  |0,h=>injection h with h;exact .inl ⟨rfl,h.symm⟩
  |1,h=>injection h with h;exact .inr ⟨rfl,h.symm⟩
  |k+2,h=>simp at h
theorem Hp.pick2 {ib ir:Nat}{e f:Dl}(h:Hp w0 w m)(hb:m[ib]?=some e)(hr:m[ir]?=some f)(hne:ib≠ir):Hp w0 w [e,f]:=by
  refine⟨h.ext,fun i x hx=> ?_,fun i j x y hx hy hij=> ?_⟩
  · rcases Wy hx with⟨_,rfl⟩|⟨_,rfl⟩
    · exact h.all _ _ hb
    exact h.all _ _ hr
  rcases Wy hx with⟨e1,rfl⟩|⟨e1,rfl⟩<;>rcases Wy hy with⟨e2,rfl⟩|⟨e2,rfl⟩
  · omega
  · exact h.apart _ _ _ _ hb hr hne
  · exact h.apart _ _ _ _ hr hb (Ne.symm hne)
  omega
theorem Hp.call2 {ib ir:Nat}{e f e' f':Dl}{G:Nat->Prop}(h:Hp w0 w m)(hb:m[ib]?=some e)(hr:m[ir]?=some f)(_hne:ib≠ir)(x:Fr G w w')(hG:∀k,G k->e.own=some k\/f.own=some k)(h2:Hp w0 w' [e',f'])
  (he:∀k,e'.own=some k->e.own=some k\/w.heap.size<=k)(hf:∀k,f'.own=some k->f.own=some k\/w.heap.size<=k):Hp w0 w' ((m.set ib e').set ir f'):=by
 have A7:ib<m.length:=(List.getElem?_eq_some_iff.1 hb).1;have A6:ir<m.length:=(List.getElem?_eq_some_iff.1 hr).1;have A0:∀(j:Nat) (y:Dl),((m.set ib e').set ir f')[j]?=some y->(j=ir/\y=f')\/(j=ib/\y=e')\/(j≠ir/\j≠ib/\m[j]?=some y):=by
  intro j y hj;rw[List.getElem?_set]at hj;by_cases h1:ir=j
  ·rw[if_pos h1,if_pos (by simpa using h1▸A6)]at hj
   injection hj with hj
   exact .inl ⟨h1.symm,hj.symm⟩
  rw[if_neg h1,List.getElem?_set]at hj;by_cases h3:ib=j
  ·rw[if_pos h3,if_pos ω]at hj
   injection hj with hj
   exact .inr (.inl ⟨h3.symm,hj.symm⟩)
  rw[if_neg h3]at hj;exact .inr (.inr ⟨fun q=>h1 q.symm,fun q=>h3 q.symm,hj⟩)
 have A5:∀(j:Nat) (y:Dl),j≠ir->j≠ib->m[j]?=some y->∀k,y.own=some k->¬G k:=by
  intro j y A4 A3 hy k hk hg;rcases hG k hg with h1|h1
  ·exact h.apart j ib y e hy hb A3 k hk h1
  exact h.apart j ir y f hy hr A4 k hk h1
 have A2:∀(j:Nat) (y:Dl),j≠ir->j≠ib->m[j]?=some y->∀k,y.own=some k->e'.own≠some k:=by
  intro j y A4 A3 hy k hk hq;rcases he k hq with h1|h1
  ·exact h.apart j ib y e hy hb A3 k hk h1
  have:=h.lt hy hk;omega
 have A1:∀(j:Nat) (y:Dl),j≠ir->j≠ib->m[j]?=some y->∀k,y.own=some k->f'.own≠some k:=by
  intro j y A4 A3 hy k hk hq;rcases hf k hq with h1|h1
  ·exact h.apart j ir y f hy hr A4 k hk h1
  have:=h.lt hy hk;omega
 refine⟨h2.ext,fun j y hj=> ?_,fun i j x y hi hj hij k hk=> ?_⟩
 ·rcases A0 j y hj with⟨_,rfl⟩|⟨_,rfl⟩|⟨h3,h4,h5⟩
  ·exact h2.all 1 _ rfl
  ·exact h2.all 0 _ rfl
  exact(h.all j y h5).fr x (A5 j y h3 h4 h5)
 rcases A0 i x hi with⟨e1,rfl⟩|⟨e1,rfl⟩|⟨a1,a2,a3⟩<;>rcases A0 j y hj with⟨e2,rfl⟩|⟨e2,rfl⟩|⟨b1,b2,b3⟩
 ·omega
 ·exact h2.apart 1 0 _ _ rfl rfl (by decide) k hk
 ·exact fun q=>A1 j y b1 b2 b3 k q hk
 ·exact h2.apart 0 1 _ _ rfl rfl (by decide) k hk
 ·omega
 ·exact fun q=>A2 j y b1 b2 b3 k q hk
 ·exact A1 i x a1 a2 a3 k hk
 ·exact A2 i x a1 a2 a3 k hk
 exact h.apart i j x y a3 b3 hij k hk
end
section
variable {P:Program} {w0 w:World} {m:List Dl} {ix:Nat} {a:Act} {Q:Exit->Act->World->Prop} {rest:List Oper} {op:Oper} {ops:Array Oper}
theorem Qa {α:Type}{f:α->List Value}(hw:Region.wanted op (yielded ops a.tmps)=true)(ty:TypeId)(x y:Operand)(ho:op.op= .store ty x y){g n cap size:Nat}{t:TypeId}{es:List α}(hH:Hp w0 w m)(hi:m[ix]?=some (.row t size (.slice (π g) n cap) n (es.flatMap f)))
  (hc:∀x,(f x).length=size)(k:Nat)(z:α)(hk:k<es.length)(vs:List Value)(hf:f z=vs)(o:Nat)(hko:o=k*size)(hx:a.eval x= .pointer (some ⟨g,o,none⟩))(hy:a.eval y= .agg vs.toArray)(hz:(P.info? ty).map (·.size)=some vs.length)(h1:∀v,v∈vs->v.oneCell'=true)(hn:Ar vs)
  (h:∀w',Hp w0 w' (m.set ix (.row t size (.slice (π g) n cap) n ((es.set k z).flatMap f)))->Ah w w'->Ba g w w'->wpList P ops Q rest (a.put op.dst undef) w'):wpList P ops Q (op::rest) a w:=by
 subst hf;subst hko;refine lK hw ty x y ho hH hi (k*size) (f z) hx hy ?_ hz h1 hn (fun w' h2 h3 h4=>h w' ?_ h3 h4)
 ·rw[Dx hc,hc]
  calc k*size+size=(k+1)*size:=by rw[xL];omega
   _<=es.length*size:=xC _ hk
 rw[aQ hc es k hk z]at h2;exact h2
theorem Tc {α:Type}{f:α->List Value}(hw:Region.wanted op (yielded ops a.tmps)=true)(ty:TypeId)(x y:Operand)(ho:op.op= .store ty x y){g n cap:Nat}{t:TypeId}{es:List α}(hH:Hp w0 w m)(hi:m[ix]?=some (.row t 1 (.slice (π g) n cap) n (es.flatMap f)))
  (hc:∀x,(f x).length=1)(k:Nat)(z:α)(hk:k<es.length)(v:Value)(hf:f z=[v])(o:Nat)(hko:o=k*1)(hx:a.eval x= .pointer (some ⟨g,o,none⟩))(hy:a.eval y=v)(hz:(P.info? ty).map (·.size)=some 1)(hcc:v.cells=#[v])(h1:v.oneCell'=true)(hn:Ar [v])
  (h:∀w',Hp w0 w' (m.set ix (.row t 1 (.slice (π g) n cap) n ((es.set k z).flatMap f)))->Ah w w'->Ba g w w'->wpList P ops Q rest (a.put op.dst undef) w'):wpList P ops Q (op::rest) a w:=by
 subst hko;refine iF hw ty x y ho hH hi (k*1) v hx hy ?_ hz hcc h1 hn (fun w' h2 h3 h4=>h w' ?_ h3 h4)
 ·rw[Dx hc]
  omega
 have h5:=aQ hc es k hk z;rw[hf]at h5;rw[<-h5];exact h2
end
theorem dB {P:Program}{ρ:Operand->Value}{o:Oper}{w:World}{A E:Int}{t:TypeId}{x:Operand}(ho:o.op= .unOp .neg t x)(hx:ρ x= iV A)(hE: -A=E)(h1: -9223372036854775808<=E)(h2:E<=9223372036854775807):(execOp ρ o).run P w= .ok (.value (iV E)) w:=by
  have hw:IntKind.i64.wrap E=E:=by rw[IntKind.wrap_i64];omega
  unfold execOp;simp only[ho,hx];simp[go_sem,hw,hE]
end
section
attribute [local go_sem ↓] Go.wp_at_zero Go.wp_at_succ Az Ay
def Cu (a b:Int×Int):Bool:=decide (a.2<b.2)||(decide (a.2=b.2)&&decide (a.1<b.1))
def dv (a b:Int×Int):Int×Int:=(b.1-a.1,b.2-a.2)
def cr (u v:Int×Int):Int:=u.1*v.2-u.2*v.1
abbrev Dy (p:Int×Int):Prop:=Cm p.1 p.2=true
theorem Bg {p:Int×Int}(h:Dy p):(-1048576<=p.1/\p.1<=1048576)/\(-1048576<=p.2/\p.2<=1048576):=by simpa[Dy,Cm]using h
theorem Nq {a b:Int}(h1: -2097152<=a/\a<=2097152)(h2: -2097152<=b/\b<=2097152): -4398046511104<=a*b/\a*b<=4398046511104:=by
  have h:(a*b).natAbs<=2097152*2097152:=by rw[Int.natAbs_mul];exact Nat.mul_le_mul ω (ω)
  omega
theorem Co {a b:Int×Int}(ha:Dy a)(hb:Dy b):(-2097152<=(dv a b).1/\(dv a b).1<=2097152)/\(-2097152<=(dv a b).2/\(dv a b).2<=2097152):=by
  have h1:=Bg ha;have h2:=Bg hb;unfold dv;dsimp only
  omega
theorem Pi {u v:Int×Int}(hu:(-2097152<=u.1/\u.1<=2097152)/\(-2097152<=u.2/\u.2<=2097152))(hv:(-2097152<=v.1/\v.1<=2097152)/\(-2097152<=v.2/\v.2<=2097152)): -8796093022208<=cr u v/\cr u v<=8796093022208:=by
  have h1:=Nq hu.1 hv.2;have h2:=Nq hu.2 hv.1;unfold cr;omega
theorem Mm (p:Int×Int)(w:World)(h:Dy p):Calls prog 44 #[.agg #[iV p.1,iV p.2]] w fun e w'=>e= .returned (.agg #[iV p.1,iV p.2])/\Aa w w':=by
  have A0:=Bg h;have c1:He p.1 (-1048576) 1048576=p.1:=by have h:=Ki p.1;rw[decide_eq_true A0.1]at h;simpa using h
  have c2:He p.2 (-1048576) 1048576=p.2:=by have h:=Ki p.2;rw[decide_eq_true A0.2]at h;simpa using h
  have k:=Pe p.1 p.2 w;rw[c1,c2]at k;exact k
theorem Ec {ρ:Operand->Value}{o:Oper}{w:World}{a b c d:Int}{bb:Bool}{t':TypeId}{x y:Operand}(ho:o.op= .binOp .eql 24 x y t')(hx:ρ x= .agg #[iV a,iV b])(hy:ρ y= .agg #[iV c,iV d])(h:(a==c&&b==d)=bb):
    (execOp ρ o).run prog w= .ok (.value (.bool bb)) w:=by
  subst h;unfold execOp;simp only[ho,hx,hy];simp[go_sem,Ea]
theorem Gt {a b:Int×Int}:(a.1==b.1&&a.2==b.2)=true↔a=b:=by
  rw[xA,beq_iff_eq,beq_iff_eq];exact⟨fun h=>Prod.ext h.1 h.2,fun h=>by rw[h];exact⟨rfl,rfl⟩⟩
def Cz (a b:Int×Int):Int×Int:=if Cu b a=true then b else a
def Cj (a b:Int×Int):Int×Int:=if Cu b a=true then a else b
def Hi (a b c d:Int×Int):Int×Int:=if Cu (Cz a b) (Cz c d)=true then Cz c d else Cz a b
def Jw (a b c d:Int×Int):Int×Int:=if Cu (Cj c d) (Cj a b)=true then Cj c d else Cj a b
def Ai (a b c d:Int×Int):(Int×Int)×Int:=if Cu (Jw a b c d) (Hi a b c d)=true then((0,0),0)else if Hi a b c d=Jw a b c d then(Hi a b c d,1)else((0,0),2)
theorem tW {a b:Int×Int}(ha:Dy a)(hb:Dy b):Dy (Cz a b):=by unfold Cz;split<;>assumption
theorem tX {a b:Int×Int}(ha:Dy a)(hb:Dy b):Dy (Cj a b):=by unfold Cj;split<;>assumption
theorem iD {a b c d:Int×Int}(ha:Dy a)(hb:Dy b)(hc:Dy c)(hd:Dy d):Dy (Hi a b c d):=by unfold Hi;split;exact tW hc hd;exact tW ha hb
theorem oU {a b c d:Int×Int}(ha:Dy a)(hb:Dy b)(hc:Dy c)(hd:Dy d):Dy (Jw a b c d):=by unfold Jw;split;exact tX hc hd;exact tX ha hb
theorem Av {P:Program}{fn:Func}{i j k:Tmp}{t u:TypeId}(h:fn.results=#[.cell i t,.cell j u,.tmp k]){tmps:Array Value}{w:World}{p q:Addr}{v z x:Value}
    (hi:tmps.getD i undef= .pointer (some p))(hj:tmps.getD j undef= .pointer (some q))(h1:(Go.loadVar t p).run P w= .ok v w)(h2:(Go.loadVar u q).run P w= .ok z w)(hk:tmps.getD k undef=x):
    (results fn tmps).run P w= .ok (.tuple #[v,z,x]) w:=by
  simp only[Array.getD_eq_getD_getElem?]at hi hj hk;simp[results,h,hi,hj,hk,h1,h2,asAddr]
theorem Rw (p q:Int×Int)(w:World)(hp:Dy p)(hq:Dy q):
  Calls prog 106 #[.agg #[iV p.1,iV p.2],.agg #[iV q.1,iV q.2]] w fun e w'=>e= .returned (.agg #[iV (dv q p).1,iV (dv q p).2])/\Aa w w':=by
 have op:=Bg hp;have oq:=Bg hq;go_enter func106,ntmps106
 have H0:=zH (Hp.start w);go_upto_region 0 with fail;apply wl;apply Cd 24 [iV p.1,iV p.2] H0.1;intro X1 w2 H3 _;apply Cd 24 [iV q.1,iV q.2] H3.1;intro X6 w7 H8 _;apply Cd 24 [iV 0,iV 0] H8.1;intro A1 A9 A0 _;go_upto_region 1 with fail;refine wp_region_held_drew (S:=fun x=>(fun x_=>Hp w x_ [.blk X1 24 [iV p.1,iV p.2],.blk X6 24 [iV q.1,iV q.2],.blk A1 24 [iV 0,iV 0]]) x) kR (A0.1.step zb) (fun _=> ?_);have B5:=zH (A0.1.step (Aa.refl A9).drew);refine mR 0 (bs 6 1) X1 (0) [iV p.1,iV p.2] (fun x hx=>hx.range (i:=0) rR 0 2) underlying24 (A0.1.step zb) ?_;refine zr 2 (bs 6 5) X6 (0) [iV q.1,iV q.2] (fun x hx=>hx.range (i:=1) rR 0 2) underlying24 (A0.1.step zb) ?_;refine mC 1 (bs 6 7) (Mm p _ hp) ?_;rintro e A8 ⟨rfl,hx⟩;have B4:=zH (B5.1.step hx);have A3:=zH (show(fun x_=>Hp w x_ [.blk X1 24 [iV p.1,iV p.2],.blk X6 24 [iV q.1,iV q.2],.blk A1 24 [iV 0,iV 0]]) A8 from(A0.1.step zb).step hx);clear hx;refine⟨_,rfl,A3.1,?_⟩;try simp only[ζ]
 refine mC 3 (bs 6 15) (Mm q _ hq) ?_;rintro e B7 ⟨rfl,hx⟩;have B3:=zH (B4.1.step hx);have B2:=zH (A3.1.step hx);clear hx;refine⟨_,rfl,B2.1,?_⟩;try simp only[ζ]
 refine Dm (i:=4) (listed':=(bs 6 31)) rR kR rR kR _ _ _ rR B3.1 (ix:=0) rR 0 [iV p.1,iV p.2] rR rR (by simp) kR (by simp[Value.oneCell']) (by simp[Ar]) ?_;intro A7 hh hd ho;have A5:=hN hh;have B1:=zH (show(fun x_=>Hp w x_ [.blk X1 24 [iV p.1,iV p.2],.blk X6 24 [iV q.1,iV q.2],.blk A1 24 [iV 0,iV 0]]) A7 from A5.1);clear hh hd ho;refine⟨B1.1,?_⟩
 (try simp only[Act.put])
 refine Dm (i:=5) (listed':=(bs 6 63)) rR kR rR kR _ _ _ rR A5.1 (ix:=1) rR 0 [iV q.1,iV q.2] rR rR (by simp) kR (by simp[Value.oneCell']) (by simp[Ar]) ?_;intro A6 hh hd ho;have A2:=hN hh;have B0:=zH (show(fun x_=>Hp w x_ [.blk X1 24 [iV p.1,iV p.2],.blk X6 24 [iV q.1,iV q.2],.blk A1 24 [iV 0,iV 0]]) A6 from A2.1);clear hh hd ho;refine⟨B0.1,?_⟩
 (try simp only[Act.put])
 refine wpAnyH_done kR ?_ _;go_upto_region 2 with fail;apply wl;refine Ek A2.1 _ _ _ _ ?_;apply zp (iV (p.1-q.1)) (by exact Nx ω);refine Ek A2.1 _ _ _ _ ?_;apply zp (iV (p.2-q.2)) (by exact Nx ω);apply zq (.agg #[iV (p.1-q.1),iV (p.2-q.2)]);apply Ca 2 [iV (p.1-q.1),iV (p.2-q.2)] A2.1;intro B6 A4 _;go_wp2_with fail;refine bodyPost_ret (v:= .agg #[iV (dv q p).1,iV (dv q p).2]) ?_ rfl ⟨rfl,A4.1.ext⟩;exact By rfl rfl ((A4.1.blk (i:=2) rR).loadVar rfl rfl rR)
theorem Ii (p q:Int×Int)(w:World)(hp:Dy p)(hq:Dy q):
  Calls prog 149 #[.agg #[iV p.1,iV p.2],.agg #[iV q.1,iV q.2]] w fun e w'=>e= .returned (.bool (Cu p q))/\Aa w w':=by
 have op:=Bg hp;have oq:=Bg hq;go_enter func149,ntmps149
 have H0:=zH (Hp.start w);go_upto_region 0 with fail;apply wl;apply Cd 24 [iV p.1,iV p.2] H0.1;intro A2 B8 B6 _;apply Cd 24 [iV q.1,iV q.2] B6.1;intro A1 A9 A3 _;apply zq φ;go_upto_region 1 with fail;refine wp_region_held_drew (S:=fun x=>(fun x_=>Hp w x_ [.blk A2 24 [iV p.1,iV p.2],.blk A1 24 [iV q.1,iV q.2]]) x) kR (A3.1.step zb) (fun _=> ?_);have B5:=zH (A3.1.step (Aa.refl A9).drew);refine mR 0 (bs 6 1) A2 (0) [iV p.1,iV p.2] (fun x hx=>hx.range (i:=0) rR 0 2) underlying24 (A3.1.step zb) ?_;refine zr 2 (bs 6 5) A1 (0) [iV q.1,iV q.2] (fun x hx=>hx.range (i:=1) rR 0 2) underlying24 (A3.1.step zb) ?_;refine mC 1 (bs 6 7) (Mm p _ hp) ?_;rintro e A8 ⟨rfl,hx⟩;have B4:=zH (B5.1.step hx);have A4:=zH (show(fun x_=>Hp w x_ [.blk A2 24 [iV p.1,iV p.2],.blk A1 24 [iV q.1,iV q.2]]) A8 from(A3.1.step zb).step hx);clear hx;refine⟨_,rfl,A4.1,?_⟩;try simp only[ζ]
 refine mC 3 (bs 6 15) (Mm q _ hq) ?_;rintro e B7 ⟨rfl,hx⟩;have B3:=zH (B4.1.step hx);have B2:=zH (A4.1.step hx);clear hx;refine⟨_,rfl,B2.1,?_⟩;try simp only[ζ]
 refine Dm (i:=4) (listed':=(bs 6 31)) rR kR rR kR _ _ _ rR B3.1 (ix:=0) rR 0 [iV p.1,iV p.2] rR rR (by simp) kR (by simp[Value.oneCell']) (by simp[Ar]) ?_;intro A7 hh hd ho;have A5:=hN hh;have B1:=zH (show(fun x_=>Hp w x_ [.blk A2 24 [iV p.1,iV p.2],.blk A1 24 [iV q.1,iV q.2]]) A7 from A5.1);clear hh hd ho;refine⟨B1.1,?_⟩
 (try simp only[Act.put])
 refine Dm (i:=5) (listed':=(bs 6 63)) rR kR rR kR _ _ _ rR A5.1 (ix:=1) rR 0 [iV q.1,iV q.2] rR rR (by simp) kR (by simp[Value.oneCell']) (by simp[Ar]) ?_;intro A6 hh hd ho;have A0:=hN hh;have B0:=zH (show(fun x_=>Hp w x_ [.blk A2 24 [iV p.1,iV p.2],.blk A1 24 [iV q.1,iV q.2]]) A6 from A0.1);clear hh hd ho;refine⟨B0.1,?_⟩
 (try simp only[Act.put])
 refine wpAnyH_done kR ?_ _;rcases Ck (p.2<q.2)with C1|C1
 ·go_upto_region 2 with fail
  apply wl;refine Ek A0.1 _ _ _ _ ?_;apply zp τ (by exact Dp (e:=(Aq C1.1)));refine Hz Af τ _ _ _ _ _ _ _ ?_;refine dQ Af _ _ _ _ _ τ τ ?_;go_wp2_with fail;go_ret;exact⟨by rw[show Cu p q=true from by unfold Cu;simp[C1.1]];rfl,A0.1.ext⟩
 rcases Ck (p.2=q.2)with C2|C2
 ·rcases Ck (p.1<q.1)with C3|C3
  ·go_upto_region 2 with fail
   apply wl;refine Ek A0.1 _ _ _ _ ?_;apply zp φ (by exact Dp (e:=(Aj C1.1)));refine Ql A0.1 φ _ _ _ _ ?_;apply zp τ (by exact Kf (e:=(Aq C2.1)));refine Ql A0.1 τ _ _ _ _ ?_;apply zp τ (by exact Dp (e:=(Aq C3.1)));refine Cn Af τ τ τ ?_;go_wp2_with fail;go_ret;exact⟨by rw[show Cu p q=true from by unfold Cu;simp[C2.1,C3.1]];rfl,A0.1.ext⟩
  go_upto_region 2 with fail;apply wl;refine Ek A0.1 _ _ _ _ ?_;apply zp φ (by exact Dp (e:=(Aj C1.1)));refine Ql A0.1 φ _ _ _ _ ?_;apply zp τ (by exact Kf (e:=(Aq C2.1)));refine Ql A0.1 τ _ _ _ _ ?_;apply zp φ (by exact Dp (e:=(Aj C3.1)));refine Cn Af φ φ φ ?_;go_wp2_with fail;go_ret;exact⟨by rw[show Cu p q=false from by unfold Cu;simp[C2.1,C3.1]];rfl,A0.1.ext⟩
 go_upto_region 2 with fail;apply wl;refine Ek A0.1 _ _ _ _ ?_;apply zp φ (by exact Dp (e:=(Aj C1.1)));refine Ql A0.1 φ _ _ _ _ ?_;apply zp φ (by exact Kf (e:=(Aj C2.1)));refine Hz Af φ _ _ _ _ _ φ φ ?_;apply zq φ;go_wp2_with fail;go_ret;exact⟨by rw[show Cu p q=false from by unfold Cu;simp[C1.1,C2.1]];rfl,A0.1.ext⟩
theorem Gq (u v:Int×Int)(w:World)(hu:(-2097152<=u.1/\u.1<=2097152)/\(-2097152<=u.2/\u.2<=2097152))(hv:(-2097152<=v.1/\v.1<=2097152)/\(-2097152<=v.2/\v.2<=2097152)):
  Calls prog 107 #[.agg #[iV u.1,iV u.2],.agg #[iV v.1,iV v.2]] w fun e w'=>e= .returned (iV (cr u v))/\Aa w w':=by
 have m1:=Nq hu.1 hv.2;have m2:=Nq hu.2 hv.1;go_enter func107,ntmps107
 have H0:=zH (Hp.start w);go_upto_region 0 with fail;apply wl;apply Cd 24 [iV u.1,iV u.2] H0.1;intro A5 A3 A1 _;apply Cd 24 [iV v.1,iV v.2] A1.1;intro A4 A2 A0 _;apply zq (iV 0);go_upto_region 1 with fail;apply wl;refine Ek A0.1 _ _ _ _ ?_;apply zp (iV (u.1*v.2)) (by exact mH ω);refine Ek A0.1 _ _ _ _ ?_;apply zp (iV (u.2*v.1)) (by exact mH ω);apply zp (iV ((u.1*v.2)-(u.2*v.1))) (by exact Nx ω);apply zq (iV ((u.1*v.2)-(u.2*v.1)));go_wp2_with fail;go_ret;exact⟨rfl,A0.1.ext⟩
theorem aW (a b:Int×Int)(w:World)(ha:Dy a)(hb:Dy b):
  Calls prog 148 #[.agg #[iV a.1,iV a.2],.agg #[iV b.1,iV b.2]] w fun e w'=>e= .returned (.tuple #[.agg #[iV (Cz a b).1,iV (Cz a b).2],.agg #[iV (Cj a b).1,iV (Cj a b).2]])/\Aa w w':=by
 go_enter func148,ntmps148;have H0:=zH (Hp.start w);go_upto_region 0 with fail;apply wl;apply Cd 24 [iV a.1,iV a.2] H0.1;intro A7 C9 C3 _;apply Cd 24 [iV b.1,iV b.2] C3.1;intro A6 C8 C2 _;apply Cd 24 [iV 0,iV 0] C2.1;intro A5 C7 C1 _;apply Cd 24 [iV 0,iV 0] C1.1;intro A4 C6 A8 _;rcases Ck (Cu b a=true)with CL|CL
 ·go_upto_region 1 with fail
  apply wl;refine Bq A8.1 _ _ ?_;refine zc (Ii b a _ hb ha) ?_;rintro e A3 ⟨rfl,hx⟩;have A1:=zH (A8.1.step hx);clear hx;refine⟨.bool true,by rw[CL.1],?_⟩;try simp only[ζ]
  go_upto_region 2 with fail;refine wp_region_held_drew (S:=fun x=>Fr (fun kz=>kz=A5\/kz=A4) A3 x) kR (Fr.of_ext zb) (fun _=> ?_);have C0:=zH (A1.1.step (Aa.refl A3).drew);refine mR 0 (bs 4 1) A6 (0) [iV b.1,iV b.2] (fun x hx=>Fr.range hx (show World.rangeAt A3 A6 (0) [iV b.1,iV b.2]from(A1.1.range (i:=1) rR 0 2)) (fun hk=>hk.elim (A1.1.offBlk (i:=1) (j:=2) rR rR dC rR) (A1.1.offBlk (i:=1) (j:=3) rR rR dC rR))) underlying24 (Fr.of_ext zb) ?_;refine zr 1 (bs 4 3) A7 (0) [iV a.1,iV a.2] (fun x hx=>Fr.range hx (show World.rangeAt A3 A7 (0) [iV a.1,iV a.2]from(A1.1.range (i:=0) rR 0 2)) (fun hk=>hk.elim (A1.1.offBlk (i:=0) (j:=2) rR rR dC rR) (A1.1.offBlk (i:=0) (j:=3) rR rR dC rR))) underlying24 (Fr.of_ext zb) ?_;refine Dm (i:=2) (listed':=(bs 4 7)) rR kR rR kR _ _ _ rR C0.1 (ix:=2) rR 0 [iV b.1,iV b.2] rR rR (by simp) kR (by simp[Value.oneCell']) (by simp[Ar]) ?_;intro B4 hh hd ho;have B9:=hN hh;have B2:=zH (show Fr (fun kz=>kz=A5\/kz=A4) A3 B4 from Fr.trans_new (Fr.of_ext zb) ho (fun j hj=> .inl (.inl (by injection hj with hj;exact hj.symm))));clear hh hd ho;refine⟨B2.1,?_⟩
  (try simp only[Act.put])
  refine Dm (i:=3) (listed':=(bs 4 15)) rR kR rR kR _ _ _ rR B9.1 (ix:=3) rR 0 [iV a.1,iV a.2] rR rR (by simp) kR (by simp[Value.oneCell']) (by simp[Ar]) ?_;intro C5 hh hd ho;have B0:=hN hh;have B6:=zH (Fr.trans_new B2.1 ho (fun j hj=> .inl (.inr (by injection hj with hj;exact hj.symm))));clear hh hd ho;refine⟨B6.1,?_⟩
  (try simp only[Act.put])
  refine wpAnyH_done kR ?_ _;go_wp2_with fail;refine bodyPost_ret (v:= .tuple #[.agg #[iV b.1,iV b.2],.agg #[iV a.1,iV a.2]]) ?_ rfl ⟨by unfold Cz Cj;rw[if_pos CL.1,if_pos CL.1],B0.1.ext⟩;exact Na rfl rfl rfl ((B0.1.blk (i:=2) rR).loadVar rfl rfl rR) ((B0.1.blk (i:=3) rR).loadVar rfl rfl rR)
 go_upto_region 1 with fail;apply wl;refine Bq A8.1 _ _ ?_;refine zc (Ii b a _ hb ha) ?_;rintro e A2 ⟨rfl,hx⟩;have A0:=zH (A8.1.step hx);clear hx;refine⟨.bool false,by rw[Bool.eq_false_iff.2 CL.1],?_⟩;try simp only[ζ]
 go_upto_region 3 with fail;refine wp_region_held_drew (S:=fun x=>Fr (fun kz=>kz=A5\/kz=A4) A2 x) kR (Fr.of_ext zb) (fun _=> ?_);have B8:=zH (A0.1.step (Aa.refl A2).drew);refine mR 0 (bs 4 1) A7 (0) [iV a.1,iV a.2] (fun x hx=>Fr.range hx (show World.rangeAt A2 A7 (0) [iV a.1,iV a.2]from(A0.1.range (i:=0) rR 0 2)) (fun hk=>hk.elim (A0.1.offBlk (i:=0) (j:=2) rR rR dC rR) (A0.1.offBlk (i:=0) (j:=3) rR rR dC rR))) underlying24 (Fr.of_ext zb) ?_;refine zr 1 (bs 4 3) A6 (0) [iV b.1,iV b.2] (fun x hx=>Fr.range hx (show World.rangeAt A2 A6 (0) [iV b.1,iV b.2]from(A0.1.range (i:=1) rR 0 2)) (fun hk=>hk.elim (A0.1.offBlk (i:=1) (j:=2) rR rR dC rR) (A0.1.offBlk (i:=1) (j:=3) rR rR dC rR))) underlying24 (Fr.of_ext zb) ?_;refine Dm (i:=2) (listed':=(bs 4 7)) rR kR rR kR _ _ _ rR B8.1 (ix:=2) rR 0 [iV a.1,iV a.2] rR rR (by simp) kR (by simp[Value.oneCell']) (by simp[Ar]) ?_;intro B3 hh hd ho;have B7:=hN hh;have B1:=zH (show Fr (fun kz=>kz=A5\/kz=A4) A2 B3 from Fr.trans_new (Fr.of_ext zb) ho (fun j hj=> .inl (.inl (by injection hj with hj;exact hj.symm))));clear hh hd ho;refine⟨B1.1,?_⟩
 (try simp only[Act.put])
 refine Dm (i:=3) (listed':=(bs 4 15)) rR kR rR kR _ _ _ rR B7.1 (ix:=3) rR 0 [iV b.1,iV b.2] rR rR (by simp) kR (by simp[Value.oneCell']) (by simp[Ar]) ?_;intro C4 hh hd ho;have A9:=hN hh;have B5:=zH (Fr.trans_new B1.1 ho (fun j hj=> .inl (.inr (by injection hj with hj;exact hj.symm))));clear hh hd ho;refine⟨B5.1,?_⟩
 (try simp only[Act.put])
 refine wpAnyH_done kR ?_ _;go_wp2_with fail;refine bodyPost_ret (v:= .tuple #[.agg #[iV a.1,iV a.2],.agg #[iV b.1,iV b.2]]) ?_ rfl ⟨by unfold Cz Cj;rw[if_neg CL.1,if_neg CL.1],A9.1.ext⟩;exact Na rfl rfl rfl ((A9.1.blk (i:=2) rR).loadVar rfl rfl rR) ((A9.1.blk (i:=3) rR).loadVar rfl rfl rR)
theorem Sg (a b c d:Int×Int)(w:World)(ha:Dy a)(hb:Dy b)(hc:Dy c)(hd:Dy d):
  Calls prog 108 #[.agg #[iV a.1,iV a.2],.agg #[iV b.1,iV b.2],.agg #[iV c.1,iV c.2],.agg #[iV d.1,iV d.2]] w fun e w'=>e= .returned (.tuple #[.agg #[iV (Ai a b c d).1.1,iV (Ai a b c d).1.2],iV (Ai a b c d).2])/\Aa w w':=by
 go_enter func108,ntmps108;have H0:=zH (Hp.start w);go_upto_region 0 with fail;apply wl;apply Cd 24 [iV a.1,iV a.2] H0.1;intro X1 w2 H3 _;apply Cd 24 [iV b.1,iV b.2] H3.1;intro X6 w7 H8 _;apply Cd 24 [iV c.1,iV c.2] H8.1;intro A9 E8 C8 _;apply Cd 24 [iV d.1,iV d.2] C8.1;intro A4 E7 C7 _;apply Cd 24 [iV 0,iV 0] C7.1;intro A8 E6 B5 _;apply zq (iV 0);go_upto_region 1 with fail;apply wl;refine Bq B5.1 _ _ ?_;refine aC B5.1 (aW a b _ ha hb) ?_;intro E5 C6 _;refine Cn Af _ _ _ ?_;apply Ca 0 [iV ((Cz a b).1),iV ((Cz a b).2)] C6.1;intro E4 C5 _;apply Ca 1 [iV ((Cj a b).1),iV ((Cj a b).2)] C5.1;intro E3 B4 _;go_upto_region 2 with fail;apply wl;refine Bq B4.1 _ _ ?_;refine aC B4.1 (aW c d _ hc hd) ?_;intro E2 C2 _;refine Cn Af _ _ _ ?_;apply Ca 2 [iV ((Cz c d).1),iV ((Cz c d).2)] C2.1;intro E1 C1 _;apply Ca 3 [iV ((Cj c d).1),iV ((Cj c d).2)] C1.1;intro E0 B3 _;go_upto_region 3 with fail;apply wl;refine Bq B3.1 _ _ ?_;refine aC B3.1 (Ii (Cz a b) (Cz c d) _ (tW ha hb) (tW hc hd)) ?_;intro B7 A7 _;go_upto_if 24 with fail
 go_cut [] (fun wx=>Hp w wx [.blk X1 24 [iV ((Hi a b c d).1),iV ((Hi a b c d).2)],.blk X6 24 [iV ((Cj a b).1),iV ((Cj a b).2)],.blk A9 24 [iV ((Cz c d).1),iV ((Cz c d).2)],.blk A4 24 [iV ((Cj c d).1),iV ((Cj c d).2)],.blk A8 24 [iV 0,iV 0]]/\Ah B7 wx)
 case first=>
  by_cases cj:Cu (Cz a b) (Cz c d)=true
  ·rw[cj]
   go_upto_region 4 with fail;apply wl;refine Cy A7.1 _ ?_;apply Ca 0 [iV ((Cz c d).1),iV ((Cz c d).2)] A7.1;intro D9 C0 D0;go_wp2_with fail;go_meet
   exact⟨(by rw[show Hi a b c d=Cz c d from if_pos cj];exact C0.1),D0.1⟩
  rw[Bool.eq_false_iff.2 cj];go_wp2_with fail;go_meet
  exact⟨(by rw[show Hi a b c d=Cz a b from if_neg cj];exact A7.1),(Ah.refl _)⟩
 obtain⟨A2,A3⟩:=hcut;generalize wc=D8 at*;have A6:=zH A2;have F0:=zH A3;clear A2 A3;go_upto_region 5 with fail
 apply wl;refine zd A4 (0) [iV ((Cj c d).1),iV ((Cj c d).2)] (A6.1.range (i:=3) rR 0 2) underlying24 ?_;refine zd X6 (0) [iV ((Cj a b).1),iV ((Cj a b).2)] (A6.1.range (i:=1) rR 0 2) underlying24 ?_;refine aC A6.1 (Ii (Cj c d) (Cj a b) _ (tX hc hd) (tX ha hb)) ?_;intro B6 A5 _;go_upto_if 28 with fail
 go_cut [] (fun wx=>Hp w wx [.blk X1 24 [iV ((Hi a b c d).1),iV ((Hi a b c d).2)],.blk X6 24 [iV ((Jw a b c d).1),iV ((Jw a b c d).2)],.blk A9 24 [iV ((Cz c d).1),iV ((Cz c d).2)],.blk A4 24 [iV ((Cj c d).1),iV ((Cj c d).2)],.blk A8 24 [iV 0,iV 0]]/\Ah B6 wx)
 case first=>
  by_cases cj:Cu (Cj c d) (Cj a b)=true
  ·rw[cj]
   go_upto_region 6 with fail;apply wl;refine zd A4 (0) [iV ((Cj c d).1),iV ((Cj c d).2)] (A5.1.range (i:=3) rR 0 2) underlying24 ?_;apply Ca 1 [iV ((Cj c d).1),iV ((Cj c d).2)] A5.1;intro D7 B9 C9;go_wp2_with fail;go_meet
   exact⟨(by rw[show Jw a b c d=Cj c d from if_pos cj];exact B9.1),C9.1⟩
  rw[Bool.eq_false_iff.2 cj];go_wp2_with fail;go_meet
  exact⟨(by rw[show Jw a b c d=Cj a b from if_neg cj];exact A5.1),(Ah.refl _)⟩
 obtain⟨A2,A3⟩:=hcut;generalize wc=D6 at*;have A1:=zH A2;have E9:=zH A3;clear A2 A3;rcases Ck (Cu (Jw a b c d) (Hi a b c d)=true)with C3|C3
 ·go_upto_region 7 with fail
  apply wl;refine zd X6 (0) [iV ((Jw a b c d).1),iV ((Jw a b c d).2)] (A1.1.range (i:=1) rR 0 2) underlying24 ?_;refine zd X1 (0) [iV ((Hi a b c d).1),iV ((Hi a b c d).2)] (A1.1.range (i:=0) rR 0 2) underlying24 ?_;refine zc (Ii (Jw a b c d) (Hi a b c d) _ (oU ha hb hc hd) (iD ha hb hc hd)) ?_;rintro e D5 ⟨rfl,hx⟩;have B8:=zH (A1.1.step hx);clear hx;refine⟨.bool true,by rw[C3.1],?_⟩;try simp only[ζ]
  apply zq τ;go_upto_region 8 with fail;apply wl;refine Cy Af _ ?_;apply Ca 4 [iV 0,iV 0] B8.1;intro D4 B2 _;apply zq (iV 0);go_wp2_with fail;refine bodyPost_ret (v:= .tuple #[.agg #[iV 0,iV 0],iV 0]) ?_ rfl ⟨by rw[show Ai a b c d=((0,0),0)from by unfold Ai;exact if_pos C3.1],B2.1.ext⟩;exact Ad rfl rfl ((B2.1.blk (i:=4) rR).loadVar rfl rfl rR) rfl
 go_upto_region 7 with fail;apply wl;refine zd X6 (0) [iV ((Jw a b c d).1),iV ((Jw a b c d).2)] (A1.1.range (i:=1) rR 0 2) underlying24 ?_;refine zd X1 (0) [iV ((Hi a b c d).1),iV ((Hi a b c d).2)] (A1.1.range (i:=0) rR 0 2) underlying24 ?_;refine zc (Ii (Jw a b c d) (Hi a b c d) _ (oU ha hb hc hd) (iD ha hb hc hd)) ?_;rintro e D3 ⟨rfl,hx⟩;have A0:=zH (A1.1.step hx);clear hx;refine⟨.bool false,by rw[Bool.eq_false_iff.2 C3.1],?_⟩;try simp only[ζ]
 apply zq φ;rcases Ck (Hi a b c d=Jw a b c d)with C4|C4
 ·go_upto_region 9 with fail
  apply wl;refine zd X1 (0) [iV ((Hi a b c d).1),iV ((Hi a b c d).2)] (A0.1.range (i:=0) rR 0 2) underlying24 ?_;refine zd X6 (0) [iV ((Jw a b c d).1),iV ((Jw a b c d).2)] (A0.1.range (i:=1) rR 0 2) underlying24 ?_;apply zp τ (by exact Ec rR rR rR (Gt.2 C4.1));apply zq τ;go_upto_region 10 with fail;apply wl;refine zd X1 (0) [iV ((Hi a b c d).1),iV ((Hi a b c d).2)] (A0.1.range (i:=0) rR 0 2) underlying24 ?_;apply Ca 4 [iV ((Hi a b c d).1),iV ((Hi a b c d).2)] A0.1;intro D2 B1 _;apply zq (iV 1);go_wp2_with fail;refine bodyPost_ret (v:= .tuple #[.agg #[iV (Hi a b c d).1,iV (Hi a b c d).2],iV 1]) ?_ rfl ⟨by rw[show Ai a b c d=(Hi a b c d,1)from by unfold Ai;rw[if_neg C3.1];exact if_pos C4.1],B1.1.ext⟩;exact Ad rfl rfl ((B1.1.blk (i:=4) rR).loadVar rfl rfl rR) rfl
 go_upto_region 9 with fail;apply wl;refine zd X1 (0) [iV ((Hi a b c d).1),iV ((Hi a b c d).2)] (A0.1.range (i:=0) rR 0 2) underlying24 ?_;refine zd X6 (0) [iV ((Jw a b c d).1),iV ((Jw a b c d).2)] (A0.1.range (i:=1) rR 0 2) underlying24 ?_;apply zp φ (by exact Ec rR rR rR (Bool.eq_false_iff.2 (fun h_=>C4.1 (Gt.1 h_))));apply zq φ;go_upto_region 11 with fail;apply wl;refine Cy Af _ ?_;apply Ca 4 [iV 0,iV 0] A0.1;intro D1 B0 _;apply zq (iV 2);go_wp2_with fail;refine bodyPost_ret (v:= .tuple #[.agg #[iV 0,iV 0],iV 2]) ?_ rfl ⟨by rw[show Ai a b c d=((0,0),2)from by unfold Ai;rw[if_neg C3.1];exact if_neg C4.1],B0.1.ext⟩;exact Ad rfl rfl ((B0.1.blk (i:=4) rR).loadVar rfl rfl rR) rfl
theorem Ln (a b:Int)(w:World)(h1: -9223372036854775808<=a)(h2:a<=9223372036854775807)(h3: -9223372036854775808<=b)(h4:b<=9223372036854775807)(hb:b≠0):
    Calls prog 17 #[iV a,iV b] w fun e w'=>∃c,e= .returned (.tuple #[.agg c,iV 0])/\Mt w' c ((a:Rat)/(b:Rat))/\Aa w w':=by
  refine(Lm a b w h1 h2 h3 h4 hb).mono fun e w' h=> ?_
  obtain⟨c,rfl,h3,h4⟩:=Kj.v h;exact⟨_,rfl,⟨c,rfl,by rw[<-Rat.divInt_eq_div];exact h3⟩,h4⟩
theorem fO (ax ay bx bY:Int)(y:Rat):(ax:Rat)+(((bx-ax:Int):Rat)/((bY-ay:Int):Rat))*(y-(ay:Rat))=Ia ax ay bx bY y:=by
  unfold Ia;rw[Rat.div_def,Rat.div_def,show((1:Int):Rat)=1 from rfl];grind
theorem sA {ax ay bx bY:Int}(ha:Cm ax ay=true)(hb:Cm bx bY=true):Nm.rl (((bx-ax:Int):Rat)/((bY-ay:Int):Rat))<=2:=by
  unfold Cm at ha hb;simp only[xA,decide_eq_true_eq]at ha hb;have q:=Nm.rl_div ((bx-ax:Int):Rat) ((bY-ay:Int):Rat);have e3:=oK (bY-ay) ω;have e4:=oK (bx-ax) ω;omega
theorem kJ (L:Nat)(ax ay bx bY:Int)(ry:RV)(y:Rat)(w:World)(hy:ry.In L w y)(h1L:1<=L)(hL:L<=2000)(ha:Cm ax ay=true)(hb:Cm bx bY=true)(hne:ay≠bY)(hlo:((min ay bY:Int):Rat)<=y)(hhi:y<=((max ay bY:Int):Rat)):
  Calls prog 156 #[.agg #[iV ax,iV ay],.agg #[iV bx,iV bY],(rg ry)] w fun e w'=>∃r:RV,e= .returned (.tuple #[(rg r),.bool true])/\r.Is w' (Ia ax ay bx bY y)/\Aa w w':=by
 have HK:=zH (show(-1048576<=ax/\ax<=1048576/\ -1048576<=ay/\ay<=1048576)/\(-1048576<=bx/\bx<=1048576/\ -1048576<=bY/\bY<=1048576)by have h1:=ha;have h2:=hb;unfold Cm at h1 h2;simp only[xA,decide_eq_true_eq]at h1 h2;omega);have RY:=zH hy;have HA:=zH ha;have HB:=zH hb;have A1:=zH hne;have G2:=zH hlo;have G3:=zH hhi;clear hy ha hb hne hlo hhi;go_enter func156,ntmps156
 have H0:=zH (Hp.start w);go_upto_region 0 with fail;apply wl;apply Cd 24 [iV ax,iV ay] H0.1;intro X1 w2 H3 _;apply Cd 24 [iV bx,iV bY] H3.1;intro X6 w7 H8 _;apply Cd 31 (rc ry) H8.1;intro E3 J1 H4 _;refine Cd 31 rz H4.1 ?_;intro E2 E9 A9 _;apply zq φ;go_upto_region 1 with fail;refine zy ?_;have H2:=zH (A9.1.step (Aa.refl E9).drew);refine Rt A9.1 zb (bs 37 1) 0 _ ?_;refine mC 1 (bs 37 3) (Bj ax ay _) ?_;rintro e J0 ⟨rfl,hx⟩;have H1:=zH (H2.1.step hx);have C8:=zH (zb.trans hx);clear hx;refine⟨.bool true,by rw[HA.1],C8.1,?_⟩;try simp only[ζ]
 refine Rg A9.1 C8.1 (bs 37 31) 2 3 4 φ φ _ ?_;refine mC 5 (bs 37 63) (Bj bx bY _) ?_;rintro e I9 ⟨rfl,hx⟩;have G9:=zH (H1.1.step hx);have B0:=zH (C8.1.trans hx);clear hx;refine⟨.bool true,by rw[HB.1],B0.1,?_⟩;try simp only[ζ]
 refine vN A9.1 B0.1 (bs 37 8191) 6 7 8 9 10 11 12 φ φ φ _ _ _ _ ?_;refine zu 13 (bs 37 16383) (v:= .bool false) B0.1 ?_ (hv:=by intro w E0;exact Kf (e:=(Aj A1.1)));refine qS A9.1 B0.1 (bs 37 4194303) 14 15 16 17 18 19 20 21 φ φ _ _ _ _ _ (iV (min ay bY)) ?_;refine mC 22 (bs 37 8388607) (Cw (min ay bY) _ (by have A4:=HK.1;have A3:=A1.1;omega) (by have A4:=HK.1;have A3:=A1.1;omega)) ?_;rintro e I8 ⟨c_,rfl,A6,hx⟩;have E7:=zH (G9.1.step hx);have E5:=zH (B0.1.trans hx);obtain⟨J4,rfl,A2⟩:=A6;have G1:=zH A2;have I2:=zH (Bm (min ay bY) (by have A4:=HK.1;have A3:=A1.1;omega) (by have A4:=HK.1;have A3:=A1.1;omega));clear A2 hx;apply zm E5.1;refine mC 23 (bs 37 16777215) (Gg (L:=60000) (RV.In.nin (RV.In.mono (RY.1.dig E7.1.dig0) ω)) (RV.Is.nin G1.1 (Aw I2.1 ω)) ω) ?_;rintro e I7 ⟨rfl,hx⟩;have G8:=zH (E7.1.step hx);have C6:=zH (E5.1.trans hx);clear hx;apply zm C6.1;refine zu 24 (bs 37 33554431) (v:= .bool false) C6.1 ?_ (hv:=by intro w E0;exact Dp (e:=(Aj (fun hh=>(fun h_=>absurd h_ (Rat.not_lt.2 G2.1)) (rcmp_lt.1 hh)))));refine qS A9.1 C6.1 (bs 37 8589934591) 25 26 27 28 29 30 31 32 φ φ _ _ _ _ _ (iV (max ay bY)) ?_;refine mC 33 (bs 37 17179869183) (Cw (max ay bY) _ (by have A4:=HK.1;have A3:=A1.1;omega) (by have A4:=HK.1;have A3:=A1.1;omega)) ?_;rintro e I6 ⟨c_,rfl,A6,hx⟩;have E6:=zH (G8.1.step hx);have E4:=zH (C6.1.trans hx);obtain⟨J3,rfl,A2⟩:=A6;have G0:=zH A2;have I1:=zH (Bm (max ay bY) (by have A4:=HK.1;have A3:=A1.1;omega) (by have A4:=HK.1;have A3:=A1.1;omega));clear A2 hx;apply zm E4.1;refine mC 34 (bs 37 34359738367) (Gg (L:=60000) (RV.In.nin (RV.In.mono (RY.1.dig E6.1.dig0) ω)) (RV.Is.nin G0.1 (Aw I1.1 ω)) ω) ?_;rintro e I5 ⟨rfl,hx⟩;have D3:=zH (E6.1.step hx);have C7:=zH (E4.1.trans hx);clear hx;apply zm C7.1;refine zu 35 (bs 37 68719476735) (v:= .bool false) C7.1 ?_ (hv:=by intro w E0;exact Ph (e:=(Aj (fun hh=>(fun h_=>absurd h_ (Rat.not_lt.2 G3.1)) (If.1 hh)))));refine zx 36 (bs 37 137438953471) φ C7.1 ?_;refine wpAnyH_done kR ?_ _;go_upto_region 3 with fail
 apply wl;refine Ek D3.1 _ _ _ _ ?_;apply zp (iV (bx-ax)) (by exact Nx (by have A4:=HK.1;have A3:=A1.1;omega));refine Ek D3.1 _ _ _ _ ?_;apply zp (iV (bY-ay)) (by exact Nx (by have A4:=HK.1;have A3:=A1.1;omega));refine zc (Ln (bx-ax) (bY-ay) _ (by have A4:=HK.1;have A3:=A1.1;omega) (by have A4:=HK.1;have A3:=A1.1;omega) (by have A4:=HK.1;have A3:=A1.1;omega) (by have A4:=HK.1;have A3:=A1.1;omega) (by have A4:=HK.1;have A3:=A1.1;omega)) ?_;rintro e I4 ⟨c_,rfl,A6,hx⟩;have G7:=zH (D3.1.step hx);obtain⟨A5,rfl,A2⟩:=A6;have F9:=zH A2;have E8:=zH (sA HA.1 HB.1);clear A2 hx;refine zn ?_;refine Cn Af _ _ _ ?_;refine Cd 31 rz G7.1 ?_;intro E1 I3 G6 H9;apply Ca 4 (rc A5) G6.1;intro A7 A8 H7;apply zq (iV 0);go_upto_region 4 with fail
 refine wp_region_held_drew (S:=fun x=>Fr (fun kz=>kz=E2) A7 x) kR (Fr.of_ext zb) (fun _=> ?_);have G5:=zH (A8.1.step (Aa.refl A7).drew);have H6:=zH (Ah.of_ext (w:=A7) zb);refine zx 0 (bs 13 1) (.pointer (π X1)) (Fr.of_ext zb) ?_;refine Cr (g:=X1) (o:=0) (v:= iV ax) (i:=1) (listed':=(bs 13 3)) rR kR kR kR (by intro _ _ _ h;exact h) rR (fun x hx=>Fr.cell hx (show World.cell? A7 ⟨X1,0,none⟩=some (iV ax)from At (A8.1.range (i:=0) rR 0 1)) (A8.1.offBlk (i:=0) (j:=3) rR rR dC rR)) (by intro x hq;go_simp<;>with_reducible rfl) (Fr.of_ext zb) kR ?_;refine mR 3 (bs 13 11) E1 (0) (rc A5) (fun x hx=>Fr.range hx (show World.rangeAt A7 E1 (0) (rc A5)from(A8.1.range (i:=4) rR 0 4)) (A8.1.offBlk (i:=4) (j:=3) rR rR dC rR)) underlying31 (Fr.of_ext zb) ?_;refine zr 4 (bs 13 27) E3 (0) (rc ry) (fun x hx=>Fr.range hx (show World.rangeAt A7 E3 (0) (rc ry)from(A8.1.range (i:=2) rR 0 4)) (A8.1.offBlk (i:=2) (j:=3) rR rR dC rR)) underlying31 (Fr.of_ext zb) ?_;refine zx 5 (bs 13 59) (.pointer (some ⟨X1,1,none⟩)) (Fr.of_ext zb) ?_;refine Cr (g:=X1) (o:=1) (v:= iV ay) (i:=6) (listed':=(bs 13 123)) rR kR kR kR (by intro _ _ _ h;exact h) rR (fun x hx=>Fr.cell hx (show World.cell? A7 ⟨X1,1,none⟩=some (iV ay)from At (A8.1.range (i:=0) rR 1 1)) (A8.1.offBlk (i:=0) (j:=3) rR rR dC rR)) (by intro x hq;go_simp<;>with_reducible rfl) (Fr.of_ext zb) kR ?_;try simp only[ζ]
 refine mC 2 (bs 13 127) (Cw ax _ (by have A4:=HK.1;have A3:=A1.1;omega) (by have A4:=HK.1;have A3:=A1.1;omega)) ?_;rintro e D9 ⟨c_,rfl,A6,hx⟩;have G4:=zH (G5.1.step hx);have H5:=zH (show Ah A7.drew D9 from Ah.of_ext hx);have B6:=zH (show Fr (fun kz=>kz=E2) A7 D9 from(Fr.of_ext zb).trans (Fr.of_ext hx));obtain⟨J2,rfl,A2⟩:=A6;have F8:=zH A2;have I0:=zH (Bm ax (by have A4:=HK.1;have A3:=A1.1;omega) (by have A4:=HK.1;have A3:=A1.1;omega));clear A2 hx;apply zm B6.1;refine mC 7 (bs 13 255) (Cw ay _ (by have A4:=HK.1;have A3:=A1.1;omega) (by have A4:=HK.1;have A3:=A1.1;omega)) ?_;rintro e F4 ⟨c_,rfl,A6,hx⟩;have B9:=zH (G4.1.step hx);have C3:=zH (Ah.of_ext hx);have B5:=zH (B6.1.trans (Fr.of_ext hx));obtain⟨F7,rfl,A2⟩:=A6;have D2:=zH A2;have C5:=zH (Bm ay (by have A4:=HK.1;have A3:=A1.1;omega) (by have A4:=HK.1;have A3:=A1.1;omega));clear A2 hx;apply zm B5.1;refine mC 8 (bs 13 511) (cM (L:=60000) (RV.In.nin (RV.In.mono (RY.1.dig B9.1.dig0) ω)) (RV.Is.nin D2.1 (Aw C5.1 ω)) ω) ?_;rintro e F3 ⟨c_,rfl,A6,hx⟩;have B8:=zH (B9.1.step hx);have C2:=zH (Ah.of_ext hx);have B4:=zH (B5.1.trans (Fr.of_ext hx));obtain⟨F6,rfl,A2⟩:=A6;have D1:=zH A2;clear A2;have C4:=zH (show Nm.rl (y-(((ay):Int):Rat))<=L+2+1 from by have h1:=(show Nm.rl y<=L from by have h:=(RY.1.dig B8.1.dig0).rl;omega);have h2:=C5.1;have h3:=Nm.rl_sub y (((ay):Int):Rat);omega);clear hx;apply zm B4.1;have C1:=tD (tD (tD (tD (tD H9 H7) H6) H5) C3) C2;refine mC 9 (bs 13 1023) (Xn (L:=60000) (RV.Is.nin (F9.1.dig C1.1) (Aw E8.1 ω)) (RV.Is.nin D1.1 (Aw C4.1 ω)) ω) ?_;rintro e F2 ⟨c_,rfl,A6,hx⟩;have D5:=zH (B8.1.step hx);have D7:=zH (Ah.of_ext hx);have B3:=zH (B4.1.trans (Fr.of_ext hx));obtain⟨F5,rfl,A2⟩:=A6;have D0:=zH A2;clear A2;have D8:=zH (show Nm.rl ((((bx-ax:Int):Rat)/((bY-ay:Int):Rat))*(y-(((ay):Int):Rat)))<=2+(L+2+1)from by have h1:=E8.1;have h2:=C4.1;have h3:=Nm.rl_mul (((bx-ax:Int):Rat)/((bY-ay:Int):Rat)) (y-(((ay):Int):Rat));omega);clear hx;apply zm B3.1;have C0:=tD (tD C3 C2) D7;refine mC 10 (bs 13 2047) (Nl (L:=60000) (RV.Is.nin (F8.1.dig C0.1) (Aw I0.1 ω)) (RV.Is.nin D0.1 (Aw D8.1 ω)) ω) ?_;rintro e F1 ⟨c_,rfl,A6,hx⟩;have D4:=zH (D5.1.step hx);have B2:=zH (B3.1.trans (Fr.of_ext hx));obtain⟨A0,rfl,A2⟩:=A6;have C9:=zH A2;clear A2 hx;apply zm B2.1;refine Dm (i:=11) (listed':=(bs 13 4095)) rR kR rR kR _ _ _ rR D4.1 (ix:=3) rR 0 (rc A0) rR rR (by simp) kR (by simp[Value.oneCell']) (by simp[Ar]) ?_;intro F0 hh hd ho;have B7:=hN hh;have D6:=zH (hd);have B1:=zH (Fr.trans_new B2.1 ho (fun j hj=> .inl (by simpa using hj.symm)));clear hh hd ho;refine⟨B1.1,?_⟩
 (try simp only[Act.put])
 refine zx 12 (bs 13 8191) τ B1.1 ?_;refine wpAnyH_done kR ?_ _;go_wp2_with fail;refine bodyPost_ret (v:= .tuple #[(rg A0),.bool true]) ?_ rfl ⟨_,rfl,by rw[<-fO];exact(C9.1.dig D6.1),B7.1.ext⟩;exact Ad rfl rfl ((B7.1.blk (i:=3) rR).loadVar rfl rfl rR) rfl
end
section
attribute [local go_sem ↓] Go.wp_at_zero Go.wp_at_succ Ea Dz Az Ay
theorem Uk (u:Value)(rs:List Bb)(w:World)(hu:Ch w u rs)(hv:Hh rs=true)(hn:rs.length<=1048576):
  Calls prog 102 #[u,.agg #[iV 0,iV 0]] w fun e w'=>∃v,e= .returned v/\Tr w.heap.size w' v rs/\Aa w w':=by
 have HT:=zH (Fc hv);have B7:∀r,r∈rs->r.length<=4096:=fun r hr=>by
  obtain⟨k,hk⟩:=List.mem_iff_getElem?.1 hr;have h1:=Fo hk;have h2:=Fe rs (k+1);have h3:=HT.1;omega
 have F8:=zH B7;have HV:=zH hv;have HC:=zH (fun W (hW:Aa w W)=>Du u rs W (hu.ext hW) hn (fun r hr=>Aw (B7 r hr) (by decide)));have HU:=zH hu;obtain⟨Au,cu,rfl,_⟩:=hu;obtain⟨i0,hi,A8,A7,A6⟩:=info_parts sU;have HI:=zH (And.intro hi (And.intro A8 (And.intro A7 A6)));clear hi A8 A7 A6 B7;obtain⟨i1,hi,A8,A7,A6⟩:=info_parts sT;have HJ:=zH (And.intro hi (And.intro A8 (And.intro A7 A6)));clear hi A8 A7 A6 hv;go_enter func102,ntmps102
 have hB:=Al.new w 24 #[iV 0,iV 0];have hE:Aa w (w.alloc (.cells #[iV 0,iV 0] 24)):=Ak.alloc _;go_upto_if 13 with(go_at_call 43;refine(HC.1 _ hE).mono ?_;rintro e w1 ⟨rfl,B6⟩)
 have F3:(!Hh rs)=false:=by rw[HV.1];rfl
 rw[F3];have E0:=zH (hE.trans B6);have C7:=zH (hB.ext B6);clear hB hE B6;generalize hX3:w.heap.size=X3 at C7⊢
 have G9:=zH hX3;clear hX3;go_wp2_with fail;go_loopg [5,16] rs.length (fun c v i wr=>∃(k:Nat) (v2:Value),k<=rs.length/\c=rs.length-k/\i= iV k/\v2=v/\Tr w.heap.size wr v2 (rs.take k)/\Aa w wr/\Al wr X3 24 #[iV 0,iV 0]/\v2.ownBlock≠some X3)
 case atStart=>exact⟨0,_,wM _,rfl,rfl,rfl,⟨[],Bi.nil _ _ _ _,rfl,fun i r h=>by simp at h⟩,E0.1,C7.1,by simp[Value.ownBlock]⟩
 clear E0 C7;obtain⟨k,v,hk,rfl,rfl,rfl,D2,hx,D9,D0⟩:=hrel;have C2:=zH D2;have HX:=zH hx;have HB:=zH D9;have E1:=zH D0;clear D2 hx D9 D0;by_cases hlt:k<rs.length
 ·have E8:(k:Int)<(rs.length:Int):=ω
  obtain⟨r,hr⟩:∃r,rs[k]?=some r:=⟨_,wC hlt⟩;have E7:∃g A5,Au=some ⟨g,A5,none⟩/\∃B cb,w.cell? ⟨g,A5+k,none⟩=some (.slice B r.length cb)/\Gs w (.slice B r.length cb) r:=by
   obtain⟨A2,c2,A4,h2⟩:=HU.1;injection A4 with e1 _ _
   obtain⟨g,A5,h3,h4⟩:=h2 ω;obtain⟨B,cb,h5,h6⟩:=h4 k r hr;exact⟨g,A5,e1.trans h3,B,cb,h5,h6⟩
  obtain⟨g,A5,rfl,B,cb,D7,D5⟩:=E7;have c1:=HX.1.get D7;have HP:=zH (D5.ext HX.1);have F9:=zH hr;have G5:=F8.1 r (wE hr);have C4:=zH hlt;have F6:=zH (show rs.take (k+1)=rs.take k++[r]by rw[wV hlt];congr 1;obtain⟨_,h⟩:=List.getElem?_eq_some_iff.1 hr;rw[h]);have D6:(rs.take k).length=k:=by rw[wK];omega
  have E3:=zH D6;clear D7 D5 hr hlt D6;generalize wr=W0 at*;go_wp2_with fail;go_loopg [8,22] r.length (fun c u i wx=>∃(j:Nat) (u2:Value),j<=r.length/\c=r.length-j/\i= iV j/\u2=u/\Bi wx W0.heap.size 24 2 u2 (r.take j).length (Gc (r.take j))/\Aa W0 wx)
  case atStart=>exact⟨0,_,wM _,rfl,rfl,rfl,Bi.nil _ _ _ _,Aa.refl _⟩
  clear c1;obtain⟨j,v8,hj,rfl,rfl,rfl,A9,C9⟩:=hrel;have A1:=zH A9;have B2:=zH C9;clear A9 C9;by_cases hjl:j<r.length
  ·have E9:(j:Int)<(r.length:Int):=ω
   obtain⟨p,hp⟩:∃p,r[j]?=some p:=⟨_,wC hjl⟩;have F2:∃gb ob,B=some ⟨gb,ob,none⟩/\wr.cell? ⟨gb,ob+j*2,none⟩=some (iV p.1)/\wr.cell? ⟨gb,ob+j*2+1,none⟩=some (iV p.2):=by
    obtain⟨A2,c2,A4,h2⟩:=HP.1;injection A4 with e1 _ _
    obtain⟨gb,ob,h3,h4⟩:=h2 (by rintro rfl;simp at hjl);obtain⟨h5,h6⟩:=(h4.ext B2.1) j hjl;have F1:r.getD j (0,0)=p:=by obtain⟨_,h⟩:=List.getElem?_eq_some_iff.1 hp;simp[List.getD,hjl,h]
    rw[F1]at h5 h6;exact⟨gb,ob,e1.trans h3,h5,h6⟩
   obtain⟨gb,ob,rfl,q1,q2⟩:=F2;have G1:=zH (sO HV.1 F9.1 hp);have E4:=zH hjl;have F7:=zH (show r.take (j+1)=r.take j++[p]by rw[wV hjl];congr 1;obtain⟨_,h⟩:=List.getElem?_eq_some_iff.1 hp;rw[h]);have B8:(r.take j).length=j:=by rw[wK];omega
   have G3:=zH B8;have E2:=zH (show World.rangeAt wr gb (ob+j*2) [iV p.1,iV p.2]from fun i v hv=>by
    match i,hv with
    |0,hv=>simp at hv;rw[<-hv];exact q1
    |1,hv=>simp at hv;rw[<-hv];exact q2)
   rw[B8]at A1;clear hp hjl q1 q2 B8;go_upto_region 10 with fail;refine wp_region_lit ?_;apply zq (.pointer (some ⟨gb,ob+j*2,none⟩));refine Bk (by rfl) (wp_load_mid _ _ (by rfl) gb (ob+j*2) (by rfl) [iV p.1,iV p.2] _ E2.1 underlying24 (by rfl) (by kernel_rfl) ?_);try simp only[ζ]
   refine zp (w':=wr.alloc (.cells #[iV 0,iV 0] 24)) (.pointer (π wr.heap.size)) (by go_simp) ?_;refine pO #[iV p.1,iV p.2] (Al.new wr _ _) rfl (by kernel_rfl) (all_oneCell_toArray (lE p)) ?_
   (try simp only[Act.put])
   obtain⟨B5,C8⟩:=Pa wr 24 #[iV 0,iV 0] #[iV p.1,iV p.2] rfl;generalize (wr.alloc (.cells #[iV 0,iV 0] 24)).setCells wr.heap.size 0 (#[iV p.1,iV p.2]:Array Value).toList=w4 at*;generalize wr.heap.size=G8 at*;have C1:=zH (B2.1.trans B5);have C6:=zH C8;have A3:=zH (A1.1.ext B5);clear B5 C8 E2 A1;go_upto_region 11 with fail
   refine wp_region_lit ?_;refine zq (v8) ?_;refine pL C6.1 underlying24 (by kernel_rfl) ?_;try simp only[ζ]
   refine pL (HB.1.ext C1.1) underlying24 (by kernel_rfl) ?_;try simp only[ζ]
   refine Ge (by rfl) (by go_simp) (nL p.1 p.2 _ G1.1) ?_;rintro e w5 ⟨rfl,hx⟩;have C5:=zH (show Aa w4 w5 from((Aa.refl w4)).trans hx);clear hx;refine⟨_,rfl,?_⟩;try simp only[ζ]
   have A0:Aa w4 (w5.alloc (.cells #[iV p.1,iV p.2] 24)):=C5.1.alloc _;have B0:=(C1.1.trans A0).size;have G7:j<=4096:=ω
   refine zp (w':=(w5.alloc (.cells #[iV p.1,iV p.2] 24))) (.slice (π w5.heap.size) 1 1) (by go_simp) ?_;refine Bk (by rfl) (Dw _ _ 43 (by rfl) W0.heap.size 24 i0 _ 2 16 underlying43 HI.1.1 HI.1.2.1 HI.1.2.2.1 HI.1.2.2.2 rfl (by decide) lG _ j (Gc (r.take j)) (by rfl) (A3.1.ext A0) ⟨w5.heap.size,0,none⟩ 1 1 [iV p.1,iV p.2] (by rfl) rfl (nU _ _ _ _) (lE p) (oY p) (by decide) (by unfold maxLen;omega) ω B0 ?_);intro gx cx w8 hf h2 h3 h4;try simp only[ζ]
   have C3:=zH (show Bi w8 W0.heap.size 24 2 (.slice (π gx) (j+1) cx) (r.take (j+1)).length (Gc (r.take (j+1)))by rw[F7.1,Xr,wD,G3.1];exact h2);have C0:=zH (show Aa W0 w8 from(C1.1.trans A0).grown h3 (fun j hj=>(A3.1.ext A0).block j hj));clear h2 h3 h4 hf A0 B0;refine zp (w':=w8) (.slice (π gx) (j+1) cx) (by go_simp) ?_;go_wp2_with fail
   go_roundg (r.length-(j+1))
   case measure=>have:=E4.1;omega
   case rel=>exact⟨j+1,_,E4.1,rfl,by go_num,rfl,C3.1,C0.1⟩
  obtain rfl:j=r.length:=ω;have F0:¬(r.length:Int)<(r.length:Int):=ω;obtain⟨Bn,cn,rfl,D4,D8⟩:=Bi.pts (ps:=r) (by have h:=A1.1;rwa[wI (Bz _)]at h);have G0:=zH D4;have E5:=zH D8;have B3:=zH (C2.1.ext B2.1);have B1:=zH (HX.1.trans B2.1);have E6:=zH (HB.1.ext B2.1);have G2:=zH (show∀A,Bn=some A->A.block<wr.heap.size from fun A hA=>by
   subst hA;obtain⟨_,⟨hv,_⟩|⟨g2,c2,r2,hv,_,B9,_⟩⟩:=A1.1
   ·cases hv
   injection hv with e1 _ _;injection e1 with e1;rw[e1];exact B9.lt)
  have F5:=zH (show∀j,v.ownBlock=some j->j<W0.heap.size from fun j hj=>by
   obtain⟨vs,h1,_⟩:=C2.1;obtain⟨_,⟨rfl,_⟩|⟨g2,c2,r2,rfl,_,B9,_⟩⟩:=h1
   ·simp[Value.ownBlock]at hj
   simp[Value.ownBlock]at hj;rw[<-hj];exact B9.lt)
  clear D4 D8 A1;go_upto_region 13 with fail;refine wp_region_lit ?_;refine qV (v) ?_;apply zq (.slice Bn r.length cn);have A0:Aa wr (wr.alloc (.cells #[.slice Bn r.length cn] 43)):=Ak.alloc _;obtain⟨vs,B4,A4,D1⟩:=B3.1.ext A0;have B0:=(B1.1.trans A0).size;have G6:k<=1048576:=by have:=C4.1;omega
  refine zp (w':=(wr.alloc (.cells #[.slice Bn r.length cn] 43))) (.slice (π wr.heap.size) 1 1) (by go_simp) ?_;refine Bk (by rfl) (Dw _ _ 22 (by rfl) w.heap.size 43 i1 _ 1 24 underlying22 HJ.1.1 HJ.1.2.1 HJ.1.2.2.1 HJ.1.2.2.2 rfl (by decide) lF _ k vs (by rfl) (by have h:=B4;rwa[E3.1]at h) ⟨wr.heap.size,0,none⟩ 1 1 [.slice Bn r.length cn] (by rfl) rfl (Gy _ _ _) (by simp[Value.oneCell']) (by intro x hx q;simp at hx;rw[hx];simp) (by decide) (by unfold maxLen;omega) ω B0 ?_);intro gx cx w8 hf h2 h3 h4;try simp only[ζ]
  skip
  have D3:=Tr.snoc (B3.1.ext A0) E3.1 (r:=r) (s:= .slice Bn r.length cn) rfl (G0.1.ext A0) (fun A hA=>⟨fun e=>by have q1:=F5.1 _ e;have q2:=E5.1 A hA;omega,xG (G2.1 A hA) A0.size⟩) (fun A hA=>by have q2:=E5.1 A hA;have q3:=HX.1.size;omega) vs ⟨vs,B4,A4,rfl,D1⟩ h2 h3 hf;have C3:=zH (show Tr w.heap.size w8 (.slice (π gx) (k+1) cx) (rs.take (k+1))by rw[F6.1];exact D3);have C0:=zH (show Aa w w8 from(B1.1.trans A0).grown h3 (fun j hj=>B4.block j hj));have G4:=zH ((E6.1.ext A0).grown h3 E1.1);have F4:=zH (show(Value.slice (π gx) (k+1) cx).ownBlock≠some X3 from fun e=>by simp[Value.ownBlock]at e;rcases hf with hf|hf;exact E1.1 (by rw[<-e];exact hf);have:=E6.1.lt;have:=A0.size;omega);clear h2 h3 h4 hf A0 B0 D3 B4 A4 D1;refine zp (w':=w8) (.slice (π gx) (k+1) cx) (by go_simp) ?_;go_wp2_with fail
  go_roundg (rs.length-(k+1))
  case measure=>have:=C4.1;omega
  case rel=>exact⟨k+1,_,C4.1,rfl,by go_num,rfl,C3.1,C0.1,G4.1,F4.1⟩
 obtain rfl:k=rs.length:=ω;have F0:¬(rs.length:Int)<(rs.length:Int):=ω;have HR:=zH (show Tr w.heap.size wr v rs from by have h:=C2.1;rwa[wI (Bz _)]at h);go_wp2_with fail;go_ret;exact⟨_,rfl,HR.1,HX.1⟩
end
section
def Lz (r:Bb)(i:Nat):Option ((Int×Int)×(Int×Int)):=
  match r[i]?,r[(i+1)%r.length]?with
  |some a,some b=>if a=b then none else some (a,b)
  |_,_=>none
def Ef (r:Bb)(n:Nat):List ((Int×Int)×(Int×Int)):=(List.range n).filterMap (Lz r)
def Cc (rs:List Bb):List ((Int×Int)×(Int×Int)):=rs.flatMap fun r=>Ef r r.length
theorem Qy {r:Bb}{i:Nat}{a b:Int×Int}(ha:r[i]?=some a)(hb:r[(i+1)%r.length]?=some b):Lz r i=if a=b then none else some (a,b):=by
  unfold Lz;rw[ha,hb]
theorem Jy {r:Bb}{n:Nat}(h:Lz r n=none):Ef r (n+1)=Ef r n:=by
  unfold Ef;rw[List.range_succ,List.filterMap_append];simp[h]
theorem Eu {r:Bb}{n:Nat}{e:(Int×Int)×(Int×Int)}(h:Lz r n=some e):Ef r (n+1)=Ef r n++[e]:=by
  unfold Ef;rw[List.range_succ,List.filterMap_append];simp[h]
theorem gQ {r:Bb}{n m:Nat}(h:n<=m):Ef r n<+:Ef r m:=by
  unfold Ef;obtain⟨d,rfl⟩:=Nat.exists_eq_add_of_le h;rw[List.range_add,List.filterMap_append];exact List.prefix_append _ _
theorem Ly {rs:List Bb}{k:Nat}{r:Bb}(h:rs[k]?=some r):Cc (rs.take (k+1))=Cc (rs.take k)++Ef r r.length:=by
  unfold Cc;rw[List.take_add_one,h];simp
theorem Up (rs:List Bb)(k:Nat):Cc (rs.take k)<+:Cc rs:=by
  conv=>rhs;rw[<-List.take_append_drop k rs]
  unfold Cc;rw[List.flatMap_append];exact List.prefix_append _ _
theorem Mo {rs:List Bb}{k n:Nat}{r:Bb}(h:rs[k]?=some r)(hn:n<=r.length):Cc (rs.take k)++Ef r n<+:Cc rs:=by
  refine List.IsPrefix.trans ?_ (Up rs (k+1));rw[Ly h];exact(List.prefix_append_right_inj _).2 (gQ hn)
theorem cK (r:Bb)(n:Nat):(Ef r n).length<=n:=by
  unfold Ef;have:=List.length_filterMap_le (Lz r) (List.range n);simpa using this
theorem iT (rs:List Bb):∀n:Nat,rs.foldl (fun n r=>n+r.length) n=n+rs.foldl (fun n r=>n+r.length) 0:=by
  induction rs with
  |nil=>intro n;simp
  |cons r rs ih=>intro n;rw[List.foldl_cons,List.foldl_cons,ih (n+r.length),ih (0+r.length)];omega
theorem Es (rs:List Bb):(Cc rs).length<=Gj rs:=by
  unfold Gj;induction rs with
  |nil=>simp[Cc]
  | cons r rs ih=>
    have h1:=cK r r.length;have h2:Cc (r::rs)=Ef r r.length++Cc rs:=by simp[Cc]
    rw[h2,wD,List.foldl_cons,iT];omega
end
section
attribute [local go_sem ↓] Go.wp_at_zero Go.wp_at_succ Ea Dz
theorem Ct (u:Value)(rs:List Bb)(w:World)(hu:Ch w u rs)(hn:rs.length<=1048576)(hr:∀r,r∈rs->r.length<=1048576):
    Calls prog 63 #[u] w fun e w'=>e= .returned (.bool (Hh rs))/\Aa w w':=by
  obtain⟨A,cu,rfl,hA⟩:=hu;have HA:=zH hA;have HR:=zH hr;clear hA hr;go_enter func63,ntmps63
  go_wp2_with fail;go_loopg [3,4] rs.length (fun c n i wr=>∃k m:Nat,k<=rs.length/\c=rs.length-k/\i= iV k/\n= iV m/\m=Gj (rs.take k)/\m<=4096/\(∀i r,i<k->rs[i]?=some r->Dd r=true)/\Aa w wr)
  case atStart=>exact⟨0,0,wM _,rfl,rfl,rfl,rfl,wM _,fun i r h=>absurd h (Nat.not_lt_zero _),Aa.refl _⟩
  obtain⟨k,m,hk,rfl,rfl,rfl,hm,C6,ho,hx⟩:=hrel;have HO:=zH ho;have HX:=zH hx;have HM:=zH hm;clear ho hx hm;by_cases hlt:k<rs.length
  · obtain⟨r,hr⟩:∃r,rs[k]?=some r:=⟨_,wC hlt⟩
    obtain⟨g,C4,rfl,hp⟩:=HA.1 ω;obtain⟨B,cb,h1,h2⟩:=hp k r hr;have c1:=HX.1.get h1;have C3:=zH c1;have HP:=zH (h2.ext HX.1);have C2:=zH (HR.1 r (wE hr));have A4:=zH hr;have B9:=zH (Fo hr);have B5:(k:Int)<(rs.length:Int):=ω
    have B1:=zH hlt;have C5:=C2.1;obtain⟨m2,A1⟩:∃m2,m2=m+r.length:=⟨_,rfl⟩;have e1:(m:Int)+(r.length:Int)=(m2:Int):=ω
    have wm:IntKind.i64.wrap (m2:Int)=(m2:Int):=by rw[IntKind.wrap_i64];omega
    have ws:IntKind.i64.wrap (4096-(m:Int))=4096-(m:Int):=by rw[IntKind.wrap_i64];omega
    have B0:=zH (show m2=Gj (rs.take (k+1))by rw[B9.1,<-HM.1];exact A1);have C8:=zH A1;clear hp h1 h2 hr hlt;by_cases hbig:4096<m2
    · have B7:4096-(m:Int)<(r.length:Int):=ω
      have HF:=zH (Ou A4.1 (Or.inl (by rw[<-B0.1];exact hbig)));clear A1;go_wp2_with fail;go_ret;exact⟨by rw[HF.1];rfl,HX.1⟩
    have B7:¬4096-(m:Int)<(r.length:Int):=ω;clear A1;go_wp2_with fail;generalize wr=W0 at*;go_loopg [5] r.length (fun c j wi=>∃t:Nat,t<=r.length/\c=r.length-t/\j= iV t/\Dd (r.take t)=true/\Aa W0 wi)
    case atStart=>exact⟨0,wM _,rfl,rfl,rfl,Aa.refl _⟩
    obtain⟨t,ht,rfl,rfl,A7,A5⟩:=hrel;have A9:=zH A7;have A0:=zH A5;have c2:=A0.1.get C3.1;clear A7 A5 c1;by_cases hlt3:t<r.length
    · obtain⟨A2,B8,ev,hv⟩:=HP.1
      injection ev with ev1 ev2 ev3
      subst ev1 ev3;clear ev2;obtain⟨g2,B3,rfl,A6⟩:=hv (by rintro rfl;simp at hlt3);obtain⟨d0,d1⟩:=(A6.ext A0.1) t hlt3;have A8:r.getD t (0,0)=r[t]:=by simp[List.getD,hlt3]
      rw[A8]at d0 d1;have C0:=zH (cQ r t hlt3 A9.1);have C1:=zH (No r t hlt3);have B4:(t:Int)<(r.length:Int):=ω
      have B2:=zH hlt3;generalize r[t]=x at*;clear A6 hv A8 hlt3;by_cases hok:Cm x.1 x.2=true
      · have hb:(!Cm x.1 x.2)=false:=by rw[hok];rfl
        go_wp2_with (go_at_call 30;refine(Bj _ _ _).mono ?_;rintro e w2 ⟨rfl,A3⟩)
        go_roundg (r.length-(t+1))
        case measure=>have:=B2.1;omega
        case rel=>exact⟨t+1,B2.1,rfl,by go_num,C0.1 hok,A0.1.trans A3⟩
      replace hok:=eq_false_of_ne_true hok;have hb:(!Cm x.1 x.2)=true:=by rw[hok];rfl
      have HF:=zH (Ou A4.1 (Or.inr (C1.1 hok)));go_wp2_with (go_at_call 30;refine(Bj _ _ _).mono ?_;rintro e w2 ⟨rfl,A3⟩)
      go_ret;exact⟨by rw[HF.1];rfl,(HX.1.trans A0.1).trans A3⟩
    have B6:¬(t:Int)<(r.length:Int):=ω;have HE:=zH (Px r t ht hlt3 A9.1);go_wp2_with fail;go_roundg (rs.length-(k+1))
    case measure=>have:=B1.1;omega
    case rel=>exact⟨k+1,m2,B1.1,rfl,by go_num,rfl,B0.1,ω,fun i r2 hi hr2=>by
      rcases Nat.lt_or_ge i k with h|h
      · exact HO.1 i r2 h hr2
      obtain rfl:i=k:=ω;rw[A4.1]at hr2;injection hr2 with hr2
      rw[<-hr2];exact HE.1,HX.1.trans A0.1⟩
  obtain rfl:k=rs.length:=ω;have HF:=zH (eM (rs:=rs) (by have h:=HM.1;rw[wI (Bz _)]at h;omega) HO.1);have C7:¬(rs.length:Int)<(rs.length:Int):=ω
  go_wp2_with fail;go_ret;exact⟨by rw[HF.1];rfl,HX.1⟩
end
section
attribute [local go_sem ↓] Go.wp_at_zero Go.wp_at_succ Az Ay
end
section
attribute [local go_sem ↓] Go.wp_at_zero Go.wp_at_succ
theorem Qe (n:Int)(w:World):Calls prog 135 #[iV n] w fun e w'=>e= .returned φ/\Aa w w':=by
  have A0:(n != n)=false:=by simp
  go_enter func135,ntmps135;go_wp2_with fail;go_ret;exact⟨by first|rfl|simp,Aa.refl _⟩
def Nw (a b:Int):Int:=if a<b then-1 else if b<a then 1 else 0
theorem bD (a b:Int)(w:World):Calls prog 91 #[iV a,iV b] w fun e w'=>e= .returned (iV (Nw a b))/\Aa w w':=by
 by_cases h1:a<b
 ·have e:Nw a b= -1:=by unfold Nw;rw[if_pos h1]
  rw[e];go_enter func91,ntmps91;go_wp2_with (go_at_call 135;refine(Qe _ _).mono ?_;rintro e w2 ⟨rfl,A0⟩)
  go_ret;exact⟨rfl,Ak.trans (by first|assumption|(apply Aa.trans<;>assumption))⟩
 by_cases h2:b<a
 ·have e:Nw a b=1:=by unfold Nw;rw[if_neg h1,if_pos h2]
  rw[e];go_enter func91,ntmps91;go_wp2_with (go_at_call 135;refine(Qe _ _).mono ?_;rintro e w2 ⟨rfl,A0⟩)
  go_ret;exact⟨rfl,Ak.trans (by first|assumption|(apply Aa.trans<;>assumption))⟩
 have e:Nw a b=0:=by unfold Nw;rw[if_neg h1,if_neg h2]
 rw[e];go_enter func91,ntmps91;go_wp2_with (go_at_call 135;refine(Qe _ _).mono ?_;rintro e w2 ⟨rfl,A0⟩)
 go_ret;exact⟨rfl,Ak.trans (by first|assumption|(apply Aa.trans<;>assumption))⟩
def sM (a b:Int):Int:=if a=0 then b else a
theorem sL (g off c:Nat)(a b:Int)(w:World)(h0:w.cell? ⟨g,off,none⟩=some (iV a))(h1:w.cell? ⟨g,off+1,none⟩=some (iV b)):
  Calls prog 90 #[.slice (some ⟨g,off,none⟩) 2 c] w fun e w'=>e= .returned (iV (sM a b))/\Aa w w':=by
 go_enter func90,ntmps90;go_wp2_with fail;go_loopg [8] 2 (fun d i wr=>∃k:Nat,k<=2/\d=2-k/\i= iV k/\(0<k->a=0)/\(1<k->b=0)/\Aa w wr)
 case atStart=>exact⟨0,ω,rfl,rfl,ω,ω,Aa.refl _⟩
 obtain⟨k,hk,rfl,rfl,ha,hb,hx⟩:=hrel;have HX:=zH hx;have k0:=hx.get h0;have k1:=hx.get h1;clear hx;rcases(show k=0\/k=1\/k=2 by omega)with rfl|rfl|rfl
 ·by_cases hz:a=0
  ·subst hz
   go_wp2_with fail;go_roundg 1
   case measure=>omega
   case rel=>exact⟨1,ω,rfl,by first|rfl|go_num,by simp,ω,HX.1⟩
  clear ha hb;go_wp2_with fail;go_ret;exact⟨by simp[sM,hz],HX.1⟩
 ·have hz:=ha (ω)
  subst hz;by_cases hz:b=0
  ·subst hz
   clear ha hb;go_wp2_with fail;go_roundg 0
   case measure=>omega
   case rel=>exact⟨2,ω,rfl,by first|rfl|go_num,by simp,by simp,HX.1⟩
  clear ha hb;go_wp2_with fail;go_ret;exact⟨by simp[sM],HX.1⟩
 have hz:=ha ω;have A0:=hb ω;subst hz;subst A0;clear ha hb;go_wp2_with fail
 go_ret;exact⟨by simp[sM],HX.1⟩
end
section
attribute [local go_sem ↓] Go.wp_at_zero Go.wp_at_succ Az Ay
def Et (p:Rat)(i:Int)(q:Rat)(j:Int):Bool:=decide (p<q)||(decide (p=q)&&decide (j<i))
theorem jG (L:Nat)(ca cb:Array Value)(p q:Rat)(i j:Int)(w:World)(ha:Ee L w ca p)(hb:Ee L w cb q)(hL:L<=60000)(h1:Di p q<0):
  Calls prog 157 #[.agg ca,iV i,.agg cb,iV j] w fun e w'=>e= .returned τ/\Aa w w':=by
 have ZA:=ha.size;have ZB:=hb.size;have Fa:=zH ha;have Fb:=zH hb;clear ha hb;go_enter func157,ntmps157
 go_upto_region 1 with fail;have A1:Al ((w.alloc (.cells ca 31)).alloc (.cells cb 31)) (w.heap.size) 31 ca:=Al.ext (Al.new_at w _ (by simp) _ _) (Ak.alloc _);have A0:Al ((w.alloc (.cells ca 31)).alloc (.cells cb 31)) (w.heap.size+1) 31 cb:=Al.ext (Al.new_at (w.alloc (.cells ca 31)) _ (by simp) _ _) Ak;have hE:Aa w ((w.alloc (.cells ca 31)).alloc (.cells cb 31)):=((Ak.alloc _).alloc _);generalize ((w.alloc (.cells ca 31)).alloc (.cells cb 31))=wa at*
 generalize w.heap.size+1=bx1 at*;have E1:=zH hE;have A3:=zH A1;have A2:=zH A0;clear hE A1 A0;refine wp_region_lit ?_;refine pL A3.1 underlying31 (by rw[show(ca:Array Value).size=4 from ZA];kernel_rfl) ?_;try simp only[ζ]
 refine pL A2.1 underlying31 (by rw[show(cb:Array Value).size=4 from ZB];kernel_rfl) ?_;try simp only[ζ]
 refine Ge (by rfl) (by go_simp) (Gg (Fa.1.ext E1.1) (Fb.1.ext E1.1) ω) ?_;rintro e w2 ⟨rfl,hx⟩;have E2:=zH hx;clear hx;refine⟨_,rfl,?_⟩;try simp only[ζ]
 refine pV (w':=w2) ?_;try simp only[ζ]
 go_wp2_with fail;go_ret;exact⟨by first|rfl|simp[*],(tr E1 E2).1⟩
theorem dO (L:Nat)(ca cb:Array Value)(p q:Rat)(i j:Int)(w:World)(ha:Ee L w ca p)(hb:Ee L w cb q)(hL:L<=60000)(h1:Di p q=0)(h2:j<i):
  Calls prog 157 #[.agg ca,iV i,.agg cb,iV j] w fun e w'=>e= .returned τ/\Aa w w':=by
 have ZA:=ha.size;have ZB:=hb.size;have Fa:=zH ha;have Fb:=zH hb;clear ha hb;go_enter func157,ntmps157
 go_upto_region 1 with fail;have A1:Al ((w.alloc (.cells ca 31)).alloc (.cells cb 31)) (w.heap.size) 31 ca:=Al.ext (Al.new_at w _ (by simp) _ _) (Ak.alloc _);have A0:Al ((w.alloc (.cells ca 31)).alloc (.cells cb 31)) (w.heap.size+1) 31 cb:=Al.ext (Al.new_at (w.alloc (.cells ca 31)) _ (by simp) _ _) Ak;have hE:Aa w ((w.alloc (.cells ca 31)).alloc (.cells cb 31)):=((Ak.alloc _).alloc _);generalize ((w.alloc (.cells ca 31)).alloc (.cells cb 31))=wa at*
 generalize w.heap.size+1=bx1 at*;have E1:=zH hE;have A3:=zH A1;have A2:=zH A0;clear hE A1 A0;refine wp_region_lit ?_;refine pL A3.1 underlying31 (by rw[show(ca:Array Value).size=4 from ZA];kernel_rfl) ?_;try simp only[ζ]
 refine pL A2.1 underlying31 (by rw[show(cb:Array Value).size=4 from ZB];kernel_rfl) ?_;try simp only[ζ]
 refine Ge (by rfl) (by go_simp) (Gg (Fa.1.ext E1.1) (Fb.1.ext E1.1) ω) ?_;rintro e w2 ⟨rfl,hx⟩;have E2:=zH hx;clear hx;refine⟨_,rfl,?_⟩;try simp only[ζ]
 refine pV (w':=w2) ?_;try simp only[ζ]
 go_wp2_with fail;go_ret;exact⟨by first|rfl|simp[*],(tr E1 E2).1⟩
theorem dP (L:Nat)(ca cb:Array Value)(p q:Rat)(i j:Int)(w:World)(ha:Ee L w ca p)(hb:Ee L w cb q)(hL:L<=60000)(h1:Di p q=0)(h2:¬j<i):
  Calls prog 157 #[.agg ca,iV i,.agg cb,iV j] w fun e w'=>e= .returned φ/\Aa w w':=by
 have ZA:=ha.size;have ZB:=hb.size;have Fa:=zH ha;have Fb:=zH hb;clear ha hb;go_enter func157,ntmps157
 go_upto_region 1 with fail;have A1:Al ((w.alloc (.cells ca 31)).alloc (.cells cb 31)) (w.heap.size) 31 ca:=Al.ext (Al.new_at w _ (by simp) _ _) (Ak.alloc _);have A0:Al ((w.alloc (.cells ca 31)).alloc (.cells cb 31)) (w.heap.size+1) 31 cb:=Al.ext (Al.new_at (w.alloc (.cells ca 31)) _ (by simp) _ _) Ak;have hE:Aa w ((w.alloc (.cells ca 31)).alloc (.cells cb 31)):=((Ak.alloc _).alloc _);generalize ((w.alloc (.cells ca 31)).alloc (.cells cb 31))=wa at*
 generalize w.heap.size+1=bx1 at*;have E1:=zH hE;have A3:=zH A1;have A2:=zH A0;clear hE A1 A0;refine wp_region_lit ?_;refine pL A3.1 underlying31 (by rw[show(ca:Array Value).size=4 from ZA];kernel_rfl) ?_;try simp only[ζ]
 refine pL A2.1 underlying31 (by rw[show(cb:Array Value).size=4 from ZB];kernel_rfl) ?_;try simp only[ζ]
 refine Ge (by rfl) (by go_simp) (Gg (Fa.1.ext E1.1) (Fb.1.ext E1.1) ω) ?_;rintro e w2 ⟨rfl,hx⟩;have E2:=zH hx;clear hx;refine⟨_,rfl,?_⟩;try simp only[ζ]
 refine pV (w':=w2) ?_;try simp only[ζ]
 go_wp2_with fail;go_ret;exact⟨by first|rfl|simp[*],(tr E1 E2).1⟩
theorem jH (L:Nat)(ca cb:Array Value)(p q:Rat)(i j:Int)(w:World)(ha:Ee L w ca p)(hb:Ee L w cb q)(hL:L<=60000)(h1:¬Di p q<0)(h2:¬Di p q=0):
  Calls prog 157 #[.agg ca,iV i,.agg cb,iV j] w fun e w'=>e= .returned φ/\Aa w w':=by
 have ZA:=ha.size;have ZB:=hb.size;have Fa:=zH ha;have Fb:=zH hb;clear ha hb;go_enter func157,ntmps157
 go_upto_region 1 with fail;have A1:Al ((w.alloc (.cells ca 31)).alloc (.cells cb 31)) (w.heap.size) 31 ca:=Al.ext (Al.new_at w _ (by simp) _ _) (Ak.alloc _);have A0:Al ((w.alloc (.cells ca 31)).alloc (.cells cb 31)) (w.heap.size+1) 31 cb:=Al.ext (Al.new_at (w.alloc (.cells ca 31)) _ (by simp) _ _) Ak;have hE:Aa w ((w.alloc (.cells ca 31)).alloc (.cells cb 31)):=((Ak.alloc _).alloc _);generalize ((w.alloc (.cells ca 31)).alloc (.cells cb 31))=wa at*
 generalize w.heap.size+1=bx1 at*;have E1:=zH hE;have A3:=zH A1;have A2:=zH A0;clear hE A1 A0;refine wp_region_lit ?_;refine pL A3.1 underlying31 (by rw[show(ca:Array Value).size=4 from ZA];kernel_rfl) ?_;try simp only[ζ]
 refine pL A2.1 underlying31 (by rw[show(cb:Array Value).size=4 from ZB];kernel_rfl) ?_;try simp only[ζ]
 refine Ge (by rfl) (by go_simp) (Gg (Fa.1.ext E1.1) (Fb.1.ext E1.1) ω) ?_;rintro e w2 ⟨rfl,hx⟩;have E2:=zH hx;clear hx;refine⟨_,rfl,?_⟩;try simp only[ζ]
 refine pV (w':=w2) ?_;try simp only[ζ]
 go_wp2_with fail;go_ret;exact⟨by first|rfl|simp[*],(tr E1 E2).1⟩
theorem Ud (L:Nat)(ca cb:Array Value)(p q:Rat)(i j:Int)(w:World)(ha:Ee L w ca p)(hb:Ee L w cb q)(hL:L<=60000):
  Calls prog 157 #[.agg ca,iV i,.agg cb,iV j] w fun e w'=>e= .returned (.bool (Et p i q j))/\Aa w w':=by
 by_cases h1:p<q
 ·have e:Et p i q j=true:=by unfold Et;simp[h1]
  rw[e];exact jG L ca cb p q i j w ha hb hL (rcmp_lt.2 h1)
 by_cases h2:p=q
 ·by_cases h3:j<i
  ·have e:Et p i q j=true:=by unfold Et;simp[h2,h3]
   rw[e];exact dO L ca cb p q i j w ha hb hL (rcmp_eq.2 h2) h3
  have e:Et p i q j=false:=by unfold Et;simp[h1,h3]
  rw[e];exact dP L ca cb p q i j w ha hb hL (rcmp_eq.2 h2) h3
 have e:Et p i q j=false:=by unfold Et;simp[h1,h2]
 rw[e];exact jH L ca cb p q i j w ha hb hL (fun k=>h1 (rcmp_lt.1 k)) (fun k=>h2 (rcmp_eq.1 k))
end
section
theorem bE {a b:Int}:Nw a b<0↔a<b:=by
  unfold Nw;split
  · omega
  split<;>omega
theorem sK (p q:Rat)(i j:Int):decide (sM (Di p q) (Nw j i)<0)=Et p i q j:=by
 unfold sM Et;by_cases h1:Di p q=0
 ·have h2:=rcmp_eq.1 h1
  subst h2;rw[if_pos h1];have h3:¬p<p:=by grind
  by_cases h4:j<i
  ·have h5:Nw j i<0:=bE.2 h4
   simp[h4,h5]
  have h5:¬Nw j i<0:=fun k=>h4 (bE.1 k)
  simp[h3,h4,h5]
 have h2:¬p=q:=fun k=>h1 (rcmp_eq.2 k)
 rw[if_neg h1];by_cases h3:p<q
 ·have h4:=rcmp_lt.2 h3
  simp[h3,h4]
 have h4:¬Di p q<0:=fun k=>h3 (rcmp_lt.1 k)
 simp[h2,h3,h4]
abbrev QI:=Rat×Int
def Ym (a b:QI):Bool:=Et a.1 a.2 b.1 b.2
theorem Pc {a b:QI}:Ym a b=true↔a.1<b.1\/(a.1=b.1/\b.2<a.2):=by
  unfold Ym Et;simp
theorem vB:Stb.Wk Ym:=by
  refine⟨fun x y h=> ?_,fun x y z h1 h2=> ?_⟩
  · rw[Bool.eq_false_iff]
    intro k;have h:=Pc.1 h;have k:=Pc.1 k;grind
  rw[Bool.eq_false_iff]at h1 h2⊢;intro k;have k:=Pc.1 k;have h1:¬_:=fun q=>h1 (Pc.2 q)
  have h2:¬_:=fun q=>h2 (Pc.2 q)
  grind
end
section
open Go.RowKit Go.Shelf
section
variable {P:Program} {n l:Nat} {Q:Exit->Act->World->Prop}
theorem gI {row:String}{args:Array Value}{w:World}{R:Value->World->Prop}(h:Rows P row args w R):RowsIn (Fence.wide.inRound l) n P row args w R:=fun c cs _=>
  let ⟨v,w',r,s⟩:=h c cs
  ⟨v,w',r,stepsIn_wide.2 s⟩
theorem eK {o:Oper}{a:Act}{w:World}{K:Act->World->Prop}(ho:∀c,o.op≠ .defer c)(_hQ:¬LetsOut Q)(h:o.wp P a w K Q):o.wpIn (Fence.wide.inRound l) n P a w K Q:=by
 unfold Oper.wp at h;refine⟨fun _ _=>trivial,?_⟩;rw[Oper.semAt_eq _ _ _ ho];generalize (execOp a.eval o).run P w=r at h;cases r with
 |ok x w'=>
  cases x<;>simp only[Oper.upon]at h<;>simp only[Oper.uponIn];case value=>exact h
  case skip=>exact h
  case defer=>exact h
  case enter=>exact⟨fun hd=>by simp[Fence.wide]at hd,CallsIn.inRound l (callsIn_wide.2 h)⟩
  case row=>exact⟨fun hd=>by simp[Fence.wide]at hd,gI h⟩
 |halt x w'=>cases x<;>simp only[Oper.upon]at h<;>simp only[Oper.uponIn]<;>exact h
def Kr (ops:List Oper):Bool:=ops.all fun o=>match o.op with| .defer _=>false|_=>true
theorem Oy {ops:List Oper}(h:Kr ops=true){o:Oper}(ho:o∈ops):∀c,o.op≠ .defer c:=by
  intro c e;have:=List.all_eq_true.1 h o ho;rw[e]at this;cases this
theorem Po {md:Region.Mode}{ops:Array Oper}(hd:Kr ops.toList=true)(hQ:¬LetsOut Q):∀(fuel:Nat) (listed:Array Bool) (a:Act) (w:World),wpAny P md ops Q fuel listed a w->wpAnyIn (Fence.wide.inRound l) n P md ops Q fuel listed a w
  |0,_,_,_,h=>h
  | fuel+1,listed,a,w,h=>⟨h.1,fun i hi=>by
    have h2:=h.2 i hi;unfold wpOp at h2;unfold wpOpIn;cases ho:ops[i]?with
    |none=>rw[ho]at h2;exact Po hd hQ fuel _ _ _ h2
    | some o=>
      rw[ho]at h2;simp only at h2⊢;split
      · rename_i hw
        rw[if_pos hw]at h2;rcases h2 with h2|⟨_,h3⟩
        · exact Oper.wpIn_mono (fun a' w' h4=>Po hd hQ fuel _ _ _ h4) (eK (Oy hd (by
            have h5:=Array.mem_of_getElem? ho;exact h5.1)) hQ h2)
        exact absurd h3 hQ
      rename_i hw;rw[if_neg hw]at h2;exact⟨fun _ _=>trivial,Po hd hQ fuel _ _ _ h2⟩⟩
theorem Qb {ops:Array Oper}(hQ:¬LetsOut Q):∀(rest:List Oper) (_:Kr rest=true) (a:Act) (w:World),wpList P ops Q rest a w->wpListIn (Fence.wide.inRound l) n P ops Q rest a w
 | [],_,_,_,h=>h
 |o::rest,hd,a,w,h=>by
  unfold wpList at h;unfold wpListIn;have hd2:Kr rest=true:=by
   unfold Kr at hd⊢;rw[List.all_cons,xA]at hd;exact hd.2
  split
  ·rename_i hw
   rw[if_pos hw]at h;rcases h with h|⟨_,h3⟩
   ·exact Oper.wpIn_mono (fun a' w' h4=>Qb hQ rest hd2 a' w' h4) (eK (Oy hd (by simp)) hQ h)
   exact absurd h3 hQ
  rename_i hw;rw[if_neg hw]at h;exact⟨fun _ _=>trivial,Qb hQ rest hd2 _ _ h⟩
theorem Lf {id:Nat}{ops:Array Oper}{S:World->Prop}{a:Act}{w:World}(hm:P.follows .mixedOrders=true)(hd:Kr ops.toList=true)(hQ:¬LetsOut Q)(hS:S w.drew)
    (h:S w.drew->wpAnyH P .any ops Q S ops.size (Array.replicate ops.size false) a w.drew):(Code.region id ops true).wpIn (Fence.wide.inRound l) n P Q a w:=
  wpIn_region_any hm (Po hd hQ _ _ _ _ (wpAny_of_held _ _ _ _ (h hS)))
theorem Ac {id:Nat}{ops:List Oper}{a:Act}{w:World}(hd:Kr ops=true)(hQ:¬LetsOut Q)(h:wpList P ops.toArray Q ops a w):(Code.region id ops.toArray false).wpIn (Fence.wide.inRound l) n P Q a w:=
  wpIn_region_lit (Qb hQ _ hd _ _ h)
end
end
section
structure Cg where
  a:RV
  q:Rat
  up:Int
def Cg.cells (e:Cg):List Value:=[.bool e.a.n,.slice e.a.p e.a.l e.a.c,.bool e.a.m,.slice e.a.p2 e.a.l2 e.a.c2,iV e.up]
theorem Cg.len (e:Cg):e.cells.length=5:=rfl
theorem Cg.one (e:Cg):∀v,v∈e.cells->v.oneCell'=true:=by simp[Cg.cells,Value.oneCell']
theorem Cg.noU (e:Cg):Ar e.cells:=by simp[Ar,Cg.cells]
def Cg.vl (e:Cg):QI:=(e.q,e.up)
def Cg.Ok (L:Nat)(w:World)(e:Cg):Prop:=e.a.Is w e.q/\Nm.rl e.q<=L/\ -1<=e.up/\e.up<=1
theorem Cg.Ok.dig {L:Nat}{w w':World}{e:Cg}(h:e.Ok L w)(d:Ah w w'):e.Ok L w':=⟨h.1.dig d,h.2⟩
theorem oZ (es:List Cg):Ar (es.flatMap Cg.cells):=by
  intro x hx;obtain⟨e,_,he⟩:=List.mem_flatMap.1 hx;exact Cg.noU e x he
theorem uC {α:Type}(f:α->QI):Stb.Wk (fun x y:α=>Ym (f x) (f y)):=⟨fun _ _ h=>vB.1 _ _ h,fun _ _ _ h1 h2=>vB.2 _ _ _ h1 h2⟩
def Rd (e f:Cg):Bool:=Ym e.vl f.vl
theorem Ah.kept {w w':World}{r:Option Nat}(hg:w.grownBy w' r)(hr:∀k,r=some k->∃o:Obj,w.heap[k]?=some o/\o.isCells=false):Ah w w':=by
 intro v xs h;obtain⟨p,A1,rfl,hc,hd,hp⟩:=h;refine⟨p,A1,rfl,hc,hd,fun h0=> ?_⟩;obtain⟨b,o,rfl,hb⟩:=hp h0;refine⟨b,o,rfl,fun i hi=> ?_⟩;have h1:=hb i hi;have A0:¬(some b=r):=fun e=>by
  obtain⟨ob,h2,h3⟩:=hr b e.symm;cases ob with
  |cells cs t fz=>cases h3
  |_=>simp[World.cell?,h2]at h1
 rw[World.cell?_of_block (hg.block b (World.block_lt_of_cell? w ⟨b,o+i,none⟩ h1) A0)];exact h1
theorem Hp.kept {w0 w w':World}{m:List Dl}{r:Option Nat}(h:Hp w0 w m)(hg:w.grownBy w' r)(hr:∀k,r=some k->w0.heap.size<=k/\∃o:Obj,w.heap[k]?=some o/\o.isCells=false):Hp w0 w' m:=by
 refine⟨h.ext.grown hg (fun k hk=>(hr k hk).1),fun i e he=>(h.all i e he).kept hg (fun k hk hrk=> ?_),h.apart⟩;obtain⟨o,h2,h3⟩:=(hr k hrk).2;cases e with
 |blk g t cs=>
  injection hk with hk
  subst hk;have:=h.blk he;unfold Al at this;rw[h2]at this;injection this with this
  rw[this]at h3;cases h3
 |row t size v n xs=>
  obtain⟨h4,⟨rfl,_⟩|⟨g,A0,rest,rfl,a,hb,c⟩⟩:=h.row he
  ·simp[Dl.own,Value.ownBlock]at hk
  have hk:g=k:=by simpa[Dl.own,Value.ownBlock]using hk
  subst hk;unfold Al at hb;rw[h2]at hb;injection hb with hb
  rw[hb]at h3;cases h3
def Ei (y:Rat)(e:(Int×Int)×(Int×Int)):Option QI:=
  if (e.1.2:Rat)<y/\y<(e.2.2:Rat)then some (Ia e.1.1 e.1.2 e.2.1 e.2.2 y,1)
  else if (e.2.2:Rat)<y/\y<(e.1.2:Rat)then some (Ia e.1.1 e.1.2 e.2.1 e.2.2 y,-1)else none
def Tv (y:Rat)(rs:List Bb):List QI:=(Cc rs).filterMap (Ei y)
def Fu (y:Rat)(rs:List Bb):List QI:=Stb.stab Ym (Tv y (if Hh rs=true then rs else[]))
theorem cG {ax ay bx bY:Int}{y:Rat}{L:Nat}(ha:Cm ax ay=true)(hb:Cm bx bY=true)(hy:Nm.rl y<=L):Nm.rl (Ia ax ay bx bY y)<=L+8:=by
 unfold Cm at ha hb;simp only[xA,decide_eq_true_eq]at ha hb;unfold Ia;have q1:=Nm.rl_sub y (ay:Rat);have q2:=Nm.rl_div ((1:Int):Rat) ((bY-ay:Int):Rat);have q3:=Nm.rl_mul (y-(ay:Rat)) (((1:Int):Rat)/((bY-ay:Int):Rat));have q4:=Nm.rl_mul ((y-(ay:Rat))*(((1:Int):Rat)/((bY-ay:Int):Rat))) ((bx-ax:Int):Rat);have q5:=Nm.rl_add (ax:Rat) ((y-(ay:Rat))*(((1:Int):Rat)/((bY-ay:Int):Rat))*((bx-ax:Int):Rat));have e1:=oK ax ω;have e2:=oK ay ω;have e3:=oK (bY-ay) ω;have e4:=oK (bx-ax) ω;have e5:=oK 1 ω;omega
theorem bW (L:Nat)(v:Value)(es:List Cg)(base:Nat)(w:World)(h:Bi w base 77 5 v es.length (es.flatMap Cg.cells))(hok:∀e,e∈es->e.Ok L w)
  (hcmp:∀(w:World) (e f:Cg),e.Ok L w->f.Ok L w->Calls prog 89 #[.agg e.cells.toArray,.agg f.cells.toArray] w fun x w'=>∃z:Int,x= .returned (iV z)/\(z<0↔Rd e f=true)/\Aa w w')
  (hn:es.length<=20000):
  Calls prog 88 #[v,.func (.func 89) #[] #[]] w fun e w'=>
   e= .returned (.tuple #[])/\Bi w' base 77 5 v es.length ((Stb.stab Rd es).flatMap Cg.cells)/\w.grownBy w' v.ownBlock:=by
 rcases h.2 with⟨rfl,h0⟩|⟨g,cap,rest,rfl,hb,hg,hc1,hc2,hc3,hc4⟩
 ·have:es=[]:=wP h0
  subst this;refine(srt.sortStable_none true none 0 _ w).mono ?_;rintro e w' ⟨rfl,rfl⟩;exact⟨rfl,h,World.grownBy.refl _ _⟩
 have A4:∃xs:List {e:Cg//e.Ok L w},xs.map Subtype.val=es:=by
  clear h hg hc1 hc3 hn hc4;induction es with
  |nil=>exact⟨[],rfl⟩
  |cons e es ih=>
   obtain⟨xs,hx⟩:=ih (fun f hf=>hok f (by simp[hf]));exact⟨⟨e,hok e (by simp)⟩::xs,by rw[List.map_cons,hx]⟩
 obtain⟨xs,rfl⟩:=A4;have A5:xs.flatMap (fun x=>x.1.cells)=(xs.map Subtype.val).flatMap Cg.cells:=by rw[List.flatMap_map]
 have A0:xs.length=(xs.map Subtype.val).length:=by rw[wU]
 refine(srt.sortStable_any true (fun x: {e:Cg//e.Ok L w}=>x.1.cells) (fun _=>rfl) (fun x=>x.1.one) (fun x y=>Rd x.1 y.1) (uC (fun x: {e:Cg//e.Ok L w}=>x.1.vl)) w w g cap _ 77 rest xs (fun wr o x y=> ?_) ⟨by rw[A5];exact hg,Ba.refl _ _⟩ A0 hn).mono ?_
 ·have d:Ah w wr:=Ah.of_own hg hc4.arr o
  exact hcmp wr x.1 y.1 (x.2.dig d) (y.2.dig d)
 rintro e w' ⟨rfl,A2⟩;have hm:(Stb.stab (fun x y: {e:Cg//e.Ok L w}=>Rd x.1 y.1) xs).map Subtype.val=Stb.stab Rd (xs.map Subtype.val):=Ob Subtype.val (lt':=Rd) (fun _ _=>rfl) xs;have A3:(Stb.stab Rd (xs.map Subtype.val)).length=(xs.map Subtype.val).length:=Stb.stab_len _;have A1:∀es:List Cg,(es.flatMap Cg.cells).length=es.length*5:=fun es=>Dx Cg.len es
 refine⟨rfl,⟨by rw[A1,A3],Or.inr ⟨g,cap,rest,rfl,hb,?_,hc1,hc2,?_,?_⟩⟩,?_⟩
 ·have h3:=A2.blk
  rw[show(Stb.stab (fun x y: {e:Cg//e.Ok L w}=>Rd x.1 y.1) xs).flatMap (fun x=>x.1.cells)=(Stb.stab Rd (xs.map Subtype.val)).flatMap Cg.cells by rw[<-hm,List.flatMap_map]]at h3;exact h3
 ·rw[A1,A3,<-A1];exact hc3
 ·exact(oZ _).app hc4.right
 have:=A2.own;simpa[Value.ownBlock,Ba]using this
end
section
theorem bB {y:Rat}{a b:Int×Int}(h:(a.2:Rat)<y/\y<(b.2:Rat)):Ei y (a,b)=some (Ia a.1 a.2 b.1 b.2 y,1):=if_pos h
theorem Tw {y:Rat}{a b:Int×Int}(h:(b.2:Rat)<y/\y<(a.2:Rat)):Ei y (a,b)=some (Ia a.1 a.2 b.1 b.2 y,-1):=by
  unfold Ei;rw[if_neg (fun k=>by have h1:=h.1;have h2:=h.2;have k1:=k.1;have k2:=k.2;grind),if_pos h]
theorem bC {y:Rat}{a b:Int×Int}(h1:¬((a.2:Rat)<y/\y<(b.2:Rat)))(h2:¬((b.2:Rat)<y/\y<(a.2:Rat))):Ei y (a,b)=none:=by
  unfold Ei;rw[if_neg h1,if_neg h2]
theorem Xm (a b:Rat):a<b\/a=b\/b<a:=by grind
theorem Rj {p q:Rat}(h:p<q):Di p q= -1:=by
  have h1:=rcmp_lt.2 h;unfold Di at h1⊢;have:=Int.sign_trichotomy (p.num*q.den-q.num*p.den);omega
theorem Ri {p q:Rat}(h:q<p):Di p q=1:=by
  have h1:=If.2 h;unfold Di at h1⊢;have:=Int.sign_trichotomy (p.num*q.den-q.num*p.den);omega
theorem dJ {p q y:Rat}(h1:¬(p<y/\y<q))(h2:¬(q<y/\y<p)):0<=Di p y*Di q y/\Di p y*Di q y<=1:=by
  rcases Xm p y with a|a|a
  · rw[Rj a]
    rcases Xm q y with b|b|b
    · rw[Rj b];decide
    · rw[rcmp_eq.2 b];decide
    exact absurd ⟨a,b⟩ h1
  · rw[rcmp_eq.2 a];simp
  rw[Ri a];rcases Xm q y with b|b|b
  · exact absurd ⟨b,a⟩ h2
  · rw[rcmp_eq.2 b];decide
  rw[Ri b];decide
theorem Ny {y:Rat}{a b:Int}(h:((a:Rat)<y/\y<(b:Rat))\/((b:Rat)<y/\y<(a:Rat))):a≠b/\((min a b:Int):Rat)<=y/\y<=((max a b:Int):Rat):=by
  rcases h with⟨h1,h2⟩|⟨h1,h2⟩
  · have A0:a<b:=by exact_mod_cast (show(a:Rat)<(b:Rat)by grind)
    rw[Int.min_eq_left ω,Int.max_eq_right ω];exact⟨ω,by grind,by grind⟩
  have A0:b<a:=by exact_mod_cast (show(b:Rat)<(a:Rat)by grind)
  rw[Int.min_eq_right ω,Int.max_eq_left ω];exact⟨ω,by grind,by grind⟩
end
section
open Go.RowKit Go.Shelf
attribute [local go_sem] Oper.semAt_some
attribute [local go_sem ↓] Go.wp_at_zero Go.wp_at_succ Ea Dz Az Ay
def Iq (x:Int×Int):Value:= .agg #[iV x.1,iV x.2]
def Gi (ok:Nat->Prop)(w:World)(v:Value)(rs:List Bb):Prop:=
  ∃(A:Option Addr) (cap:Nat),v= .slice A rs.length cap/\(0<rs.length->∃g off,A=some ⟨g,off,none⟩/\ok g/\∀i r,rs[i]?=some r->∃B cb,w.cell? ⟨g,off+i,none⟩=some (.slice B r.length cb)/\Gs w (.slice B r.length cb) r/\∀A,B=some A->ok A.block)
theorem iY (m:Nat)(hm:1<=m)(l Bx N:Nat)(G:Nat->Prop)(u:Value)(rs:List Bb)(J Jx:List ((Int×Int)×(Int×Int))->World->Prop)(w:World)
  (hcb:w.cell? ⟨Bx,0,none⟩=some u)(_hGb:¬G Bx)(hR:Gi (fun k=>¬G k) w u rs)(hrl:∀r,r∈rs->r.length<=4096)(hrs:rs.length<=1048576)
  (hJ:∀s A B,J s A->Aa A B->J s B)
  (hY:∀pre x W,J pre W->pre.length<N->x∈Cc rs->YieldAt Fence.wide (m-1) prog l #[Iq x.1,Iq x.2] W fun e W'=>(e= .returned τ/\J (pre++[x]) W'/\Fr G W W')\/(e= .returned φ/\Jx (pre++[x]) W'))
  (hN:(Cc rs).length<=N)(h0:J [] w):
  CallsIn Fence.wide m prog 103 #[.func (.yield l) #[] #[],.pointer (π Bx)] w fun e W'=>(∃v,e= .returned v)/\
   ((∃ys,ys=Cc rs/\J ys W')\/(∃pre,pre<+:Cc rs/\Jx pre W')):=by
 obtain⟨A,D7,rfl,hA⟩:=hR;have HA:=zH hA;have HJ:=zH hJ;have HY:=zH hY;have D2:=zH hrl;clear hA hJ hY hrl;refine callsIn_of_wp func103 rfl trivial ?_ rfl;simp only[ntmps103,List.size_toArray,xB,List.length_nil,Nat.reduceAdd,Nat.reduceSub,Array.replicate_succ,Array.replicate_zero,List.push_toArray,List.append_toArray,wT,wR];gi_wp2
 gi_loopw [10] (fun i wr=>∃k:Nat,k<=rs.length/\i= iV k/\Fr G w wr/\J (Cc (rs.take k)) wr) (fun i _=>rs.length-(intOf i).toNat)
 case atStart=>exact⟨0,wM _,rfl,Fr.of_ext Ak,h0⟩
 obtain⟨k,hk,rfl,A5,hj⟩:=hrel;have B7:=zH A5;have C1:=zH hj;clear A5 hj;by_cases hlt:k<rs.length
 ·obtain⟨r,hr⟩:∃r,rs[k]?=some r:=⟨_,wC hlt⟩
  obtain⟨g,D3,rfl,hg,h1⟩:=HA.1 ω;obtain⟨B,cb,B9,B8,hB⟩:=h1 k r hr;have c1:=B7.1.cell B9 hg;have C7:(k:Int)<(rs.length:Int):=ω
  have HP:=zH B8;have HB:=zH hB;have HR:=zH hr;have D4:=D2.1 r (wE hr);clear h1 B9 B8 hB hr;gi_wp2
  generalize wr=W0 at*;gi_loopw [16] (fun i wr=>∃j:Nat,j<=r.length/\i= iV j/\Fr G W0 wr/\J (Cc (rs.take k)++Ef r j) wr) (fun i _=>r.length-(intOf i).toNat)
  case atStart=>exact⟨0,wM _,rfl,Fr.of_ext Ak,by have h:=C1.1;rwa[show Ef r 0=[]from rfl,xD]⟩
  obtain⟨j,D6,rfl,A5,hj⟩:=hrel;have B0:=zH A5;have B6:=zH hj;clear A5 hj;by_cases hjt:j<r.length
  ·have C9:(j:Int)<(r.length:Int):=ω
   obtain⟨a,ha⟩:∃a,r[j]?=some a:=⟨_,wC hjt⟩;have A4:(j+1)%r.length<r.length:=Nat.mod_lt _ ω;obtain⟨b,hb⟩:∃b,r[(j+1)%r.length]?=some b:=⟨_,wC A4⟩;have C0:=zH (Qy ha hb);have B1:∃g2 A0,B=some ⟨g2,A0,none⟩/\¬G g2/\Ug w g2 A0 r:=by
    obtain⟨A2,c2,C4,h2⟩:=HP.1;injection C4 with e1 _ _
    obtain⟨g2,A0,h3,h4⟩:=h2 (fun e=>by rw[e]at hjt;simp at hjt);exact⟨g2,A0,e1.trans h3,HB.1 _ (e1.trans h3),h4⟩
   obtain⟨g2,A0,rfl,A8,B2⟩:=B1;have A9:=zH (B7.1.trans B0.1);have B4:∀i p,r[i]?=some p->r.getD i (0,0)=p:=fun i p h=>by rw[wF,h];rfl
   have A7:=B2 j hjt;have A6:=B2 _ A4;rw[B4 j a ha]at A7;rw[B4 _ b hb]at A6;have x0:=A9.1.cell A7.1 A8;have x1:=A9.1.cell A7.2 A8;have y0:=A9.1.cell A6.1 A8;have y1:=A9.1.cell A6.2 A8;have wj:IntKind.i64.wrap ((j:Int)+1)=(j:Int)+1:=by rw[IntKind.wrap_i64];omega
   have C5:((j:Int)+1).tmod (r.length:Int)=(((j+1)%r.length:Nat):Int):=by rw[Int.tmod_eq_emod_of_nonneg ω];simp
   have D9:=zH ha;have D8:=zH hb;clear B2 A7 A6 ha hb B4;generalize hM:(j+1)%r.length=M at*
   clear hM;obtain⟨a0,a1⟩:=a;obtain⟨b0,b1⟩:=b;dsimp only at x0 x1 y0 y1
   by_cases hab:(a0,a1)=(b0,b1)
   ·injection hab with e0 e1
    subst e0;subst e1;have C6:(a0==a0&&a1==a1)=true:=by simp
    have A1:=zH (C0.1.trans (if_pos rfl));have C3:=((Aa.refl wr).alloc (.cells #[iV a0,iV a1] 24)).get y0;have C2:=((Aa.refl wr).alloc (.cells #[iV a0,iV a1] 24)).get y1;have A3:Aa wr ((wr.alloc (.cells #[iV a0,iV a1] 24)).alloc (.cells #[iV a0,iV a1] 24)):=((Aa.refl wr).alloc _).alloc _;gi_wp2
    refine⟨fun _ h=>(by cases h),?_⟩;gi_wp2
    go_roundw
    case rel=>exact⟨j+1,hjt,by go_num,B0.1.trans (Fr.of_ext A3),by rw[Jy A1.1];exact HJ.1 _ _ _ B6.1 A3⟩
    case measure=>simp[intOf];omega
   have C6:(a0==b0&&a1==b1)=false:=by
    rw[Bool.and_eq_false_iff,beq_eq_false_iff_ne,beq_eq_false_iff_ne];by_cases h0:a0=b0
    ·exact .inr fun h1=>hab (by rw[h0,h1])
    exact .inl h0
   have A1:=zH (C0.1.trans (if_neg hab));clear hab;have C3:=((Aa.refl wr).alloc (.cells #[iV a0,iV a1] 24)).get y0;have C2:=((Aa.refl wr).alloc (.cells #[iV a0,iV a1] 24)).get y1;have A3:Aa wr ((wr.alloc (.cells #[iV a0,iV a1] 24)).alloc (.cells #[iV b0,iV b1] 24)):=((Aa.refl wr).alloc _).alloc _;have B3:(Cc (rs.take k)++Ef r j).length<N:=by
    have h1:=(Mo HR.1 (show j+1<=r.length by omega)).length_le;rw[Eu A1.1]at h1;simp at h1⊢;omega
   obtain⟨fn,tmps,assign,body,hy,D0⟩:=HY.1 _ ((a0,a1),(b0,b1)) _ (HJ.1 _ _ _ B6.1 A3) B3 (by
    have h1:=Mo HR.1 (show j+1<=r.length by omega);rw[Eu A1.1]at h1;exact h1.subset (by simp))
   dsimp only[Iq]at hy
   gi_wp2
   refine D0.mono ?_;rintro e W3 (⟨rfl,D1,C8⟩|⟨rfl,B5⟩)
   ·gi_wp2
    go_roundw
    case rel=>exact⟨j+1,hjt,by go_num,(B0.1.trans (Fr.of_ext A3)).trans C8,by rw[Eu A1.1,<-wN];exact D1⟩
    case measure=>simp[intOf];omega
   gi_wp2
   refine bodyPost_ret (results_none rfl _ _ _) rfl ?_;exact⟨⟨_,rfl⟩,.inr ⟨_,by have h:=Mo HR.1 (show j+1<=r.length by omega);rwa[Eu A1.1,<-wN]at h,B5⟩⟩
  have D5:¬(j:Int)<(r.length:Int):=ω;gi_wp2
  go_roundw
  case rel=>exact⟨k+1,ω,by go_num,B7.1.trans B0.1,by rw[Ly HR.1];have h:=B6.1;rwa[show j=r.length by omega]at h⟩
  case measure=>simp[intOf];omega
 gi_wp2
 go_end0
 have e:k=rs.length:=ω;subst e;exact⟨⟨_,rfl⟩,.inl ⟨_,rfl,by have h:=C1.1;rwa[wI (Bz _)]at h⟩⟩
end
section
attribute [local go_sem ↓] Go.wp_at_zero Go.wp_at_succ Ea Dz Az Ay
theorem Gi.ext {ok:Nat->Prop}{w w':World}{v:Value}{rs:List Bb}(h:Gi ok w v rs)(x:Aa w w'):Gi ok w' v rs:=by
  obtain⟨A,A1,h1,h2⟩:=h;refine⟨A,A1,h1,fun h0=> ?_⟩;obtain⟨g,A0,h3,h4,h5⟩:=h2 h0;refine⟨g,A0,h3,h4,fun i r hr=> ?_⟩;obtain⟨B,cb,h6,h7,h8⟩:=h5 i r hr;exact⟨B,cb,x.get h6,h7.ext x,h8⟩
theorem Gi.imp {ok ok':Nat->Prop}{w:World}{v:Value}{rs:List Bb}(h:Gi ok w v rs)(hi:∀k,ok k->ok' k):Gi ok' w v rs:=by
  obtain⟨A,A1,h1,h2⟩:=h;refine⟨A,A1,h1,fun h0=> ?_⟩;obtain⟨g,A0,h3,h4,h5⟩:=h2 h0;refine⟨g,A0,h3,hi _ h4,fun i r hr=> ?_⟩;obtain⟨B,cb,h6,h7,h8⟩:=h5 i r hr;exact⟨B,cb,h6,h7,fun A hA=>hi _ (h8 A hA)⟩
theorem Tr.ringsO {b0:Nat}{w:World}{v:Value}{rs:List Bb}(h:Tr b0 w v rs):Gi (fun k=>b0<=k/\k<w.heap.size) w v rs:=by
 obtain⟨vs,h1,h2,h3⟩:=h;obtain⟨_,⟨rfl,hz⟩|⟨g,A0,rest,rfl,hb,hB,_⟩⟩:=h1
 ·exact⟨none,0,by rw[hz],fun h=>ω⟩
 refine⟨_,A0,rfl,fun _=>⟨g,0,rfl,⟨hb,hB.lt⟩,fun i r hr=> ?_⟩⟩;obtain⟨B,cb,h4,h5,h6,h7⟩:=h3 i r hr;refine⟨B,cb,?_,h5,fun A hA=>⟨h7 A hA,(h6 A hA).2⟩⟩;rw[wH,hB.cell,wL,wQ (by have:=(List.getElem?_eq_some_iff.1 h4).1;exact this)];exact h4
theorem Gi.nil (ok:Nat->Prop)(w:World):Gi ok w (.slice none 0 0) []:=⟨none,0,rfl,fun h=>by simp at h⟩
theorem Wz (u:Value)(rs:List Bb)(w:World)(hu:Ch w u rs)(hv:Hh rs=false)(hn:rs.length<=1048576)(hr:∀r,r∈rs->r.length<=1048576):
  Calls prog 102 #[u,.agg #[iV 0,iV 0]] w fun e w'=>e= .returned (.slice none 0 0)/\Aa w w':=by
 have HC:=zH (fun W (hW:Aa w W)=>Du u rs W (hu.ext hW) hn hr);have HV:=zH hv;obtain⟨Au,cu,rfl,_⟩:=hu;clear hv hr;go_enter func102,ntmps102
 have hE:Aa w (w.alloc (.cells #[iV 0,iV 0] 24)):=Ak.alloc _;go_upto_if 13 with(go_at_call 43;refine(HC.1 _ hE).mono ?_;rintro e w1 ⟨rfl,A0⟩)
 have A1:(!Hh rs)=true:=by rw[HV.1];rfl
 rw[A1];go_wp2_with fail;go_ret;exact⟨rfl,hE.trans A0⟩
theorem Wm (u:Value)(rs:List Bb)(w:World)(hu:Ch w u rs)(hn:rs.length<=1048576)(hr:∀r,r∈rs->r.length<=1048576):
  Calls prog 59 #[u] w fun e w'=>∃Bx v,e= .returned (.func (.func 103) #[] #[.pointer (π Bx)])/\w.heap.size<=Bx/\Bx<w'.heap.size/\
   w'.cell? ⟨Bx,0,none⟩=some v/\Gi (fun k=>w.heap.size<=k/\k<w'.heap.size) w' v (if Hh rs=true then rs else[])/\Aa w w':=by
 have HC:Calls prog 102 #[u,.agg #[iV 0,iV 0]] w fun e w'=>∃A n c,e= .returned (.slice A n c)/\Gi (fun k=>w.heap.size<=k/\k<w'.heap.size) w' (.slice A n c) (if Hh rs=true then rs else[])/\Aa w w':=by
  by_cases h:Hh rs=true
  ·rw[if_pos h]
   refine(Uk u rs w hu h hn).mono ?_;rintro e w' ⟨v,rfl,h2,h3⟩;have h4:=h2.ringsO;obtain⟨A,c,rfl,_⟩:=id h4;exact⟨A,_,c,rfl,h4,h3⟩
  rw[if_neg h];refine(Wz u rs w hu (by simpa using h) hn hr).mono ?_;rintro e w' ⟨rfl,h3⟩;exact⟨none,0,0,rfl,Gi.nil _ _,h3⟩
 generalize (if Hh rs=true then rs else[])=qs at HC⊢;have A1:=zH HC;clear HC hu hr;go_enter func59,ntmps59;go_wp2_with (go_at_call 102;refine A1.1.mono ?_;rintro e w1 ⟨A,n,c,rfl,hR,hx⟩)
 go_ret;have A0:Aa w1 (w1.alloc (.cells #[.slice A n c] 22)):=Ak.alloc _;refine⟨_,_,rfl,hx.size,by simp,?_,(hR.ext A0).imp (fun k h=>⟨h.1,xG h.2 A0.size⟩),hx.trans A0⟩;exact(Al.new w1 _ _).cell 0
end
section
open Go.RowKit Go.Shelf
attribute [local go_sem] Oper.semAt_some
abbrev Df:=(Int×Int)×(Int×Int)
def vG (e:Df):Prop:=Cm e.1.1 e.1.2=true/\Cm e.2.1 e.2.2=true
abbrev Yq:={e:Df//vG e}
def tK (x:Yq):Array Value:=#[Iq x.1.1,Iq x.1.2]
theorem Ts {rs:List Bb}(h:Hh rs=true):∀e,e∈Cc rs->vG e:=by
 intro e he;obtain⟨r,hr,h2⟩:=List.mem_flatMap.1 he;obtain⟨i,_,h3⟩:=List.mem_filterMap.1 h2;unfold Hh at h;rw[xA]at h;have h4:=List.all_eq_true.1 h.2 r hr;unfold Dd at h4;have hp:∀(j:Nat) (p:Int×Int),r[j]?=some p->Cm p.1 p.2=true:=fun j p hj=>List.all_eq_true.1 h4 p (wE hj)
 unfold Lz at h3;split at h3
 ·rename_i a b ha hb
  split at h3
  ·cases h3
  injection h3 with h3
  subst h3;exact⟨hp _ _ ha,hp _ _ hb⟩
 cases h3
theorem Fr.putObj {G:Nat->Prop}(W:World)(l:Nat)(o':Obj)(h:G l\/W.heap.size<=l):Fr G W (W.putObj l o'):=
  Fr.trans_new (Fr.of_ext (Aa.refl W)) (grownBy_putObj' W l o') (fun j hj=>by injection hj with hj;subst hj;exact h)
theorem Tt {n p0 p1:Nat}{g:Operand}{assign body:Code}{Q:Exit->Act->World->Prop}{a:Act}{W1:World}(hn:2<=n)(G:Nat->Prop)(Bx:Nat)(u:Value)(rs:List Bb)
  (hg:a.eval g= .func (.func 103) #[] #[.pointer (π Bx)])(hcb:W1.cell? ⟨Bx,0,none⟩=some u)(hGb:¬G Bx)(hR:Gi (fun k=>¬G k) W1 u rs)(hrs:rs.length<=1048576)(hok:Hh rs=true)
  (hG:∀k,W1.heap.size<=k->G k)
  (I:List Yq->World->Prop)(hI:OwnFrom W1.heap.size I)(h0:I [] W1)(Ax:Yq->Act->World->Prop)(hAx:∀x a',OwnFrom W1.heap.size (fun(_:Unit) W=>Ax x a' W))
  (hassign:∀(l:Nat) (pre:List Yq) (x:Yq) (W:World) (K:Act->World->Prop),I pre W->(∀a' W',KeepsFrom W1.heap.size W W'->Fr G W W'->I pre W'->Ax x a' W'->K a' W')->
   assign.wpIn (Fence.wide.inRound l) (n-1-1) prog (Exit.then K (fun _ _ _=>False)) {tmps:=(a.tmps.setIfInBounds p0 (Iq x.1.1)).setIfInBounds p1 (Iq x.1.2),defers:=[]} W)
  (hbody:∀(l:Nat) (pre:List Yq) (x:Yq) (a':Act) (W:World),I pre W->Ax x a' W->pre.length<4096->
   body.wpIn (Fence.wide.inRound l) (n-1-1) prog (ownPostG W1.heap.size (Fr G) I (fun _ _ _=>False) (pre++[x]) W) a' W)
  (hdone:∀(D:Nat) (xs:List Yq) (W:World),W1.heap.size<=D->xs.map Subtype.val=Cc rs->I xs W->W.heap[D]?=some (.deferred (some []))->Q .normal {a with defers:={target:= .collected D,args:=#[]}::a.defers} W):
  (Code.rangeFunc g #[p0,p1] assign body).wpIn Fence.wide n prog Q a W1:=by
 have A0:SeqStopsK Fence.wide (n-1) prog 103 #[.pointer (π Bx)] tK (Fr G) (fun xs=>xs.map Subtype.val=Cc rs) (fun pre=>pre.map Subtype.val<+:Cc rs) 4096 W1:=by
  intro l J Jx W hW A6 A5 hY A7;have hx:Aa W1 W:=hW;have A4:=hR.ext hx;have A3:∀r,r∈rs->r.length<=4096:=fun r hr=>by
   obtain⟨k,hk⟩:=List.mem_iff_getElem?.1 hr;have h1:=Fo hk;have h2:=Fe rs (k+1);have h3:=Fc hok;omega
  have hN:(Cc rs).length<=4096:=Aw (Es rs) (Fc hok);have A8:∀(s:List Yq) (A B:World),J s A->Aa A B->J s B:=fun s A B h x=>A6 s A B none h (Bh _ x) (fun r e=>by cases e)
  refine(iY (n-1) ω l Bx 4096 G u rs (fun s W=>∃xs:List Yq,xs.map Subtype.val=s/\J xs W) (fun s W=>∃xs:List Yq,xs.map Subtype.val=s/\Jx xs W) W (hx.get hcb) hGb A4 A3 hrs
   (fun s A B h x=>by obtain⟨xs,h1,h2⟩:=h;exact⟨xs,h1,A8 _ _ _ h2 x⟩) ?_ hN ⟨[],rfl,A7⟩).mono ?_
  ·rintro pre x W2 ⟨xs,rfl,h2⟩ A2 A1
   refine(hY xs ⟨x,Ts hok x A1⟩ W2 h2 (by simpa using A2)).mono ?_;rintro e W3 (⟨rfl,h3,h4⟩|⟨rfl,h3⟩)
   ·exact .inl ⟨rfl,⟨_,by simp,h3⟩,h4⟩
   exact .inr ⟨rfl,⟨_,by simp,h3⟩⟩
  rintro e W2 ⟨h1,⟨ys,rfl,xs,h2,h3⟩|⟨pre,h2,xs,h3,h4⟩⟩
  ·exact⟨h1,.inl ⟨xs,h2,h3⟩⟩
  exact⟨h1,.inr ⟨xs,by show xs.map Subtype.val<+:Cc rs;rw[h3];exact h2,h4⟩⟩
 refine wpIn_rangeFunc_ownH rfl ω (gf:=103) (lb:=#[.pointer (π Bx)]) hg trivial (enters_of func103 kR rfl)
  A0 (fun h k=>Fr.trans h k) (fun W l o o' hl _ _ _=>Fr.putObj W l o' (.inl (hG l hl))) (Below.refl _ _) (fun _=>rfl) I (fun _ _ _=>False) hI (fun _ _ _ _ _ hs _ _=>hs) h0 Ax hAx ?assign ?body ?done ?stop
 case assign=>
  intro l pre x W K hi hK;have e:((#[p0,p1]:Array Tmp).zip (tK x)).foldl (fun t (p,v)=>t.setIfInBounds p v) a.tmps=(a.tmps.setIfInBounds p0 (Iq x.1.1)).setIfInBounds p1 (Iq x.1.2):=by simp[tK]
  rw[e];exact hassign l pre x W K hi hK
 case body=>exact fun l pre x a' W _ _ hi ha hlt=>hbody l pre x a' W hi ha hlt
 case done=>exact fun D xs W hD hs hi hK=>hdone D xs W hD hs hi hK
 case stop=>exact fun D c pre W _ _ h _=>h.elim
theorem KeepsFrom.of_fr {B:Nat}{G:Nat->Prop}{W W':World}(h:Fr G W W')(hG:∀k,G k->∀o:Obj,W.heap[k]?=some o->o.isCells=true):KeepsFrom B W W':=
  ⟨h.size,fun k o _ hk ho=>by
    have A0:k<W.heap.size:=(Array.getElem?_eq_some_iff.1 hk).1;rw[h.block k A0 (fun g=>by rw[hG k g o hk]at ho;cases ho)];exact hk⟩
theorem Fr.imp {G G':Nat->Prop}{W W':World}(h:Fr G W W')(hG:∀k,G k->G' k):Fr G' W W':=⟨h.os,h.tape,h.output,h.size,fun k hk hn=>h.block k hk (fun g=>hn (hG k g))⟩
theorem Hp.cells {w0 w:World}{m:List Dl}{i k:Nat}{e:Dl}(h:Hp w0 w m)(hi:m[i]?=some e)(hk:e.own=some k):∀o:Obj,w.heap[k]?=some o->o.isCells=true:=by
 intro o ho;cases e with
 |blk g t cs=>
  injection hk with hk
  subst hk;have:=h.blk hi;unfold Al at this;rw[this]at ho;injection ho with ho
  rw[<-ho];rfl
 |row t size v n xs=>
  obtain⟨h4,⟨rfl,_⟩|⟨g,A0,rest,rfl,a,hb,c⟩⟩:=h.row hi
  ·simp[Dl.own,Value.ownBlock]at hk
  have hk:g=k:=by simpa[Dl.own,Value.ownBlock]using hk
  subst hk;unfold Al at hb;rw[hb]at ho;injection ho with ho
  rw[<-ho];rfl
def Dl.typ:Dl->TypeId
  | .blk _ t _=>t
  | .row t _ _ _ _=>t
theorem Hp.typ {w0 w:World}{m:List Dl}{i g:Nat}{e:Dl}{T:TypeId}{cs:Array Value}(h:Hp w0 w m)(hi:m[i]?=some e)(hb:Al w g T cs)(hk:e.own=some g):e.typ=T:=by
 unfold Al at hb;cases e with
 |blk g' t cs'=>
  injection hk with hk
  subst hk;have:=h.blk hi;unfold Al at this;rw[this]at hb;injection hb with hb
  injection hb with _ hb _
 |row t size v n xs=>
  obtain⟨h4,⟨rfl,_⟩|⟨g',A1,rest,rfl,a,A0,c⟩⟩:=h.row hi
  ·simp[Dl.own,Value.ownBlock]at hk
  have hk:g'=g:=by simpa[Dl.own,Value.ownBlock]using hk
  subst hk;unfold Al at A0;rw[A0]at hb;injection hb with hb
  injection hb with _ hb _
theorem Hp.addTyp2 {w0 w:World}{m:List Dl}{X Y:Nat}{T:TypeId}{zs us:List Value}(h:Hp w0 w m)(B1:Al w X T zs.toArray)(B2:Al w Y T us.toArray)(hne:X≠Y)(z1:w0.heap.size<=X)(z2:w0.heap.size<=Y)(n1:Ar zs)(n2:Ar us)
  (ht:∀e,e∈m->e.typ≠T):Hp w0 w (m++[.blk X T zs]++[.blk Y T us]):=by
 have h1:Hp w0 w (m++[.blk X T zs]):=h.add ⟨z1,B1,n1⟩ (fun i f hf k hk e=>by
  injection e with e
  subst e;exact ht f (wE hf) (h.typ hf B1 hk))
 refine h1.add ⟨z2,B2,n2⟩ (fun i f hf k hk e=> ?_);injection e with e
 subst e;rcases List.mem_append.1 (wE hf)with hm|hm
 ·obtain⟨j,hj⟩:=List.mem_iff_getElem?.1 hm
  exact ht f hm (h.typ hj B2 hk)
 simp at hm;subst hm;injection hk with hk
 exact hne hk
theorem Al.kept {w w':World}{g:Nat}{t:TypeId}{cs:Array Value}{r:Option Nat}(h:Al w g t cs)(hg:w.grownBy w' r)(hr:∀k,r=some k->∃o:Obj,w.heap[k]?=some o/\o.isCells=false):Al w' g t cs:=
  h.grown hg (fun e=>by
    obtain⟨o,h2,h3⟩:=hr g e;unfold Al at h;rw[h]at h2;injection h2 with h2
    rw[<-h2]at h3;cases h3)
end
section
attribute [local go_sem ↓] Go.wp_at_zero Go.wp_at_succ Az Ay
theorem sZ {P:Program}{ρ:Operand->Value}{o:Oper}{w:World}{A B E:Int}{t t':TypeId}{x y:Operand}(ho:o.op= .binOp .rem t x y t')(hx:ρ x= iV A)(hy:ρ y= iV B)(hB:B≠0)(hE:A.tmod B=E)(_h1: -9223372036854775808<=E)(_h2:E<=9223372036854775807):(execOp ρ o).run P w= .ok (.value (iV E)) w:=by
  unfold execOp;simp only[ho,hx,hy];simp[go_sem,hB,hE]
theorem Kh {ρ:Operand->Value}{o:Oper}{w:World}{a b c d:Int}{bb:Bool}{t':TypeId}{x y:Operand}(ho:o.op= .binOp .neq 24 x y t')(hx:ρ x= .agg #[iV a,iV b])(hy:ρ y= .agg #[iV c,iV d])(h:(!(a==c&&b==d))=bb):
    (execOp ρ o).run prog w= .ok (.value (.bool bb)) w:=by
  subst h;unfold execOp;simp only[ho,hx,hy];simp[go_sem,Dz]
def Jb (e:Df):List Value:=[iV e.1.1,iV e.1.2,iV e.2.1,iV e.2.2]
theorem Hb (e:Df):(Jb e).length=4:=rfl
theorem Dr {w:World}{g o:Nat}{v:Value}(h:w.cell? ⟨g,o,none⟩=some v):w.rangeAt g o [v]:=by
  intro j u hj;match j,hj with
  |0,hj=>injection hj with hj;rw[<-hj];exact h
  |k+1,hj=>simp at hj
theorem Ss {w:World}{g off i:Nat}{ps:List (Int×Int)}{a:Int×Int}(h:Ug w g off ps)(hi:ps[i]?=some a):w.rangeAt g (off+i*2) [iV a.1,iV a.2]:=by
  have hl:=(List.getElem?_eq_some_iff.1 hi).1;have h1:=h i hl;have e:ps.getD i (0,0)=a:=by rw[wF,hi];rfl
  rw[e]at h1;intro j u hj;match j,hj with
  |0,hj=>injection hj with hj;rw[<-hj];exact h1.1
  |1,hj=>injection hj with hj;rw[<-hj];exact h1.2
  |k+2,hj=>simp at hj
theorem dF {rs:List Bb}{k n:Nat}{r:Bb}(hok:Hh rs=true)(h:rs[k]?=some r)(hn:n<=r.length):(Cc (rs.take k)++Ef r n).length<=4096:=
  Aw (Mo h hn).length_le (Aw (Es rs) (Fc hok))
def Ab (rs:List Bb):List Df:=Cc (if Hh rs=true then rs else[])
theorem Mp {rs:List Bb}(h:Hh rs=true):Ab rs=Cc rs:=by unfold Ab;rw[if_pos h]
theorem Qh {rs:List Bb}(h:¬Hh rs=true):Ab rs=[]:=by unfold Ab;rw[if_neg h];rfl
theorem Sp (u:Value)(rs:List Bb)(w:World)(hu:Ch w u rs)(hn:rs.length<=1048576)(hr:∀r,r∈rs->r.length<=1048576):
  Calls prog 112 #[u] w fun e w'=>∃A n c,e= .returned (.slice A n c)/\n=(Ab rs).length/\Bi w' w.heap.size 92 4 (.slice A n c) n (List.flatMap Jb (Ab rs))/\Aa w w':=by
 have HU:=zH hu;have HN:=zH hn;have HR:=zH hr;obtain⟨A,cu,rfl,hA⟩:=hu;have HA:=zH hA;clear hA hr;go_enter func112,ntmps112
 have H0:=zH (Hp.start w);by_cases c1:Hh rs=true
 ·have HV:=zH c1
  clear c1;go_upto_region 0 with fail;apply wl;refine Cy Af _ ?_;go_upto_region 1 with fail;apply wl;refine Cy Af _ ?_;have H4:=zH (show Hp w w [ro 92 4 none 0 0 Jb ([])]from H0.1.addNil 92 4);go_upto_region 2 with fail
  apply wl;refine Cy Af _ ?_;refine zc (Ct _ rs _ (HU.1.ext H4.1.ext) HN.1 HR.1) ?_;rintro e w6 ⟨rfl,hx⟩;have H7:=zH (H4.1.step hx);clear hx;refine⟨.bool true,by rw[HV.1],?_⟩;try simp only[ζ]
  apply zq φ;go_wp2_with fail;go_loopg [3,4] (rs.length) (fun cq G1 G0 wr=>∃(i:Nat) (m:Nat) (es:List Df) (A1:Option Addr) (c1:Nat),cq=rs.length-i/\G1= .slice A1 m c1/\G0= iV (i:Int)/\(i<=rs.length)/\(m=es.length)/\(es=Cc (rs.take i))/\Hp w wr [.row 92 4 (.slice A1 m c1) (m) (List.flatMap Jb es)]/\Ah w6 wr)
  case atStart=>exact⟨0,0,[],none,0,rfl,rfl,rfl,wM _,rfl,rfl,H7.1,Ah.refl _⟩
  obtain⟨i,m,es,A1,c1,rfl,rfl,rfl,A9,B7,B0,C0,C1⟩:=hrel;generalize wr=F7 at*;have G7:=zH A9;clear A9;have HM:=zH B7;clear B7;have E8:=zH B0;clear B0;have D0:=zH C0;have H9:=zH C1;clear C0 C1 H7;rcases Ck (i<rs.length)with HLT|HLT
  ·have B3:=HLT.1
   have G3:(i:Int)<(rs.length:Int):=ω;obtain⟨r,A4⟩:∃r,rs[i]?=some r:=⟨_,wC B3⟩;have E5:=zH A4;have I4:=HR.1 r (wE A4);obtain⟨g,A0,rfl,E2⟩:=HA.1 ω;obtain⟨B,cb,C7,J1,G4,G2,C6⟩:=E2 i r A4;injection G2 with e1_ e2_ e3_
   subst e1_;have C3:=zH C7;have G5:=zH C6;clear A4 E2 C7 C6 e2_ e3_;go_upto_region 7 with fail
   apply wl;apply zq (iV 0);go_wp2_with fail;go_loopg [3,5] (r.length) (fun cq F9 F8 wr=>∃(k:Nat) (m2:Nat) (B4:List Df) (A2:Option Addr) (c2:Nat),cq=r.length-k/\F9= .slice A2 m2 c2/\F8= iV (k:Int)/\(k<=r.length)/\(m2=B4.length)/\(B4=Cc (rs.take i)++Ef r k)/\Hp w wr [.row 92 4 (.slice A2 m2 c2) (m2) (List.flatMap Jb B4)]/\Ah F7 wr)
   case atStart=>exact⟨0,m,es,A1,c1,rfl,rfl,rfl,wM _,HM.1,(by rw[E8.1];simp[Ef]),D0.1,Ah.refl _⟩
   obtain⟨k,m2,B4,A2,c2,rfl,rfl,rfl,A8,A7,A3,C0,C1⟩:=hrel;generalize wr=I3 at*;have G6:=zH A8;clear A8;have C8:=zH A7;clear A7;have A6:=zH A3;clear A3;have B6:=zH C0;have D9:=zH C1;clear C0 C1 D0;rcases Ck (k<r.length)with HLU|HLU
   ·have B2:=HLU.1
    have E1:r≠ []:=by intro h_;rw[h_]at B2;simp at B2
    obtain⟨gr,B1,rfl,A5⟩:=G5.1 E1;have J0:=zH A5;obtain⟨⟨a0,a1⟩,D4⟩:∃a,r[k]?=some a:=⟨_,wC B2⟩;have B9:(k+1)%r.length<r.length:=Nat.mod_lt _ ω;obtain⟨⟨b0,b1⟩,D3⟩:∃b,r[(k+1)%r.length]?=some b:=⟨_,wC B9⟩;have F0:=zH (Qy D4 D3);have E6:=zH (Ss A5 D4);have E7:=zH (Ss A5 D3);have D5:=zH (show(((k+1:Nat):Int)).tmod (r.length:Int)=(((k+1)%r.length:Nat):Int)by rw[Int.tmod_eq_emod_of_nonneg ω];simp);have B5:=zH (show m2<=4096 by rw[C8.1,A6.1];exact dF HV.1 E5.1 (xQ B2));clear D4 D3 A5 E1;dsimp only at E6 E7
    generalize hj_:(k+1)%r.length=j at*;clear hj_;go_upto_region 8 with fail;apply wl;refine Cn Af (iV (k:Int)) _ (iV (i:Int)) ?_;apply zp (.pointer (some ⟨g,A0+i,none⟩)) (by exact Eh (k:=i) underlying22 (l:=B3) (f:=(show A0+i=A0+i*1 by omega)));refine ze g (A0+i) (.slice (some ⟨gr,B1,none⟩) r.length cb) (Dr (B6.1.ext.get C3.1)) ?_;apply zq (iV ((r.length:Nat):Int));apply zp τ (by exact Dp (e:=(Aq (by have B8:=B5.1;omega))));go_upto_region 10 with fail;apply wl;refine Bq Af _ (iV (i:Int)) ?_;apply zp (.pointer (some ⟨g,A0+i,none⟩)) (by exact Eh (k:=i) underlying22 (l:=B3) (f:=(show A0+i=A0+i*1 by omega)));refine ze g (A0+i) (.slice (some ⟨gr,B1,none⟩) r.length cb) (Dr (B6.1.ext.get C3.1)) ?_;apply zq (iV (k:Int));apply zp (.pointer (some ⟨gr,B1+k*2,none⟩)) (by exact Eh (k:=k) underlying43 (l:=B2) (f:=rfl));refine zd gr (B1+k*2) [iV a0,iV a1] (Be E6.1 B6.1.ext) underlying24 ?_;apply Cd 24 [iV 0,iV 0] B6.1;intro I8 I2 H3 F5;apply Ca 1 [iV a0,iV a1] H3.1;intro D1 C9 F4;go_upto_region 11 with fail;refine zy ?_;have H2:=zH (C9.1.step (Aa.refl D1).drew);have F3:=zH (Ah.of_ext (w:=D1) zb);refine Jv Af zb (bs 16 3) 0 1 _ (iV (i:Int)) ?_;refine zu 2 (bs 16 7) (v:= .pointer (some ⟨g,A0+i,none⟩)) zb ?_ (hv:=by intro w C5;exact Eh (k:=i) underlying22 (l:=B3) (f:=(show A0+i=A0+i*1 by omega)));refine zf 3 (bs 16 15) g (A0+i) (.slice (some ⟨gr,B1,none⟩) r.length cb) (Dr (C9.1.ext.get C3.1)) zb ?_;refine zx 4 (bs 16 31) (iV (k:Int)) zb ?_;refine zu 5 (bs 16 63) (v:= iV ((k+1:Nat):Int)) zb ?_ (hv:=by intro w C5;exact Hr (by have B8:=B5.1;omega));refine Jv Af zb (bs 16 255) 6 7 _ (iV (i:Int)) ?_;refine zu 8 (bs 16 511) (v:= .pointer (some ⟨g,A0+i,none⟩)) zb ?_ (hv:=by intro w C5;exact Eh (k:=i) underlying22 (l:=B3) (f:=(show A0+i=A0+i*1 by omega)));refine zf 9 (bs 16 1023) g (A0+i) (.slice (some ⟨gr,B1,none⟩) r.length cb) (Dr (C9.1.ext.get C3.1)) zb ?_;refine zx 10 (bs 16 2047) (iV ((r.length:Nat):Int)) zb ?_;refine zu 11 (bs 16 4095) (v:= iV (j:Int)) zb ?_ (hv:=by intro w C5;exact sZ rR rR rR ω D5.1 ω ω);refine zo 12 (bs 16 8191) (v:= .pointer (some ⟨gr,B1+j*2,none⟩)) zb ?_ (hv:=by intro w C5;exact Eh (k:=j) underlying43 (l:=B9) (f:=rfl));refine zg 13 (bs 16 16383) gr (B1+j*2) [iV b0,iV b1] (Be E7.1 C9.1.ext) underlying24 zb ?_;refine aK (T:=24) (zs:=[iV 0,iV 0]) (i:=14) (listed':=(bs 16 32767)) rR kR rR (by go_simp) kR H2.1 (by simp[Ar]) ?_;intro I7 F6 hh hx D2;have H1:=hN hh;have F2:=zH (show Ah D1.drew F6 from Ah.of_ext hx);have E4:=zH (zb.trans hx);have H5:=zH (Aw zb.size D2);clear hh hx D2;refine⟨E4.1,?_⟩;try simp only[ζ]
    refine bS 2 15 (bs 16 65535) [iV b0,iV b1] H1.1 E4.1 H5.1 ?_;intro E0 C4 F1 I9;refine wpAnyH_done kR ?_ _;rcases Ck ((a0,a1)=(b0,b1))with C|C
    ·go_upto_region 12 with fail
     apply wl;refine Bq C4.1 _ _ ?_;apply zp φ (by exact Kh rR rR rR (by have h_:=C.1;injection h_ with C7 C6;simp[C7,C6]));have D8:=tD (tD (tD (tD (tD D9 F5) F4) F3) F2) F1;go_wp2_with fail
     go_roundg (r.length-(k+1))
     case measure=>exact(by have B8:=B5.1;omega)
     case rel=>exact⟨k+1,m2,B4,A2,c2,rfl,rfl,(by go_num),B2,C8.1,(by rw[A6.1,Jy (F0.1.trans (if_pos C.1))]),C4.1.take 1,D8.1⟩
    go_upto_region 12 with fail;apply wl;refine Bq C4.1 _ _ ?_;apply zp τ (by exact Kh rR rR rR (by have h_:=C.1;simp only[Bool.not_eq_true',Bool.and_eq_false_iff,beq_eq_false_iff_ne];exact(Classical.em (a0=b0)).elim (fun q_=> .inr (fun q2_=>h_ (by rw[q_,q2_]))) .inl));go_upto_region 13 with fail;apply wl;refine Ek C4.1 _ _ _ _ ?_;refine zp (w':=(E0.alloc (.cells ([iV a0,iV a1,iV b0,iV b1]:List Value).toArray 92))) (.slice (π E0.heap.size) 1 1) (by go_simp) ?_;refine Hn rR _ _ _ rR uI rR C4.1 (ix:=0) rR 1 1 [iV a0,iV a1,iV b0,iV b1] rR rfl (by simp[Value.oneCell']) (by simp[Ar]) dC (by unfold maxLen;exact(by have B8:=B5.1;omega)) (by have B8:=B5.1;omega) ?_;intro E3 C2 I1 hf hh hd hg;have H6:=zH hf;clear hf;rw[show List.flatMap Jb B4++[iV a0,iV a1,iV b0,iV b1]=_ from Ds Jb _ ((a0,a1),(b0,b1))]at hh;have G9:=hN hh;have H8:=zH (hd);clear hh hd hg;try simp only[ζ]
    apply zq (.slice (π E3) (m2+1) C2);have D7:=tD (tD (tD (tD (tD (tD D9 F5) F4) F3) F2) F1) H8;go_wp2_with fail
    go_roundg (r.length-(k+1))
    case measure=>exact(by have B8:=B5.1;omega)
    case rel=>exact⟨k+1,m2+1,B4++[((a0,a1),(b0,b1))],some ⟨E3,0,none⟩,C2,rfl,rfl,(by go_num),B2,(by rw[wD,C8.1];rfl),(by rw[A6.1,Eu (F0.1.trans (if_neg C.1)),wN]),G9.1.take 1,D7.1⟩
   have B2:=HLU.1;have I5:=G6.1;obtain rfl:k=r.length:=ω
   go_upto_region 8 with fail;apply wl;refine Cn Af (iV ((r.length:Nat):Int)) _ (iV (i:Int)) ?_;apply zp (.pointer (some ⟨g,A0+i,none⟩)) (by exact Eh (k:=i) underlying22 (l:=B3) (f:=(show A0+i=A0+i*1 by omega)));refine ze g (A0+i) (.slice B r.length cb) (Dr (B6.1.ext.get C3.1)) ?_;apply zq (iV ((r.length:Nat):Int));apply zp φ (by exact Dp (e:=(Aj (Int.lt_irrefl _))));have D6:=tD H9 D9;go_wp2_with fail
   go_roundg (rs.length-(i+1))
   case measure=>exact(ω)
   case rel=>exact⟨i+1,m2,B4,A2,c2,rfl,rfl,(by go_num),B3,C8.1,(by rw[A6.1,Ly E5.1]),B6.1,D6.1⟩
  have B3:=HLT.1;have I6:=G7.1;obtain rfl:i=rs.length:=ω
  have D2:¬(rs.length:Int)<(rs.length:Int):=ω;have E9:=zH (show es=Ab rs by rw[E8.1,xK,Mp HV.1]);go_upto_region 14 with fail;apply wl;refine Bq Af _ _ ?_;go_wp2_with fail;go_ret;exact⟨A1,m,c1,rfl,by rw[HM.1,E9.1],by rw[<-E9.1];exact D0.1.row (i:=0) (by rfl),D0.1.ext⟩
 have HV:=zH c1;clear c1;go_upto_region 0 with fail;apply wl;refine Cy Af _ ?_;go_upto_region 1 with fail;apply wl;refine Cy Af _ ?_;go_upto_region 2 with fail;apply wl;refine Cy Af _ ?_;refine zc (Ct _ rs _ (HU.1.ext H0.1.ext) HN.1 HR.1) ?_;rintro e I0 ⟨rfl,hx⟩;have G8:=zH (H0.1.step hx);clear hx;refine⟨.bool false,by rw[Bool.eq_false_iff.2 HV.1],?_⟩;try simp only[ζ]
 apply zq τ;go_upto_region 3 with fail;apply wl;refine Bq Af _ _ ?_;go_wp2_with fail;go_ret;exact⟨none,0,0,rfl,by rw[Qh HV.1];rfl,by rw[Qh HV.1];exact Bi.nil _ _ _ _,G8.1.ext⟩
theorem oO {w0 w:World}{m:List Dl}{X i:Nat}{a b c d:Int×Int}(h:Hp w0 w m)(h1:m[i]?=some (.blk X 24 [iV a.1,iV a.2,iV b.1,iV b.2,iV c.1,iV c.2,iV d.1,iV d.2])):Gs w (.slice (π X) 4 4) [a,b,c,d]:=by
 refine⟨_,4,rfl,fun _=>⟨X,0,rfl,fun i hi=> ?_⟩⟩;have hi:i<4:=hi;have:i=0\/i=1\/i=2\/i=3:=ω
 rcases this with rfl|rfl|rfl|rfl
 ·exact⟨h.cell h1 0 rfl,h.cell h1 1 rfl⟩
 ·exact⟨h.cell h1 2 rfl,h.cell h1 3 rfl⟩
 ·exact⟨h.cell h1 4 rfl,h.cell h1 5 rfl⟩
 exact⟨h.cell h1 6 rfl,h.cell h1 7 rfl⟩
theorem Jd {w0 w:World}{m:List Dl}{X i:Nat}{a b:Int×Int}(h:Hp w0 w m)(h1:m[i]?=some (.blk X 24 [iV a.1,iV a.2,iV b.1,iV b.2])):Gs w (.slice (π X) 2 2) [a,b]:=by
  refine⟨_,2,rfl,fun _=>⟨X,0,rfl,fun i hi=> ?_⟩⟩;have hi:i<2:=hi;have:i=0\/i=1:=ω
  rcases this with rfl|rfl
  · exact⟨h.cell h1 0 rfl,h.cell h1 1 rfl⟩
  exact⟨h.cell h1 2 rfl,h.cell h1 3 rfl⟩
theorem Uw (a b c d:Int×Int):0<=(Ai a b c d).2/\(Ai a b c d).2<=2:=by
  unfold Ai;split
  · exact⟨by decide,by decide⟩
  split
  · exact⟨(show(0:Int)<=1 by decide),(show(1:Int)<=2 by decide)⟩
  exact⟨by decide,by decide⟩
theorem Ps {a b c d:Int×Int}(ha:Dy a)(hb:Dy b)(hc:Dy c)(hd:Dy d):Dy (Ai a b c d).1:=by
  unfold Ai;split
  · exact(show Cm 0 0=true by decide)
  split
  · exact iD ha hb hc hd
  exact(show Cm 0 0=true by decide)
def Jn (a b c d:Int×Int):Rat:=((cr (dv a c) (dv c d):Int):Rat)/((cr (dv a b) (dv c d):Int):Rat)
def Oj (a b c d:Int×Int):Rat:=((cr (dv a c) (dv a b):Int):Rat)/((cr (dv a b) (dv c d):Int):Rat)
def iP (x:Rat):Prop:=¬x<(((0):Int):Rat)/\¬(((1):Int):Rat)<x
instance uV (x:Rat):Decidable (iP x):=inferInstanceAs (Decidable (_/\_))
def Cf (a b c d:Int×Int):Int×Int:=if dv a b=(0,0)then dv c d else dv a b
def Db (a b c d:Int×Int):Int:=
  if cr (dv a b) (dv c d)≠0 then(if iP (Jn a b c d)/\iP (Oj a b c d)then 1 else 0)
  else if cr (Cf a b c d) (dv a c)≠0\/(Cf a b c d=(0,0)/\a≠c)then 0 else(Ai a b c d).2
def Rc (a b c d:Int×Int):Rat:=if cr (dv a b) (dv c d)≠0 then(a.1:Rat)+Jn a b c d*((b.1-a.1:Int):Rat)else(((Ai a b c d).1.1:Int):Rat)
def Jm (a b c d:Int×Int):Rat:=if cr (dv a b) (dv c d)≠0 then(a.2:Rat)+Jn a b c d*((b.2-a.2:Int):Rat)else(((Ai a b c d).1.2:Int):Rat)
def Iz (a b c d:Int×Int)(w:World)(e:Ending)(w':World):Prop:=
  ((∃r s:RV,Db a b c d=1/\e= .returned (.tuple #[(rg r),(rg s),iV 1])/\r.Is w' (Rc a b c d)/\s.Is w' (Jm a b c d))\/
    (Db a b c d≠1/\e= .returned (.tuple #[.agg z4,.agg z4,iV (Db a b c d)])))/\Aa w w'
theorem So (a b:Int)(h1: -9223372036854775808<=a/\a<=9223372036854775807)(h2: -9223372036854775808<=b/\b<=9223372036854775807):Nm.rl ((a:Rat)/(b:Rat))<=8:=by
  have h:=Nm.rl_div (a:Rat) (b:Rat);have h3:=Bm a h1.1 h1.2;have h4:=Bm b h2.1 h2.2;omega
theorem Oi (a b c d:Int×Int)(w:World)(ha:Dy a)(hb:Dy b)(hc:Dy c)(hd:Dy d):
  Calls prog 61 #[.agg #[iV a.1,iV a.2],.agg #[iV b.1,iV b.2],.agg #[iV c.1,iV c.2],.agg #[iV d.1,iV d.2]] w (Iz a b c d w):=by
 have R2:=zH (show Dd [a,b,c,d]=true from by simp[Dd,ha,hb,hc,hd]);have l3:=Pi (Co ha hb) (Co hc hd);have l1:=Pi (Co ha hc) (Co hc hd);have l0:=Pi (Co ha hc) (Co ha hb);have oa:=Bg ha;have ob:=Bg hb;have oc:=Bg hc;have od:=Bg hd;go_enter func61,ntmps61
 have H0:=zH (Hp.start w);go_upto_region 0 with fail;apply wl;apply Cd 24 [iV a.1,iV a.2] H0.1;intro D0 j8 i4 _;apply Cd 24 [iV b.1,iV b.2] i4.1;intro D6 j7 i3 _;apply Cd 24 [iV c.1,iV c.2] i3.1;intro H5 j6 i2 _;apply Cd 24 [iV d.1,iV d.2] i2.1;intro N9 j5 i1 _;refine Cd 31 rz i1.1 ?_;intro E6 j4 i0 _;refine Cd 31 rz i0.1 ?_;intro E5 j0 Z2 _;apply zq (iV 0);go_upto_region 1 with fail;apply wl;refine Ek Z2.1 _ _ _ _ ?_;apply fL 4 24 [iV a.1,iV a.2,iV b.1,iV b.2,iV c.1,iV c.2,iV d.1,iV d.2] Z2.1;intro P2 i9 Z1 _;refine zc (Hv (.slice (π P2) 4 4) [a,b,c,d] _ (oO Z1.1 (i:=6) rR) (by simp)) ?_;rintro e H4 ⟨rfl,hx⟩;have R3:=zH (Z1.1.step hx);clear hx;refine⟨.bool true,by rw[R2.1],?_⟩;try simp only[ζ]
 apply zq φ;go_upto_region 3 with fail;refine zy ?_;have g9:=zH (R3.1.step (Aa.refl H4).drew);refine tZ R3.1 zb (bs 15 219) 0 1 3 4 6 7 _ _ _ _ _ _ ?_;refine FN.go3 (j1:=⟨9,some 11,24,[iV 0,iV 0]⟩) (j2:=⟨10,some 12,24,[iV 0,iV 0]⟩) (j3:=⟨11,some 13,24,[iV 0,iV 0]⟩) (b:=H4) ?_ zb;refine gN 2 (bs 15 223) (fk (fk (fk trivial))) zb.size (fun xq B1=>Rw b a _ hb ha) (by rintro x_ e H3 ⟨rfl,hx⟩;exact hx) ?_;rintro xq e i8 B1 ⟨rfl,hx⟩;replace hx:=B1.trans hx;clear B1;have g8:=zH (g9.1.step hx);have Z0:=zH (zb.trans hx);clear hx;refine⟨_,rfl,?_⟩;try simp only[ζ]
 refine gN 5 (bs 15 255) (fk (fk (fk trivial))) Z0.1.size (fun xq B1=>Rw d c _ hd hc) (by rintro x_ e H3 ⟨rfl,hx⟩;exact hx) ?_;rintro xq e i7 B1 ⟨rfl,hx⟩;replace hx:=B1.trans hx;clear B1;have g7:=zH (g8.1.step hx);have Y9:=zH (Z0.1.trans hx);clear hx;refine⟨_,rfl,?_⟩;try simp only[ζ]
 refine gN 8 (bs 15 511) (fk (fk (fk trivial))) Y9.1.size (fun xq B1=>Rw c a _ hc ha) (by rintro x_ e H3 ⟨rfl,hx⟩;exact hx) ?_;rintro xq e i6 B1 ⟨rfl,hx⟩;replace hx:=B1.trans hx;clear B1;have g6:=zH (g7.1.step hx);have P9:=zH (Y9.1.trans hx);clear hx;refine⟨_,rfl,?_⟩;try simp only[ζ]
 refine vS (bs 15 4095) (fk (fk (fk trivial))) P9.1.size R3.1 g6.1 ?_;intro F2 F1 C4 O9 hx hh I5 I4 Y8 hs;have W3:=hN hh;have P8:=zH (show Aa H4 O9 from hs);have W8:=zH (show H4.heap.size<=F2 from I5);have W7:=zH (show H4.heap.size<=F1 from I4);have W6:=zH (show H4.heap.size<=C4 from Y8);clear hh hx hs I5 I4 Y8;try simp only[ζ]
 refine bS 7 12 (bs 15 8191) [iV ((dv a b).1),iV ((dv a b).2)] W3.1 P8.1 W8.1 ?_;intro f2 W2 _ P7;refine bS 8 13 (bs 15 16383) [iV ((dv c d).1),iV ((dv c d).2)] W2.1 P7.1 W7.1 ?_;intro f1 W1 _ P6;refine bS 9 14 (bs 15 32767) [iV ((dv a c).1),iV ((dv a c).2)] W1.1 P6.1 W6.1 ?_;intro f0 L2 _ g4;refine wpAnyH_done kR ?_ _;go_upto_region 4 with fail;apply wl;refine Bq L2.1 _ _ ?_;refine aC L2.1 (Gq (dv a b) (dv c d) _ (Co ha hb) (Co hc hd)) ?_;intro D3 D5 _;apply zq (iV (cr (dv a b) (dv c d)));rcases Ck (cr (dv a b) (dv c d)≠0)with HNZ|HNZ
 ·go_upto_region 5 with fail
  apply wl;apply zq (iV (cr (dv a b) (dv c d)));apply zp τ (by exact Kg (e:=(Aq HNZ.1)));go_upto_region 6 with fail;refine zy ?_;have W0:=zH (D5.1.step (Aa.refl D3).drew);refine tZ D5.1 zb (bs 14 363) 0 1 3 5 6 8 _ _ (iV (cr (dv a b) (dv c d))) _ _ (iV (cr (dv a b) (dv c d))) ?_;refine FN.go2 (j1:=⟨10,some 15,31,[.bool false,.slice none 0 0,.bool false,.slice none 0 0]⟩) (j2:=⟨11,some 16,31,[.bool false,.slice none 0 0,.bool false,.slice none 0 0]⟩) (b:=D3) ?_ zb;refine gN 2 (bs 14 367) (fk (fk trivial)) zb.size (fun xq B1=>Gq (dv a c) (dv c d) _ (Co ha hc) (Co hc hd)) (by rintro x_ e H3 ⟨rfl,hx⟩;exact hx) ?_;rintro xq e d9 B1 ⟨rfl,hx⟩;replace hx:=B1.trans hx;clear B1;have V9:=zH (W0.1.step hx);have K7:=zH (zb.trans hx);clear hx;refine⟨_,rfl,?_⟩;try simp only[ζ]
  refine gN 4 (bs 14 383) (fk (fk trivial)) K7.1.size (fun xq B1=>Yh (cr (dv a c) (dv c d)) (cr (dv a b) (dv c d)) _ ω ω ω ω HNZ.1) (by rintro x_ e H3 ⟨c_,rfl,B2,hx⟩;exact hx) ?_;rintro xq e d8 B1 ⟨c_,rfl,B2,hx⟩;replace hx:=B1.trans hx;clear B1;have V8:=zH (V9.1.step hx);have K6:=zH (K7.1.trans hx);obtain⟨A0,rfl,A3⟩:=B2;have F6:=zH A3;have H2:=zH (So (cr (dv a c) (dv c d)) (cr (dv a b) (dv c d)) ω ω);clear A3 hx;refine⟨_,rfl,?_⟩;try simp only[ζ]
  refine gN 7 (bs 14 511) (fk (fk trivial)) K6.1.size (fun xq B1=>Gq (dv a c) (dv a b) _ (Co ha hc) (Co ha hb)) (by rintro x_ e H3 ⟨rfl,hx⟩;exact hx) ?_;rintro xq e d7 B1 ⟨rfl,hx⟩;replace hx:=B1.trans hx;clear B1;have V7:=zH (V8.1.step hx);have N7:=zH (Ah.of_ext hx);have K5:=zH (K6.1.trans hx);clear hx;refine⟨_,rfl,?_⟩;try simp only[ζ]
  refine gN 9 (bs 14 1023) (fk (fk trivial)) K5.1.size (fun xq B1=>Yh (cr (dv a c) (dv a b)) (cr (dv a b) (dv c d)) _ ω ω ω ω HNZ.1) (by rintro x_ e H3 ⟨c_,rfl,B2,hx⟩;exact hx) ?_;rintro xq e d6 B1 ⟨c_,rfl,B2,hx⟩;replace hx:=B1.trans hx;clear B1;have V6:=zH (V7.1.step hx);have N6:=zH (Ah.of_ext hx);have P5:=zH (K5.1.trans hx);obtain⟨A1,rfl,A3⟩:=B2;have R1:=zH A3;have Y7:=zH (So (cr (dv a c) (dv a b)) (cr (dv a b) (dv c d)) ω ω);clear A3 hx;refine⟨_,rfl,?_⟩;try simp only[ζ]
  refine pU (bs 14 4095) (fk (fk trivial)) P5.1.size D5.1 V6.1 ?_;intro C8 I7 O8 hx hh I5 I4 hs;have V5:=hN hh;have G9:=zH (Ah.of_ext hx);have P4:=zH (show Aa D3 O8 from hs);have W5:=zH (show D3.heap.size<=C8 from I5);have W4:=zH (show D3.heap.size<=I7 from I4);clear hh hx hs I5 I4;try simp only[ζ]
  refine bS 10 12 (bs 14 8191) (rc A0) V5.1 P4.1 W5.1 ?_;intro d5 V4 G8 P3;refine bS 11 13 (bs 14 16383) (rc A1) V4.1 P3.1 W4.1 ?_;intro d4 L1 G7 g3;refine wpAnyH_done kR ?_ _;go_upto_region 7 with fail;apply wl;refine Bq L1.1 _ _ ?_;apply fL 2 31 [.bool A0.n,.slice A0.p A0.l A0.c,.bool A0.m,.slice A0.p2 A0.l2 A0.c2,.bool A1.n,.slice A1.p A1.l A1.c,.bool A1.m,.slice A1.p2 A1.l2 A1.c2] L1.1;intro D7 O7 L0 G6;refine Bq Af _ _ ?_;go_wp2_with fail;go_loopg [59] (2) (fun cq P0 wr=>∃(k:Nat),cq=2-k/\P0= iV (k:Int)/\(k<=2)/\(1<=k->iP (Jn a b c d))/\(2<=k->iP (Oj a b c d))/\Hp w wr [.blk D0 24 [iV a.1,iV a.2],.blk D6 24 [iV b.1,iV b.2],.blk H5 24 [iV c.1,iV c.2],.blk N9 24 [iV d.1,iV d.2],.blk E6 31 [.bool false,.slice none 0 0,.bool false,.slice none 0 0],.blk E5 31 [.bool false,.slice none 0 0,.bool false,.slice none 0 0],.blk P2 24 [iV a.1,iV a.2,iV b.1,iV b.2,iV c.1,iV c.2,iV d.1,iV d.2],.blk F2 24 [iV ((dv a b).1),iV ((dv a b).2)],.blk F1 24 [iV ((dv c d).1),iV ((dv c d).2)],.blk C4 24 [iV ((dv a c).1),iV ((dv a c).2)],.blk C8 31 (rc A0),.blk I7 31 (rc A1),.blk D7 31 [.bool A0.n,.slice A0.p A0.l A0.c,.bool A0.m,.slice A0.p2 A0.l2 A0.c2,.bool A1.n,.slice A1.p A1.l A1.c,.bool A1.m,.slice A1.p2 A1.l2 A1.c2]]/\Ah O7 wr)
  case atStart=>exact⟨0,rfl,rfl,(by decide),(fun h_=>absurd h_ (by decide)),(fun h_=>absurd h_ (by decide)),L0.1,Ah.refl _⟩
  obtain⟨k,rfl,rfl,H8,I0,H9,I3,I6⟩:=hrel;generalize wr=B0 at*;have HK:=zH H8;clear H8;have H0:=zH I0;clear I0;have H1:=zH H9;clear H9;have A2:=zH I3;have E4:=zH I6;clear I3 I6 L0;rcases Ck (k<2)with HLT|HLT
  ·have M5:=tD (tD (tD (tD (tD (tD N7 N6) G9) G8) G7) G6) E4
   have M4:=tD (tD (tD (tD G9 G8) G7) G6) E4;have I2:k=0\/k=1:=by have h_:=HLT.1;omega
   have H6:=zH I2;clear I2;obtain⟨rk,D4⟩:∃r:RV,r=if k=0 then A0 else A1:=⟨_,rfl⟩
   obtain⟨xk,C5⟩:∃x:Rat,x=if k=0 then Jn a b c d else Oj a b c d:=⟨_,rfl⟩
   have O0:=zH C5;have K8:=zH (show rk.Is B0 xk from by rcases H6.1 with h_|h_;rw[D4,C5,if_pos h_,if_pos h_];exact(F6.1.dig M5.1);rw[D4,C5,if_neg ω,if_neg ω];exact(R1.1.dig M4.1));have K9:=zH (show Nm.rl xk<=8 from by rcases H6.1 with h_|h_;rw[C5,if_pos h_];exact H2.1;rw[C5,if_neg ω];exact Y7.1);have g5:=zH (show World.rangeAt B0 D7 (k*4) (rc rk)from by rcases H6.1 with h_|h_;rw[D4,if_pos h_,h_];exact A2.1.range (i:=12) (by rfl) 0 4;have g1:k=1:=h_;rw[D4,if_neg ω,g1];exact A2.1.range (i:=12) (by rfl) 4 4);clear D4 C5;go_upto_region 8 with fail
   apply wl;apply zp τ (by exact Dp (e:=(Aq (by have B4:=HLT.1;omega))));go_upto_region 9 with fail;apply wl;apply zp (.pointer (some ⟨D7,k*4,none⟩)) (by exact Eh (k:=k) underlying54 (l:=HLT.1) (f:=(wH _).symm));refine zd D7 (k*4) (rc rk) g5.1 underlying31 ?_;refine Cd 31 rz A2.1 ?_;intro g2 d3 V3 E3;apply Ca 13 (rc rk) V3.1;intro B6 C3 E2;rcases Ck (xk<(((0):Int):Rat))with C1|C1
   ·go_upto_region 10 with fail
    refine zy ?_;have V2:=zH (C3.1.step (Aa.refl B6).drew);have Y1:=zH (Ah.of_ext (w:=B6) zb);refine Rt C3.1 zb (bs 10 1) 0 _ ?_;refine mC 1 (bs 10 3) (Ff 0 _ (by have B4:=HLT.1;omega) (by have B4:=HLT.1;omega)) ?_;rintro e O6 ⟨c_,rfl,B2,hx⟩;have V1:=zH (V2.1.step hx);have Y0:=zH (show Ah B6.drew O6 from Ah.of_ext hx);have K4:=zH (zb.trans hx);obtain⟨f7,rfl,A3⟩:=B2;have R0:=zH A3;have Y6:=zH (Bm 0 (by have B4:=HLT.1;omega) (by have B4:=HLT.1;omega));clear A3 hx;apply zm K4.1;have M3:=tD (tD (tD E3 E2) Y1) Y0;refine mC 2 (bs 10 7) (Ig (L:=60000) (RV.Is.nin (K8.1.dig M3.1) (Aw K9.1 ω)) (RV.Is.nin R0.1 (Aw Y6.1 ω)) ω) ?_;rintro e d2 ⟨rfl,hx⟩;have V0:=zH (V1.1.step hx);have F5:=zH (K4.1.trans hx);clear hx;apply zm F5.1;refine zu 3 (bs 10 15) (v:= .bool true) F5.1 ?_ (hv:=by intro w N8;exact Dp (e:=(Aq (rcmp_lt.2 C1.1))));refine tZ Af F5.1 (bs 10 1023) 4 5 6 7 8 9 τ _ _ _ _ τ ?_;refine wpAnyH_done kR ?_ _;go_upto_region 11 with fail
    apply wl;refine Bq Af _ _ ?_;refine Ca 4 rz V0.1 ?_;intro d1 U9 _;refine Ca 5 rz U9.1 ?_;intro d0 G5 _;apply zq (iV 0);have B5:=zH (show Db a b c d=0 from by unfold Db;rw[if_pos HNZ.1,if_neg (fun h_=>by have e_:=O0.1;rcases H6.1 with k_|k_;rw[if_pos k_]at e_;exact h_.1.1 (e_▸C1.1);rw[if_neg ω]at e_;exact h_.2.1 (e_▸C1.1))]);go_wp2_with fail
    refine bodyPost_ret (v:= .tuple #[.agg z4,.agg z4,iV 0]) ?_ rfl ⟨.inr ⟨by rw[B5.1];decide,by rw[B5.1]⟩,G5.1.ext⟩;exact Av rfl rfl rfl ((G5.1.blk (i:=4) rR).loadVar rfl rfl rR) ((G5.1.blk (i:=5) rR).loadVar rfl rfl rR) rfl
   rcases Ck ((((1):Int):Rat)<xk)with C2|C2
   ·go_upto_region 10 with fail
    refine zy ?_;have U8:=zH (C3.1.step (Aa.refl B6).drew);have X9:=zH (Ah.of_ext (w:=B6) zb);refine Rt C3.1 zb (bs 10 1) 0 _ ?_;refine mC 1 (bs 10 3) (Ff 0 _ (by have B4:=HLT.1;omega) (by have B4:=HLT.1;omega)) ?_;rintro e O5 ⟨c_,rfl,B2,hx⟩;have U7:=zH (U8.1.step hx);have X8:=zH (show Ah B6.drew O5 from Ah.of_ext hx);have K3:=zH (zb.trans hx);obtain⟨f6,rfl,A3⟩:=B2;have Q9:=zH A3;have Y5:=zH (Bm 0 (by have B4:=HLT.1;omega) (by have B4:=HLT.1;omega));clear A3 hx;apply zm K3.1;have E9:=tD (tD (tD E3 E2) X9) X8;refine mC 2 (bs 10 7) (Ig (L:=60000) (RV.Is.nin (K8.1.dig E9.1) (Aw K9.1 ω)) (RV.Is.nin Q9.1 (Aw Y5.1 ω)) ω) ?_;rintro e c9 ⟨rfl,hx⟩;have U6:=zH (U7.1.step hx);have X7:=zH (Ah.of_ext hx);have D9:=zH (K3.1.trans hx);clear hx;apply zm D9.1;refine zu 3 (bs 10 15) (v:= .bool false) D9.1 ?_ (hv:=by intro w N8;exact Dp (e:=(Aj (fun hh=>C1.1 (rcmp_lt.1 hh)))));refine Jv C3.1 D9.1 (bs 10 63) 4 5 φ _ ?_;refine mC 6 (bs 10 127) (Ff 1 _ (by have B4:=HLT.1;omega) (by have B4:=HLT.1;omega)) ?_;rintro e c8 ⟨c_,rfl,B2,hx⟩;have U5:=zH (U6.1.step hx);have X6:=zH (Ah.of_ext hx);have K2:=zH (D9.1.trans hx);obtain⟨f5,rfl,A3⟩:=B2;have Q8:=zH A3;have Y4:=zH (Bm 1 (by have B4:=HLT.1;omega) (by have B4:=HLT.1;omega));clear A3 hx;apply zm K2.1;have M2:=tD (tD E9 X7) X6;refine mC 7 (bs 10 255) (Ig (L:=60000) (RV.Is.nin (K8.1.dig M2.1) (Aw K9.1 ω)) (RV.Is.nin Q8.1 (Aw Y4.1 ω)) ω) ?_;rintro e c7 ⟨rfl,hx⟩;have U4:=zH (U5.1.step hx);have F4:=zH (K2.1.trans hx);clear hx;apply zm F4.1;refine zu 8 (bs 10 511) (v:= .bool true) F4.1 ?_ (hv:=by intro w N8;exact Ph (e:=(Aq (If.2 C2.1))));refine zx 9 (bs 10 1023) τ F4.1 ?_;refine wpAnyH_done kR ?_ _;go_upto_region 11 with fail
    apply wl;refine Bq Af _ _ ?_;refine Ca 4 rz U4.1 ?_;intro c6 U3 _;refine Ca 5 rz U3.1 ?_;intro c5 G4 _;apply zq (iV 0);have B5:=zH (show Db a b c d=0 from by unfold Db;rw[if_pos HNZ.1,if_neg (fun h_=>by have e_:=O0.1;rcases H6.1 with k_|k_;rw[if_pos k_]at e_;exact h_.1.2 (e_▸C2.1);rw[if_neg ω]at e_;exact h_.2.2 (e_▸C2.1))]);go_wp2_with fail
    refine bodyPost_ret (v:= .tuple #[.agg z4,.agg z4,iV 0]) ?_ rfl ⟨.inr ⟨by rw[B5.1];decide,by rw[B5.1]⟩,G4.1.ext⟩;exact Av rfl rfl rfl ((G4.1.blk (i:=4) rR).loadVar rfl rfl rR) ((G4.1.blk (i:=5) rR).loadVar rfl rfl rR) rfl
   go_upto_region 10 with fail;refine zy ?_;have U2:=zH (C3.1.step (Aa.refl B6).drew);have N5:=zH (Ah.of_ext (w:=B6) zb);refine Rt C3.1 zb (bs 10 1) 0 _ ?_;refine mC 1 (bs 10 3) (Ff 0 _ (by have B4:=HLT.1;omega) (by have B4:=HLT.1;omega)) ?_;rintro e O4 ⟨c_,rfl,B2,hx⟩;have U1:=zH (U2.1.step hx);have N4:=zH (show Ah B6.drew O4 from Ah.of_ext hx);have K1:=zH (zb.trans hx);obtain⟨f4,rfl,A3⟩:=B2;have Q7:=zH A3;have Y3:=zH (Bm 0 (by have B4:=HLT.1;omega) (by have B4:=HLT.1;omega));clear A3 hx;apply zm K1.1;have E8:=tD (tD (tD E3 E2) N5) N4;refine mC 2 (bs 10 7) (Ig (L:=60000) (RV.Is.nin (K8.1.dig E8.1) (Aw K9.1 ω)) (RV.Is.nin Q7.1 (Aw Y3.1 ω)) ω) ?_;rintro e c4 ⟨rfl,hx⟩;have U0:=zH (U1.1.step hx);have N3:=zH (Ah.of_ext hx);have D8:=zH (K1.1.trans hx);clear hx;apply zm D8.1;refine zu 3 (bs 10 15) (v:= .bool false) D8.1 ?_ (hv:=by intro w N8;exact Dp (e:=(Aj (fun hh=>C1.1 (rcmp_lt.1 hh)))));refine Jv C3.1 D8.1 (bs 10 63) 4 5 φ _ ?_;refine mC 6 (bs 10 127) (Ff 1 _ (by have B4:=HLT.1;omega) (by have B4:=HLT.1;omega)) ?_;rintro e c3 ⟨c_,rfl,B2,hx⟩;have T9:=zH (U0.1.step hx);have N2:=zH (Ah.of_ext hx);have K0:=zH (D8.1.trans hx);obtain⟨f3,rfl,A3⟩:=B2;have Q6:=zH A3;have Y2:=zH (Bm 1 (by have B4:=HLT.1;omega) (by have B4:=HLT.1;omega));clear A3 hx;apply zm K0.1;have M1:=tD (tD E8 N3) N2;refine mC 7 (bs 10 255) (Ig (L:=60000) (RV.Is.nin (K8.1.dig M1.1) (Aw K9.1 ω)) (RV.Is.nin Q6.1 (Aw Y2.1 ω)) ω) ?_;rintro e c1 ⟨rfl,hx⟩;have T8:=zH (T9.1.step hx);have X5:=zH (Ah.of_ext hx);have F3:=zH (K0.1.trans hx);clear hx;apply zm F3.1;refine zu 8 (bs 10 511) (v:= .bool false) F3.1 ?_ (hv:=by intro w N8;exact Ph (e:=(Aj (fun hh=>C2.1 (If.1 hh)))));refine zx 9 (bs 10 1023) φ F3.1 ?_;refine wpAnyH_done kR ?_ _;go_upto_region 12 with fail
   apply wl;apply zp (iV ((k+1:Nat):Int)) (by exact Hr (by have B4:=HLT.1;omega));apply zq (iV ((k+1:Nat):Int));have M0:=tD (tD (tD (tD (tD (tD (tD E4 E3) E2) N5) N4) N3) N2) X5;go_wp2_with fail
   go_roundg (2-(k+1))
   case measure=>exact(by have B4:=HLT.1;omega)
   case rel=>exact⟨k+1,rfl,(by go_num),(by have h_:=HLT.1;omega),(fun _=>by rcases H6.1 with k_|k_;have e_:=O0.1;rw[if_pos k_]at e_;rw[<-e_];exact⟨C1.1,C2.1⟩;exact H0.1 ω),(fun g0=>by have e_:=O0.1;rw[if_neg ω]at e_;rw[<-e_];exact⟨C1.1,C2.1⟩),T8.1.take 13,M0.1⟩
  obtain rfl:k=2:=by have h_:=HLT.1;have g0:=HK.1;omega
  have B5:=zH (show Db a b c d=1 from by unfold Db;rw[if_pos HNZ.1,if_pos ⟨H0.1 (by decide),H1.1 (by decide)⟩]);go_upto_region 8 with fail;apply wl;apply zp φ (by exact Dp (e:=(Aj dC)));go_upto_region 13 with fail;refine wp_region_held_drew (S:=fun x=>Fr (fun kz=>kz=E6\/kz=E5) B0 x) kR (Fr.of_ext zb) (fun _=> ?_);have T7:=zH (A2.1.step (Aa.refl B0).drew);have X4:=zH (Ah.of_ext (w:=B0) zb);refine zx 0 (bs 15 1) (.pointer (π D0)) (Fr.of_ext zb) ?_;refine Cr (g:=D0) (o:=0) (v:= iV a.1) (i:=1) (listed':=(bs 15 3)) rR kR kR kR (by intro _ _ _ h;exact h) rR (fun x hx=>Fr.cell hx (show World.cell? B0 ⟨D0,0,none⟩=some (iV a.1)from At (A2.1.range (i:=0) rR 0 1)) (fun hk=>hk.elim (A2.1.offBlk (i:=0) (j:=4) rR rR dC rR) (A2.1.offBlk (i:=0) (j:=5) rR rR dC rR))) (by intro x hq;go_simp<;>with_reducible rfl) (Fr.of_ext zb) kR ?_;try simp only[ζ]
  refine zx 2 (bs 15 7) (.pointer (π D6)) (Fr.of_ext zb) ?_;refine Cr (g:=D6) (o:=0) (v:= iV b.1) (i:=3) (listed':=(bs 15 15)) rR kR kR kR (by intro _ _ _ h;exact h) rR (fun x hx=>Fr.cell hx (show World.cell? B0 ⟨D6,0,none⟩=some (iV b.1)from At (A2.1.range (i:=1) rR 0 1)) (fun hk=>hk.elim (A2.1.offBlk (i:=1) (j:=4) rR rR dC rR) (A2.1.offBlk (i:=1) (j:=5) rR rR dC rR))) (by intro x hq;go_simp<;>with_reducible rfl) (Fr.of_ext zb) kR ?_;refine zr 4 (bs 15 31) C8 (0) (rc A0) (fun x hx=>Fr.range hx (show World.rangeAt B0 C8 (0) (rc A0)from(A2.1.range (i:=10) rR 0 4)) (fun hk=>hk.elim (A2.1.offBlk (i:=10) (j:=4) rR rR dC rR) (A2.1.offBlk (i:=10) (j:=5) rR rR dC rR))) underlying31 (Fr.of_ext zb) ?_;refine zx 6 (bs 15 95) (.pointer (some ⟨D0,1,none⟩)) (Fr.of_ext zb) ?_;refine Cr (g:=D0) (o:=1) (v:= iV a.2) (i:=7) (listed':=(bs 15 223)) rR kR kR kR (by intro _ _ _ h;exact h) rR (fun x hx=>Fr.cell hx (show World.cell? B0 ⟨D0,1,none⟩=some (iV a.2)from At (A2.1.range (i:=0) rR 1 1)) (fun hk=>hk.elim (A2.1.offBlk (i:=0) (j:=4) rR rR dC rR) (A2.1.offBlk (i:=0) (j:=5) rR rR dC rR))) (by intro x hq;go_simp<;>with_reducible rfl) (Fr.of_ext zb) kR ?_;try simp only[ζ]
  refine zx 8 (bs 15 479) (.pointer (some ⟨D6,1,none⟩)) (Fr.of_ext zb) ?_;refine Cr (g:=D6) (o:=1) (v:= iV b.2) (i:=9) (listed':=(bs 15 991)) rR kR kR kR (by intro _ _ _ h;exact h) rR (fun x hx=>Fr.cell hx (show World.cell? B0 ⟨D6,1,none⟩=some (iV b.2)from At (A2.1.range (i:=1) rR 1 1)) (fun hk=>hk.elim (A2.1.offBlk (i:=1) (j:=4) rR rR dC rR) (A2.1.offBlk (i:=1) (j:=5) rR rR dC rR))) (by intro x hq;go_simp<;>with_reducible rfl) (Fr.of_ext zb) kR ?_;refine zr 10 (bs 15 2015) C8 (0) (rc A0) (fun x hx=>Fr.range hx (show World.rangeAt B0 C8 (0) (rc A0)from(A2.1.range (i:=10) rR 0 4)) (fun hk=>hk.elim (A2.1.offBlk (i:=10) (j:=4) rR rR dC rR) (A2.1.offBlk (i:=10) (j:=5) rR rR dC rR))) underlying31 (Fr.of_ext zb) ?_;have E7:=tD (tD (tD (tD (tD (tD (tD N7 N6) G9) G8) G7) G6) E4) X4;refine mC 5 (bs 15 2047) (Ms 20 a.1 b.1 _ (((cr (dv a c) (dv c d):Int):Rat)/((cr (dv a b) (dv c d):Int):Rat)) _ (RV.Is.nin (F6.1.dig E7.1) (Aw H2.1 ω)) dC dC ⟨ω,ω⟩ ⟨ω,ω⟩) ?_;rintro e H7 ⟨c_,rfl,B2,hx⟩;have T6:=zH (T7.1.step hx);have X3:=zH (show Ah B0.drew H7 from Ah.of_ext hx);have J9:=zH (show Fr (fun kz=>kz=E6\/kz=E5) B0 H7 from(Fr.of_ext zb).trans (Fr.of_ext hx));obtain⟨A9,rfl,A3⟩:=B2;have Q5:=zH A3;clear A3 hx;apply zm J9.1;have L9:=tD E7 X3;refine mC 11 (bs 15 4095) (Ms 20 a.2 b.2 _ (((cr (dv a c) (dv c d):Int):Rat)/((cr (dv a b) (dv c d):Int):Rat)) _ (RV.Is.nin (F6.1.dig L9.1) (Aw H2.1 ω)) dC dC ⟨ω,ω⟩ ⟨ω,ω⟩) ?_;rintro e c0 ⟨c_,rfl,B2,hx⟩;have T5:=zH (T6.1.step hx);have X2:=zH (Ah.of_ext hx);have J8:=zH (J9.1.trans (Fr.of_ext hx));obtain⟨A8,rfl,A3⟩:=B2;have Q4:=zH A3;clear A3 hx;apply zm J8.1;refine Dm (i:=12) (listed':=(bs 15 8191)) rR kR rR kR _ _ _ rR T5.1 (ix:=4) rR 0 (rc A9) rR rR (by simp) kR (by simp[Value.oneCell']) (by simp[Ar]) ?_;intro b9 hh hd ho;have T4:=hN hh;have N1:=zH (hd);have J7:=zH (Fr.trans_new J8.1 ho (fun j hj=> .inl (.inl (by injection hj with hj;exact hj.symm))));clear hh hd ho;refine⟨J7.1,?_⟩
  (try simp only[Act.put])
  refine Dm (i:=13) (listed':=(bs 15 16383)) rR kR rR kR _ _ _ rR T4.1 (ix:=5) rR 0 (rc A8) rR rR (by simp) kR (by simp[Value.oneCell']) (by simp[Ar]) ?_;intro b8 hh hd ho;have G3:=hN hh;have N0:=zH (hd);have J6:=zH (Fr.trans_new J7.1 ho (fun j hj=> .inl (.inr (by injection hj with hj;exact hj.symm))));clear hh hd ho;refine⟨J6.1,?_⟩
  (try simp only[Act.put])
  refine zx 14 (bs 15 32767) (iV 1) J6.1 ?_;refine wpAnyH_done kR ?_ _;have L8:=tD (tD X2 N1) N0;have L7:=tD N1 N0;go_wp2_with fail
  refine bodyPost_ret (v:= .tuple #[(rg A9),(rg A8),iV 1]) ?_ rfl ⟨.inl ⟨A9,A8,B5.1,rfl,by unfold Rc;rw[if_pos HNZ.1];exact(Q5.1.dig L8.1),by unfold Jm;rw[if_pos HNZ.1];exact(Q4.1.dig L7.1)⟩,G3.1.ext⟩;exact Av rfl rfl rfl ((G3.1.blk (i:=4) rR).loadVar rfl rfl rR) ((G3.1.blk (i:=5) rR).loadVar rfl rfl rR) rfl
 go_upto_region 5 with fail;apply wl;apply zq (iV (cr (dv a b) (dv c d)));apply zp φ (by exact Kg (e:=(Aj HNZ.1)));go_upto_region 14 with fail;apply wl;refine Cy D5.1 _ ?_;apply Cd 24 [iV 0,iV 0] D5.1;intro B7 b7 T3 _;apply Ca 10 [iV ((dv a b).1),iV ((dv a b).2)] T3.1;intro O3 E1 _;go_upto_region 15 with fail;apply wl;refine Bq E1.1 _ _ ?_;apply zp (.bool ((dv a b).1==0&&(dv a b).2==0)) (by exact Ec rR rR rR rfl);go_upto_if 91 with fail
 go_cut [] (fun wx=>Hp w wx [.blk D0 24 [iV a.1,iV a.2],.blk D6 24 [iV b.1,iV b.2],.blk H5 24 [iV c.1,iV c.2],.blk N9 24 [iV d.1,iV d.2],.blk E6 31 [.bool false,.slice none 0 0,.bool false,.slice none 0 0],.blk E5 31 [.bool false,.slice none 0 0,.bool false,.slice none 0 0],.blk P2 24 [iV a.1,iV a.2,iV b.1,iV b.2,iV c.1,iV c.2,iV d.1,iV d.2],.blk F2 24 [iV ((dv a b).1),iV ((dv a b).2)],.blk F1 24 [iV ((dv c d).1),iV ((dv c d).2)],.blk C4 24 [iV ((dv a c).1),iV ((dv a c).2)],.blk B7 24 [iV ((Cf a b c d).1),iV ((Cf a b c d).2)]]/\Ah O3 wx)
 case first=>
  by_cases cj:((dv a b).1==0&&(dv a b).2==0)=true
  ·rw[cj]
   go_upto_region 16 with fail;apply wl;refine Cy E1.1 _ ?_;apply Ca 10 [iV ((dv c d).1),iV ((dv c d).2)] E1.1;intro b6 T2 X1;go_wp2_with fail;go_meet
   exact⟨(by rw[show Cf a b c d=dv c d from if_pos ((Gt (a:=dv a b) (b:=(0,0))).1 cj)];exact T2.1),X1.1⟩
  rw[Bool.eq_false_iff.2 cj];go_wp2_with fail;go_meet
  exact⟨(by rw[show Cf a b c d=dv a b from if_neg (fun h_=>cj ((Gt (a:=dv a b) (b:=(0,0))).2 h_))];exact E1.1),(Ah.refl _)⟩
 obtain⟨I3,I6⟩:=hcut;generalize wc=b5 at*;have B3:=zH I3;have i5:=zH I6;clear I3 I6;have HL:=zH (show Cf a b c d=Cf a b c d from rfl);have I1:(-2097152<=(Cf a b c d).1/\(Cf a b c d).1<=2097152)/\(-2097152<=(Cf a b c d).2/\(Cf a b c d).2<=2097152):=by unfold Cf;split;exact Co hc hd;exact Co ha hb
 have j9:=Pi I1 (Co ha hc);rcases Ck (cr (Cf a b c d) (dv a c)≠0)with HX|HX
 ·go_upto_region 17 with fail
  apply wl;refine zd B7 (0) [iV ((Cf a b c d).1),iV ((Cf a b c d).2)] (B3.1.range (i:=10) rR 0 2) underlying24 ?_;refine zd C4 (0) [iV ((dv a c).1),iV ((dv a c).2)] (B3.1.range (i:=9) rR 0 2) underlying24 ?_;refine aC B3.1 (Gq (Cf a b c d) (dv a c) _ I1 (Co ha hc)) ?_;intro b4 T1 _;apply zp τ (by exact Kg (e:=(Aq HX.1)));refine Hz Af τ _ _ _ _ _ _ _ ?_;refine zk ?_;apply zq τ;go_upto_region 18 with fail;apply wl;refine Bq Af _ _ ?_;refine Ca 4 rz T1.1 ?_;intro b3 T0 _;refine Ca 5 rz T0.1 ?_;intro b2 G2 _;apply zq (iV 0);have B5:=zH (show Db a b c d=0 from by unfold Db;rw[if_neg HNZ.1,HL.1];exact if_pos (.inl HX.1));go_wp2_with fail
  refine bodyPost_ret (v:= .tuple #[.agg z4,.agg z4,iV 0]) ?_ rfl ⟨.inr ⟨by rw[B5.1];decide,by rw[B5.1]⟩,G2.1.ext⟩;exact Av rfl rfl rfl ((G2.1.blk (i:=4) rR).loadVar rfl rfl rR) ((G2.1.blk (i:=5) rR).loadVar rfl rfl rR) rfl
 rcases Ck (Cf a b c d=(0,0))with HL0|HL0
 ·rcases Ck (a≠c)with HAC|HAC
  ·go_upto_region 17 with fail
   apply wl;refine zd B7 (0) [iV ((Cf a b c d).1),iV ((Cf a b c d).2)] (B3.1.range (i:=10) rR 0 2) underlying24 ?_;refine zd C4 (0) [iV ((dv a c).1),iV ((dv a c).2)] (B3.1.range (i:=9) rR 0 2) underlying24 ?_;refine aC B3.1 (Gq (Cf a b c d) (dv a c) _ I1 (Co ha hc)) ?_;intro b1 E0 _;apply zp φ (by exact Kg (e:=(Aj HX.1)));apply qV φ;refine zd B7 (0) [iV ((Cf a b c d).1),iV ((Cf a b c d).2)] (E0.1.range (i:=10) rR 0 2) underlying24 ?_;refine Cy Af _ ?_;apply zp τ (by exact Ec rR rR rR ((Gt (a:=Cf a b c d) (b:=(0,0))).2 HL0.1));apply qV τ;refine zd D0 (0) [iV a.1,iV a.2] (E0.1.range (i:=0) rR 0 2) underlying24 ?_;refine zd H5 (0) [iV c.1,iV c.2] (E0.1.range (i:=2) rR 0 2) underlying24 ?_;apply zp τ (by exact Kh rR rR rR (by rw[Bool.not_eq_true',Bool.eq_false_iff];exact fun h_=>HAC.1 (Gt.1 h_)));refine Bq Af τ τ ?_;go_upto_region 18 with fail;apply wl;refine Bq Af _ _ ?_;refine Ca 4 rz E0.1 ?_;intro b0 S9 _;refine Ca 5 rz S9.1 ?_;intro a9 G1 _;apply zq (iV 0);have B5:=zH (show Db a b c d=0 from by unfold Db;rw[if_neg HNZ.1,HL.1];exact if_pos (.inr ⟨HL0.1,HAC.1⟩));go_wp2_with fail
   refine bodyPost_ret (v:= .tuple #[.agg z4,.agg z4,iV 0]) ?_ rfl ⟨.inr ⟨by rw[B5.1];decide,by rw[B5.1]⟩,G1.1.ext⟩;exact Av rfl rfl rfl ((G1.1.blk (i:=4) rR).loadVar rfl rfl rR) ((G1.1.blk (i:=5) rR).loadVar rfl rfl rR) rfl
  have HR:=zH (show¬(Cf a b c d=(0,0)/\a≠c)from fun h_=>HAC.1 h_.2);go_upto_region 17 with fail;apply wl;refine zd B7 (0) [iV ((Cf a b c d).1),iV ((Cf a b c d).2)] (B3.1.range (i:=10) rR 0 2) underlying24 ?_;refine zd C4 (0) [iV ((dv a c).1),iV ((dv a c).2)] (B3.1.range (i:=9) rR 0 2) underlying24 ?_;refine aC B3.1 (Gq (Cf a b c d) (dv a c) _ I1 (Co ha hc)) ?_;intro a8 C0 _;apply zp φ (by exact Kg (e:=(Aj HX.1)));apply qV φ;refine zd B7 (0) [iV ((Cf a b c d).1),iV ((Cf a b c d).2)] (C0.1.range (i:=10) rR 0 2) underlying24 ?_;refine Cy Af _ ?_;apply zp τ (by exact Ec rR rR rR ((Gt (a:=Cf a b c d) (b:=(0,0))).2 HL0.1));apply qV τ;refine zd D0 (0) [iV a.1,iV a.2] (C0.1.range (i:=0) rR 0 2) underlying24 ?_;refine zd H5 (0) [iV c.1,iV c.2] (C0.1.range (i:=2) rR 0 2) underlying24 ?_;apply zp φ (by exact Kh rR rR rR (by rw[Bool.not_eq_false'];exact Gt.2 (Classical.not_not.1 HAC.1)));refine Bq Af φ φ ?_;go_upto_region 19 with fail;apply wl;refine zd D0 (0) [iV a.1,iV a.2] (C0.1.range (i:=0) rR 0 2) underlying24 ?_;refine zd D6 (0) [iV b.1,iV b.2] (C0.1.range (i:=1) rR 0 2) underlying24 ?_;refine zd H5 (0) [iV c.1,iV c.2] (C0.1.range (i:=2) rR 0 2) underlying24 ?_;refine zd N9 (0) [iV d.1,iV d.2] (C0.1.range (i:=3) rR 0 2) underlying24 ?_;refine aC C0.1 (Sg a b c d _ ha hb hc hd) ?_;intro a7 S8 _;refine Cn Af _ _ (iV ((Ai a b c d).2)) ?_;apply Cd 24 [iV 0,iV 0] S8.1;intro C7 a6 S7 _;apply Ca 11 [iV ((Ai a b c d).1.1),iV ((Ai a b c d).1.2)] S7.1;intro D2 B9 _;apply zq (iV ((Ai a b c d).2));have B5:=zH (show Db a b c d=(Ai a b c d).2 from by unfold Db;rw[if_neg HNZ.1,HL.1];exact if_neg (fun h_=>h_.elim (fun h_=>HX.1 h_) (fun h_=>HR.1 h_)));have f9:=Uw a b c d;rcases Ck ((Ai a b c d).2≠1)with HK1|HK1
  ·go_upto_region 20 with fail
   apply wl;apply zq (iV ((Ai a b c d).2));apply zp τ (by exact Kg (e:=(Aq HK1.1)));go_upto_region 21 with fail;apply wl;refine Cn Af _ _ (iV ((Ai a b c d).2)) ?_;refine Ca 4 rz B9.1 ?_;intro a5 S6 _;refine Ca 5 rz S6.1 ?_;intro a4 G0 _;apply zq (iV ((Ai a b c d).2));go_wp2_with fail;refine bodyPost_ret (v:= .tuple #[.agg z4,.agg z4,iV (Ai a b c d).2]) ?_ rfl ⟨.inr ⟨by rw[B5.1];exact HK1.1,by rw[B5.1]⟩,G0.1.ext⟩;exact Av rfl rfl rfl ((G0.1.blk (i:=4) rR).loadVar rfl rfl rR) ((G0.1.blk (i:=5) rR).loadVar rfl rfl rR) rfl
  have F0:(Ai a b c d).2=1:=by have h_:=HK1.1;omega
  have P1:=Ps ha hb hc hd;have f8:=Bg P1;go_upto_region 20 with fail
  apply wl;apply zq (iV ((Ai a b c d).2));apply zp φ (by exact Kg (e:=(Aj HK1.1)));go_upto_region 22 with fail;refine wp_region_held_drew (S:=fun x=>Fr (fun kz=>kz=E6\/kz=E5) D2 x) kR (Fr.of_ext zb) (fun _=> ?_);have S5:=zH (B9.1.step (Aa.refl D2).drew);refine zx 0 (bs 9 1) (.pointer (π C7)) (Fr.of_ext zb) ?_;refine Cr (g:=C7) (o:=0) (v:= iV ((Ai a b c d).1.1)) (i:=1) (listed':=(bs 9 3)) rR kR kR kR (by intro _ _ _ h;exact h) rR (fun x hx=>Fr.cell hx (show World.cell? D2 ⟨C7,0,none⟩=some (iV ((Ai a b c d).1.1))from At (B9.1.range (i:=11) rR 0 1)) (fun hk=>hk.elim (B9.1.offBlk (i:=11) (j:=4) rR rR dC rR) (B9.1.offBlk (i:=11) (j:=5) rR rR dC rR))) (by intro x hq;go_simp<;>with_reducible rfl) (Fr.of_ext zb) kR ?_;try simp only[ζ]
  refine zx 3 (bs 9 11) (.pointer (some ⟨C7,1,none⟩)) (Fr.of_ext zb) ?_;refine Cr (g:=C7) (o:=1) (v:= iV ((Ai a b c d).1.2)) (i:=4) (listed':=(bs 9 27)) rR kR kR kR (by intro _ _ _ h;exact h) rR (fun x hx=>Fr.cell hx (show World.cell? D2 ⟨C7,1,none⟩=some (iV ((Ai a b c d).1.2))from At (B9.1.range (i:=11) rR 1 1)) (fun hk=>hk.elim (B9.1.offBlk (i:=11) (j:=4) rR rR dC rR) (B9.1.offBlk (i:=11) (j:=5) rR rR dC rR))) (by intro x hq;go_simp<;>with_reducible rfl) (Fr.of_ext zb) kR ?_;try simp only[ζ]
  refine mC 2 (bs 9 31) (Ff ((Ai a b c d).1.1) _ ω ω) ?_;rintro e O2 ⟨c_,rfl,B2,hx⟩;have S4:=zH (S5.1.step hx);have J5:=zH (show Fr (fun kz=>kz=E6\/kz=E5) D2 O2 from(Fr.of_ext zb).trans (Fr.of_ext hx));obtain⟨A7,rfl,A3⟩:=B2;have Q3:=zH A3;clear A3 hx;apply zm J5.1;refine mC 5 (bs 9 63) (Ff ((Ai a b c d).1.2) _ ω ω) ?_;rintro e a3 ⟨c_,rfl,B2,hx⟩;have S3:=zH (S4.1.step hx);have X0:=zH (Ah.of_ext hx);have J4:=zH (J5.1.trans (Fr.of_ext hx));obtain⟨A6,rfl,A3⟩:=B2;have Q2:=zH A3;clear A3 hx;apply zm J4.1;refine Dm (i:=6) (listed':=(bs 9 127)) rR kR rR kR _ _ _ rR S3.1 (ix:=4) rR 0 (rc A7) rR rR (by simp) kR (by simp[Value.oneCell']) (by simp[Ar]) ?_;intro a2 hh hd ho;have S2:=hN hh;have M9:=zH (hd);have J3:=zH (Fr.trans_new J4.1 ho (fun j hj=> .inl (.inl (by injection hj with hj;exact hj.symm))));clear hh hd ho;refine⟨J3.1,?_⟩
  (try simp only[Act.put])
  refine Dm (i:=7) (listed':=(bs 9 255)) rR kR rR kR _ _ _ rR S2.1 (ix:=5) rR 0 (rc A6) rR rR (by simp) kR (by simp[Value.oneCell']) (by simp[Ar]) ?_;intro a1 hh hd ho;have F9:=hN hh;have M8:=zH (hd);have J2:=zH (Fr.trans_new J3.1 ho (fun j hj=> .inl (.inr (by injection hj with hj;exact hj.symm))));clear hh hd ho;refine⟨J2.1,?_⟩
  (try simp only[Act.put])
  refine zx 8 (bs 9 511) (iV 1) J2.1 ?_;refine wpAnyH_done kR ?_ _;have L6:=tD (tD X0 M9) M8;have L5:=tD M9 M8;go_wp2_with fail
  refine bodyPost_ret (v:= .tuple #[(rg A7),(rg A6),iV 1]) ?_ rfl ⟨.inl ⟨A7,A6,B5.1.trans F0,rfl,by unfold Rc;rw[if_neg HNZ.1];exact(Q3.1.dig L6.1),by unfold Jm;rw[if_neg HNZ.1];exact(Q2.1.dig L5.1)⟩,F9.1.ext⟩;exact Av rfl rfl rfl ((F9.1.blk (i:=4) rR).loadVar rfl rfl rR) ((F9.1.blk (i:=5) rR).loadVar rfl rfl rR) rfl
 have HR:=zH (show¬(Cf a b c d=(0,0)/\a≠c)from fun h_=>HL0.1 h_.1);go_upto_region 17 with fail;apply wl;refine zd B7 (0) [iV ((Cf a b c d).1),iV ((Cf a b c d).2)] (B3.1.range (i:=10) rR 0 2) underlying24 ?_;refine zd C4 (0) [iV ((dv a c).1),iV ((dv a c).2)] (B3.1.range (i:=9) rR 0 2) underlying24 ?_;refine aC B3.1 (Gq (Cf a b c d) (dv a c) _ I1 (Co ha hc)) ?_;intro a0 C9 _;apply zp φ (by exact Kg (e:=(Aj HX.1)));apply qV φ;refine zd B7 (0) [iV ((Cf a b c d).1),iV ((Cf a b c d).2)] (C9.1.range (i:=10) rR 0 2) underlying24 ?_;refine Cy Af _ ?_;apply zp φ (by exact Ec rR rR rR (Bool.eq_false_iff.2 (fun h_=>HL0.1 ((Gt (a:=Cf a b c d) (b:=(0,0))).1 h_))));refine dR Af φ _ _ _ φ φ ?_;go_upto_region 19 with fail;apply wl;refine zd D0 (0) [iV a.1,iV a.2] (C9.1.range (i:=0) rR 0 2) underlying24 ?_;refine zd D6 (0) [iV b.1,iV b.2] (C9.1.range (i:=1) rR 0 2) underlying24 ?_;refine zd H5 (0) [iV c.1,iV c.2] (C9.1.range (i:=2) rR 0 2) underlying24 ?_;refine zd N9 (0) [iV d.1,iV d.2] (C9.1.range (i:=3) rR 0 2) underlying24 ?_;refine aC C9.1 (Sg a b c d _ ha hb hc hd) ?_;intro Z9 S1 _;refine Cn Af _ _ (iV ((Ai a b c d).2)) ?_;apply Cd 24 [iV 0,iV 0] S1.1;intro C6 Z8 S0 _;apply Ca 11 [iV ((Ai a b c d).1.1),iV ((Ai a b c d).1.2)] S0.1;intro D1 B8 _;apply zq (iV ((Ai a b c d).2));have B5:=zH (show Db a b c d=(Ai a b c d).2 from by unfold Db;rw[if_neg HNZ.1,HL.1];exact if_neg (fun h_=>h_.elim (fun h_=>HX.1 h_) (fun h_=>HR.1 h_)));have f9:=Uw a b c d;rcases Ck ((Ai a b c d).2≠1)with HK1|HK1
 ·go_upto_region 20 with fail
  apply wl;apply zq (iV ((Ai a b c d).2));apply zp τ (by exact Kg (e:=(Aq HK1.1)));go_upto_region 21 with fail;apply wl;refine Cn Af _ _ (iV ((Ai a b c d).2)) ?_;refine Ca 4 rz B8.1 ?_;intro Z7 R9 _;refine Ca 5 rz R9.1 ?_;intro Z6 F8 _;apply zq (iV ((Ai a b c d).2));go_wp2_with fail;refine bodyPost_ret (v:= .tuple #[.agg z4,.agg z4,iV (Ai a b c d).2]) ?_ rfl ⟨.inr ⟨by rw[B5.1];exact HK1.1,by rw[B5.1]⟩,F8.1.ext⟩;exact Av rfl rfl rfl ((F8.1.blk (i:=4) rR).loadVar rfl rfl rR) ((F8.1.blk (i:=5) rR).loadVar rfl rfl rR) rfl
 have F0:(Ai a b c d).2=1:=by have h_:=HK1.1;omega
 have P1:=Ps ha hb hc hd;have f8:=Bg P1;go_upto_region 20 with fail
 apply wl;apply zq (iV ((Ai a b c d).2));apply zp φ (by exact Kg (e:=(Aj HK1.1)));go_upto_region 22 with fail;refine wp_region_held_drew (S:=fun x=>Fr (fun kz=>kz=E6\/kz=E5) D1 x) kR (Fr.of_ext zb) (fun _=> ?_);have R8:=zH (B8.1.step (Aa.refl D1).drew);refine zx 0 (bs 9 1) (.pointer (π C6)) (Fr.of_ext zb) ?_;refine Cr (g:=C6) (o:=0) (v:= iV ((Ai a b c d).1.1)) (i:=1) (listed':=(bs 9 3)) rR kR kR kR (by intro _ _ _ h;exact h) rR (fun x hx=>Fr.cell hx (show World.cell? D1 ⟨C6,0,none⟩=some (iV ((Ai a b c d).1.1))from At (B8.1.range (i:=11) rR 0 1)) (fun hk=>hk.elim (B8.1.offBlk (i:=11) (j:=4) rR rR dC rR) (B8.1.offBlk (i:=11) (j:=5) rR rR dC rR))) (by intro x hq;go_simp<;>with_reducible rfl) (Fr.of_ext zb) kR ?_;try simp only[ζ]
 refine zx 3 (bs 9 11) (.pointer (some ⟨C6,1,none⟩)) (Fr.of_ext zb) ?_;refine Cr (g:=C6) (o:=1) (v:= iV ((Ai a b c d).1.2)) (i:=4) (listed':=(bs 9 27)) rR kR kR kR (by intro _ _ _ h;exact h) rR (fun x hx=>Fr.cell hx (show World.cell? D1 ⟨C6,1,none⟩=some (iV ((Ai a b c d).1.2))from At (B8.1.range (i:=11) rR 1 1)) (fun hk=>hk.elim (B8.1.offBlk (i:=11) (j:=4) rR rR dC rR) (B8.1.offBlk (i:=11) (j:=5) rR rR dC rR))) (by intro x hq;go_simp<;>with_reducible rfl) (Fr.of_ext zb) kR ?_;try simp only[ζ]
 refine mC 2 (bs 9 31) (Ff ((Ai a b c d).1.1) _ ω ω) ?_;rintro e O1 ⟨c_,rfl,B2,hx⟩;have R7:=zH (R8.1.step hx);have J1:=zH (show Fr (fun kz=>kz=E6\/kz=E5) D1 O1 from(Fr.of_ext zb).trans (Fr.of_ext hx));obtain⟨A5,rfl,A3⟩:=B2;have Q1:=zH A3;clear A3 hx;apply zm J1.1;refine mC 5 (bs 9 63) (Ff ((Ai a b c d).1.2) _ ω ω) ?_;rintro e Z5 ⟨c_,rfl,B2,hx⟩;have R6:=zH (R7.1.step hx);have W9:=zH (Ah.of_ext hx);have J0:=zH (J1.1.trans (Fr.of_ext hx));obtain⟨A4,rfl,A3⟩:=B2;have Q0:=zH A3;clear A3 hx;apply zm J0.1;refine Dm (i:=6) (listed':=(bs 9 127)) rR kR rR kR _ _ _ rR R6.1 (ix:=4) rR 0 (rc A5) rR rR (by simp) kR (by simp[Value.oneCell']) (by simp[Ar]) ?_;intro Z4 hh hd ho;have R5:=hN hh;have M7:=zH (hd);have I9:=zH (Fr.trans_new J0.1 ho (fun j hj=> .inl (.inl (by injection hj with hj;exact hj.symm))));clear hh hd ho;refine⟨I9.1,?_⟩
 (try simp only[Act.put])
 refine Dm (i:=7) (listed':=(bs 9 255)) rR kR rR kR _ _ _ rR R5.1 (ix:=5) rR 0 (rc A4) rR rR (by simp) kR (by simp[Value.oneCell']) (by simp[Ar]) ?_;intro Z3 hh hd ho;have F7:=hN hh;have M6:=zH (hd);have I8:=zH (Fr.trans_new I9.1 ho (fun j hj=> .inl (.inr (by injection hj with hj;exact hj.symm))));clear hh hd ho;refine⟨I8.1,?_⟩
 (try simp only[Act.put])
 refine zx 8 (bs 9 511) (iV 1) I8.1 ?_;refine wpAnyH_done kR ?_ _;have L4:=tD (tD W9 M7) M6;have L3:=tD M7 M6;go_wp2_with fail
 refine bodyPost_ret (v:= .tuple #[(rg A5),(rg A4),iV 1]) ?_ rfl ⟨.inl ⟨A5,A4,B5.1.trans F0,rfl,by unfold Rc;rw[if_neg HNZ.1];exact(Q1.1.dig L4.1),by unfold Jm;rw[if_neg HNZ.1];exact(Q0.1.dig L3.1)⟩,F7.1.ext⟩;exact Av rfl rfl rfl ((F7.1.blk (i:=4) rR).loadVar rfl rfl rR) ((F7.1.blk (i:=5) rR).loadVar rfl rfl rR) rfl
def Le (C:Prop)(q:Rat)(w:World)(e:Ending)(w':World):Prop:=
  ((∃r:RV,C/\e= .returned (.tuple #[(rg r),.bool true])/\r.Is w' q)\/
    (¬C/\e= .returned (.tuple #[.agg z4,.bool false])))/\Aa w w'
def Ru (a b:Int×Int)(x:Int):Prop:=Dy a/\Dy b/\a.1≠b.1/\min a.1 b.1<=x/\x<=max a.1 b.1
def Mu (a b:Int×Int)(x:Int):Rat:=(a.2:Rat)+((x-a.1:Int):Rat)/((b.1-a.1:Int):Rat)*((b.2-a.2:Int):Rat)
theorem Xu {a b:Int×Int}:Dd [a,b]=true↔Dy a/\Dy b:=by simp[Dd,Dy]
theorem dS (a b:Int×Int)(x:Int)(w:World)(hx0: -9223372036854775808<=x/\x<=9223372036854775807):
  Calls prog 60 #[.agg #[iV a.1,iV a.2],.agg #[iV b.1,iV b.2],iV x] w (Le (Ru a b x) (Mu a b x) w):=by
 go_enter func60,ntmps60;have H0:=zH (Hp.start w);go_upto_region 0 with fail;apply wl;apply Cd 24 [iV a.1,iV a.2] H0.1;intro X1 w2 H3 _;apply Cd 24 [iV b.1,iV b.2] H3.1;intro X6 w7 H8 _;refine Cd 31 rz H8.1 ?_;intro D1 G1 A4 _;apply zq φ;rcases Ck (Dd [a,b]=true)with HB|HB
 ·have A3:=HB
  have B5:=Xu.1 HB.1;have oa:=Bg B5.1;have ob:=Bg B5.2;have D2:=zH B5;rcases Ck (a.1=b.1)with C1|C1
  ·go_upto_region 1 with fail
   apply wl;refine Bq A4.1 _ _ ?_;apply fL 2 24 [iV a.1,iV a.2,iV b.1,iV b.2] A4.1;intro F0 G0 D9 _;refine zc (Hv (.slice (π F0) 2 2) [a,b] _ (Jd D9.1 (i:=3) rR) (by simp)) ?_;rintro e F9 ⟨rfl,hx⟩;have D8:=zH (D9.1.step hx);clear hx;refine⟨.bool true,by rw[A3.1],?_⟩;try simp only[ζ]
   refine dR D8.1 φ φ _ _ _ _ ?_;apply zp τ (by exact Kf (e:=(Aq C1.1)));refine Hz Af τ τ _ _ _ _ _ _ ?_;refine Hz Af _ τ τ _ _ _ _ _ ?_;refine Cn Af _ _ τ ?_;go_upto_region 2 with fail;apply wl;apply zq (.agg z4);refine Ca 2 rz D8.1 ?_;intro F8 D7 _;apply zq φ;go_wp2_with fail;refine bodyPost_ret (v:= .tuple #[.agg z4,.bool false]) ?_ rfl ⟨.inr ⟨fun h=>h.2.2.1 C1.1,rfl⟩,D7.1.ext⟩;exact Ad rfl rfl ((D7.1.blk (i:=2) rR).loadVar rfl rfl rR) rfl
  rcases Ck (x<min a.1 b.1)with C2|C2
  ·go_upto_region 1 with fail
   apply wl;refine Bq A4.1 _ _ ?_;apply fL 2 24 [iV a.1,iV a.2,iV b.1,iV b.2] A4.1;intro E9 F7 D6 _;refine zc (Hv (.slice (π E9) 2 2) [a,b] _ (Jd D6.1 (i:=3) rR) (by simp)) ?_;rintro e F6 ⟨rfl,hx⟩;have C4:=zH (D6.1.step hx);clear hx;refine⟨.bool true,by rw[A3.1],?_⟩;try simp only[ζ]
   refine dR C4.1 φ φ _ _ _ _ ?_;apply zp φ (by exact Kf (e:=(Aj C1.1)));refine Hz C4.1 φ φ (iV x) _ _ _ _ (iV (min a.1 b.1)) ?_;apply zp τ (by exact Dp (e:=(Aq C2.1)));refine Hz Af τ τ _ _ _ _ _ _ ?_;refine zk ?_;apply zq τ;go_upto_region 2 with fail;apply wl;apply zq (.agg z4);refine Ca 2 rz C4.1 ?_;intro F5 D5 _;apply zq φ;go_wp2_with fail;refine bodyPost_ret (v:= .tuple #[.agg z4,.bool false]) ?_ rfl ⟨.inr ⟨fun h=>by have h1:=h.2.2.2.1;have h2:=C2.1;omega,rfl⟩,D5.1.ext⟩;exact Ad rfl rfl ((D5.1.blk (i:=2) rR).loadVar rfl rfl rR) rfl
  rcases Ck (max a.1 b.1<x)with C3|C3
  ·go_upto_region 1 with fail
   apply wl;refine Bq A4.1 _ _ ?_;apply fL 2 24 [iV a.1,iV a.2,iV b.1,iV b.2] A4.1;intro E8 F4 D4 _;refine zc (Hv (.slice (π E8) 2 2) [a,b] _ (Jd D4.1 (i:=3) rR) (by simp)) ?_;rintro e F3 ⟨rfl,hx⟩;have B3:=zH (D4.1.step hx);clear hx;refine⟨.bool true,by rw[A3.1],?_⟩;try simp only[ζ]
   refine dR B3.1 φ φ _ _ _ _ ?_;apply zp φ (by exact Kf (e:=(Aj C1.1)));refine Hz B3.1 φ φ (iV x) _ _ _ _ (iV (min a.1 b.1)) ?_;apply zp φ (by exact Dp (e:=(Aj C2.1)));refine Hz B3.1 φ φ (iV x) _ _ _ _ (iV (max a.1 b.1)) ?_;apply zp τ (by exact Ph (e:=(Aq C3.1)));apply zq τ;go_upto_region 2 with fail;apply wl;apply zq (.agg z4);refine Ca 2 rz B3.1 ?_;intro F2 D3 _;apply zq φ;go_wp2_with fail;refine bodyPost_ret (v:= .tuple #[.agg z4,.bool false]) ?_ rfl ⟨.inr ⟨fun h=>by have h1:=h.2.2.2.2;have h2:=C3.1;omega,rfl⟩,D3.1.ext⟩;exact Ad rfl rfl ((D3.1.blk (i:=2) rR).loadVar rfl rfl rR) rfl
  go_upto_region 1 with fail;apply wl;refine Bq A4.1 _ _ ?_;apply fL 2 24 [iV a.1,iV a.2,iV b.1,iV b.2] A4.1;intro B8 E5 B2 _;refine zc (Hv (.slice (π B8) 2 2) [a,b] _ (Jd B2.1 (i:=3) rR) (by simp)) ?_;rintro e A2 ⟨rfl,hx⟩;have A1:=zH (B2.1.step hx);clear hx;refine⟨.bool true,by rw[A3.1],?_⟩;try simp only[ζ]
  refine dR A1.1 φ φ _ _ _ _ ?_;apply zp φ (by exact Kf (e:=(Aj C1.1)));refine Hz A1.1 φ φ (iV x) _ _ _ _ (iV (min a.1 b.1)) ?_;apply zp φ (by exact Dp (e:=(Aj C2.1)));refine Hz A1.1 φ φ (iV x) _ _ _ _ (iV (max a.1 b.1)) ?_;apply zp φ (by exact Ph (e:=(Aj C3.1)));apply zq φ;have F1:=zH (show b.1-a.1≠0 from fun h=>C1.1 ω);have G2: -1048576<=x/\x<=1048576:=by have h2:=C2.1;have h3:=C3.1;omega
  go_upto_region 3 with fail;refine wp_region_held_drew (S:=fun x=>Fr (fun kz=>kz=D1) A2 x) kR (Fr.of_ext zb) (fun _=> ?_);have C8:=zH (A1.1.step (Aa.refl A2).drew);refine zx 0 (bs 17 1) (.pointer (some ⟨X1,1,none⟩)) (Fr.of_ext zb) ?_;refine Cr (g:=X1) (o:=1) (v:= iV a.2) (i:=1) (listed':=(bs 17 3)) rR kR kR kR (by intro _ _ _ h;exact h) rR (fun x hx=>Fr.cell hx (show World.cell? A2 ⟨X1,1,none⟩=some (iV a.2)from At (A1.1.range (i:=0) rR 1 1)) (A1.1.offBlk (i:=0) (j:=2) rR rR dC rR)) (by intro x hq;go_simp<;>with_reducible rfl) (Fr.of_ext zb) kR ?_;try simp only[ζ]
  refine zx 2 (bs 17 7) (.pointer (some ⟨X6,1,none⟩)) (Fr.of_ext zb) ?_;refine Cr (g:=X6) (o:=1) (v:= iV b.2) (i:=3) (listed':=(bs 17 15)) rR kR kR kR (by intro _ _ _ h;exact h) rR (fun x hx=>Fr.cell hx (show World.cell? A2 ⟨X6,1,none⟩=some (iV b.2)from At (A1.1.range (i:=1) rR 1 1)) (A1.1.offBlk (i:=1) (j:=2) rR rR dC rR)) (by intro x hq;go_simp<;>with_reducible rfl) (Fr.of_ext zb) kR ?_;try simp only[ζ]
  refine zx 4 (bs 17 31) (iV x) (Fr.of_ext zb) ?_;refine zx 5 (bs 17 63) (.pointer (π X1)) (Fr.of_ext zb) ?_;refine Cr (g:=X1) (o:=0) (v:= iV a.1) (i:=6) (listed':=(bs 17 127)) rR kR kR kR (by intro _ _ _ h;exact h) rR (fun x hx=>Fr.cell hx (show World.cell? A2 ⟨X1,0,none⟩=some (iV a.1)from At (A1.1.range (i:=0) rR 0 1)) (A1.1.offBlk (i:=0) (j:=2) rR rR dC rR)) (by intro x hq;go_simp<;>with_reducible rfl) (Fr.of_ext zb) kR ?_;try simp only[ζ]
  refine zu 7 (bs 17 255) (v:= iV (x-a.1)) (Fr.of_ext zb) ?_ (hv:=by intro w E7;exact Nx ω);refine zx 8 (bs 17 511) (.pointer (π X6)) (Fr.of_ext zb) ?_;refine Cr (g:=X6) (o:=0) (v:= iV b.1) (i:=9) (listed':=(bs 17 1023)) rR kR kR kR (by intro _ _ _ h;exact h) rR (fun x hx=>Fr.cell hx (show World.cell? A2 ⟨X6,0,none⟩=some (iV b.1)from At (A1.1.range (i:=1) rR 0 1)) (A1.1.offBlk (i:=1) (j:=2) rR rR dC rR)) (by intro x hq;go_simp<;>with_reducible rfl) (Fr.of_ext zb) kR ?_;try simp only[ζ]
  refine zx 10 (bs 17 2047) (.pointer (π X1)) (Fr.of_ext zb) ?_;refine Cr (g:=X1) (o:=0) (v:= iV a.1) (i:=11) (listed':=(bs 17 4095)) rR kR kR kR (by intro _ _ _ h;exact h) rR (fun x hx=>Fr.cell hx (show World.cell? A2 ⟨X1,0,none⟩=some (iV a.1)from At (A1.1.range (i:=0) rR 0 1)) (A1.1.offBlk (i:=0) (j:=2) rR rR dC rR)) (by intro x hq;go_simp<;>with_reducible rfl) (Fr.of_ext zb) kR ?_;try simp only[ζ]
  refine zu 12 (bs 17 8191) (v:= iV (b.1-a.1)) (Fr.of_ext zb) ?_ (hv:=by intro w E7;exact Nx ω);refine mC 13 (bs 17 16383) (Yh (x-a.1) (b.1-a.1) _ ω ω ω ω F1.1) ?_;rintro e B4 ⟨c_,rfl,B6,hx⟩;have C7:=zH (C8.1.step hx);have A8:=zH (show Fr (fun kz=>kz=D1) A2 B4 from(Fr.of_ext zb).trans (Fr.of_ext hx));obtain⟨E6,rfl,A5⟩:=B6;have C0:=zH A5;have D0:=zH (So (x-a.1) (b.1-a.1) ω ω);clear A5 hx;apply zm A8.1;refine mC 14 (bs 17 32767) (Ms 20 a.2 b.2 _ (((x-a.1:Int):Rat)/((b.1-a.1:Int):Rat)) _ (RV.Is.nin C0.1 (Aw D0.1 ω)) dC dC ⟨ω,ω⟩ ⟨ω,ω⟩) ?_;rintro e E4 ⟨c_,rfl,B6,hx⟩;have C6:=zH (C7.1.step hx);have A7:=zH (A8.1.trans (Fr.of_ext hx));obtain⟨A0,rfl,A5⟩:=B6;have B9:=zH A5;clear A5 hx;apply zm A7.1;refine Dm (i:=15) (listed':=(bs 17 65535)) rR kR rR kR _ _ _ rR C6.1 (ix:=2) rR 0 (rc A0) rR rR (by simp) kR (by simp[Value.oneCell']) (by simp[Ar]) ?_;intro E3 hh hd ho;have B1:=hN hh;have C9:=zH (hd);have A6:=zH (Fr.trans_new A7.1 ho (fun j hj=> .inl (by simpa using hj.symm)));clear hh hd ho;refine⟨A6.1,?_⟩
  (try simp only[Act.put])
  refine zx 16 (bs 17 131071) τ A6.1 ?_;refine wpAnyH_done kR ?_ _;go_wp2_with fail;refine bodyPost_ret (v:= .tuple #[(rg A0),.bool true]) ?_ rfl ⟨.inl ⟨A0,⟨D2.1.1,D2.1.2,C1.1,by have h2:=C2.1;omega,by have h3:=C3.1;omega⟩,rfl,(B9.1.dig C9.1)⟩,B1.1.ext⟩;exact Ad rfl rfl ((B1.1.blk (i:=2) rR).loadVar rfl rfl rR) rfl
 have A3:=zH (Bool.eq_false_iff.2 HB.1);go_upto_region 1 with fail;apply wl;refine Bq A4.1 _ _ ?_;apply fL 2 24 [iV a.1,iV a.2,iV b.1,iV b.2] A4.1;intro B7 E2 B0 _;refine zc (Hv (.slice (π B7) 2 2) [a,b] _ (Jd B0.1 (i:=3) rR) (by simp)) ?_;rintro e E1 ⟨rfl,hx⟩;have C5:=zH (B0.1.step hx);clear hx;refine⟨.bool false,by rw[A3.1],?_⟩;try simp only[ζ]
 refine Hz Af τ τ _ _ _ _ _ τ ?_;refine Hz Af τ _ _ _ _ _ _ _ ?_;refine Hz Af τ τ _ _ _ _ _ _ ?_;refine zk ?_;apply zq τ;go_upto_region 2 with fail;apply wl;apply zq (.agg z4);refine Ca 2 rz C5.1 ?_;intro E0 A9 _;apply zq φ;go_wp2_with fail;refine bodyPost_ret (v:= .tuple #[.agg z4,.bool false]) ?_ rfl ⟨.inr ⟨fun h=>HB.1 (Xu.2 ⟨h.1,h.2.1⟩),rfl⟩,A9.1.ext⟩;exact Ad rfl rfl ((A9.1.blk (i:=2) rR).loadVar rfl rfl rR) rfl
end
section
def bF (lo hi:Rat)(q:Rat):List Rat:=if lo<q/\q<hi then[q]else[]
instance uA (a b:Int×Int) (x:Int):Decidable (Ru a b x):=inferInstanceAs (Decidable (_/\_))
def Mv (e:Df)(x:Int):List Rat:=if Ru e.1 e.2 x then[Mu e.1 e.2 x]else[]
def Km (o e:Df):List Rat:=if Db o.1 o.2 e.1 e.2=1 then[Jm o.1 o.2 e.1 e.2]else[]
def Tp (a b:Int×Int)(pre:List Df)(x:Df):List Rat:=
  (Mv x a.1).flatMap (bF a.2 b.2)++(Mv x b.1).flatMap (bF a.2 b.2)++pre.flatMap (fun o=>(Km o x).flatMap (bF a.2 b.2))
def iX (a b:Int×Int):List Df->List Df->List Rat
  |_,[]=>[]
  |pre,x::l=>Tp a b pre x++iX a b (pre++[x]) l
theorem aV (a b:Int×Int)(x:Df):∀(l p:List Df),iX a b p (l++[x])=iX a b p l++Tp a b (p++l) x
  | [],p=>by simp[iX]
  | y::l,p=>by
    have h:=aV a b x l (p++[y]);simp only[wR,iX];rw[h,wN,wN];rfl
def rG (a b:Int×Int)(rs:List Bb):List Rat:=rs.flatMap fun r=>r.flatMap fun p=>bF a.2 b.2 (p.2:Rat)
def Uo (a b:Int×Int)(rs:List Bb):Prop:=Hh rs=true/\Dy a/\Dy b/\a.2<b.2
instance uH (a b:Int×Int) (rs:List Bb):Decidable (Uo a b rs):=inferInstanceAs (Decidable (_/\_))
def tI (a b:Int×Int)(rs:List Bb):List Rat:=if Uo a b rs then[(a.2:Rat),(b.2:Rat)]++rG a b rs++iX a b [] (Cc rs)else[]
theorem cJ {r:Bb}{k:Nat}{p:Int×Int}(h:r[k]?=some p)(f:Int×Int->List Rat):(r.take (k+1)).flatMap f=(r.take k).flatMap f++f p:=by
  rw[List.take_add_one,h,List.flatMap_append];simp
theorem cF {a b:Int×Int}{x:Int}(ha:Dy a)(hb:Dy b)(hx: -1048576<=x/\x<=1048576):Nm.rl (Mu a b x)<=20:=by
  have h1:=Bg ha;have h2:=Bg hb;have h3:=So (x-a.1) (b.1-a.1) ω ω;have h4:=Bm (b.2-a.2) ω ω;have h5:=Bm a.2 ω ω;have h6:=Nm.rl_mul (((x-a.1:Int):Rat)/((b.1-a.1:Int):Rat)) ((b.2-a.2:Int):Rat);have h7:=Nm.rl_add (a.2:Rat) (((x-a.1:Int):Rat)/((b.1-a.1:Int):Rat)*((b.2-a.2:Int):Rat));unfold Mu;omega
theorem oJ {a b c d:Int×Int}(ha:Dy a)(hb:Dy b)(hc:Dy c)(hd:Dy d):Nm.rl (Jn a b c d)<=8:=by
  have h1:=Pi (Co ha hc) (Co hc hd);have h2:=Pi (Co ha hb) (Co hc hd);exact So _ _ ω (ω)
theorem Zh {a b c d:Int×Int}(ha:Dy a)(hb:Dy b)(hc:Dy c)(hd:Dy d):Nm.rl (Rc a b c d)<=20/\Nm.rl (Jm a b c d)<=20:=by
 have h1:=Bg ha;have h2:=Bg hb;have ht:=oJ ha hb hc hd;have hs:=Bg (Ps ha hb hc hd);have k1:=Bm (b.1-a.1) ω ω;have k2:=Bm (b.2-a.2) ω ω;have k3:=Bm a.1 ω ω;have k4:=Bm a.2 ω ω;have k5:=Bm (Ai a b c d).1.1 ω ω;have k6:=Bm (Ai a b c d).1.2 ω ω;have m1:=Nm.rl_mul (Jn a b c d) ((b.1-a.1:Int):Rat);have m2:=Nm.rl_mul (Jn a b c d) ((b.2-a.2:Int):Rat);have a1:=Nm.rl_add (a.1:Rat) (Jn a b c d*((b.1-a.1:Int):Rat));have a2:=Nm.rl_add (a.2:Rat) (Jn a b c d*((b.2-a.2:Int):Rat));unfold Rc Jm;constructor
 ·split<;>omega
 split<;>omega
end
end Go.Proofs.YthlfilomhgeheaaGreat
