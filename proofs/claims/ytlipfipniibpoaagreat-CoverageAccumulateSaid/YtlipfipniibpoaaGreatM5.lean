import Derived.Test.YtlipfipniibpoaaGreatM4
import Derived.Deep.DeepCutAuto
import Derived.RangeFuncNested
import Derived.RangeFuncBound
import Derived.RangeFuncCalls
import Derived.RangeFuncLeaves
import Derived.Shelf.Abstract
import Derived.Shelf.RegionOpen
import Derived.OwnWalkIn
import Derived.TacticsInMore
import Derived.LoopNIn
import Derived.LoopIn
import Derived.Maps.AppendAt
import Derived.OrdersIn
import Derived.Deep.LoopGhost
set_option maxRecDepth 100000
set_option maxHeartbeats 4000000
namespace Go.Proofs.YtlipfipniibpoaaGreat
open Go.RowKit
open Go.Proofs.Tryz
namespace mrk
attribute [local go_sem ↓] Go.wp_at_zero Go.wp_at_succ Aq An
theorem insertion_any{α:Type}(enc)(hk:∀x,(enc x).length=5)(h1:∀x,∀v,v∈enc x->v.oneCell'=true)(lt)(W:Stb.Wk lt)(w0 w g cap a b N T rest P X S)(hc:(∀wr,Bd g w0 wr->∀x y:α,Calls prog 178 #[.agg (enc x).toArray,.agg (enc y).toArray] wr fun e w'=>∃z:Int,e= .returned (iV z)/\(z<0↔lt x y=true)/\Aa wr w'))(hst:Sw w0 w g T enc rest (P++(X++S)))(ha:P.length=a)(hb:a+X.length=b)(hN:(P++(X++S)).length=N)(hsz:N<=100000):
  Calls prog 207 #[.slice (π g) N cap,iV a,iV b,.func (.func 178) #[] #[]] w fun e w'=>e= .returned (.tuple #[])/\Sw w0 w' g T enc rest (P++(Stb.stab lt X++S)):=by
 have A6:P.length+(X.length+S.length)=N:=by rw[<-hN];simp
 have HC:=zH hc;have B0:=zH (show Sw w0 w g T enc rest (P++(Stb.stab lt (X.take 1)++(X.drop 1++S)))by rw[Stb.stab_take1,<-jQQ (X.take 1),List.take_append_drop];exact hst);have b1:a<=100000:=ω
 have b2:b<=100000:=ω;have C7:=zH ha;have D0:=zH A6;have HB:=zH hb;clear hst hc ha hb hN A6;go_enter func207,ntmps207
 go_wp2_with fail;go_loopg [8] (b+1-a) (fun c v wr=>∃t i:Nat,1<=t/\(t<=X.length\/t=1)/\i=a+t/\c=b+1-i+1/\v= iV i/\Sw w0 wr g T enc rest (P++(Stb.stab lt (X.take t)++(X.drop t++S))))
 case atStart=>exact⟨1,a+1,Cp _,Or.inr rfl,rfl,by have:=HB.1;omega,by go_num,B0.1⟩
 clear B0;obtain⟨t,i,D8,D1,hi,rfl,rfl,hst⟩:=hrel;have D4:=HB.1;have E0:i<=100001:=by have:=D0.1;have:=C7.1;omega
 by_cases hlt:i<b
 ·have D2:(i:Int)<(b:Int):=ω
  have B5:t<X.length:=ω;obtain⟨y,hy⟩:∃y,X[t]=y:=⟨_,rfl⟩;have C4:X.drop t=y::X.drop (t+1):=by rw[<-hy];exact List.drop_eq_getElem_cons B5
  have C1:X.take (t+1)=X.take t++[y]:=by rw[iQQ B5,hy]
  have C6:=zH (show Stb.stab lt (X.take (t+1))=Stb.ins lt (Stb.stab lt (X.take t)) y by rw[C1,Stb.stab_snoc]);have B1:=zH (Stb.stab_srt W (X.take t));have C5:(Stb.stab lt (X.take t)).length=t:=by rw[Stb.stab_len,eQQ];omega
  rw[C4]at hst;generalize Stb.stab lt (X.take t)=L at*;have B2:=zH C5;have B6:=zH B5;have HI:=zH hi;have A9:=zH (show Sw w0 wr g T enc rest (P++(L.take t++y::(L.drop t++(X.drop (t+1)++S))))by rw[cQQ ω,List.drop_of_length_le ω];exact hst);clear hst C4 C1 hy C5 hi D1 D4;go_wp2_with fail
  go_loopg [9] t (fun c v wr=>∃u j:Nat,u<=t/\c=0+u/\j=a+u/\v= iV j/\(∀z,z∈L.drop u->lt y z=true)/\Sw w0 wr g T enc rest (P++(L.take u++y::(L.drop u++(X.drop (t+1)++S)))))
  case atStart=>exact⟨t,i,Cp _,ω,HI.1,rfl,by intro z hz;rw[List.drop_of_length_le (by have:=B2.1;omega)]at hz;simp at hz,A9.1⟩
  clear A9;obtain⟨u,j,hu,rfl,hj,rfl,A7,hst⟩:=hrel;have A3:=zH A7;have A0:=zH hst;have D9:j<=100000:=by have:=HI.1;omega
  have wj:IntKind.i64.wrap (j:Int)=(j:Int):=by rw[IntKind.wrap_i64];omega
  have C2:(P++(L.take u++y::(L.drop u++(X.drop (t+1)++S)))).length=N:=by
   have h1:=D0.1;have h2:=B6.1;have h3:=B2.1
   simp;omega
  have HJ:=zH hj;have HU:=zH hu;clear A7 hst;by_cases hu0:0<u
  ·obtain⟨p,hp⟩:∃p,p+1=j:=⟨j-1,ω⟩
   obtain⟨q,hq⟩:∃q,q+1=u:=⟨u-1,ω⟩;have C3:(a:Int)<(j:Int):=ω
   have e1:(j:Int)-1=(p:Int):=ω;have wp:IntKind.i64.wrap (p:Int)=(p:Int):=by rw[IntKind.wrap_i64];omega
   have D5:=C7.1;have A5:q<L.length:=by have:=B2.1;omega
   have gx:(P++(L.take u++y::(L.drop u++(X.drop (t+1)++S))))[p]?=some L[q]:=by
    have h:=kA P (L.take u) (y::(L.drop u++(X.drop (t+1)++S))) q (by rw[eQQ];omega);rw[show P.length+q=p by omega]at h;rw[h,List.getElem?_take,if_pos ω];exact aQQ A5
   have gy:(P++(L.take u++y::(L.drop u++(X.drop (t+1)++S))))[j]?=some y:=by
    rw[dQQ ω,dQQ (by rw[eQQ];omega),eQQ,show j-P.length-min u L.length=0 by have:=B2.1;omega];rfl
   have A8:=zH (show aAL (P++(L.take u++y::(L.drop u++(X.drop (t+1)++S)))) j p=P++(L.take q++y::(L.drop q++(X.drop (t+1)++S)))by
    have h:=Wl P L (X.drop (t+1)++S) y q A5;rw[show P.length+q=p by omega,hp,hq]at h;exact h)
   have D7:=zH (show∀z,z∈L.drop q->z=L[q]\/z∈L.drop u by
    intro z hz;rw[List.drop_eq_getElem_cons A5,hq]at hz;simpa using hz)
   have A2:=zH (fun h=>Stb.ins_stop W (y:=y) B1.1 A3.1 (by have:=B2.1;omega) (Or.inr ⟨q,hq,A5,h⟩));have bj:(j:Int)<(N:Int):=by rw[<-C2];have:=(List.getElem?_eq_some_iff.1 gy).1;omega
   have bp:(p:Int)<(N:Int):=ω;have HE:=zH (fK gy gx);have C9:=zH (List.getElem?_eq_some_iff.1 gy).1;have C8:=zH (List.getElem?_eq_some_iff.1 gx).1;have Hx:=zH gx;have Hy:=zH gy;generalize L[q]=x at*
   generalize hrow:P++(L.take u++y::(L.drop u++(X.drop (t+1)++S)))=row at*;have HQ:=zH (And.intro hq hp);have B7:=zH hrow;clear gx gy A5 hu hq hp hj D5 hrow;go_upto_region 4 with fail
   refine wp_region_held_drew (S:=fun x=>Aa wr x) (by kernel_rfl) At.drew (fun _=> ?_);refine zv 0 (bs 17 1) At.drew ?_;refine zv 1 (bs 17 3) At.drew ?_;refine zv 2 (bs 17 7) At.drew ?_;refine zv 3 (bs 17 15) At.drew ?_;refine zv 4 (bs 17 31) At.drew ?_;refine zv 5 (bs 17 63) At.drew ?_;refine zv 6 (bs 17 127) At.drew ?_;refine zv 7 (bs 17 255) At.drew ?_;refine Ii (i:=8) (listed':=(bs 17 511)) (by rfl) (by kernel_rfl) (by kernel_rfl) (by kernel_rfl) _ _ (by rfl) g (j*5) (enc y) _ (by intro _ _ _ h;exact h) (by rfl) (by rfl) (fun w1 hw1=>(A0.1.ext hw1).read Hy.1 hk) underlying169 (by rfl) (by rw[hk];kernel_rfl) At.drew (by kernel_rfl) ?_;try simp only[ζ]
   refine zv 9 (bs 17 1023) At.drew ?_;refine zv 10 (bs 17 2047) At.drew ?_;refine zv 11 (bs 17 4095) At.drew ?_;refine zv 12 (bs 17 8191) At.drew ?_;refine Ii (i:=13) (listed':=(bs 17 16383)) (by rfl) (by kernel_rfl) (by kernel_rfl) (by kernel_rfl) _ _ (by rfl) g (p*5) (enc x) _ (by intro _ _ _ h;exact h) (by rfl) (by rfl) (fun w1 hw1=>(A0.1.ext hw1).read Hx.1 hk) underlying169 (by rfl) (by rw[hk];kernel_rfl) At.drew (by kernel_rfl) ?_;try simp only[ζ]
   refine mC 14 (bs 17 32767) (HC.1 _ ((A0.1.ext At.drew).own) y x) ?_;rintro e w2 ⟨z,rfl,hz,C0⟩;have A1:=zH (show Aa wr w2 from At.drew.trans C0);clear C0;refine⟨_,rfl,A1.1,?_⟩;try simp only[ζ]
   by_cases hlt:lt y x=true
   ·have B8:=zH hlt
    have A4:z<0:=hz.2 hlt;have B4:decide (z<0)=true:=by simpa using A4
    clear hz;refine zv 15 (bs 17 65535) A1.1 ?_;refine zv 16 (bs 17 131071) A1.1 ?_;refine wpAnyH_done (by kernel_rfl) ?_ _;clear hlt A4 B4;have A0:=zH (A0.1.ext A1.1);clear A1;have E2:row.length=N:=C2;generalize w2=wr at*
    go_upto_region 6 with fail;refine wp_region_held_drew (S:=fun x=>Bd g wr x) (by kernel_rfl) (Bd.refl _ _).drew (fun _=> ?_);refine zv 0 (bs 18 1) (Bd.refl _ _).drew ?_;refine zv 1 (bs 18 3) (Bd.refl _ _).drew ?_;refine zv 2 (bs 18 7) (Bd.refl _ _).drew ?_;refine zv 3 (bs 18 15) (Bd.refl _ _).drew ?_;refine zv 4 (bs 18 31) (Bd.refl _ _).drew ?_;refine zv 5 (bs 18 63) (Bd.refl _ _).drew ?_;refine zv 6 (bs 18 127) (Bd.refl _ _).drew ?_;refine zv 7 (bs 18 255) (Bd.refl _ _).drew ?_;refine zv 8 (bs 18 511) (Bd.refl _ _).drew ?_;refine zv 10 (bs 18 1535) (Bd.refl _ _).drew ?_;refine zv 11 (bs 18 3583) (Bd.refl _ _).drew ?_;refine zv 12 (bs 18 7679) (Bd.refl _ _).drew ?_;refine Xy (i:=9) (j:=13) (li:=(bs 18 8191)) (lj:=(bs 18 15871)) (listed':=(bs 18 16383)) (by rfl) (by rfl) (by kernel_rfl) (by kernel_rfl) (by kernel_rfl) (by kernel_rfl) (by kernel_rfl) (by kernel_rfl) (by kernel_rfl) 169 _ _ (by rfl) (by rfl) (by rfl) (by rfl) g (p*5) (j*5) (enc x) (enc y) _ underlying169 (by rfl) (by rfl) (by rfl) (by rfl) (by rfl) (A0.1.ext At.drew |>.read Hx.1 hk) (A0.1.ext At.drew |>.read Hy.1 hk) (by rw[hk];kernel_rfl) (by rw[hk];kernel_rfl) (Bd.refl _ _).drew (by rfl) ?_;try simp only[ζ]
    refine zv 14 (bs 18 32767) (Bd.refl _ _).drew ?_;have B3:=(A0.1.ext At.drew).put (i:=j) C9.1 hk x;have B9:=B3.put (i:=p) (by rw[eZZ];exact C8.1) hk y;refine Na (i:=15) (listed':=(bs 18 65535)) (by rfl) (by kernel_rfl) (by rfl) 169 _ _ (by rfl) g (j*5) (enc x) (by rfl) (by rfl) (by rw[hk];exact(A0.1.ext At.drew).there C9.1 hk) (by rw[hk];kernel_rfl) (h1 x) (Bd.setCells_l _ _ (Bd.refl _ _).drew) (by kernel_rfl) ?_
    (try simp only[Act.put])
    refine zv 16 (bs 18 131071) (Bd.setCells_l _ _ (Bd.refl _ _).drew) ?_;refine Na (i:=17) (listed':=(bs 18 262143)) (by rfl) (by kernel_rfl) (by rfl) 169 _ _ (by rfl) g (p*5) (enc y) (by rfl) (by rfl) (by rw[hk];exact B3.there (by rw[eZZ];exact C8.1) hk) (by rw[hk];kernel_rfl) (h1 y) (Bd.setCells_l _ _ (Bd.setCells_l _ _ (Bd.refl _ _).drew)) (by kernel_rfl) ?_
    (try simp only[Act.put])
    refine wpAnyH_done (by kernel_rfl) ?_ _;have D6:=zH B9;clear B3 B9;generalize (World.setCells _ g (p*5) (enc y))=w3 at*
    go_wp2_with fail;go_roundg q
    case measure=>have:=HQ.1.1;omega
    case rel=>exact⟨q,p,by have:=HQ.1;have:=HU.1;omega,ω,by have:=HQ.1;have:=HJ.1;omega,rfl,fun z hz=>(D7.1 z hz).elim (fun h=>by rw[h];exact B8.1) (A3.1 z),by rw[<-A8.1,HE.1];exact D6.1⟩
   have B8:=zH (eq_false_of_ne_true hlt);have A4:¬z<0:=fun h=>hlt (hz.1 h)
   have B4:decide (z<0)=false:=by simpa using A4
   clear hz;refine zv 15 (bs 17 65535) A1.1 ?_;refine zv 16 (bs 17 131071) A1.1 ?_;refine wpAnyH_done (by kernel_rfl) ?_ _;clear hlt A4 B4;have HR:=zH (show Sw w0 w2 g T enc rest (P++(Stb.stab lt (X.take (t+1))++(X.drop (t+1)++S)))by rw[C6.1,A2.1 B8.1];have h:=A0.1.ext A1.1;rw[<-B7.1]at h;simpa using h);go_wp2_with fail
   go_roundg (b+1-(i+1)+1)
   case measure=>omega
   case rel=>exact⟨t+1,i+1,ω,Or.inl B6.1,by have:=HI.1;omega,ω,by go_num,HR.1⟩
  obtain rfl:u=0:=ω;have C3:¬(a:Int)<(j:Int):=ω;have D3:decide ((a:Int)<(j:Int))=false:=by simpa using C3
  have A2:=zH (Stb.ins_stop W (y:=y) B1.1 A3.1 (dXX _) (Or.inl rfl));go_upto_region 4 with fail;refine wp_region_held_drew (S:=fun x=>Aa wr x) (by kernel_rfl) At.drew (fun _=> ?_);refine zv 0 (bs 17 1) At.drew ?_;refine zv 1 (bs 17 3) At.drew ?_;refine zv 2 (bs 17 7) At.drew ?_;refine zv 3 (bs 17 15) At.drew ?_;refine zs 4 (bs 17 31) At.drew ?_;refine zs 5 (bs 17 63) At.drew ?_;refine zs 6 (bs 17 127) At.drew ?_;refine zs 7 (bs 17 255) At.drew ?_;refine zs 8 (bs 17 511) At.drew ?_;refine zs 9 (bs 17 1023) At.drew ?_;refine zs 10 (bs 17 2047) At.drew ?_;refine zs 11 (bs 17 4095) At.drew ?_;refine zs 12 (bs 17 8191) At.drew ?_;refine zs 13 (bs 17 16383) At.drew ?_;refine zs 14 (bs 17 32767) At.drew ?_;refine zs 15 (bs 17 65535) At.drew ?_;refine zv 16 (bs 17 131071) At.drew ?_;refine wpAnyH_done (by kernel_rfl) ?_ _;have HR:=zH (show Sw w0 wr.drew g T enc rest (P++(Stb.stab lt (X.take (t+1))++(X.drop (t+1)++S)))by rw[C6.1,A2.1];have h:=A0.1.ext At.drew;simpa using h);go_wp2_with fail
  go_roundg (b+1-(i+1)+1)
  case measure=>omega
  case rel=>exact⟨t+1,i+1,ω,Or.inl B6.1,by have:=HI.1;omega,ω,by go_num,HR.1⟩
 have A0:=zH (show Sw w0 wr g T enc rest (P++(Stb.stab lt X++S))by rw[cQQ ω,List.drop_of_length_le ω]at hst;exact hst);have E1:¬(i:Int)<(b:Int):=ω
 clear hst;go_wp2_with fail;go_end0
 exact⟨rfl,A0.1⟩
theorem stable_any{α:Type}(enc)(hk:∀x,(enc x).length=5)(h1:∀x,∀v,v∈enc x->v.oneCell'=true)(lt)(W:Stb.Wk lt)(w0 w g cap N T rest xs)(hc:(∀wr,Bd g w0 wr->∀x y:α,Calls prog 178 #[.agg (enc x).toArray,.agg (enc y).toArray] wr fun e w'=>∃z:Int,e= .returned (iV z)/\(z<0↔lt x y=true)/\Aa wr w'))(hst:Sw w0 w g T enc rest xs)(hN:xs.length=N)(hsz:N<20):
  Calls prog 196 #[.slice (π g) N cap,iV N,.func (.func 178) #[] #[]] w fun e w'=>e= .returned (.tuple #[])/\Sw w0 w' g T enc rest (Stb.stab lt xs):=by
 have HC:=zH hc;have A0:=zH hst;have HN:=zH hN;clear hst hc hN;go_enter func196,ntmps196
 have A4:¬(20:Int)<=(N:Int):=ω;have A3:¬(20:Int)<(N:Int):=ω;have A2:([]++(xs++[])).length=N:=by rw[fQQ,hZZ];exact HN.1
 have HB:=zH (insertion_any enc hk h1 lt W w0 w g cap 0 N N T rest [] xs [] HC.1 (by rw[fQQ,hZZ];exact A0.1) rfl ((cXX _).trans HN.1) A2 ω);clear A0 A2;go_wp2_with fail;apply wp_loop_rounds 1;rw[rounds_succ];go_wp2_with (go_at_call 207;refine HB.1.mono ?_;rintro e w2 ⟨rfl,A1⟩)
 apply wp_loop_rounds 1;rw[rounds_succ];go_wp2_with fail;go_end0
 rw[fQQ,hZZ]at A1;exact⟨rfl,A1⟩
theorem sortStable_any{α:Type}(enc)(hk:∀x,(enc x).length=5)(h1:∀x,∀v,v∈enc x->v.oneCell'=true)(lt)(W:Stb.Wk lt)(w0 w g cap N T rest xs)(hc:(∀wr,Bd g w0 wr->∀x y:α,Calls prog 178 #[.agg (enc x).toArray,.agg (enc y).toArray] wr fun e w'=>∃z:Int,e= .returned (iV z)/\(z<0↔lt x y=true)/\Aa wr w'))(hst:Sw w0 w g T enc rest xs)(hN:xs.length=N)(hsz:N<20):
  Calls prog 177 #[.slice (π g) N cap,.func (.func 178) #[] #[]] w fun e w'=>e= .returned (.tuple #[])/\Sw w0 w' g T enc rest (Stb.stab lt xs):=by
 have HB:=zH (stable_any enc hk h1 lt W w0 w g cap N T rest xs hc hst hN hsz);clear hc hst hN;go_enter func177,ntmps177;go_wp2_with (go_at_call 196;refine HB.1.mono ?_;rintro e w2 ⟨rfl,A0⟩)
 go_end0
 exact⟨rfl,A0⟩
theorem insertion_none(v c w):Calls prog 207 #[v,iV 0,iV 0,c] w fun e w'=>e= .returned (.tuple #[])/\w=w':=by
  go_enter func207,ntmps207;go_wp2_with fail;apply wp_loop_rounds 1;rw[rounds_succ];go_wp2_with fail;go_end0
  exact⟨rfl,rfl⟩
theorem stable_none(v c w):Calls prog 196 #[v,iV 0,c] w fun e w'=>e= .returned (.tuple #[])/\w=w':=by
  go_enter func196,ntmps196;go_wp2_with fail;apply wp_loop_rounds 1;rw[rounds_succ];go_wp2_with (go_at_call 207;refine(insertion_none _ _ _).mono ?_;rintro e w2 ⟨rfl,rfl⟩)
  apply wp_loop_rounds 1;rw[rounds_succ];go_wp2_with fail;go_end0
  exact⟨rfl,rfl⟩
theorem sortStable_none(A cap c w):Calls prog 177 #[.slice A 0 cap,c] w fun e w'=>e= .returned (.tuple #[])/\w=w':=by
  go_enter func177,ntmps177;go_wp2_with (go_at_call 196;refine(stable_none _ _ _).mono ?_;rintro e w2 ⟨rfl,rfl⟩)
  go_end0
  exact⟨rfl,rfl⟩
end mrk
section
open Go.RowKit Go.Shelf
section
variable {P:Program} {n l:Nat} {Q:Exit->Act->World->Prop}
theorem lQ{row args w R}(h:Rows P row args w R):RowsIn (Fence.wide.inRound l) n P row args w R:=fun c cs _=>
  let ⟨v,w',r,s⟩:=h c cs
  ⟨v,w',r,stepsIn_wide.2 s⟩
theorem jI{o:Oper}{a w K}(ho:∀c,o.op≠ .defer c)(_hQ:¬LetsOut Q)(h:o.wp P a w K Q):o.wpIn (Fence.wide.inRound l) n P a w K Q:=by
 unfold Oper.wp at h;refine⟨fun _ _=>trivial,?_⟩;rw[Oper.semAt_eq _ _ _ ho];generalize (execOp a.eval o).run P w=r at h;cases r with
 |ok x w'=>
  cases x<;>simp only[Oper.upon]at h<;>simp only[Oper.uponIn];case value=>exact h
  case skip=>exact h
  case defer=>exact h
  case enter=>exact⟨fun hd=>by simp[Fence.wide]at hd,CallsIn.inRound l (callsIn_wide.2 h)⟩
  case row=>exact⟨fun hd=>by simp[Fence.wide]at hd,lQ h⟩
 |halt x w'=>cases x<;>simp only[Oper.upon]at h<;>simp only[Oper.uponIn]<;>exact h
def Ld (ops:List Oper):Bool:=ops.all fun o=>match o.op with| .defer _=>false|_=>true
theorem Pp{ops}(h:Ld ops=true){o}(ho:o∈ops):∀c,o.op≠ .defer c:=by
  intro c e;have:=List.all_eq_true.1 h o ho;rw[e]at this;cases this
theorem Qg {md:Region.Mode}{ops:Array Oper}(hd:Ld ops.toList=true)(hQ:¬LetsOut Q):∀(fuel:Nat) (listed:Array Bool) (a:Act) (w:World),wpAny P md ops Q fuel listed a w->wpAnyIn (Fence.wide.inRound l) n P md ops Q fuel listed a w
  |0,_,_,_,h=>h
  | fuel+1,listed,a,w,h=>⟨h.1,fun i hi=>by
    have h2:=h.2 i hi;unfold wpOp at h2;unfold wpOpIn;cases ho:ops[i]?with
    |none=>rw[ho]at h2;exact Qg hd hQ fuel _ _ _ h2
    | some o=>
      rw[ho]at h2;simp only at h2⊢;split
      · rename_i hw
        rw[if_pos hw]at h2;rcases h2 with h2|⟨_,h3⟩
        · exact Oper.wpIn_mono (fun a' w' h4=>Qg hd hQ fuel _ _ _ h4) (jI (Pp hd (by
            have h5:=Array.mem_of_getElem? ho;exact h5.1)) hQ h2)
        exact absurd h3 hQ
      rename_i hw;rw[if_neg hw]at h2;exact⟨fun _ _=>trivial,Qg hd hQ fuel _ _ _ h2⟩⟩
theorem Qz {ops:Array Oper}(hQ:¬LetsOut Q):∀(rest:List Oper) (_:Ld rest=true) (a:Act) (w:World),wpList P ops Q rest a w->wpListIn (Fence.wide.inRound l) n P ops Q rest a w
 | [],_,_,_,h=>h
 |o::rest,hd,a,w,h=>by
  unfold wpList at h;unfold wpListIn;have hd2:Ld rest=true:=by
   unfold Ld at hd⊢;rw[List.all_cons,iZZ]at hd;exact hd.2
  split
  ·rename_i hw
   rw[if_pos hw]at h;rcases h with h|⟨_,h3⟩
   ·exact Oper.wpIn_mono (fun a' w' h4=>Qz hQ rest hd2 a' w' h4) (jI (Pp hd (by simp)) hQ h)
   exact absurd h3 hQ
  rename_i hw;rw[if_neg hw]at h;exact⟨fun _ _=>trivial,Qz hQ rest hd2 _ _ h⟩
theorem Eh{id ops S a w}(hm:P.follows .mixedOrders=true)(hd:Ld ops.toList=true)(hQ:¬LetsOut Q)(hS:S w.drew)
(h:S w.drew->wpAnyH P .any ops Q S ops.size (Array.replicate ops.size false) a w.drew):(Code.region id ops true).wpIn (Fence.wide.inRound l) n P Q a w:=
  wpIn_region_any hm (Qg hd hQ _ _ _ _ (wpAny_of_held _ _ _ _ (h hS)))
theorem Ab{id ops a w}(hd:Ld ops=true)(hQ:¬LetsOut Q)(h:wpList P ops.toArray Q ops a w):(Code.region id ops.toArray false).wpIn (Fence.wide.inRound l) n P Q a w:=
  wpIn_region_lit (Qz hQ _ hd _ _ h)
end
end
section
structure Gx where
  a:RV
  q:Rat
  up:Int
def Gx.cells (e:Gx):List Value:=[.bool e.a.n,.slice e.a.p e.a.l e.a.c,.bool e.a.m,.slice e.a.p2 e.a.l2 e.a.c2,iV e.up]
theorem Gx.len (e:Gx):e.cells.length=5:=rfl
theorem Gx.one (e:Gx):∀v,v∈e.cells->v.oneCell'=true:=by simp[Gx.cells,Value.oneCell']
theorem Gx.noU (e:Gx):Av e.cells:=by simp[Av,Gx.cells]
def Gx.vl (e:Gx):QI:=(e.q,e.up)
def Gx.Ok (L:Nat)(w:World)(e:Gx):Prop:=e.a.Is w e.q/\Nm.rl e.q<=L/\ -1<=e.up/\e.up<=1
theorem Gx.Ok.dig{L w w'}{e:Gx}(h:e.Ok L w)(d:Ac w w'):e.Ok L w':=⟨h.1.dig d,h.2⟩
theorem vI (es:List Gx):Av (es.flatMap Gx.cells):=by
  intro x hx;obtain⟨e,_,he⟩:=List.mem_flatMap.1 hx;exact Gx.noU e x he
theorem aBT {α:Type}(f:α->QI):Stb.Wk (fun x y:α=>vT (f x) (f y)):=⟨fun _ _ h=>aCQ.1 _ _ h,fun _ _ _ h1 h2=>aCQ.2 _ _ _ h1 h2⟩
def nL (e f:Gx):Bool:=vT e.vl f.vl
theorem Ac.kept{w w' r}(hg:w.grownBy w' r)(hr:∀k,r=some k->∃o:Obj,w.heap[k]?=some o/\o.isCells=false):Ac w w':=by
 intro v xs h;obtain⟨p,A1,rfl,hc,hd,hp⟩:=h;refine⟨p,A1,rfl,hc,hd,fun h0=> ?_⟩;obtain⟨b,o,rfl,hb⟩:=hp h0;refine⟨b,o,rfl,fun i hi=> ?_⟩;have h1:=hb i hi;have A0:¬(some b=r):=fun e=>by
  obtain⟨ob,h2,h3⟩:=hr b e.symm;cases ob with
  |cells cs t fz=>cases h3
  |_=>simp[World.cell?,h2]at h1
 rw[World.cell?_of_block (hg.block b (World.block_lt_of_cell? w ⟨b,o+i,none⟩ h1) A0)];exact h1
theorem Hp.kept{w0 w w' m r}(h:Hp w0 w m)(hg:w.grownBy w' r)(hr:∀k,r=some k->w0.heap.size<=k/\∃o:Obj,w.heap[k]?=some o/\o.isCells=false):Hp w0 w' m:=by
 refine⟨h.ext.grown hg (fun k hk=>(hr k hk).1),fun i e he=>(h.all i e he).kept hg (fun k hk hrk=> ?_),h.apart⟩;obtain⟨o,h2,h3⟩:=(hr k hrk).2;cases e with
 |blk g t cs=>
  injection hk with hk
  subst hk;have:=h.blk he;unfold Aj at this;rw[h2]at this;injection this with this
  rw[this]at h3;cases h3
 |row t size v n xs=>
  obtain⟨h4,⟨rfl,_⟩|⟨g,A0,rest,rfl,a,hb,c⟩⟩:=h.row he
  ·simp[Et.own,Value.ownBlock]at hk
  have hk:g=k:=by simpa[Et.own,Value.ownBlock]using hk
  subst hk;unfold Aj at hb;rw[h2]at hb;injection hb with hb
  rw[hb]at h3;cases h3
def Kl (y:Rat)(e:(Int×Int)×(Int×Int)):Option QI:=
  if (e.1.2:Rat)<y/\y<(e.2.2:Rat)then some (Cz e.1.1 e.1.2 e.2.1 e.2.2 y,1)
  else if (e.2.2:Rat)<y/\y<(e.1.2:Rat)then some (Cz e.1.1 e.1.2 e.2.1 e.2.2 y,-1)else none
def Vj (y:Rat)(rs:List Dr):List QI:=(Cd rs).filterMap (Kl y)
def Ez (y:Rat)(rs:List Dr):List QI:=Stb.stab vT (Vj y (if Gf rs=true then rs else[]))
theorem Jb{ax ay bx bY y L}(ha:De ax ay=true)(hb:De bx bY=true)(hy:Nm.rl y<=L):Nm.rl (Cz ax ay bx bY y)<=L+8:=by
 unfold De at ha hb;simp only[iZZ,decide_eq_true_eq]at ha hb;unfold Cz;have q1:=Nm.rl_sub y (ay:Rat);have q2:=Nm.rl_div ((1:Int):Rat) ((bY-ay:Int):Rat);have q3:=Nm.rl_mul (y-(ay:Rat)) (((1:Int):Rat)/((bY-ay:Int):Rat));have q4:=Nm.rl_mul ((y-(ay:Rat))*(((1:Int):Rat)/((bY-ay:Int):Rat))) ((bx-ax:Int):Rat);have q5:=Nm.rl_add (ax:Rat) ((y-(ay:Rat))*(((1:Int):Rat)/((bY-ay:Int):Rat))*((bx-ax:Int):Rat));have e1:=oU ax ω;have e2:=oU ay ω;have e3:=oU (bY-ay) ω;have e4:=oU (bx-ax) ω;have e5:=oU 1 ω;omega
theorem fQ(L v es base w)(h:Bg w base 169 5 v es.length (es.flatMap Gx.cells))(hok:∀e,e∈es->e.Ok L w)
(hcmp:∀(w:World) (e f:Gx),e.Ok L w->f.Ok L w->Calls prog 178 #[.agg e.cells.toArray,.agg f.cells.toArray] w fun x w'=>∃z:Int,x= .returned (iV z)/\(z<0↔nL e f=true)/\Aa w w')
(hn:es.length<20):
  Calls prog 177 #[v,.func (.func 178) #[] #[]] w fun e w'=>
   e= .returned (.tuple #[])/\Bg w' base 169 5 v es.length ((Stb.stab nL es).flatMap Gx.cells)/\w.grownBy w' v.ownBlock:=by
 rcases h.2 with⟨rfl,h0⟩|⟨g,cap,rest,rfl,hb,hg,hc1,hc2,hc3,hc4⟩
 ·have:es=[]:=iXX h0
  subst this;refine(mrk.sortStable_none none 0 _ w).mono ?_;rintro e w' ⟨rfl,rfl⟩;exact⟨rfl,h,World.grownBy.refl _ _⟩
 have hxs:∃xs:List {e:Gx//e.Ok L w},xs.map Subtype.val=es:=by
  clear h hg hc1 hc3 hn hc4;induction es with
  |nil=>exact⟨[],rfl⟩
  |cons e es ih=>
   obtain⟨xs,hx⟩:=ih (fun f hf=>hok f (by simp[hf]));exact⟨⟨e,hok e (by simp)⟩::xs,by rw[List.map_cons,hx]⟩
 obtain⟨xs,rfl⟩:=hxs;have hfm:xs.flatMap (fun x=>x.1.cells)=(xs.map Subtype.val).flatMap Gx.cells:=by rw[List.flatMap_map]
 have hlen:xs.length=(xs.map Subtype.val).length:=by rw[fXX]
 refine(mrk.sortStable_any (fun x: {e:Gx//e.Ok L w}=>x.1.cells) (fun _=>rfl) (fun x=>x.1.one) (fun x y=>nL x.1 y.1) (aBT (fun x: {e:Gx//e.Ok L w}=>x.1.vl)) w w g cap _ 169 rest xs (fun wr o x y=> ?_) ⟨by rw[hfm];exact hg,Bd.refl _ _⟩ hlen hn).mono ?_
 ·have d:Ac w wr:=Ac.of_own hg hc4.arr o
  exact hcmp wr x.1 y.1 (x.2.dig d) (y.2.dig d)
 rintro e w' ⟨rfl,hs2⟩;have hm:(Stb.stab (fun x y: {e:Gx//e.Ok L w}=>nL x.1 y.1) xs).map Subtype.val=Stb.stab nL (xs.map Subtype.val):=Ov Subtype.val (lt':=nL) (fun _ _=>rfl) xs;have hl2:(Stb.stab nL (xs.map Subtype.val)).length=(xs.map Subtype.val).length:=Stb.stab_len _;have hfl:∀es:List Gx,(es.flatMap Gx.cells).length=es.length*5:=fun es=>Dn Gx.len es
 refine⟨rfl,⟨by rw[hfl,hl2],Or.inr ⟨g,cap,rest,rfl,hb,?_,hc1,hc2,?_,?_⟩⟩,?_⟩
 ·have h3:=hs2.blk
  rw[show(Stb.stab (fun x y: {e:Gx//e.Ok L w}=>nL x.1 y.1) xs).flatMap (fun x=>x.1.cells)=(Stb.stab nL (xs.map Subtype.val)).flatMap Gx.cells by rw[<-hm,List.flatMap_map]]at h3;exact h3
 ·rw[hfl,hl2,<-hfl];exact hc3
 ·exact(vI _).app hc4.right
 have:=hs2.own;simpa[Value.ownBlock,Bd]using this
end
section
theorem tA{y a b}(h:(a.2:Rat)<y/\y<(b.2:Rat)):Kl y (a,b)=some (Cz a.1 a.2 b.1 b.2 y,1):=if_pos h
theorem iN{y a b}(h:(b.2:Rat)<y/\y<(a.2:Rat)):Kl y (a,b)=some (Cz a.1 a.2 b.1 b.2 y,-1):=by
  unfold Kl;rw[if_neg (fun k=>by have h1:=h.1;have h2:=h.2;have k1:=k.1;have k2:=k.2;grind),if_pos h]
theorem tB{y a b}(h1:¬((a.2:Rat)<y/\y<(b.2:Rat)))(h2:¬((b.2:Rat)<y/\y<(a.2:Rat))):Kl y (a,b)=none:=by
  unfold Kl;rw[if_neg h1,if_neg h2]
theorem Zi (a b:Rat):a<b\/a=b\/b<a:=by grind
theorem Sy{p q}(h:p<q):Di p q= -1:=by
  have h1:=rcmp_lt.2 h;unfold Di at h1⊢;have:=Int.sign_trichotomy (p.num*q.den-q.num*p.den);omega
theorem Sx{p q}(h:q<p):Di p q=1:=by
  have h1:=Ei.2 h;unfold Di at h1⊢;have:=Int.sign_trichotomy (p.num*q.den-q.num*p.den);omega
theorem iM{p q y}(h1:¬(p<y/\y<q))(h2:¬(q<y/\y<p)):0<=Di p y*Di q y/\Di p y*Di q y<=1:=by
  rcases Zi p y with a|a|a
  · rw[Sy a]
    rcases Zi q y with b|b|b
    · rw[Sy b];decide
    · rw[rcmp_eq.2 b];decide
    exact absurd ⟨a,b⟩ h1
  · rw[rcmp_eq.2 a];simp
  rw[Sx a];rcases Zi q y with b|b|b
  · exact absurd ⟨b,a⟩ h2
  · rw[rcmp_eq.2 b];decide
  rw[Sx b];decide
theorem iU{y}{a b:Int}(h:((a:Rat)<y/\y<(b:Rat))\/((b:Rat)<y/\y<(a:Rat))):a≠b/\((min a b:Int):Rat)<=y/\y<=((max a b:Int):Rat):=by
  rcases h with⟨h1,h2⟩|⟨h1,h2⟩
  · have A0:a<b:=by exact_mod_cast (show(a:Rat)<(b:Rat)by grind)
    rw[Int.min_eq_left ω,Int.max_eq_right ω];exact⟨ω,by grind,by grind⟩
  have A0:b<a:=by exact_mod_cast (show(b:Rat)<(a:Rat)by grind)
  rw[Int.min_eq_right ω,Int.max_eq_left ω];exact⟨ω,by grind,by grind⟩
end
section
open Go.RowKit Go.Shelf
attribute [local go_sem] Oper.semAt_some
attribute [local go_sem ↓] Go.wp_at_zero Go.wp_at_succ Ed Ec Aq An
def Ip (x:Int×Int):Value:= .agg #[iV x.1,iV x.2]
def Gd (ok:Nat->Prop)(w:World)(v:Value)(rs:List Dr):Prop:=
  ∃(A:Option Addr) (cap:Nat),v= .slice A rs.length cap/\(0<rs.length->∃g off,A=some ⟨g,off,none⟩/\ok g/\∀i r,rs[i]?=some r->∃B cb,w.cell? ⟨g,off+i,none⟩=some (.slice B r.length cb)/\Hj w (.slice B r.length cb) r/\∀A,B=some A->ok A.block)
theorem oF(m)(hm:1<=m)(l Bx N G u rs)(J Jx:List ((Int×Int)×(Int×Int))->World->Prop)(w)
(hcb:w.cell? ⟨Bx,0,none⟩=some u)(_hGb:¬G Bx)(hR:Gd (fun k=>¬G k) w u rs)(hrl:∀r,r∈rs->r.length<=4096)(hrs:rs.length<=1048576)
(hJ:∀s A B,J s A->Aa A B->J s B)
(hY:∀pre x W,J pre W->pre.length<N->x∈Cd rs->YieldAt Fence.wide (m-1) prog l #[Ip x.1,Ip x.2] W fun e W'=>(e= .returned τ/\J (pre++[x]) W'/\Fr G W W')\/(e= .returned φ/\Jx (pre++[x]) W'))
(hN:(Cd rs).length<=N)(h0:J [] w):
  CallsIn Fence.wide m prog 122 #[.func (.yield l) #[] #[],.pointer (π Bx)] w fun e W'=>(∃v,e= .returned v)/\
   ((∃ys,ys=Cd rs/\J ys W')\/(∃pre,pre<+:Cd rs/\Jx pre W')):=by
 obtain⟨A,cap,rfl,hA⟩:=hR;have HA:=zH hA;have HJ:=zH hJ;have HY:=zH hY;have HRL:=zH hrl;clear hA hJ hY hrl;refine callsIn_of_wp func122 rfl trivial ?_ rfl;simp only[ntmps122,List.size_toArray,hQQ,List.length_nil,Nat.reduceAdd,Nat.reduceSub,Array.replicate_succ,Array.replicate_zero,List.push_toArray,List.append_toArray,fQQ,jXX];gi_wp2
 gi_loopw [10] (fun i wr=>∃k:Nat,k<=rs.length/\i= iV k/\Fr G w wr/\J (Cd (rs.take k)) wr) (fun i _=>rs.length-(intOf i).toNat)
 case atStart=>exact⟨0,dXX _,rfl,Fr.of_ext At,h0⟩
 obtain⟨k,hk,rfl,hfr,hj⟩:=hrel;have HFR:=zH hfr;have HJ1:=zH hj;clear hfr hj;by_cases hlt:k<rs.length
 ·obtain⟨r,hr⟩:∃r,rs[k]?=some r:=⟨_,aQQ hlt⟩
  obtain⟨g,off,rfl,hg,h1⟩:=HA.1 ω;obtain⟨B,cb,hc1,hp1,hB⟩:=h1 k r hr;have c1:=HFR.1.cell hc1 hg;have hlt2:(k:Int)<(rs.length:Int):=ω
  have HP:=zH hp1;have HB:=zH hB;have HR:=zH hr;have hr4:=HRL.1 r (bZZ hr);clear h1 hc1 hp1 hB hr;gi_wp2
  generalize wr=W0 at*;gi_loopw [16] (fun i wr=>∃j:Nat,j<=r.length/\i= iV j/\Fr G W0 wr/\J (Cd (rs.take k)++El r j) wr) (fun i _=>r.length-(intOf i).toNat)
  case atStart=>exact⟨0,dXX _,rfl,Fr.of_ext At,by have h:=HJ1.1;rwa[show El r 0=[]from rfl,hZZ]⟩
  obtain⟨j,hjl,rfl,hfr,hj⟩:=hrel;have HF2:=zH hfr;have HJ2:=zH hj;clear hfr hj;by_cases hjt:j<r.length
  ·have hjt2:(j:Int)<(r.length:Int):=ω
   obtain⟨a,ha⟩:∃a,r[j]?=some a:=⟨_,aQQ hjt⟩;have hmod:(j+1)%r.length<r.length:=Nat.mod_lt _ ω;obtain⟨b,hb⟩:∃b,r[(j+1)%r.length]?=some b:=⟨_,aQQ hmod⟩;have hEA:=zH (Sf ha hb);have hpts:∃g2 off2,B=some ⟨g2,off2,none⟩/\¬G g2/\Vr w g2 off2 r:=by
    obtain⟨A2,c2,hv2,h2⟩:=HP.1;injection hv2 with e1 _ _
    obtain⟨g2,off2,h3,h4⟩:=h2 (fun e=>by rw[e]at hjt;simp at hjt);exact⟨g2,off2,e1.trans h3,HB.1 _ (e1.trans h3),h4⟩
   obtain⟨g2,off2,rfl,hg2,hpa⟩:=hpts;have HFW:=zH (HFR.1.trans HF2.1);have hga:∀i p,r[i]?=some p->r.getD i (0,0)=p:=fun i p h=>by rw[bQQ,h];rfl
   have hpj:=hpa j hjt;have hpm:=hpa _ hmod;rw[hga j a ha]at hpj;rw[hga _ b hb]at hpm;have x0:=HFW.1.cell hpj.1 hg2;have x1:=HFW.1.cell hpj.2 hg2;have y0:=HFW.1.cell hpm.1 hg2;have y1:=HFW.1.cell hpm.2 hg2;have wj:IntKind.i64.wrap ((j:Int)+1)=(j:Int)+1:=by rw[IntKind.wrap_i64];omega
   have hrem:((j:Int)+1).tmod (r.length:Int)=(((j+1)%r.length:Nat):Int):=by rw[Int.tmod_eq_emod_of_nonneg ω];simp
   have HHA:=zH ha;have HHB:=zH hb;clear hpa hpj hpm ha hb hga;generalize hM:(j+1)%r.length=M at*
   clear hM;obtain⟨a0,a1⟩:=a;obtain⟨b0,b1⟩:=b;dsimp only at x0 x1 y0 y1
   by_cases hab:(a0,a1)=(b0,b1)
   ·injection hab with e0 e1
    subst e0;subst e1;have hne:(a0==a0&&a1==a1)=true:=by simp
    have HED:=zH (hEA.1.trans (if_pos rfl));have y0a:=((Aa.refl wr).alloc (.cells #[iV a0,iV a1] 52)).get y0;have y1a:=((Aa.refl wr).alloc (.cells #[iV a0,iV a1] 52)).get y1;have hx2:Aa wr ((wr.alloc (.cells #[iV a0,iV a1] 52)).alloc (.cells #[iV a0,iV a1] 52)):=((Aa.refl wr).alloc _).alloc _;gi_wp2
    refine⟨fun _ h=>(by cases h),?_⟩;gi_wp2
    go_roundw
    case rel=>exact⟨j+1,hjt,by go_num,HF2.1.trans (Fr.of_ext hx2),by rw[Ko HED.1];exact HJ.1 _ _ _ HJ2.1 hx2⟩
    case measure=>simp[intOf];omega
   have hne:(a0==b0&&a1==b1)=false:=by
    rw[Bool.and_eq_false_iff,beq_eq_false_iff_ne,beq_eq_false_iff_ne];by_cases h0:a0=b0
    ·exact .inr fun h1=>hab (by rw[h0,h1])
    exact .inl h0
   have HED:=zH (hEA.1.trans (if_neg hab));clear hab;have y0a:=((Aa.refl wr).alloc (.cells #[iV a0,iV a1] 52)).get y0;have y1a:=((Aa.refl wr).alloc (.cells #[iV a0,iV a1] 52)).get y1;have hx2:Aa wr ((wr.alloc (.cells #[iV a0,iV a1] 52)).alloc (.cells #[iV b0,iV b1] 52)):=((Aa.refl wr).alloc _).alloc _;have hlen:(Cd (rs.take k)++El r j).length<N:=by
    have h1:=(Nd HR.1 (show j+1<=r.length by omega)).length_le;rw[Ew HED.1]at h1;simp at h1⊢;omega
   obtain⟨fn,tmps,assign,body,hy,hRd⟩:=HY.1 _ ((a0,a1),(b0,b1)) _ (HJ.1 _ _ _ HJ2.1 hx2) hlen (by
    have h1:=Nd HR.1 (show j+1<=r.length by omega);rw[Ew HED.1]at h1;exact h1.subset (by simp))
   dsimp only[Ip]at hy
   gi_wp2
   refine hRd.mono ?_;rintro e W3 (⟨rfl,hJ3,hk3⟩|⟨rfl,hJx3⟩)
   ·gi_wp2
    go_roundw
    case rel=>exact⟨j+1,hjt,by go_num,(HF2.1.trans (Fr.of_ext hx2)).trans hk3,by rw[Ew HED.1,<-jQQ];exact hJ3⟩
    case measure=>simp[intOf];omega
   gi_wp2
   refine bodyPost_ret (results_none rfl _ _ _) rfl ?_;exact⟨⟨_,rfl⟩,.inr ⟨_,by have h:=Nd HR.1 (show j+1<=r.length by omega);rwa[Ew HED.1,<-jQQ]at h,hJx3⟩⟩
  have hjn:¬(j:Int)<(r.length:Int):=ω;gi_wp2
  go_roundw
  case rel=>exact⟨k+1,ω,by go_num,HFR.1.trans HF2.1,by rw[Mp HR.1];have h:=HJ2.1;rwa[show j=r.length by omega]at h⟩
  case measure=>simp[intOf];omega
 gi_wp2
 go_end0
 have e:k=rs.length:=ω;subst e;exact⟨⟨_,rfl⟩,.inl ⟨_,rfl,by have h:=HJ1.1;rwa[cQQ (Cp _)]at h⟩⟩
end
section
attribute [local go_sem ↓] Go.wp_at_zero Go.wp_at_succ Ed Ec Aq An
theorem Gd.ext{ok w w' v rs}(h:Gd ok w v rs)(x:Aa w w'):Gd ok w' v rs:=by
  obtain⟨A,A1,h1,h2⟩:=h;refine⟨A,A1,h1,fun h0=> ?_⟩;obtain⟨g,A0,h3,h4,h5⟩:=h2 h0;refine⟨g,A0,h3,h4,fun i r hr=> ?_⟩;obtain⟨B,cb,h6,h7,h8⟩:=h5 i r hr;exact⟨B,cb,x.get h6,h7.ext x,h8⟩
theorem Gd.imp{ok ok' w v rs}(h:Gd ok w v rs)(hi:∀k,ok k->ok' k):Gd ok' w v rs:=by
  obtain⟨A,A1,h1,h2⟩:=h;refine⟨A,A1,h1,fun h0=> ?_⟩;obtain⟨g,A0,h3,h4,h5⟩:=h2 h0;refine⟨g,A0,h3,hi _ h4,fun i r hr=> ?_⟩;obtain⟨B,cb,h6,h7,h8⟩:=h5 i r hr;exact⟨B,cb,h6,h7,fun A hA=>hi _ (h8 A hA)⟩
theorem Tr.ringsO{b0 w v rs}(h:Tr b0 w v rs):Gd (fun k=>b0<=k/\k<w.heap.size) w v rs:=by
 obtain⟨vs,h1,h2,h3⟩:=h;obtain⟨_,⟨rfl,hz⟩|⟨g,A0,rest,rfl,hb,hB,_⟩⟩:=h1
 ·exact⟨none,0,by rw[hz],fun h=>ω⟩
 refine⟨_,A0,rfl,fun _=>⟨g,0,rfl,⟨hb,hB.lt⟩,fun i r hr=> ?_⟩⟩;obtain⟨B,cb,h4,h5,h6,h7⟩:=h3 i r hr;refine⟨B,cb,?_,h5,fun A hA=>⟨h7 A hA,(h6 A hA).2⟩⟩;rw[cXX,hB.cell,aZZ,dZZ (by have:=(List.getElem?_eq_some_iff.1 h4).1;exact this)];exact h4
theorem Gd.nil(ok w):Gd ok w (.slice none 0 0) []:=⟨none,0,rfl,fun h=>by simp at h⟩
theorem Zc(u rs w)(hu:Cs w u rs)(hv:Gf rs=false)(hn:rs.length<=1048576)(hr:∀r,r∈rs->r.length<=1048576):
  Calls prog 121 #[u,.agg #[iV 0,iV 0]] w fun e w'=>e= .returned (.slice none 0 0)/\Aa w w':=by
 have HC:=zH (fun W (hW:Aa w W)=>Ck u rs W (hu.ext hW) hn hr);have HV:=zH hv;obtain⟨Au,cu,rfl,_⟩:=hu;clear hv hr;go_enter func121,ntmps121
 have hE:Aa w (w.alloc (.cells #[iV 0,iV 0] 52)):=At.alloc _;go_upto_if 13 with(go_at_call 41;refine(HC.1 _ hE).mono ?_;rintro e w1 ⟨rfl,A0⟩)
 have A1:(!Gf rs)=true:=by rw[HV.1];rfl
 rw[A1];go_wp2_with fail;go_ret;exact⟨rfl,hE.trans A0⟩
theorem Rj(u rs w)(hu:Cs w u rs)(hn:rs.length<=1048576)(hr:∀r,r∈rs->r.length<=1048576):
  Calls prog 82 #[u] w fun e w'=>∃Bx v,e= .returned (.func (.func 122) #[] #[.pointer (π Bx)])/\w.heap.size<=Bx/\Bx<w'.heap.size/\
   w'.cell? ⟨Bx,0,none⟩=some v/\Gd (fun k=>w.heap.size<=k/\k<w'.heap.size) w' v (if Gf rs=true then rs else[])/\Aa w w':=by
 have HC:Calls prog 121 #[u,.agg #[iV 0,iV 0]] w fun e w'=>∃A n c,e= .returned (.slice A n c)/\Gd (fun k=>w.heap.size<=k/\k<w'.heap.size) w' (.slice A n c) (if Gf rs=true then rs else[])/\Aa w w':=by
  by_cases h:Gf rs=true
  ·rw[if_pos h]
   refine(Vv u rs w hu h hn).mono ?_;rintro e w' ⟨v,rfl,h2,h3⟩;have h4:=h2.ringsO;obtain⟨A,c,rfl,_⟩:=id h4;exact⟨A,_,c,rfl,h4,h3⟩
  rw[if_neg h];refine(Zc u rs w hu (by simpa using h) hn hr).mono ?_;rintro e w' ⟨rfl,h3⟩;exact⟨none,0,0,rfl,Gd.nil _ _,h3⟩
 generalize (if Gf rs=true then rs else[])=qs at HC⊢;have A1:=zH HC;clear HC hu hr;go_enter func82,ntmps82;go_wp2_with (go_at_call 121;refine A1.1.mono ?_;rintro e w1 ⟨A,n,c,rfl,hR,hx⟩)
 go_ret;have A0:Aa w1 (w1.alloc (.cells #[.slice A n c] 31)):=At.alloc _;refine⟨_,_,rfl,hx.size,by simp,?_,(hR.ext A0).imp (fun k h=>⟨h.1,kQQ h.2 A0.size⟩),hx.trans A0⟩;exact(Aj.new w1 _ _).cell 0
end
section
open Go.RowKit Go.Shelf
attribute [local go_sem] Oper.semAt_some
abbrev He:=(Int×Int)×(Int×Int)
def aBL (e:He):Prop:=De e.1.1 e.1.2=true/\De e.2.1 e.2.2=true
abbrev fD:={e:He//aBL e}
def zV (x:fD):Array Value:=#[Ip x.1.1,Ip x.1.2]
theorem eL{rs}(h:Gf rs=true):∀e,e∈Cd rs->aBL e:=by
 intro e he;obtain⟨r,hr,h2⟩:=List.mem_flatMap.1 he;obtain⟨i,_,h3⟩:=List.mem_filterMap.1 h2;unfold Gf at h;rw[iZZ]at h;have h4:=List.all_eq_true.1 h.2 r hr;unfold Dk at h4;have hp:∀(j:Nat) (p:Int×Int),r[j]?=some p->De p.1 p.2=true:=fun j p hj=>List.all_eq_true.1 h4 p (bZZ hj)
 unfold Mq at h3;split at h3
 ·rename_i a b ha hb
  split at h3
  ·cases h3
  injection h3 with h3
  subst h3;exact⟨hp _ _ ha,hp _ _ hb⟩
 cases h3
theorem Fr.putObj{G}(W l o')(h:G l\/W.heap.size<=l):Fr G W (W.putObj l o'):=
  Fr.trans_new (Fr.of_ext (Aa.refl W)) (grownBy_putObj' W l o') (fun j hj=>by injection hj with hj;subst hj;exact h)
theorem Oh{n p0 p1 N g assign body Q a W1}(hn:2<=n)(G Bx u rs)
(hg:a.eval g= .func (.func 122) #[] #[.pointer (π Bx)])(hcb:W1.cell? ⟨Bx,0,none⟩=some u)(hGb:¬G Bx)(hR:Gd (fun k=>¬G k) W1 u rs)(hrs:rs.length<=1048576)(hok:Gf rs=true)(hN:(Cd rs).length<=N)
(hG:∀k,W1.heap.size<=k->G k)
(I)(hI:OwnFrom W1.heap.size I)(h0:I [] W1)(Ax:fD->Act->World->Prop)(hAx:∀x a',OwnFrom W1.heap.size (fun(_:Unit) W=>Ax x a' W))
(hassign:∀(l:Nat) (pre:List fD) (x:fD) (W:World) (K:Act->World->Prop),I pre W->(∀a' W',KeepsFrom W1.heap.size W W'->Fr G W W'->I pre W'->Ax x a' W'->K a' W')->
   assign.wpIn (Fence.wide.inRound l) (n-1-1) prog (Exit.then K (fun _ _ _=>False)) {tmps:=(a.tmps.setIfInBounds p0 (Ip x.1.1)).setIfInBounds p1 (Ip x.1.2),defers:=[]} W)
(hbody:∀(l:Nat) (pre:List fD) (x:fD) (a':Act) (W:World),I pre W->Ax x a' W->pre.length<N->
   body.wpIn (Fence.wide.inRound l) (n-1-1) prog (ownPostG W1.heap.size (Fr G) I (fun _ _ _=>False) (pre++[x]) W) a' W)
(hdone:∀(D:Nat) (xs:List fD) (W:World),W1.heap.size<=D->xs.map Subtype.val=Cd rs->I xs W->W.heap[D]?=some (.deferred (some []))->Q .normal {a with defers:={target:= .collected D,args:=#[]}::a.defers} W):
  (Code.rangeFunc g #[p0,p1] assign body).wpIn Fence.wide n prog Q a W1:=by
 have hseq:SeqStopsK Fence.wide (n-1) prog 122 #[.pointer (π Bx)] zV (Fr G) (fun xs=>xs.map Subtype.val=Cd rs) (fun pre=>pre.map Subtype.val<+:Cd rs) N W1:=by
  intro l J Jx W hW hJa hJxa hY hJ0;have hx:Aa W1 W:=hW;have hRW:=hR.ext hx;have hrl:∀r,r∈rs->r.length<=4096:=fun r hr=>by
   obtain⟨k,hk⟩:=List.mem_iff_getElem?.1 hr;have h1:=Ih hk;have h2:=Ig rs (k+1);have h3:=Hr hok;omega
  have hEx:∀(s:List fD) (A B:World),J s A->Aa A B->J s B:=fun s A B h x=>hJa s A B none h (Cx _ x) (fun r e=>by cases e)
  refine(oF (n-1) ω l Bx N G u rs (fun s W=>∃xs:List fD,xs.map Subtype.val=s/\J xs W) (fun s W=>∃xs:List fD,xs.map Subtype.val=s/\Jx xs W) W (hx.get hcb) hGb hRW hrl hrs
   (fun s A B h x=>by obtain⟨xs,h1,h2⟩:=h;exact⟨xs,h1,hEx _ _ _ h2 x⟩) ?_ hN ⟨[],rfl,hJ0⟩).mono ?_
  ·rintro pre x W2 ⟨xs,rfl,h2⟩ hlen hmem
   refine(hY xs ⟨x,eL hok x hmem⟩ W2 h2 (by simpa using hlen)).mono ?_;rintro e W3 (⟨rfl,h3,h4⟩|⟨rfl,h3⟩)
   ·exact .inl ⟨rfl,⟨_,by simp,h3⟩,h4⟩
   exact .inr ⟨rfl,⟨_,by simp,h3⟩⟩
  rintro e W2 ⟨h1,⟨ys,rfl,xs,h2,h3⟩|⟨pre,h2,xs,h3,h4⟩⟩
  ·exact⟨h1,.inl ⟨xs,h2,h3⟩⟩
  exact⟨h1,.inr ⟨xs,by show xs.map Subtype.val<+:Cd rs;rw[h3];exact h2,h4⟩⟩
 refine wpIn_rangeFunc_ownH rfl ω (gf:=122) (lb:=#[.pointer (π Bx)]) hg trivial (enters_of func122 kR rfl)
  hseq (fun h k=>Fr.trans h k) (fun W l o o' hl _ _ _=>Fr.putObj W l o' (.inl (hG l hl))) (Below.refl _ _) (fun _=>rfl) I (fun _ _ _=>False) hI (fun _ _ _ _ _ hs _ _=>hs) h0 Ax hAx ?assign ?body ?done ?stop
 case assign=>
  intro l pre x W K hi hK;have e:((#[p0,p1]:Array Tmp).zip (zV x)).foldl (fun t (p,v)=>t.setIfInBounds p v) a.tmps=(a.tmps.setIfInBounds p0 (Ip x.1.1)).setIfInBounds p1 (Ip x.1.2):=by simp[zV]
  rw[e];exact hassign l pre x W K hi hK
 case body=>exact fun l pre x a' W _ _ hi ha hlt=>hbody l pre x a' W hi ha hlt
 case done=>exact fun D xs W hD hs hi hK=>hdone D xs W hD hs hi hK
 case stop=>exact fun D c pre W _ _ h _=>h.elim
theorem KeepsFrom.of_fr{B G W W'}(h:Fr G W W')(hG:∀k,G k->∀o:Obj,W.heap[k]?=some o->o.isCells=true):KeepsFrom B W W':=
  ⟨h.size,fun k o _ hk ho=>by
    have A0:k<W.heap.size:=(Array.getElem?_eq_some_iff.1 hk).1;rw[h.block k A0 (fun g=>by rw[hG k g o hk]at ho;cases ho)];exact hk⟩
theorem Fr.imp{G G' W W'}(h:Fr G W W')(hG:∀k,G k->G' k):Fr G' W W':=⟨h.os,h.tape,h.output,h.size,fun k hk hn=>h.block k hk (fun g=>hn (hG k g))⟩
theorem Hp.cells{w0 w m}{i k:Nat}{e}(h:Hp w0 w m)(hi:m[i]?=some e)(hk:e.own=some k):∀o:Obj,w.heap[k]?=some o->o.isCells=true:=by
 intro o ho;cases e with
 |blk g t cs=>
  injection hk with hk
  subst hk;have:=h.blk hi;unfold Aj at this;rw[this]at ho;injection ho with ho
  rw[<-ho];rfl
 |row t size v n xs=>
  obtain⟨h4,⟨rfl,_⟩|⟨g,A0,rest,rfl,a,hb,c⟩⟩:=h.row hi
  ·simp[Et.own,Value.ownBlock]at hk
  have hk:g=k:=by simpa[Et.own,Value.ownBlock]using hk
  subst hk;unfold Aj at hb;rw[hb]at ho;injection ho with ho
  rw[<-ho];rfl
def Et.typ:Et->TypeId
  | .blk _ t _=>t
  | .row t _ _ _ _=>t
theorem Hp.typ{w0 w m}{i g:Nat}{e T cs}(h:Hp w0 w m)(hi:m[i]?=some e)(hb:Aj w g T cs)(hk:e.own=some g):e.typ=T:=by
 unfold Aj at hb;cases e with
 |blk g' t cs'=>
  injection hk with hk
  subst hk;have:=h.blk hi;unfold Aj at this;rw[this]at hb;injection hb with hb
  injection hb with _ hb _
 |row t size v n xs=>
  obtain⟨h4,⟨rfl,_⟩|⟨g',A1,rest,rfl,a,A0,c⟩⟩:=h.row hi
  ·simp[Et.own,Value.ownBlock]at hk
  have hk:g'=g:=by simpa[Et.own,Value.ownBlock]using hk
  subst hk;unfold Aj at A0;rw[A0]at hb;injection hb with hb
  injection hb with _ hb _
theorem Hp.addTyp2{w0 w m X Y T zs us}(h:Hp w0 w m)(B1:Aj w X T zs.toArray)(B2:Aj w Y T us.toArray)(hne:X≠Y)(z1:w0.heap.size<=X)(z2:w0.heap.size<=Y)(n1:Av zs)(n2:Av us)
(ht:∀e,e∈m->e.typ≠T):Hp w0 w (m++[.blk X T zs]++[.blk Y T us]):=by
 have h1:Hp w0 w (m++[.blk X T zs]):=h.add ⟨z1,B1,n1⟩ (fun i f hf k hk e=>by
  injection e with e
  subst e;exact ht f (bZZ hf) (h.typ hf B1 hk))
 refine h1.add ⟨z2,B2,n2⟩ (fun i f hf k hk e=> ?_);injection e with e
 subst e;rcases List.mem_append.1 (bZZ hf)with hm|hm
 ·obtain⟨j,hj⟩:=List.mem_iff_getElem?.1 hm
  exact ht f hm (h.typ hj B2 hk)
 simp at hm;subst hm;injection hk with hk
 exact hne hk
theorem Aj.kept{w w' g t cs r}(h:Aj w g t cs)(hg:w.grownBy w' r)(hr:∀k,r=some k->∃o:Obj,w.heap[k]?=some o/\o.isCells=false):Aj w' g t cs:=
  h.grown hg (fun e=>by
    obtain⟨o,h2,h3⟩:=hr g e;unfold Aj at h;rw[h]at h2;injection h2 with h2
    rw[<-h2]at h3;cases h3)
end
section
attribute [local go_sem ↓] Go.wp_at_zero Go.wp_at_succ Aq An
theorem zM{P}{ρ:Operand->Value}{o w A B E t t' x y}(ho:o.op= .binOp .rem t x y t')(hx:ρ x= iV A)(hy:ρ y= iV B)(hB:B≠0)(hE:A.tmod B=E)(_h1: -9223372036854775808<=E)(_h2:E<=9223372036854775807):(execOp ρ o).run P w= .ok (.value (iV E)) w:=by
  unfold execOp;simp only[ho,hx,hy];simp[go_sem,hB,hE]
theorem Pz{ρ:Operand->Value}{o w a b c d bb t' x y}(ho:o.op= .binOp .neq 52 x y t')(hx:ρ x= .agg #[iV a,iV b])(hy:ρ y= .agg #[iV c,iV d])(h:(!(a==c&&b==d))=bb):
    (execOp ρ o).run prog w= .ok (.value (.bool bb)) w:=by
  subst h;unfold execOp;simp only[ho,hx,hy];simp[go_sem,Ec]
def Wf (e:He):List Value:=[iV e.1.1,iV e.1.2,iV e.2.1,iV e.2.2]
theorem aJ(e):(Wf e).length=4:=rfl
theorem Gh{w:World}{g o v}(h:w.cell? ⟨g,o,none⟩=some v):w.rangeAt g o [v]:=by
  intro j u hj;match j,hj with
  |0,hj=>injection hj with hj;rw[<-hj];exact h
  |k+1,hj=>simp at hj
theorem cR{w g off i ps a}(h:Vr w g off ps)(hi:ps[i]?=some a):w.rangeAt g (off+i*2) [iV a.1,iV a.2]:=by
  have hl:=(List.getElem?_eq_some_iff.1 hi).1;have h1:=h i hl;have e:ps.getD i (0,0)=a:=by rw[bQQ,hi];rfl
  rw[e]at h1;intro j u hj;match j,hj with
  |0,hj=>injection hj with hj;rw[<-hj];exact h1.1
  |1,hj=>injection hj with hj;rw[<-hj];exact h1.2
  |k+2,hj=>simp at hj
theorem iG{rs k n r}(hok:Gf rs=true)(h:rs[k]?=some r)(hn:n<=r.length):(Cd (rs.take k)++El r n).length<=4096:=
  Al (Nd h hn).length_le (Al (Eg rs) (Hr hok))
def Bj (rs:List Dr):List He:=Cd (if Gf rs=true then rs else[])
theorem Ku{rs}(h:Gf rs=true):Bj rs=Cd rs:=by unfold Bj;rw[if_pos h]
theorem Yl{rs}(h:¬Gf rs=true):Bj rs=[]:=by unfold Bj;rw[if_neg h];rfl
theorem gO(u rs w)(hu:Cs w u rs)(hn:rs.length<=1048576)(hr:∀r,r∈rs->r.length<=1048576):
  Calls prog 44 #[u] w fun e w'=>∃A n c,e= .returned (.slice A n c)/\n=(Bj rs).length/\Bg w' w.heap.size 72 4 (.slice A n c) n (List.flatMap Wf (Bj rs))/\Aa w w':=by
 have HU:=zH hu;have HN:=zH hn;have HR:=zH hr;obtain⟨A,cu,rfl,hA⟩:=hu;have HA:=zH hA;clear hA hr;go_enter func44,ntmps44
 have H0:=zH (Hp.start w);by_cases c1:Gf rs=true
 ·have HV:=zH c1
  clear c1;go_upto_region 0 with fail;apply wl;refine Cg Ah _ ?_;go_upto_region 1 with fail;apply wl;refine Cg Ah _ ?_;have H4:=zH (show Hp w w [ro 72 4 none 0 0 Wf ([])]from H0.1.addNil 72 4);go_upto_region 2 with fail
  apply wl;refine Cg Ah _ ?_;refine zc (Ea _ rs _ (HU.1.ext H4.1.ext) HN.1 HR.1) ?_;rintro e w6 ⟨rfl,hx⟩;have H7:=zH (H4.1.step hx);clear hx;refine⟨.bool true,by rw[HV.1],?_⟩;try simp only[ζ]
  apply zq φ;go_wp2_with fail;go_loopg [3,4] (rs.length) (fun cq G1 G0 wr=>∃(i:Nat) (m:Nat) (es:List He) (A1:Option Addr) (c1:Nat),cq=rs.length-i/\G1= .slice A1 m c1/\G0= iV (i:Int)/\(i<=rs.length)/\(m=es.length)/\(es=Cd (rs.take i))/\Hp w wr [.row 72 4 (.slice A1 m c1) (m) (List.flatMap Wf es)]/\Ac w6 wr)
  case atStart=>exact⟨0,0,[],none,0,rfl,rfl,rfl,dXX _,rfl,rfl,H7.1,Ac.refl _⟩
  obtain⟨i,m,es,A1,c1,rfl,rfl,rfl,A9,B7,B0,C0,C1⟩:=hrel;generalize wr=F7 at*;have G7:=zH A9;clear A9;have HM:=zH B7;clear B7;have E8:=zH B0;clear B0;have D0:=zH C0;have H9:=zH C1;clear C0 C1 H7;rcases Cl (i<rs.length)with HLT|HLT
  ·have B3:=HLT.1
   have G3:(i:Int)<(rs.length:Int):=ω;obtain⟨r,A4⟩:∃r,rs[i]?=some r:=⟨_,aQQ B3⟩;have E5:=zH A4;have I5:=HR.1 r (bZZ A4);obtain⟨g,A0,rfl,E2⟩:=HA.1 ω;obtain⟨B,cb,C7,J2,G4,G2,C6⟩:=E2 i r A4;injection G2 with e1_ e2_ e3_
   subst e1_;have C3:=zH C7;have G5:=zH C6;clear A4 E2 C7 C6 e2_ e3_;go_upto_region 7 with fail
   apply wl;apply zq (iV 0);go_wp2_with fail;go_loopg [3,5] (r.length) (fun cq F9 F8 wr=>∃(k:Nat) (m2:Nat) (B4:List He) (A2:Option Addr) (c2:Nat),cq=r.length-k/\F9= .slice A2 m2 c2/\F8= iV (k:Int)/\(k<=r.length)/\(m2=B4.length)/\(B4=Cd (rs.take i)++El r k)/\Hp w wr [.row 72 4 (.slice A2 m2 c2) (m2) (List.flatMap Wf B4)]/\Ac F7 wr)
   case atStart=>exact⟨0,m,es,A1,c1,rfl,rfl,rfl,dXX _,HM.1,(by rw[E8.1];simp[El]),D0.1,Ac.refl _⟩
   obtain⟨k,m2,B4,A2,c2,rfl,rfl,rfl,A8,A7,A3,C0,C1⟩:=hrel;generalize wr=I4 at*;have G6:=zH A8;clear A8;have C8:=zH A7;clear A7;have A6:=zH A3;clear A3;have B6:=zH C0;have D9:=zH C1;clear C0 C1 D0;rcases Cl (k<r.length)with HLU|HLU
   ·have B2:=HLU.1
    have E1:r≠ []:=by intro h_;rw[h_]at B2;simp at B2
    obtain⟨gr,B1,rfl,A5⟩:=G5.1 E1;have J1:=zH A5;obtain⟨⟨a0,a1⟩,D4⟩:∃a,r[k]?=some a:=⟨_,aQQ B2⟩;have B9:(k+1)%r.length<r.length:=Nat.mod_lt _ ω;obtain⟨⟨b0,b1⟩,D3⟩:∃b,r[(k+1)%r.length]?=some b:=⟨_,aQQ B9⟩;have F0:=zH (Sf D4 D3);have E6:=zH (cR A5 D4);have E7:=zH (cR A5 D3);have D5:=zH (show(((k+1:Nat):Int)).tmod (r.length:Int)=(((k+1)%r.length:Nat):Int)by rw[Int.tmod_eq_emod_of_nonneg ω];simp);have B5:=zH (show m2<=4096 by rw[C8.1,A6.1];exact iG HV.1 E5.1 (nXX B2));clear D4 D3 A5 E1;dsimp only at E6 E7
    generalize hj_:(k+1)%r.length=j at*;clear hj_;go_upto_region 8 with fail;apply wl;refine Da Ah (iV (k:Int)) _ (iV (i:Int)) ?_;apply zp (.pointer (some ⟨g,A0+i,none⟩)) (by exact Gw (k:=i) underlying31 (l:=B3) (f:=(show A0+i=A0+i*1 by omega)));refine ze g (A0+i) (.slice (some ⟨gr,B1,none⟩) r.length cb) (Gh (B6.1.ext.get C3.1)) ?_;apply zq (iV ((r.length:Nat):Int));apply zp τ (by exact Df (e:=(Ar (by have B8:=B5.1;omega))));go_upto_region 10 with fail;apply wl;refine Cc Ah _ (iV (i:Int)) ?_;apply zp (.pointer (some ⟨g,A0+i,none⟩)) (by exact Gw (k:=i) underlying31 (l:=B3) (f:=(show A0+i=A0+i*1 by omega)));refine ze g (A0+i) (.slice (some ⟨gr,B1,none⟩) r.length cb) (Gh (B6.1.ext.get C3.1)) ?_;apply zq (iV (k:Int));apply zp (.pointer (some ⟨gr,B1+k*2,none⟩)) (by exact Gw (k:=k) underlying53 (l:=B2) (f:=rfl));refine zd gr (B1+k*2) [iV a0,iV a1] (Be E6.1 B6.1.ext) underlying52 ?_;apply Ca 52 [iV 0,iV 0] B6.1;intro I9 I3 H3 F5;apply Cm 1 [iV a0,iV a1] H3.1;intro D1 C9 F4;go_upto_region 11 with fail;refine zy ?_;have H2:=zH (C9.1.step (Aa.refl D1).drew);have F3:=zH (Ac.of_ext (w:=D1) zb);refine Sh Ah zb (bs 16 3) 0 1 _ (iV (i:Int)) ?_;refine zu 2 (bs 16 7) (v:= .pointer (some ⟨g,A0+i,none⟩)) zb ?_ (hv:=by intro w C5;exact Gw (k:=i) underlying31 (l:=B3) (f:=(show A0+i=A0+i*1 by omega)));refine zf 3 (bs 16 15) g (A0+i) (.slice (some ⟨gr,B1,none⟩) r.length cb) (Gh (C9.1.ext.get C3.1)) zb ?_;refine zx 4 (bs 16 31) (iV (k:Int)) zb ?_;refine zu 5 (bs 16 63) (v:= iV ((k+1:Nat):Int)) zb ?_ (hv:=by intro w C5;exact Gm (by have B8:=B5.1;omega));refine Sh Ah zb (bs 16 255) 6 7 _ (iV (i:Int)) ?_;refine zu 8 (bs 16 511) (v:= .pointer (some ⟨g,A0+i,none⟩)) zb ?_ (hv:=by intro w C5;exact Gw (k:=i) underlying31 (l:=B3) (f:=(show A0+i=A0+i*1 by omega)));refine zf 9 (bs 16 1023) g (A0+i) (.slice (some ⟨gr,B1,none⟩) r.length cb) (Gh (C9.1.ext.get C3.1)) zb ?_;refine zx 10 (bs 16 2047) (iV ((r.length:Nat):Int)) zb ?_;refine zu 11 (bs 16 4095) (v:= iV (j:Int)) zb ?_ (hv:=by intro w C5;exact zM rR rR rR ω D5.1 ω ω);refine zo 12 (bs 16 8191) (v:= .pointer (some ⟨gr,B1+j*2,none⟩)) zb ?_ (hv:=by intro w C5;exact Gw (k:=j) underlying53 (l:=B9) (f:=rfl));refine zg 13 (bs 16 16383) gr (B1+j*2) [iV b0,iV b1] (Be E7.1 C9.1.ext) underlying52 zb ?_;refine rQ (T:=52) (zs:=[iV 0,iV 0]) (i:=14) (listed':=(bs 16 32767)) rR kR rR (by go_simp) kR H2.1 (by simp[Av]) ?_;intro I8 F6 hh hx D2;have H1:=hN hh;have F2:=zH (show Ac D1.drew F6 from Ac.of_ext hx);have E4:=zH (zb.trans hx);have H5:=zH (Al zb.size D2);clear hh hx D2;refine⟨E4.1,?_⟩;try simp only[ζ]
    refine bS 2 15 (bs 16 65535) [iV b0,iV b1] H1.1 E4.1 H5.1 ?_;intro E0 C4 F1 J0;refine wpAnyH_done kR ?_ _;rcases Cl ((a0,a1)=(b0,b1))with C|C
    ·go_upto_region 12 with fail
     apply wl;refine Cc C4.1 _ _ ?_;apply zp φ (by exact Pz rR rR rR (by have h_:=C.1;injection h_ with C7 C6;simp[C7,C6]));have D8:=tD (tD (tD (tD (tD D9 F5) F4) F3) F2) F1;go_wp2_with fail
     go_roundg (r.length-(k+1))
     case measure=>exact(by have B8:=B5.1;omega)
     case rel=>exact⟨k+1,m2,B4,A2,c2,rfl,rfl,(by go_num),B2,C8.1,(by rw[A6.1,Ko (F0.1.trans (if_pos C.1))]),C4.1.take 1,D8.1⟩
    go_upto_region 12 with fail;apply wl;refine Cc C4.1 _ _ ?_;apply zp τ (by exact Pz rR rR rR (by have h_:=C.1;simp only[Bool.not_eq_true',Bool.and_eq_false_iff,beq_eq_false_iff_ne];exact(Classical.em (a0=b0)).elim (fun q_=> .inr (fun q2_=>h_ (by rw[q_,q2_]))) .inl));go_upto_region 13 with fail;apply wl;refine Ef C4.1 _ _ _ _ ?_;refine zp (w':=(E0.alloc (.cells ([iV a0,iV a1,iV b0,iV b1]:List Value).toArray 72))) (.slice (π E0.heap.size) 1 1) (by go_simp) ?_;refine Ki rR _ _ _ rR aAX rR C4.1 (ix:=0) rR 1 1 [iV a0,iV a1,iV b0,iV b1] rR rfl (by simp[Value.oneCell']) (by simp[Av]) dC (by unfold maxLen;exact(by have B8:=B5.1;omega)) (by have B8:=B5.1;omega) ?_;intro E3 C2 I1 hf hh hd hg;have H6:=zH hf;clear hf;rw[show List.flatMap Wf B4++[iV a0,iV a1,iV b0,iV b1]=_ from Ee Wf _ ((a0,a1),(b0,b1))]at hh;have G9:=hN hh;have H8:=zH (hd);clear hh hd hg;try simp only[ζ]
    apply zq (.slice (π E3) (m2+1) C2);have D7:=tD (tD (tD (tD (tD (tD D9 F5) F4) F3) F2) F1) H8;go_wp2_with fail
    go_roundg (r.length-(k+1))
    case measure=>exact(by have B8:=B5.1;omega)
    case rel=>exact⟨k+1,m2+1,B4++[((a0,a1),(b0,b1))],some ⟨E3,0,none⟩,C2,rfl,rfl,(by go_num),B2,(by rw[aXX,C8.1];rfl),(by rw[A6.1,Ew (F0.1.trans (if_neg C.1)),jQQ]),G9.1.take 1,D7.1⟩
   have B2:=HLU.1;have I6:=G6.1;obtain rfl:k=r.length:=ω
   go_upto_region 8 with fail;apply wl;refine Da Ah (iV ((r.length:Nat):Int)) _ (iV (i:Int)) ?_;apply zp (.pointer (some ⟨g,A0+i,none⟩)) (by exact Gw (k:=i) underlying31 (l:=B3) (f:=(show A0+i=A0+i*1 by omega)));refine ze g (A0+i) (.slice B r.length cb) (Gh (B6.1.ext.get C3.1)) ?_;apply zq (iV ((r.length:Nat):Int));apply zp φ (by exact Df (e:=(Af (Int.lt_irrefl _))));have D6:=tD H9 D9;go_wp2_with fail
   go_roundg (rs.length-(i+1))
   case measure=>exact(ω)
   case rel=>exact⟨i+1,m2,B4,A2,c2,rfl,rfl,(by go_num),B3,C8.1,(by rw[A6.1,Mp E5.1]),B6.1,D6.1⟩
  have B3:=HLT.1;have I7:=G7.1;obtain rfl:i=rs.length:=ω
  have D2:¬(rs.length:Int)<(rs.length:Int):=ω;have E9:=zH (show es=Bj rs by rw[E8.1,mZZ,Ku HV.1]);go_upto_region 14 with fail;apply wl;refine Cc Ah _ _ ?_;go_wp2_with fail;go_ret;exact⟨A1,m,c1,rfl,by rw[HM.1,E9.1],by rw[<-E9.1];exact D0.1.row (i:=0) (by rfl),D0.1.ext⟩
 have HV:=zH c1;clear c1;go_upto_region 0 with fail;apply wl;refine Cg Ah _ ?_;go_upto_region 1 with fail;apply wl;refine Cg Ah _ ?_;go_upto_region 2 with fail;apply wl;refine Cg Ah _ ?_;refine zc (Ea _ rs _ (HU.1.ext H0.1.ext) HN.1 HR.1) ?_;rintro e I0 ⟨rfl,hx⟩;have G8:=zH (H0.1.step hx);clear hx;refine⟨.bool false,by rw[Bool.eq_false_iff.2 HV.1],?_⟩;try simp only[ζ]
 apply zq τ;go_upto_region 3 with fail;apply wl;refine Cc Ah _ _ ?_;go_wp2_with fail;go_ret;exact⟨none,0,0,rfl,by rw[Yl HV.1];rfl,by rw[Yl HV.1];exact Bg.nil _ _ _ _,G8.1.ext⟩
theorem uY{w0 w m}{X i:Nat}{a b c d}(h:Hp w0 w m)(h1:m[i]?=some (.blk X 52 [iV a.1,iV a.2,iV b.1,iV b.2,iV c.1,iV c.2,iV d.1,iV d.2])):Hj w (.slice (π X) 4 4) [a,b,c,d]:=by
 refine⟨_,4,rfl,fun _=>⟨X,0,rfl,fun i hi=> ?_⟩⟩;have hi:i<4:=hi;have:i=0\/i=1\/i=2\/i=3:=ω
 rcases this with rfl|rfl|rfl|rfl
 ·exact⟨h.cell h1 0 rfl,h.cell h1 1 rfl⟩
 ·exact⟨h.cell h1 2 rfl,h.cell h1 3 rfl⟩
 ·exact⟨h.cell h1 4 rfl,h.cell h1 5 rfl⟩
 exact⟨h.cell h1 6 rfl,h.cell h1 7 rfl⟩
theorem Jp{w0 w m}{X i:Nat}{a b}(h:Hp w0 w m)(h1:m[i]?=some (.blk X 52 [iV a.1,iV a.2,iV b.1,iV b.2])):Hj w (.slice (π X) 2 2) [a,b]:=by
  refine⟨_,2,rfl,fun _=>⟨X,0,rfl,fun i hi=> ?_⟩⟩;have hi:i<2:=hi;have:i=0\/i=1:=ω
  rcases this with rfl|rfl
  · exact⟨h.cell h1 0 rfl,h.cell h1 1 rfl⟩
  exact⟨h.cell h1 2 rfl,h.cell h1 3 rfl⟩
theorem Wm(a b c d):0<=(Aw a b c d).2/\(Aw a b c d).2<=2:=by
  unfold Aw;split
  · exact⟨by decide,by decide⟩
  split
  · exact⟨(show(0:Int)<=1 by decide),(show(1:Int)<=2 by decide)⟩
  exact⟨by decide,by decide⟩
theorem Qk{a b c d}(ha:Dy a)(hb:Dy b)(hc:Dy c)(hd:Dy d):Dy (Aw a b c d).1:=by
  unfold Aw;split
  · exact(show De 0 0=true by decide)
  split
  · exact yS ha hb hc hd
  exact(show De 0 0=true by decide)
def Ky (a b c d:Int×Int):Rat:=((cr (dv a c) (dv c d):Int):Rat)/((cr (dv a b) (dv c d):Int):Rat)
def Sj (a b c d:Int×Int):Rat:=((cr (dv a c) (dv a b):Int):Rat)/((cr (dv a b) (dv c d):Int):Rat)
def wB (x:Rat):Prop:=¬x<(((0):Int):Rat)/\¬(((1):Int):Rat)<x
instance aBN (x:Rat):Decidable (wB x):=inferInstanceAs (Decidable (_/\_))
def Cq (a b c d:Int×Int):Int×Int:=if dv a b=(0,0)then dv c d else dv a b
def Gp (a b c d:Int×Int):Int:=
  if cr (dv a b) (dv c d)≠0 then(if wB (Ky a b c d)/\wB (Sj a b c d)then 1 else 0)
  else if cr (Cq a b c d) (dv a c)≠0\/(Cq a b c d=(0,0)/\a≠c)then 0 else(Aw a b c d).2
def fV (a b c d:Int×Int):Rat:=if cr (dv a b) (dv c d)≠0 then(a.1:Rat)+Ky a b c d*((b.1-a.1:Int):Rat)else(((Aw a b c d).1.1:Int):Rat)
def Qn (a b c d:Int×Int):Rat:=if cr (dv a b) (dv c d)≠0 then(a.2:Rat)+Ky a b c d*((b.2-a.2:Int):Rat)else(((Aw a b c d).1.2:Int):Rat)
def Oq (a b c d:Int×Int)(w:World)(e:Ending)(w':World):Prop:=
  ((∃r s:RV,Gp a b c d=1/\e= .returned (.tuple #[(rg r),(rg s),iV 1])/\r.Is w' (fV a b c d)/\s.Is w' (Qn a b c d))\/
    (Gp a b c d≠1/\e= .returned (.tuple #[.agg z4,.agg z4,iV (Gp a b c d)])))/\Aa w w'
theorem Ug (a b:Int)(h1: -9223372036854775808<=a/\a<=9223372036854775807)(h2: -9223372036854775808<=b/\b<=9223372036854775807):Nm.rl ((a:Rat)/(b:Rat))<=8:=by
  have h:=Nm.rl_div (a:Rat) (b:Rat);have h3:=Ay a h1.1 h1.2;have h4:=Ay b h2.1 h2.2;omega
theorem Pb(a b c d w)(ha:Dy a)(hb:Dy b)(hc:Dy c)(hd:Dy d):
  Calls prog 166 #[.agg #[iV a.1,iV a.2],.agg #[iV b.1,iV b.2],.agg #[iV c.1,iV c.2],.agg #[iV d.1,iV d.2]] w (Oq a b c d w):=by
 have R3:=zH (show Dk [a,b,c,d]=true from by simp[Dk,ha,hb,hc,hd]);have l4:=Yp (Gb ha hb) (Gb hc hd);have l3:=Yp (Gb ha hc) (Gb hc hd);have l1:=Yp (Gb ha hc) (Gb ha hb);have oa:=Bi ha;have ob:=Bi hb;have oc:=Bi hc;have od:=Bi hd;go_enter func166,ntmps166
 have H0:=zH (Hp.start w);go_upto_region 0 with fail;apply wl;apply Ca 52 [iV a.1,iV a.2] H0.1;intro D0 j9 i5 _;apply Ca 52 [iV b.1,iV b.2] i5.1;intro D6 j8 i4 _;apply Ca 52 [iV c.1,iV c.2] i4.1;intro H5 j7 i3 _;apply Ca 52 [iV d.1,iV d.2] i3.1;intro O0 j6 i2 _;refine Ca 26 rz i2.1 ?_;intro E6 j5 i1 _;refine Ca 26 rz i1.1 ?_;intro E5 j4 Z3 _;apply zq (iV 0);go_upto_region 1 with fail;apply wl;refine Ef Z3.1 _ _ _ _ ?_;apply eZ 4 52 [iV a.1,iV a.2,iV b.1,iV b.2,iV c.1,iV c.2,iV d.1,iV d.2] Z3.1;intro P3 j0 Z2 _;refine zc (If (.slice (π P3) 4 4) [a,b,c,d] _ (uY Z2.1 (i:=6) rR) (by simp)) ?_;rintro e H4 ⟨rfl,hx⟩;have R5:=zH (Z2.1.step hx);clear hx;refine⟨.bool true,by rw[R3.1],?_⟩;try simp only[ζ]
 apply zq φ;go_upto_region 3 with fail;refine zy ?_;have i0:=zH (R5.1.step (Aa.refl H4).drew);refine tX R5.1 zb (bs 15 219) 0 1 3 4 6 7 _ _ _ _ _ _ ?_;refine FN.go3 (j1:=⟨9,some 11,52,[iV 0,iV 0]⟩) (j2:=⟨10,some 12,52,[iV 0,iV 0]⟩) (j3:=⟨11,some 13,52,[iV 0,iV 0]⟩) (b:=H4) ?_ zb;refine gN 2 (bs 15 223) (fk (fk (fk trivial))) zb.size (fun xq B1=>Tn b a _ hb ha) (by rintro x_ e H3 ⟨rfl,hx⟩;exact hx) ?_;rintro xq e i9 B1 ⟨rfl,hx⟩;replace hx:=B1.trans hx;clear B1;have g9:=zH (i0.1.step hx);have Z1:=zH (zb.trans hx);clear hx;refine⟨_,rfl,?_⟩;try simp only[ζ]
 refine gN 5 (bs 15 255) (fk (fk (fk trivial))) Z1.1.size (fun xq B1=>Tn d c _ hd hc) (by rintro x_ e H3 ⟨rfl,hx⟩;exact hx) ?_;rintro xq e i8 B1 ⟨rfl,hx⟩;replace hx:=B1.trans hx;clear B1;have g8:=zH (g9.1.step hx);have Z0:=zH (Z1.1.trans hx);clear hx;refine⟨_,rfl,?_⟩;try simp only[ζ]
 refine gN 8 (bs 15 511) (fk (fk (fk trivial))) Z0.1.size (fun xq B1=>Tn c a _ hc ha) (by rintro x_ e H3 ⟨rfl,hx⟩;exact hx) ?_;rintro xq e i7 B1 ⟨rfl,hx⟩;replace hx:=B1.trans hx;clear B1;have g7:=zH (g8.1.step hx);have Q0:=zH (Z0.1.trans hx);clear hx;refine⟨_,rfl,?_⟩;try simp only[ζ]
 refine aDF (bs 15 4095) (fk (fk (fk trivial))) Q0.1.size R5.1 g7.1 ?_;intro F2 F1 C4 P0 hx hh I6 I5 Y9 hs;have W4:=hN hh;have P9:=zH (show Aa H4 P0 from hs);have W9:=zH (show H4.heap.size<=F2 from I6);have W8:=zH (show H4.heap.size<=F1 from I5);have W7:=zH (show H4.heap.size<=C4 from Y9);clear hh hx hs I6 I5 Y9;try simp only[ζ]
 refine bS 7 12 (bs 15 8191) [iV ((dv a b).1),iV ((dv a b).2)] W4.1 P9.1 W9.1 ?_;intro f3 W3 _ P8;refine bS 8 13 (bs 15 16383) [iV ((dv c d).1),iV ((dv c d).2)] W3.1 P8.1 W8.1 ?_;intro f2 W2 _ P7;refine bS 9 14 (bs 15 32767) [iV ((dv a c).1),iV ((dv a c).2)] W2.1 P7.1 W7.1 ?_;intro f1 L3 _ g5;refine wpAnyH_done kR ?_ _;go_upto_region 4 with fail;apply wl;refine Cc L3.1 _ _ ?_;refine aC L3.1 (Hc (dv a b) (dv c d) _ (Gb ha hb) (Gb hc hd)) ?_;intro D3 D5 _;apply zq (iV (cr (dv a b) (dv c d)));rcases Cl (cr (dv a b) (dv c d)≠0)with HNZ|HNZ
 ·go_upto_region 5 with fail
  apply wl;apply zq (iV (cr (dv a b) (dv c d)));apply zp τ (by exact Nn (e:=(Ar HNZ.1)));go_upto_region 6 with fail;refine zy ?_;have W1:=zH (D5.1.step (Aa.refl D3).drew);refine tX D5.1 zb (bs 14 363) 0 1 3 5 6 8 _ _ (iV (cr (dv a b) (dv c d))) _ _ (iV (cr (dv a b) (dv c d))) ?_;refine FN.go2 (j1:=⟨10,some 15,26,[.bool false,.slice none 0 0,.bool false,.slice none 0 0]⟩) (j2:=⟨11,some 16,26,[.bool false,.slice none 0 0,.bool false,.slice none 0 0]⟩) (b:=D3) ?_ zb;refine gN 2 (bs 14 367) (fk (fk trivial)) zb.size (fun xq B1=>Hc (dv a c) (dv c d) _ (Gb ha hc) (Gb hc hd)) (by rintro x_ e H3 ⟨rfl,hx⟩;exact hx) ?_;rintro xq e f0 B1 ⟨rfl,hx⟩;replace hx:=B1.trans hx;clear B1;have W0:=zH (W1.1.step hx);have K8:=zH (zb.trans hx);clear hx;refine⟨_,rfl,?_⟩;try simp only[ζ]
  refine gN 4 (bs 14 383) (fk (fk trivial)) K8.1.size (fun xq B1=>On (cr (dv a c) (dv c d)) (cr (dv a b) (dv c d)) _ ω ω ω ω HNZ.1) (by rintro x_ e H3 ⟨c_,rfl,B2,hx⟩;exact hx) ?_;rintro xq e d9 B1 ⟨c_,rfl,B2,hx⟩;replace hx:=B1.trans hx;clear B1;have V9:=zH (W0.1.step hx);have K7:=zH (K8.1.trans hx);obtain⟨A0,rfl,A3⟩:=B2;have F6:=zH A3;have H2:=zH (Ug (cr (dv a c) (dv c d)) (cr (dv a b) (dv c d)) ω ω);clear A3 hx;refine⟨_,rfl,?_⟩;try simp only[ζ]
  refine gN 7 (bs 14 511) (fk (fk trivial)) K7.1.size (fun xq B1=>Hc (dv a c) (dv a b) _ (Gb ha hc) (Gb ha hb)) (by rintro x_ e H3 ⟨rfl,hx⟩;exact hx) ?_;rintro xq e d8 B1 ⟨rfl,hx⟩;replace hx:=B1.trans hx;clear B1;have V8:=zH (V9.1.step hx);have N8:=zH (Ac.of_ext hx);have K6:=zH (K7.1.trans hx);clear hx;refine⟨_,rfl,?_⟩;try simp only[ζ]
  refine gN 9 (bs 14 1023) (fk (fk trivial)) K6.1.size (fun xq B1=>On (cr (dv a c) (dv a b)) (cr (dv a b) (dv c d)) _ ω ω ω ω HNZ.1) (by rintro x_ e H3 ⟨c_,rfl,B2,hx⟩;exact hx) ?_;rintro xq e d7 B1 ⟨c_,rfl,B2,hx⟩;replace hx:=B1.trans hx;clear B1;have V7:=zH (V8.1.step hx);have N7:=zH (Ac.of_ext hx);have P6:=zH (K6.1.trans hx);obtain⟨A1,rfl,A3⟩:=B2;have R2:=zH A3;have Y8:=zH (Ug (cr (dv a c) (dv a b)) (cr (dv a b) (dv c d)) ω ω);clear A3 hx;refine⟨_,rfl,?_⟩;try simp only[ζ]
  refine aCU (bs 14 4095) (fk (fk trivial)) P6.1.size D5.1 V7.1 ?_;intro C8 I8 O9 hx hh I6 I5 hs;have V6:=hN hh;have G9:=zH (Ac.of_ext hx);have P5:=zH (show Aa D3 O9 from hs);have W6:=zH (show D3.heap.size<=C8 from I6);have W5:=zH (show D3.heap.size<=I8 from I5);clear hh hx hs I6 I5;try simp only[ζ]
  refine bS 10 12 (bs 14 8191) (rc A0) V6.1 P5.1 W6.1 ?_;intro d6 V5 G8 P4;refine bS 11 13 (bs 14 16383) (rc A1) V5.1 P4.1 W5.1 ?_;intro d5 L2 G7 g4;refine wpAnyH_done kR ?_ _;go_upto_region 7 with fail;apply wl;refine Cc L2.1 _ _ ?_;apply eZ 2 26 [.bool A0.n,.slice A0.p A0.l A0.c,.bool A0.m,.slice A0.p2 A0.l2 A0.c2,.bool A1.n,.slice A1.p A1.l A1.c,.bool A1.m,.slice A1.p2 A1.l2 A1.c2] L2.1;intro D7 O8 L1 G6;refine Cc Ah _ _ ?_;go_wp2_with fail;go_loopg [59] (2) (fun cq P1 wr=>∃(k:Nat),cq=2-k/\P1= iV (k:Int)/\(k<=2)/\(1<=k->wB (Ky a b c d))/\(2<=k->wB (Sj a b c d))/\Hp w wr [.blk D0 52 [iV a.1,iV a.2],.blk D6 52 [iV b.1,iV b.2],.blk H5 52 [iV c.1,iV c.2],.blk O0 52 [iV d.1,iV d.2],.blk E6 26 [.bool false,.slice none 0 0,.bool false,.slice none 0 0],.blk E5 26 [.bool false,.slice none 0 0,.bool false,.slice none 0 0],.blk P3 52 [iV a.1,iV a.2,iV b.1,iV b.2,iV c.1,iV c.2,iV d.1,iV d.2],.blk F2 52 [iV ((dv a b).1),iV ((dv a b).2)],.blk F1 52 [iV ((dv c d).1),iV ((dv c d).2)],.blk C4 52 [iV ((dv a c).1),iV ((dv a c).2)],.blk C8 26 (rc A0),.blk I8 26 (rc A1),.blk D7 26 [.bool A0.n,.slice A0.p A0.l A0.c,.bool A0.m,.slice A0.p2 A0.l2 A0.c2,.bool A1.n,.slice A1.p A1.l A1.c,.bool A1.m,.slice A1.p2 A1.l2 A1.c2]]/\Ac O8 wr)
  case atStart=>exact⟨0,rfl,rfl,(by decide),(fun h_=>absurd h_ (by decide)),(fun h_=>absurd h_ (by decide)),L1.1,Ac.refl _⟩
  obtain⟨k,rfl,rfl,H8,I0,H9,I4,I7⟩:=hrel;generalize wr=B0 at*;have HK:=zH H8;clear H8;have H0:=zH I0;clear I0;have H1:=zH H9;clear H9;have A2:=zH I4;have E4:=zH I7;clear I4 I7 L1;rcases Cl (k<2)with HLT|HLT
  ·have M6:=tD (tD (tD (tD (tD (tD N8 N7) G9) G8) G7) G6) E4
   have M5:=tD (tD (tD (tD G9 G8) G7) G6) E4;have I3:k=0\/k=1:=by have h_:=HLT.1;omega
   have H6:=zH I3;clear I3;obtain⟨rk,D4⟩:∃r:RV,r=if k=0 then A0 else A1:=⟨_,rfl⟩
   obtain⟨xk,C5⟩:∃x:Rat,x=if k=0 then Ky a b c d else Sj a b c d:=⟨_,rfl⟩
   have O1:=zH C5;have K9:=zH (show rk.Is B0 xk from by rcases H6.1 with h_|h_;rw[D4,C5,if_pos h_,if_pos h_];exact(F6.1.dig M6.1);rw[D4,C5,if_neg ω,if_neg ω];exact(R2.1.dig M5.1));have L0:=zH (show Nm.rl xk<=8 from by rcases H6.1 with h_|h_;rw[C5,if_pos h_];exact H2.1;rw[C5,if_neg ω];exact Y8.1);have g6:=zH (show World.rangeAt B0 D7 (k*4) (rc rk)from by rcases H6.1 with h_|h_;rw[D4,if_pos h_,h_];exact A2.1.range (i:=12) (by rfl) 0 4;have g2:k=1:=h_;rw[D4,if_neg ω,g2];exact A2.1.range (i:=12) (by rfl) 4 4);clear D4 C5;go_upto_region 8 with fail
   apply wl;apply zp τ (by exact Df (e:=(Ar (by have B4:=HLT.1;omega))));go_upto_region 9 with fail;apply wl;apply zp (.pointer (some ⟨D7,k*4,none⟩)) (by exact Gw (k:=k) underlying105 (l:=HLT.1) (f:=(cXX _).symm));refine zd D7 (k*4) (rc rk) g6.1 underlying26 ?_;refine Ca 26 rz A2.1 ?_;intro g3 d4 V4 E3;apply Cm 13 (rc rk) V4.1;intro B6 C3 E2;rcases Cl (xk<(((0):Int):Rat))with C1|C1
   ·go_upto_region 10 with fail
    refine zy ?_;have V3:=zH (C3.1.step (Aa.refl B6).drew);have Y2:=zH (Ac.of_ext (w:=B6) zb);refine Os C3.1 zb (bs 10 1) 0 _ ?_;refine mC 1 (bs 10 3) (Cy 0 _ (by have B4:=HLT.1;omega) (by have B4:=HLT.1;omega)) ?_;rintro e O7 ⟨c_,rfl,B2,hx⟩;have V2:=zH (V3.1.step hx);have Y1:=zH (show Ac B6.drew O7 from Ac.of_ext hx);have K5:=zH (zb.trans hx);obtain⟨f8,rfl,A3⟩:=B2;have R1:=zH A3;have Y7:=zH (Ay 0 (by have B4:=HLT.1;omega) (by have B4:=HLT.1;omega));clear A3 hx;apply zm K5.1;have M4:=tD (tD (tD E3 E2) Y2) Y1;refine mC 2 (bs 10 7) (Fx (L:=60000) (RV.Is.nin (K9.1.dig M4.1) (Al L0.1 ω)) (RV.Is.nin R1.1 (Al Y7.1 ω)) ω) ?_;rintro e d3 ⟨rfl,hx⟩;have V1:=zH (V2.1.step hx);have F5:=zH (K5.1.trans hx);clear hx;apply zm F5.1;refine zu 3 (bs 10 15) (v:= .bool true) F5.1 ?_ (hv:=by intro w N9;exact Df (e:=(Ar (rcmp_lt.2 C1.1))));refine tX Ah F5.1 (bs 10 1023) 4 5 6 7 8 9 τ _ _ _ _ τ ?_;refine wpAnyH_done kR ?_ _;go_upto_region 11 with fail
    apply wl;refine Cc Ah _ _ ?_;refine Cm 4 rz V1.1 ?_;intro d2 V0 _;refine Cm 5 rz V0.1 ?_;intro d1 G5 _;apply zq (iV 0);have B5:=zH (show Gp a b c d=0 from by unfold Gp;rw[if_pos HNZ.1,if_neg (fun h_=>by have e_:=O1.1;rcases H6.1 with k_|k_;rw[if_pos k_]at e_;exact h_.1.1 (e_▸C1.1);rw[if_neg ω]at e_;exact h_.2.1 (e_▸C1.1))]);go_wp2_with fail
    refine bodyPost_ret ?_ rfl ⟨.inr ⟨by rw[B5.1];decide,by rw[B5.1]⟩,G5.1.ext⟩;exact Co rfl rfl rfl ((G5.1.blk (i:=4) rR).loadVar rfl rfl rR) ((G5.1.blk (i:=5) rR).loadVar rfl rfl rR) rfl
   rcases Cl ((((1):Int):Rat)<xk)with C2|C2
   ·go_upto_region 10 with fail
    refine zy ?_;have U9:=zH (C3.1.step (Aa.refl B6).drew);have Y0:=zH (Ac.of_ext (w:=B6) zb);refine Os C3.1 zb (bs 10 1) 0 _ ?_;refine mC 1 (bs 10 3) (Cy 0 _ (by have B4:=HLT.1;omega) (by have B4:=HLT.1;omega)) ?_;rintro e O6 ⟨c_,rfl,B2,hx⟩;have U8:=zH (U9.1.step hx);have X9:=zH (show Ac B6.drew O6 from Ac.of_ext hx);have K4:=zH (zb.trans hx);obtain⟨f7,rfl,A3⟩:=B2;have R0:=zH A3;have Y6:=zH (Ay 0 (by have B4:=HLT.1;omega) (by have B4:=HLT.1;omega));clear A3 hx;apply zm K4.1;have E9:=tD (tD (tD E3 E2) Y0) X9;refine mC 2 (bs 10 7) (Fx (L:=60000) (RV.Is.nin (K9.1.dig E9.1) (Al L0.1 ω)) (RV.Is.nin R0.1 (Al Y6.1 ω)) ω) ?_;rintro e d0 ⟨rfl,hx⟩;have U7:=zH (U8.1.step hx);have X8:=zH (Ac.of_ext hx);have D9:=zH (K4.1.trans hx);clear hx;apply zm D9.1;refine zu 3 (bs 10 15) (v:= .bool false) D9.1 ?_ (hv:=by intro w N9;exact Df (e:=(Af (fun hh=>C1.1 (rcmp_lt.1 hh)))));refine Sh C3.1 D9.1 (bs 10 63) 4 5 φ _ ?_;refine mC 6 (bs 10 127) (Cy 1 _ (by have B4:=HLT.1;omega) (by have B4:=HLT.1;omega)) ?_;rintro e c9 ⟨c_,rfl,B2,hx⟩;have U6:=zH (U7.1.step hx);have X7:=zH (Ac.of_ext hx);have K3:=zH (D9.1.trans hx);obtain⟨f6,rfl,A3⟩:=B2;have Q9:=zH A3;have Y5:=zH (Ay 1 (by have B4:=HLT.1;omega) (by have B4:=HLT.1;omega));clear A3 hx;apply zm K3.1;have M3:=tD (tD E9 X8) X7;refine mC 7 (bs 10 255) (Fx (L:=60000) (RV.Is.nin (K9.1.dig M3.1) (Al L0.1 ω)) (RV.Is.nin Q9.1 (Al Y5.1 ω)) ω) ?_;rintro e c8 ⟨rfl,hx⟩;have U5:=zH (U6.1.step hx);have F4:=zH (K3.1.trans hx);clear hx;apply zm F4.1;refine zu 8 (bs 10 511) (v:= .bool true) F4.1 ?_ (hv:=by intro w N9;exact Lw (e:=(Ar (Ei.2 C2.1))));refine zx 9 (bs 10 1023) τ F4.1 ?_;refine wpAnyH_done kR ?_ _;go_upto_region 11 with fail
    apply wl;refine Cc Ah _ _ ?_;refine Cm 4 rz U5.1 ?_;intro c7 U4 _;refine Cm 5 rz U4.1 ?_;intro c6 G4 _;apply zq (iV 0);have B5:=zH (show Gp a b c d=0 from by unfold Gp;rw[if_pos HNZ.1,if_neg (fun h_=>by have e_:=O1.1;rcases H6.1 with k_|k_;rw[if_pos k_]at e_;exact h_.1.2 (e_▸C2.1);rw[if_neg ω]at e_;exact h_.2.2 (e_▸C2.1))]);go_wp2_with fail
    refine bodyPost_ret ?_ rfl ⟨.inr ⟨by rw[B5.1];decide,by rw[B5.1]⟩,G4.1.ext⟩;exact Co rfl rfl rfl ((G4.1.blk (i:=4) rR).loadVar rfl rfl rR) ((G4.1.blk (i:=5) rR).loadVar rfl rfl rR) rfl
   go_upto_region 10 with fail;refine zy ?_;have U3:=zH (C3.1.step (Aa.refl B6).drew);have N6:=zH (Ac.of_ext (w:=B6) zb);refine Os C3.1 zb (bs 10 1) 0 _ ?_;refine mC 1 (bs 10 3) (Cy 0 _ (by have B4:=HLT.1;omega) (by have B4:=HLT.1;omega)) ?_;rintro e O5 ⟨c_,rfl,B2,hx⟩;have U2:=zH (U3.1.step hx);have N5:=zH (show Ac B6.drew O5 from Ac.of_ext hx);have K2:=zH (zb.trans hx);obtain⟨f5,rfl,A3⟩:=B2;have Q8:=zH A3;have Y4:=zH (Ay 0 (by have B4:=HLT.1;omega) (by have B4:=HLT.1;omega));clear A3 hx;apply zm K2.1;have E8:=tD (tD (tD E3 E2) N6) N5;refine mC 2 (bs 10 7) (Fx (L:=60000) (RV.Is.nin (K9.1.dig E8.1) (Al L0.1 ω)) (RV.Is.nin Q8.1 (Al Y4.1 ω)) ω) ?_;rintro e c5 ⟨rfl,hx⟩;have U1:=zH (U2.1.step hx);have N4:=zH (Ac.of_ext hx);have D8:=zH (K2.1.trans hx);clear hx;apply zm D8.1;refine zu 3 (bs 10 15) (v:= .bool false) D8.1 ?_ (hv:=by intro w N9;exact Df (e:=(Af (fun hh=>C1.1 (rcmp_lt.1 hh)))));refine Sh C3.1 D8.1 (bs 10 63) 4 5 φ _ ?_;refine mC 6 (bs 10 127) (Cy 1 _ (by have B4:=HLT.1;omega) (by have B4:=HLT.1;omega)) ?_;rintro e c4 ⟨c_,rfl,B2,hx⟩;have U0:=zH (U1.1.step hx);have N3:=zH (Ac.of_ext hx);have K1:=zH (D8.1.trans hx);obtain⟨f4,rfl,A3⟩:=B2;have Q7:=zH A3;have Y3:=zH (Ay 1 (by have B4:=HLT.1;omega) (by have B4:=HLT.1;omega));clear A3 hx;apply zm K1.1;have M2:=tD (tD E8 N4) N3;refine mC 7 (bs 10 255) (Fx (L:=60000) (RV.Is.nin (K9.1.dig M2.1) (Al L0.1 ω)) (RV.Is.nin Q7.1 (Al Y3.1 ω)) ω) ?_;rintro e c3 ⟨rfl,hx⟩;have T9:=zH (U0.1.step hx);have X6:=zH (Ac.of_ext hx);have F3:=zH (K1.1.trans hx);clear hx;apply zm F3.1;refine zu 8 (bs 10 511) (v:= .bool false) F3.1 ?_ (hv:=by intro w N9;exact Lw (e:=(Af (fun hh=>C2.1 (Ei.1 hh)))));refine zx 9 (bs 10 1023) φ F3.1 ?_;refine wpAnyH_done kR ?_ _;go_upto_region 12 with fail
   apply wl;apply zp (iV ((k+1:Nat):Int)) (by exact Gm (by have B4:=HLT.1;omega));apply zq (iV ((k+1:Nat):Int));have M1:=tD (tD (tD (tD (tD (tD (tD E4 E3) E2) N6) N5) N4) N3) X6;go_wp2_with fail
   go_roundg (2-(k+1))
   case measure=>exact(by have B4:=HLT.1;omega)
   case rel=>exact⟨k+1,rfl,(by go_num),(by have h_:=HLT.1;omega),(fun _=>by rcases H6.1 with k_|k_;have e_:=O1.1;rw[if_pos k_]at e_;rw[<-e_];exact⟨C1.1,C2.1⟩;exact H0.1 ω),(fun g1=>by have e_:=O1.1;rw[if_neg ω]at e_;rw[<-e_];exact⟨C1.1,C2.1⟩),T9.1.take 13,M1.1⟩
  obtain rfl:k=2:=by have h_:=HLT.1;have g1:=HK.1;omega
  have B5:=zH (show Gp a b c d=1 from by unfold Gp;rw[if_pos HNZ.1,if_pos ⟨H0.1 (by decide),H1.1 (by decide)⟩]);go_upto_region 8 with fail;apply wl;apply zp φ (by exact Df (e:=(Af dC)));go_upto_region 13 with fail;refine wp_region_held_drew (S:=fun x=>Fr (fun kz=>kz=E6\/kz=E5) B0 x) kR (Fr.of_ext zb) (fun _=> ?_);have T8:=zH (A2.1.step (Aa.refl B0).drew);have X5:=zH (Ac.of_ext (w:=B0) zb);refine zx 0 (bs 15 1) (.pointer (π D0)) (Fr.of_ext zb) ?_;refine Dv (g:=D0) (o:=0) (v:= iV a.1) (i:=1) (listed':=(bs 15 3)) rR kR kR kR (by intro _ _ _ h;exact h) rR (fun x hx=>Fr.cell hx (show World.cell? B0 ⟨D0,0,none⟩=some (iV a.1)from Ai (A2.1.range (i:=0) rR 0 1)) (fun hk=>hk.elim (A2.1.offBlk (i:=0) (j:=4) rR rR dC rR) (A2.1.offBlk (i:=0) (j:=5) rR rR dC rR))) (by intro x hq;go_simp<;>with_reducible rfl) (Fr.of_ext zb) kR ?_;try simp only[ζ]
  refine zx 2 (bs 15 7) (.pointer (π D6)) (Fr.of_ext zb) ?_;refine Dv (g:=D6) (o:=0) (v:= iV b.1) (i:=3) (listed':=(bs 15 15)) rR kR kR kR (by intro _ _ _ h;exact h) rR (fun x hx=>Fr.cell hx (show World.cell? B0 ⟨D6,0,none⟩=some (iV b.1)from Ai (A2.1.range (i:=1) rR 0 1)) (fun hk=>hk.elim (A2.1.offBlk (i:=1) (j:=4) rR rR dC rR) (A2.1.offBlk (i:=1) (j:=5) rR rR dC rR))) (by intro x hq;go_simp<;>with_reducible rfl) (Fr.of_ext zb) kR ?_;refine zr 4 (bs 15 31) C8 (0) (rc A0) (fun x hx=>Fr.range hx (show World.rangeAt B0 C8 (0) (rc A0)from(A2.1.range (i:=10) rR 0 4)) (fun hk=>hk.elim (A2.1.offBlk (i:=10) (j:=4) rR rR dC rR) (A2.1.offBlk (i:=10) (j:=5) rR rR dC rR))) underlying26 (Fr.of_ext zb) ?_;refine zx 6 (bs 15 95) (.pointer (some ⟨D0,1,none⟩)) (Fr.of_ext zb) ?_;refine Dv (g:=D0) (o:=1) (v:= iV a.2) (i:=7) (listed':=(bs 15 223)) rR kR kR kR (by intro _ _ _ h;exact h) rR (fun x hx=>Fr.cell hx (show World.cell? B0 ⟨D0,1,none⟩=some (iV a.2)from Ai (A2.1.range (i:=0) rR 1 1)) (fun hk=>hk.elim (A2.1.offBlk (i:=0) (j:=4) rR rR dC rR) (A2.1.offBlk (i:=0) (j:=5) rR rR dC rR))) (by intro x hq;go_simp<;>with_reducible rfl) (Fr.of_ext zb) kR ?_;try simp only[ζ]
  refine zx 8 (bs 15 479) (.pointer (some ⟨D6,1,none⟩)) (Fr.of_ext zb) ?_;refine Dv (g:=D6) (o:=1) (v:= iV b.2) (i:=9) (listed':=(bs 15 991)) rR kR kR kR (by intro _ _ _ h;exact h) rR (fun x hx=>Fr.cell hx (show World.cell? B0 ⟨D6,1,none⟩=some (iV b.2)from Ai (A2.1.range (i:=1) rR 1 1)) (fun hk=>hk.elim (A2.1.offBlk (i:=1) (j:=4) rR rR dC rR) (A2.1.offBlk (i:=1) (j:=5) rR rR dC rR))) (by intro x hq;go_simp<;>with_reducible rfl) (Fr.of_ext zb) kR ?_;refine zr 10 (bs 15 2015) C8 (0) (rc A0) (fun x hx=>Fr.range hx (show World.rangeAt B0 C8 (0) (rc A0)from(A2.1.range (i:=10) rR 0 4)) (fun hk=>hk.elim (A2.1.offBlk (i:=10) (j:=4) rR rR dC rR) (A2.1.offBlk (i:=10) (j:=5) rR rR dC rR))) underlying26 (Fr.of_ext zb) ?_;have E7:=tD (tD (tD (tD (tD (tD (tD N8 N7) G9) G8) G7) G6) E4) X5;refine mC 5 (bs 15 2047) (Ni 20 a.1 b.1 _ (((cr (dv a c) (dv c d):Int):Rat)/((cr (dv a b) (dv c d):Int):Rat)) _ (RV.Is.nin (F6.1.dig E7.1) (Al H2.1 ω)) dC dC ⟨ω,ω⟩ ⟨ω,ω⟩) ?_;rintro e H7 ⟨c_,rfl,B2,hx⟩;have T7:=zH (T8.1.step hx);have X4:=zH (show Ac B0.drew H7 from Ac.of_ext hx);have K0:=zH (show Fr (fun kz=>kz=E6\/kz=E5) B0 H7 from(Fr.of_ext zb).trans (Fr.of_ext hx));obtain⟨A9,rfl,A3⟩:=B2;have Q6:=zH A3;clear A3 hx;apply zm K0.1;have M0:=tD E7 X4;refine mC 11 (bs 15 4095) (Ni 20 a.2 b.2 _ (((cr (dv a c) (dv c d):Int):Rat)/((cr (dv a b) (dv c d):Int):Rat)) _ (RV.Is.nin (F6.1.dig M0.1) (Al H2.1 ω)) dC dC ⟨ω,ω⟩ ⟨ω,ω⟩) ?_;rintro e c1 ⟨c_,rfl,B2,hx⟩;have T6:=zH (T7.1.step hx);have X3:=zH (Ac.of_ext hx);have J9:=zH (K0.1.trans (Fr.of_ext hx));obtain⟨A8,rfl,A3⟩:=B2;have Q5:=zH A3;clear A3 hx;apply zm J9.1;refine Dm (i:=12) (listed':=(bs 15 8191)) rR kR rR kR _ _ _ rR T6.1 (ix:=4) rR 0 (rc A9) rR rR (by simp) kR (by simp[Value.oneCell']) (by simp[Av]) ?_;intro c0 hh hd ho;have T5:=hN hh;have N2:=zH (hd);have J8:=zH (Fr.trans_new J9.1 ho (fun j hj=> .inl (.inl (by injection hj with hj;exact hj.symm))));clear hh hd ho;refine⟨J8.1,?_⟩
  (try simp only[Act.put])
  refine Dm (i:=13) (listed':=(bs 15 16383)) rR kR rR kR _ _ _ rR T5.1 (ix:=5) rR 0 (rc A8) rR rR (by simp) kR (by simp[Value.oneCell']) (by simp[Av]) ?_;intro b9 hh hd ho;have G3:=hN hh;have N1:=zH (hd);have J7:=zH (Fr.trans_new J8.1 ho (fun j hj=> .inl (.inr (by injection hj with hj;exact hj.symm))));clear hh hd ho;refine⟨J7.1,?_⟩
  (try simp only[Act.put])
  refine zx 14 (bs 15 32767) (iV 1) J7.1 ?_;refine wpAnyH_done kR ?_ _;have L9:=tD (tD X3 N2) N1;have L8:=tD N2 N1;go_wp2_with fail
  refine bodyPost_ret ?_ rfl ⟨.inl ⟨A9,A8,B5.1,rfl,by unfold fV;rw[if_pos HNZ.1];exact(Q6.1.dig L9.1),by unfold Qn;rw[if_pos HNZ.1];exact(Q5.1.dig L8.1)⟩,G3.1.ext⟩;exact Co rfl rfl rfl ((G3.1.blk (i:=4) rR).loadVar rfl rfl rR) ((G3.1.blk (i:=5) rR).loadVar rfl rfl rR) rfl
 go_upto_region 5 with fail;apply wl;apply zq (iV (cr (dv a b) (dv c d)));apply zp φ (by exact Nn (e:=(Af HNZ.1)));go_upto_region 14 with fail;apply wl;refine Cg D5.1 _ ?_;apply Ca 52 [iV 0,iV 0] D5.1;intro B7 b8 T4 _;apply Cm 10 [iV ((dv a b).1),iV ((dv a b).2)] T4.1;intro O4 E1 _;go_upto_region 15 with fail;apply wl;refine Cc E1.1 _ _ ?_;apply zp (.bool ((dv a b).1==0&&(dv a b).2==0)) (by exact Ks rR rR rR rfl);go_upto_if 91 with fail
 go_cut [] (fun wx=>Hp w wx [.blk D0 52 [iV a.1,iV a.2],.blk D6 52 [iV b.1,iV b.2],.blk H5 52 [iV c.1,iV c.2],.blk O0 52 [iV d.1,iV d.2],.blk E6 26 [.bool false,.slice none 0 0,.bool false,.slice none 0 0],.blk E5 26 [.bool false,.slice none 0 0,.bool false,.slice none 0 0],.blk P3 52 [iV a.1,iV a.2,iV b.1,iV b.2,iV c.1,iV c.2,iV d.1,iV d.2],.blk F2 52 [iV ((dv a b).1),iV ((dv a b).2)],.blk F1 52 [iV ((dv c d).1),iV ((dv c d).2)],.blk C4 52 [iV ((dv a c).1),iV ((dv a c).2)],.blk B7 52 [iV ((Cq a b c d).1),iV ((Cq a b c d).2)]]/\Ac O4 wx)
 case first=>
  by_cases cj:((dv a b).1==0&&(dv a b).2==0)=true
  ·rw[cj]
   go_upto_region 16 with fail;apply wl;refine Cg E1.1 _ ?_;apply Cm 10 [iV ((dv c d).1),iV ((dv c d).2)] E1.1;intro b7 T3 X2;go_wp2_with fail;go_meet
   exact⟨(by rw[show Cq a b c d=dv c d from if_pos ((Pj (a:=dv a b) (b:=(0,0))).1 cj)];exact T3.1),X2.1⟩
  rw[Bool.eq_false_iff.2 cj];go_wp2_with fail;go_meet
  exact⟨(by rw[show Cq a b c d=dv a b from if_neg (fun h_=>cj ((Pj (a:=dv a b) (b:=(0,0))).2 h_))];exact E1.1),(Ac.refl _)⟩
 obtain⟨I4,I7⟩:=hcut;generalize wc=b6 at*;have B3:=zH I4;have i6:=zH I7;clear I4 I7;have HL:=zH (show Cq a b c d=Cq a b c d from rfl);have I1:(-2097152<=(Cq a b c d).1/\(Cq a b c d).1<=2097152)/\(-2097152<=(Cq a b c d).2/\(Cq a b c d).2<=2097152):=by unfold Cq;split;exact Gb hc hd;exact Gb ha hb
 have l0:=Yp I1 (Gb ha hc);rcases Cl (cr (Cq a b c d) (dv a c)≠0)with HX|HX
 ·go_upto_region 17 with fail
  apply wl;refine zd B7 (0) [iV ((Cq a b c d).1),iV ((Cq a b c d).2)] (B3.1.range (i:=10) rR 0 2) underlying52 ?_;refine zd C4 (0) [iV ((dv a c).1),iV ((dv a c).2)] (B3.1.range (i:=9) rR 0 2) underlying52 ?_;refine aC B3.1 (Hc (Cq a b c d) (dv a c) _ I1 (Gb ha hc)) ?_;intro b5 T2 _;apply zp τ (by exact Nn (e:=(Ar HX.1)));refine Hz Ah τ _ _ _ _ _ _ _ ?_;refine zk ?_;apply zq τ;go_upto_region 18 with fail;apply wl;refine Cc Ah _ _ ?_;refine Cm 4 rz T2.1 ?_;intro b4 T1 _;refine Cm 5 rz T1.1 ?_;intro b3 G2 _;apply zq (iV 0);have B5:=zH (show Gp a b c d=0 from by unfold Gp;rw[if_neg HNZ.1,HL.1];exact if_pos (.inl HX.1));go_wp2_with fail
  refine bodyPost_ret ?_ rfl ⟨.inr ⟨by rw[B5.1];decide,by rw[B5.1]⟩,G2.1.ext⟩;exact Co rfl rfl rfl ((G2.1.blk (i:=4) rR).loadVar rfl rfl rR) ((G2.1.blk (i:=5) rR).loadVar rfl rfl rR) rfl
 rcases Cl (Cq a b c d=(0,0))with HL0|HL0
 ·rcases Cl (a≠c)with HAC|HAC
  ·go_upto_region 17 with fail
   apply wl;refine zd B7 (0) [iV ((Cq a b c d).1),iV ((Cq a b c d).2)] (B3.1.range (i:=10) rR 0 2) underlying52 ?_;refine zd C4 (0) [iV ((dv a c).1),iV ((dv a c).2)] (B3.1.range (i:=9) rR 0 2) underlying52 ?_;refine aC B3.1 (Hc (Cq a b c d) (dv a c) _ I1 (Gb ha hc)) ?_;intro b2 E0 _;apply zp φ (by exact Nn (e:=(Af HX.1)));apply qV φ;refine zd B7 (0) [iV ((Cq a b c d).1),iV ((Cq a b c d).2)] (E0.1.range (i:=10) rR 0 2) underlying52 ?_;refine Cg Ah _ ?_;apply zp τ (by exact Ks rR rR rR ((Pj (a:=Cq a b c d) (b:=(0,0))).2 HL0.1));apply qV τ;refine zd D0 (0) [iV a.1,iV a.2] (E0.1.range (i:=0) rR 0 2) underlying52 ?_;refine zd H5 (0) [iV c.1,iV c.2] (E0.1.range (i:=2) rR 0 2) underlying52 ?_;apply zp τ (by exact Pz rR rR rR (by rw[Bool.not_eq_true',Bool.eq_false_iff];exact fun h_=>HAC.1 (Pj.1 h_)));refine Cc Ah τ τ ?_;go_upto_region 18 with fail;apply wl;refine Cc Ah _ _ ?_;refine Cm 4 rz E0.1 ?_;intro b1 T0 _;refine Cm 5 rz T0.1 ?_;intro b0 G1 _;apply zq (iV 0);have B5:=zH (show Gp a b c d=0 from by unfold Gp;rw[if_neg HNZ.1,HL.1];exact if_pos (.inr ⟨HL0.1,HAC.1⟩));go_wp2_with fail
   refine bodyPost_ret ?_ rfl ⟨.inr ⟨by rw[B5.1];decide,by rw[B5.1]⟩,G1.1.ext⟩;exact Co rfl rfl rfl ((G1.1.blk (i:=4) rR).loadVar rfl rfl rR) ((G1.1.blk (i:=5) rR).loadVar rfl rfl rR) rfl
  have HR:=zH (show¬(Cq a b c d=(0,0)/\a≠c)from fun h_=>HAC.1 h_.2);go_upto_region 17 with fail;apply wl;refine zd B7 (0) [iV ((Cq a b c d).1),iV ((Cq a b c d).2)] (B3.1.range (i:=10) rR 0 2) underlying52 ?_;refine zd C4 (0) [iV ((dv a c).1),iV ((dv a c).2)] (B3.1.range (i:=9) rR 0 2) underlying52 ?_;refine aC B3.1 (Hc (Cq a b c d) (dv a c) _ I1 (Gb ha hc)) ?_;intro a9 C0 _;apply zp φ (by exact Nn (e:=(Af HX.1)));apply qV φ;refine zd B7 (0) [iV ((Cq a b c d).1),iV ((Cq a b c d).2)] (C0.1.range (i:=10) rR 0 2) underlying52 ?_;refine Cg Ah _ ?_;apply zp τ (by exact Ks rR rR rR ((Pj (a:=Cq a b c d) (b:=(0,0))).2 HL0.1));apply qV τ;refine zd D0 (0) [iV a.1,iV a.2] (C0.1.range (i:=0) rR 0 2) underlying52 ?_;refine zd H5 (0) [iV c.1,iV c.2] (C0.1.range (i:=2) rR 0 2) underlying52 ?_;apply zp φ (by exact Pz rR rR rR (by rw[Bool.not_eq_false'];exact Pj.2 (Classical.not_not.1 HAC.1)));refine Cc Ah φ φ ?_;go_upto_region 19 with fail;apply wl;refine zd D0 (0) [iV a.1,iV a.2] (C0.1.range (i:=0) rR 0 2) underlying52 ?_;refine zd D6 (0) [iV b.1,iV b.2] (C0.1.range (i:=1) rR 0 2) underlying52 ?_;refine zd H5 (0) [iV c.1,iV c.2] (C0.1.range (i:=2) rR 0 2) underlying52 ?_;refine zd O0 (0) [iV d.1,iV d.2] (C0.1.range (i:=3) rR 0 2) underlying52 ?_;refine aC C0.1 (Ty a b c d _ ha hb hc hd) ?_;intro a8 S9 _;refine Da Ah _ _ (iV ((Aw a b c d).2)) ?_;apply Ca 52 [iV 0,iV 0] S9.1;intro C7 a7 S8 _;apply Cm 11 [iV ((Aw a b c d).1.1),iV ((Aw a b c d).1.2)] S8.1;intro D2 B9 _;apply zq (iV ((Aw a b c d).2));have B5:=zH (show Gp a b c d=(Aw a b c d).2 from by unfold Gp;rw[if_neg HNZ.1,HL.1];exact if_neg (fun h_=>h_.elim (fun h_=>HX.1 h_) (fun h_=>HR.1 h_)));have g0:=Wm a b c d;rcases Cl ((Aw a b c d).2≠1)with HK1|HK1
  ·go_upto_region 20 with fail
   apply wl;apply zq (iV ((Aw a b c d).2));apply zp τ (by exact Nn (e:=(Ar HK1.1)));go_upto_region 21 with fail;apply wl;refine Da Ah _ _ (iV ((Aw a b c d).2)) ?_;refine Cm 4 rz B9.1 ?_;intro a6 S7 _;refine Cm 5 rz S7.1 ?_;intro a5 G0 _;apply zq (iV ((Aw a b c d).2));go_wp2_with fail;refine bodyPost_ret ?_ rfl ⟨.inr ⟨by rw[B5.1];exact HK1.1,by rw[B5.1]⟩,G0.1.ext⟩;exact Co rfl rfl rfl ((G0.1.blk (i:=4) rR).loadVar rfl rfl rR) ((G0.1.blk (i:=5) rR).loadVar rfl rfl rR) rfl
  have F0:(Aw a b c d).2=1:=by have h_:=HK1.1;omega
  have P2:=Qk ha hb hc hd;have f9:=Bi P2;go_upto_region 20 with fail
  apply wl;apply zq (iV ((Aw a b c d).2));apply zp φ (by exact Nn (e:=(Af HK1.1)));go_upto_region 22 with fail;refine wp_region_held_drew (S:=fun x=>Fr (fun kz=>kz=E6\/kz=E5) D2 x) kR (Fr.of_ext zb) (fun _=> ?_);have S6:=zH (B9.1.step (Aa.refl D2).drew);refine zx 0 (bs 9 1) (.pointer (π C7)) (Fr.of_ext zb) ?_;refine Dv (g:=C7) (o:=0) (v:= iV ((Aw a b c d).1.1)) (i:=1) (listed':=(bs 9 3)) rR kR kR kR (by intro _ _ _ h;exact h) rR (fun x hx=>Fr.cell hx (show World.cell? D2 ⟨C7,0,none⟩=some (iV ((Aw a b c d).1.1))from Ai (B9.1.range (i:=11) rR 0 1)) (fun hk=>hk.elim (B9.1.offBlk (i:=11) (j:=4) rR rR dC rR) (B9.1.offBlk (i:=11) (j:=5) rR rR dC rR))) (by intro x hq;go_simp<;>with_reducible rfl) (Fr.of_ext zb) kR ?_;try simp only[ζ]
  refine zx 3 (bs 9 11) (.pointer (some ⟨C7,1,none⟩)) (Fr.of_ext zb) ?_;refine Dv (g:=C7) (o:=1) (v:= iV ((Aw a b c d).1.2)) (i:=4) (listed':=(bs 9 27)) rR kR kR kR (by intro _ _ _ h;exact h) rR (fun x hx=>Fr.cell hx (show World.cell? D2 ⟨C7,1,none⟩=some (iV ((Aw a b c d).1.2))from Ai (B9.1.range (i:=11) rR 1 1)) (fun hk=>hk.elim (B9.1.offBlk (i:=11) (j:=4) rR rR dC rR) (B9.1.offBlk (i:=11) (j:=5) rR rR dC rR))) (by intro x hq;go_simp<;>with_reducible rfl) (Fr.of_ext zb) kR ?_;try simp only[ζ]
  refine mC 2 (bs 9 31) (Cy ((Aw a b c d).1.1) _ ω ω) ?_;rintro e O3 ⟨c_,rfl,B2,hx⟩;have S5:=zH (S6.1.step hx);have J6:=zH (show Fr (fun kz=>kz=E6\/kz=E5) D2 O3 from(Fr.of_ext zb).trans (Fr.of_ext hx));obtain⟨A7,rfl,A3⟩:=B2;have Q4:=zH A3;clear A3 hx;apply zm J6.1;refine mC 5 (bs 9 63) (Cy ((Aw a b c d).1.2) _ ω ω) ?_;rintro e a4 ⟨c_,rfl,B2,hx⟩;have S4:=zH (S5.1.step hx);have X1:=zH (Ac.of_ext hx);have J5:=zH (J6.1.trans (Fr.of_ext hx));obtain⟨A6,rfl,A3⟩:=B2;have Q3:=zH A3;clear A3 hx;apply zm J5.1;refine Dm (i:=6) (listed':=(bs 9 127)) rR kR rR kR _ _ _ rR S4.1 (ix:=4) rR 0 (rc A7) rR rR (by simp) kR (by simp[Value.oneCell']) (by simp[Av]) ?_;intro a3 hh hd ho;have S3:=hN hh;have N0:=zH (hd);have J4:=zH (Fr.trans_new J5.1 ho (fun j hj=> .inl (.inl (by injection hj with hj;exact hj.symm))));clear hh hd ho;refine⟨J4.1,?_⟩
  (try simp only[Act.put])
  refine Dm (i:=7) (listed':=(bs 9 255)) rR kR rR kR _ _ _ rR S3.1 (ix:=5) rR 0 (rc A6) rR rR (by simp) kR (by simp[Value.oneCell']) (by simp[Av]) ?_;intro a2 hh hd ho;have F9:=hN hh;have M9:=zH (hd);have J3:=zH (Fr.trans_new J4.1 ho (fun j hj=> .inl (.inr (by injection hj with hj;exact hj.symm))));clear hh hd ho;refine⟨J3.1,?_⟩
  (try simp only[Act.put])
  refine zx 8 (bs 9 511) (iV 1) J3.1 ?_;refine wpAnyH_done kR ?_ _;have L7:=tD (tD X1 N0) M9;have L6:=tD N0 M9;go_wp2_with fail
  refine bodyPost_ret ?_ rfl ⟨.inl ⟨A7,A6,B5.1.trans F0,rfl,by unfold fV;rw[if_neg HNZ.1];exact(Q4.1.dig L7.1),by unfold Qn;rw[if_neg HNZ.1];exact(Q3.1.dig L6.1)⟩,F9.1.ext⟩;exact Co rfl rfl rfl ((F9.1.blk (i:=4) rR).loadVar rfl rfl rR) ((F9.1.blk (i:=5) rR).loadVar rfl rfl rR) rfl
 have HR:=zH (show¬(Cq a b c d=(0,0)/\a≠c)from fun h_=>HL0.1 h_.1);go_upto_region 17 with fail;apply wl;refine zd B7 (0) [iV ((Cq a b c d).1),iV ((Cq a b c d).2)] (B3.1.range (i:=10) rR 0 2) underlying52 ?_;refine zd C4 (0) [iV ((dv a c).1),iV ((dv a c).2)] (B3.1.range (i:=9) rR 0 2) underlying52 ?_;refine aC B3.1 (Hc (Cq a b c d) (dv a c) _ I1 (Gb ha hc)) ?_;intro a1 C9 _;apply zp φ (by exact Nn (e:=(Af HX.1)));apply qV φ;refine zd B7 (0) [iV ((Cq a b c d).1),iV ((Cq a b c d).2)] (C9.1.range (i:=10) rR 0 2) underlying52 ?_;refine Cg Ah _ ?_;apply zp φ (by exact Ks rR rR rR (Bool.eq_false_iff.2 (fun h_=>HL0.1 ((Pj (a:=Cq a b c d) (b:=(0,0))).1 h_))));refine Qh Ah φ _ _ _ φ φ ?_;go_upto_region 19 with fail;apply wl;refine zd D0 (0) [iV a.1,iV a.2] (C9.1.range (i:=0) rR 0 2) underlying52 ?_;refine zd D6 (0) [iV b.1,iV b.2] (C9.1.range (i:=1) rR 0 2) underlying52 ?_;refine zd H5 (0) [iV c.1,iV c.2] (C9.1.range (i:=2) rR 0 2) underlying52 ?_;refine zd O0 (0) [iV d.1,iV d.2] (C9.1.range (i:=3) rR 0 2) underlying52 ?_;refine aC C9.1 (Ty a b c d _ ha hb hc hd) ?_;intro a0 S2 _;refine Da Ah _ _ (iV ((Aw a b c d).2)) ?_;apply Ca 52 [iV 0,iV 0] S2.1;intro C6 Z9 S1 _;apply Cm 11 [iV ((Aw a b c d).1.1),iV ((Aw a b c d).1.2)] S1.1;intro D1 B8 _;apply zq (iV ((Aw a b c d).2));have B5:=zH (show Gp a b c d=(Aw a b c d).2 from by unfold Gp;rw[if_neg HNZ.1,HL.1];exact if_neg (fun h_=>h_.elim (fun h_=>HX.1 h_) (fun h_=>HR.1 h_)));have g0:=Wm a b c d;rcases Cl ((Aw a b c d).2≠1)with HK1|HK1
 ·go_upto_region 20 with fail
  apply wl;apply zq (iV ((Aw a b c d).2));apply zp τ (by exact Nn (e:=(Ar HK1.1)));go_upto_region 21 with fail;apply wl;refine Da Ah _ _ (iV ((Aw a b c d).2)) ?_;refine Cm 4 rz B8.1 ?_;intro Z8 S0 _;refine Cm 5 rz S0.1 ?_;intro Z7 F8 _;apply zq (iV ((Aw a b c d).2));go_wp2_with fail;refine bodyPost_ret ?_ rfl ⟨.inr ⟨by rw[B5.1];exact HK1.1,by rw[B5.1]⟩,F8.1.ext⟩;exact Co rfl rfl rfl ((F8.1.blk (i:=4) rR).loadVar rfl rfl rR) ((F8.1.blk (i:=5) rR).loadVar rfl rfl rR) rfl
 have F0:(Aw a b c d).2=1:=by have h_:=HK1.1;omega
 have P2:=Qk ha hb hc hd;have f9:=Bi P2;go_upto_region 20 with fail
 apply wl;apply zq (iV ((Aw a b c d).2));apply zp φ (by exact Nn (e:=(Af HK1.1)));go_upto_region 22 with fail;refine wp_region_held_drew (S:=fun x=>Fr (fun kz=>kz=E6\/kz=E5) D1 x) kR (Fr.of_ext zb) (fun _=> ?_);have R9:=zH (B8.1.step (Aa.refl D1).drew);refine zx 0 (bs 9 1) (.pointer (π C6)) (Fr.of_ext zb) ?_;refine Dv (g:=C6) (o:=0) (v:= iV ((Aw a b c d).1.1)) (i:=1) (listed':=(bs 9 3)) rR kR kR kR (by intro _ _ _ h;exact h) rR (fun x hx=>Fr.cell hx (show World.cell? D1 ⟨C6,0,none⟩=some (iV ((Aw a b c d).1.1))from Ai (B8.1.range (i:=11) rR 0 1)) (fun hk=>hk.elim (B8.1.offBlk (i:=11) (j:=4) rR rR dC rR) (B8.1.offBlk (i:=11) (j:=5) rR rR dC rR))) (by intro x hq;go_simp<;>with_reducible rfl) (Fr.of_ext zb) kR ?_;try simp only[ζ]
 refine zx 3 (bs 9 11) (.pointer (some ⟨C6,1,none⟩)) (Fr.of_ext zb) ?_;refine Dv (g:=C6) (o:=1) (v:= iV ((Aw a b c d).1.2)) (i:=4) (listed':=(bs 9 27)) rR kR kR kR (by intro _ _ _ h;exact h) rR (fun x hx=>Fr.cell hx (show World.cell? D1 ⟨C6,1,none⟩=some (iV ((Aw a b c d).1.2))from Ai (B8.1.range (i:=11) rR 1 1)) (fun hk=>hk.elim (B8.1.offBlk (i:=11) (j:=4) rR rR dC rR) (B8.1.offBlk (i:=11) (j:=5) rR rR dC rR))) (by intro x hq;go_simp<;>with_reducible rfl) (Fr.of_ext zb) kR ?_;try simp only[ζ]
 refine mC 2 (bs 9 31) (Cy ((Aw a b c d).1.1) _ ω ω) ?_;rintro e O2 ⟨c_,rfl,B2,hx⟩;have R8:=zH (R9.1.step hx);have J2:=zH (show Fr (fun kz=>kz=E6\/kz=E5) D1 O2 from(Fr.of_ext zb).trans (Fr.of_ext hx));obtain⟨A5,rfl,A3⟩:=B2;have Q2:=zH A3;clear A3 hx;apply zm J2.1;refine mC 5 (bs 9 63) (Cy ((Aw a b c d).1.2) _ ω ω) ?_;rintro e Z6 ⟨c_,rfl,B2,hx⟩;have R7:=zH (R8.1.step hx);have X0:=zH (Ac.of_ext hx);have J1:=zH (J2.1.trans (Fr.of_ext hx));obtain⟨A4,rfl,A3⟩:=B2;have Q1:=zH A3;clear A3 hx;apply zm J1.1;refine Dm (i:=6) (listed':=(bs 9 127)) rR kR rR kR _ _ _ rR R7.1 (ix:=4) rR 0 (rc A5) rR rR (by simp) kR (by simp[Value.oneCell']) (by simp[Av]) ?_;intro Z5 hh hd ho;have R6:=hN hh;have M8:=zH (hd);have J0:=zH (Fr.trans_new J1.1 ho (fun j hj=> .inl (.inl (by injection hj with hj;exact hj.symm))));clear hh hd ho;refine⟨J0.1,?_⟩
 (try simp only[Act.put])
 refine Dm (i:=7) (listed':=(bs 9 255)) rR kR rR kR _ _ _ rR R6.1 (ix:=5) rR 0 (rc A4) rR rR (by simp) kR (by simp[Value.oneCell']) (by simp[Av]) ?_;intro Z4 hh hd ho;have F7:=hN hh;have M7:=zH (hd);have I9:=zH (Fr.trans_new J0.1 ho (fun j hj=> .inl (.inr (by injection hj with hj;exact hj.symm))));clear hh hd ho;refine⟨I9.1,?_⟩
 (try simp only[Act.put])
 refine zx 8 (bs 9 511) (iV 1) I9.1 ?_;refine wpAnyH_done kR ?_ _;have L5:=tD (tD X0 M8) M7;have L4:=tD M8 M7;go_wp2_with fail
 refine bodyPost_ret ?_ rfl ⟨.inl ⟨A5,A4,B5.1.trans F0,rfl,by unfold fV;rw[if_neg HNZ.1];exact(Q2.1.dig L5.1),by unfold Qn;rw[if_neg HNZ.1];exact(Q1.1.dig L4.1)⟩,F7.1.ext⟩;exact Co rfl rfl rfl ((F7.1.blk (i:=4) rR).loadVar rfl rfl rR) ((F7.1.blk (i:=5) rR).loadVar rfl rfl rR) rfl
def Ka (C:Prop)(q:Rat)(w:World)(e:Ending)(w':World):Prop:=
  ((∃r:RV,C/\e= .returned (.tuple #[(rg r),.bool true])/\r.Is w' q)\/
    (¬C/\e= .returned (.tuple #[.agg z4,.bool false])))/\Aa w w'
def Yx (a b:Int×Int)(x:Int):Prop:=Dy a/\Dy b/\a.1≠b.1/\min a.1 b.1<=x/\x<=max a.1 b.1
def Il (a b:Int×Int)(x:Int):Rat:=(a.2:Rat)+((x-a.1:Int):Rat)/((b.1-a.1:Int):Rat)*((b.2-a.2:Int):Rat)
def oZ (a b:Int×Int)(y:Rat):Prop:=Dy a/\Dy b/\a.2≠b.2/\((min a.2 b.2:Int):Rat)<=y/\y<=((max a.2 b.2:Int):Rat)
def yA (a b:Int×Int)(y:Rat):Rat:=(a.1:Rat)+(y-(a.2:Rat))*(((1:Int):Rat)/((b.2-a.2:Int):Rat))*((b.1-a.1:Int):Rat)
theorem Zq{a b}:Dk [a,b]=true↔Dy a/\Dy b:=by simp[Dk,Dy]
theorem Ss(a b x w)(hx0: -9223372036854775808<=x/\x<=9223372036854775807):
  Calls prog 155 #[.agg #[iV a.1,iV a.2],.agg #[iV b.1,iV b.2],iV x] w (Ka (Yx a b x) (Il a b x) w):=by
 go_enter func155,ntmps155;have H0:=zH (Hp.start w);go_upto_region 0 with fail;apply wl;apply Ca 52 [iV a.1,iV a.2] H0.1;intro X1 w2 H3 _;apply Ca 52 [iV b.1,iV b.2] H3.1;intro X6 w7 H8 _;refine Ca 26 rz H8.1 ?_;intro D1 G1 A4 _;apply zq φ;rcases Cl (Dk [a,b]=true)with HB|HB
 ·have A3:=HB
  have B5:=Zq.1 HB.1;have oa:=Bi B5.1;have ob:=Bi B5.2;have D2:=zH B5;rcases Cl (a.1=b.1)with C1|C1
  ·go_upto_region 1 with fail
   apply wl;refine Cc A4.1 _ _ ?_;apply eZ 2 52 [iV a.1,iV a.2,iV b.1,iV b.2] A4.1;intro F0 G0 D9 _;refine zc (If (.slice (π F0) 2 2) [a,b] _ (Jp D9.1 (i:=3) rR) (by simp)) ?_;rintro e F9 ⟨rfl,hx⟩;have D8:=zH (D9.1.step hx);clear hx;refine⟨.bool true,by rw[A3.1],?_⟩;try simp only[ζ]
   refine Qh D8.1 φ φ _ _ _ _ ?_;apply zp τ (by exact Sn (e:=(Ar C1.1)));refine Hz Ah τ τ _ _ _ _ _ _ ?_;refine Hz Ah _ τ τ _ _ _ _ _ ?_;refine Da Ah _ _ τ ?_;go_upto_region 2 with fail;apply wl;apply zq (.agg z4);refine Cm 2 rz D8.1 ?_;intro F8 D7 _;apply zq φ;go_wp2_with fail;refine bodyPost_ret ?_ rfl ⟨.inr ⟨fun h=>h.2.2.1 C1.1,rfl⟩,D7.1.ext⟩;exact Ad rfl rfl ((D7.1.blk (i:=2) rR).loadVar rfl rfl rR) rfl
  rcases Cl (x<min a.1 b.1)with C2|C2
  ·go_upto_region 1 with fail
   apply wl;refine Cc A4.1 _ _ ?_;apply eZ 2 52 [iV a.1,iV a.2,iV b.1,iV b.2] A4.1;intro E9 F7 D6 _;refine zc (If (.slice (π E9) 2 2) [a,b] _ (Jp D6.1 (i:=3) rR) (by simp)) ?_;rintro e F6 ⟨rfl,hx⟩;have C4:=zH (D6.1.step hx);clear hx;refine⟨.bool true,by rw[A3.1],?_⟩;try simp only[ζ]
   refine Qh C4.1 φ φ _ _ _ _ ?_;apply zp φ (by exact Sn (e:=(Af C1.1)));refine Hz C4.1 φ φ (iV x) _ _ _ _ (iV (min a.1 b.1)) ?_;apply zp τ (by exact Df (e:=(Ar C2.1)));refine Hz Ah τ τ _ _ _ _ _ _ ?_;refine zk ?_;apply zq τ;go_upto_region 2 with fail;apply wl;apply zq (.agg z4);refine Cm 2 rz C4.1 ?_;intro F5 D5 _;apply zq φ;go_wp2_with fail;refine bodyPost_ret ?_ rfl ⟨.inr ⟨fun h=>by have h1:=h.2.2.2.1;have h2:=C2.1;omega,rfl⟩,D5.1.ext⟩;exact Ad rfl rfl ((D5.1.blk (i:=2) rR).loadVar rfl rfl rR) rfl
  rcases Cl (max a.1 b.1<x)with C3|C3
  ·go_upto_region 1 with fail
   apply wl;refine Cc A4.1 _ _ ?_;apply eZ 2 52 [iV a.1,iV a.2,iV b.1,iV b.2] A4.1;intro E8 F4 D4 _;refine zc (If (.slice (π E8) 2 2) [a,b] _ (Jp D4.1 (i:=3) rR) (by simp)) ?_;rintro e F3 ⟨rfl,hx⟩;have B3:=zH (D4.1.step hx);clear hx;refine⟨.bool true,by rw[A3.1],?_⟩;try simp only[ζ]
   refine Qh B3.1 φ φ _ _ _ _ ?_;apply zp φ (by exact Sn (e:=(Af C1.1)));refine Hz B3.1 φ φ (iV x) _ _ _ _ (iV (min a.1 b.1)) ?_;apply zp φ (by exact Df (e:=(Af C2.1)));refine Hz B3.1 φ φ (iV x) _ _ _ _ (iV (max a.1 b.1)) ?_;apply zp τ (by exact Lw (e:=(Ar C3.1)));apply zq τ;go_upto_region 2 with fail;apply wl;apply zq (.agg z4);refine Cm 2 rz B3.1 ?_;intro F2 D3 _;apply zq φ;go_wp2_with fail;refine bodyPost_ret ?_ rfl ⟨.inr ⟨fun h=>by have h1:=h.2.2.2.2;have h2:=C3.1;omega,rfl⟩,D3.1.ext⟩;exact Ad rfl rfl ((D3.1.blk (i:=2) rR).loadVar rfl rfl rR) rfl
  go_upto_region 1 with fail;apply wl;refine Cc A4.1 _ _ ?_;apply eZ 2 52 [iV a.1,iV a.2,iV b.1,iV b.2] A4.1;intro B8 E5 B2 _;refine zc (If (.slice (π B8) 2 2) [a,b] _ (Jp B2.1 (i:=3) rR) (by simp)) ?_;rintro e A2 ⟨rfl,hx⟩;have A1:=zH (B2.1.step hx);clear hx;refine⟨.bool true,by rw[A3.1],?_⟩;try simp only[ζ]
  refine Qh A1.1 φ φ _ _ _ _ ?_;apply zp φ (by exact Sn (e:=(Af C1.1)));refine Hz A1.1 φ φ (iV x) _ _ _ _ (iV (min a.1 b.1)) ?_;apply zp φ (by exact Df (e:=(Af C2.1)));refine Hz A1.1 φ φ (iV x) _ _ _ _ (iV (max a.1 b.1)) ?_;apply zp φ (by exact Lw (e:=(Af C3.1)));apply zq φ;have F1:=zH (show b.1-a.1≠0 from fun h=>C1.1 ω);have G2: -1048576<=x/\x<=1048576:=by have h2:=C2.1;have h3:=C3.1;omega
  go_upto_region 3 with fail;refine wp_region_held_drew (S:=fun x=>Fr (fun kz=>kz=D1) A2 x) kR (Fr.of_ext zb) (fun _=> ?_);have C8:=zH (A1.1.step (Aa.refl A2).drew);refine zx 0 (bs 17 1) (.pointer (some ⟨X1,1,none⟩)) (Fr.of_ext zb) ?_;refine Dv (g:=X1) (o:=1) (v:= iV a.2) (i:=1) (listed':=(bs 17 3)) rR kR kR kR (by intro _ _ _ h;exact h) rR (fun x hx=>Fr.cell hx (show World.cell? A2 ⟨X1,1,none⟩=some (iV a.2)from Ai (A1.1.range (i:=0) rR 1 1)) (A1.1.offBlk (i:=0) (j:=2) rR rR dC rR)) (by intro x hq;go_simp<;>with_reducible rfl) (Fr.of_ext zb) kR ?_;try simp only[ζ]
  refine zx 2 (bs 17 7) (.pointer (some ⟨X6,1,none⟩)) (Fr.of_ext zb) ?_;refine Dv (g:=X6) (o:=1) (v:= iV b.2) (i:=3) (listed':=(bs 17 15)) rR kR kR kR (by intro _ _ _ h;exact h) rR (fun x hx=>Fr.cell hx (show World.cell? A2 ⟨X6,1,none⟩=some (iV b.2)from Ai (A1.1.range (i:=1) rR 1 1)) (A1.1.offBlk (i:=1) (j:=2) rR rR dC rR)) (by intro x hq;go_simp<;>with_reducible rfl) (Fr.of_ext zb) kR ?_;try simp only[ζ]
  refine zx 4 (bs 17 31) (iV x) (Fr.of_ext zb) ?_;refine zx 5 (bs 17 63) (.pointer (π X1)) (Fr.of_ext zb) ?_;refine Dv (g:=X1) (o:=0) (v:= iV a.1) (i:=6) (listed':=(bs 17 127)) rR kR kR kR (by intro _ _ _ h;exact h) rR (fun x hx=>Fr.cell hx (show World.cell? A2 ⟨X1,0,none⟩=some (iV a.1)from Ai (A1.1.range (i:=0) rR 0 1)) (A1.1.offBlk (i:=0) (j:=2) rR rR dC rR)) (by intro x hq;go_simp<;>with_reducible rfl) (Fr.of_ext zb) kR ?_;try simp only[ζ]
  refine zu 7 (bs 17 255) (v:= iV (x-a.1)) (Fr.of_ext zb) ?_ (hv:=by intro w E7;exact Rh ω);refine zx 8 (bs 17 511) (.pointer (π X6)) (Fr.of_ext zb) ?_;refine Dv (g:=X6) (o:=0) (v:= iV b.1) (i:=9) (listed':=(bs 17 1023)) rR kR kR kR (by intro _ _ _ h;exact h) rR (fun x hx=>Fr.cell hx (show World.cell? A2 ⟨X6,0,none⟩=some (iV b.1)from Ai (A1.1.range (i:=1) rR 0 1)) (A1.1.offBlk (i:=1) (j:=2) rR rR dC rR)) (by intro x hq;go_simp<;>with_reducible rfl) (Fr.of_ext zb) kR ?_;try simp only[ζ]
  refine zx 10 (bs 17 2047) (.pointer (π X1)) (Fr.of_ext zb) ?_;refine Dv (g:=X1) (o:=0) (v:= iV a.1) (i:=11) (listed':=(bs 17 4095)) rR kR kR kR (by intro _ _ _ h;exact h) rR (fun x hx=>Fr.cell hx (show World.cell? A2 ⟨X1,0,none⟩=some (iV a.1)from Ai (A1.1.range (i:=0) rR 0 1)) (A1.1.offBlk (i:=0) (j:=2) rR rR dC rR)) (by intro x hq;go_simp<;>with_reducible rfl) (Fr.of_ext zb) kR ?_;try simp only[ζ]
  refine zu 12 (bs 17 8191) (v:= iV (b.1-a.1)) (Fr.of_ext zb) ?_ (hv:=by intro w E7;exact Rh ω);refine mC 13 (bs 17 16383) (On (x-a.1) (b.1-a.1) _ ω ω ω ω F1.1) ?_;rintro e B4 ⟨c_,rfl,B6,hx⟩;have C7:=zH (C8.1.step hx);have A8:=zH (show Fr (fun kz=>kz=D1) A2 B4 from(Fr.of_ext zb).trans (Fr.of_ext hx));obtain⟨E6,rfl,A5⟩:=B6;have C0:=zH A5;have D0:=zH (Ug (x-a.1) (b.1-a.1) ω ω);clear A5 hx;apply zm A8.1;refine mC 14 (bs 17 32767) (Ni 20 a.2 b.2 _ (((x-a.1:Int):Rat)/((b.1-a.1:Int):Rat)) _ (RV.Is.nin C0.1 (Al D0.1 ω)) dC dC ⟨ω,ω⟩ ⟨ω,ω⟩) ?_;rintro e E4 ⟨c_,rfl,B6,hx⟩;have C6:=zH (C7.1.step hx);have A7:=zH (A8.1.trans (Fr.of_ext hx));obtain⟨A0,rfl,A5⟩:=B6;have B9:=zH A5;clear A5 hx;apply zm A7.1;refine Dm (i:=15) (listed':=(bs 17 65535)) rR kR rR kR _ _ _ rR C6.1 (ix:=2) rR 0 (rc A0) rR rR (by simp) kR (by simp[Value.oneCell']) (by simp[Av]) ?_;intro E3 hh hd ho;have B1:=hN hh;have C9:=zH (hd);have A6:=zH (Fr.trans_new A7.1 ho (fun j hj=> .inl (by simpa using hj.symm)));clear hh hd ho;refine⟨A6.1,?_⟩
  (try simp only[Act.put])
  refine zx 16 (bs 17 131071) τ A6.1 ?_;refine wpAnyH_done kR ?_ _;go_wp2_with fail;refine bodyPost_ret ?_ rfl ⟨.inl ⟨A0,⟨D2.1.1,D2.1.2,C1.1,by have h2:=C2.1;omega,by have h3:=C3.1;omega⟩,rfl,(B9.1.dig C9.1)⟩,B1.1.ext⟩;exact Ad rfl rfl ((B1.1.blk (i:=2) rR).loadVar rfl rfl rR) rfl
 have A3:=zH (Bool.eq_false_iff.2 HB.1);go_upto_region 1 with fail;apply wl;refine Cc A4.1 _ _ ?_;apply eZ 2 52 [iV a.1,iV a.2,iV b.1,iV b.2] A4.1;intro B7 E2 B0 _;refine zc (If (.slice (π B7) 2 2) [a,b] _ (Jp B0.1 (i:=3) rR) (by simp)) ?_;rintro e E1 ⟨rfl,hx⟩;have C5:=zH (B0.1.step hx);clear hx;refine⟨.bool false,by rw[A3.1],?_⟩;try simp only[ζ]
 refine Hz Ah τ τ _ _ _ _ _ τ ?_;refine Hz Ah τ _ _ _ _ _ _ _ ?_;refine Hz Ah τ τ _ _ _ _ _ _ ?_;refine zk ?_;apply zq τ;go_upto_region 2 with fail;apply wl;apply zq (.agg z4);refine Cm 2 rz C5.1 ?_;intro E0 A9 _;apply zq φ;go_wp2_with fail;refine bodyPost_ret ?_ rfl ⟨.inr ⟨fun h=>HB.1 (Zq.2 ⟨h.1,h.2.1⟩),rfl⟩,A9.1.ext⟩;exact Ad rfl rfl ((A9.1.blk (i:=2) rR).loadVar rfl rfl rR) rfl
structure R4 where
  x0:Int
  y0:Int
  x1:Int
  y1:Int
def aZ (n:Int):Bool:=decide (-4096<=n)&&decide (n<=4096)
theorem vF{n}:aZ n=true↔-4096<=n/\n<=4096:=by unfold aZ;simp
def R4.ok (r:R4):Bool:=aZ r.x0&&aZ r.y0&&aZ r.x1&&aZ r.y1
def R4.emp (r:R4):Bool:= !r.ok||decide (r.x1<=r.x0)||decide (r.y1<=r.y0)
def R4.zero:R4:=⟨0,0,0,0⟩
def R4.can (r:R4):R4:=if r.emp=true then R4.zero else r
def R4.area (r:R4):Int:=(r.can.x1-r.can.x0)*(r.can.y1-r.can.y0)
def R4.has (r:R4)(x y:Int):Bool:= !r.emp&&decide (r.x0<=x)&&decide (x<r.x1)&&decide (r.y0<=y)&&decide (y<r.y1)
def R4.ix (r:R4)(x y:Int):Int:=if r.has x y=true then(y-r.y0)*(r.x1-r.x0)+x-r.x0 else-1
def R4.uni (a b:R4):R4:=if a.emp=true then b.can else if b.emp=true then a else⟨min a.x0 b.x0,min a.y0 b.y0,max a.x1 b.x1,max a.y1 b.y1⟩
theorem Rp {r:R4}:r.ok=true↔(-4096<=r.x0/\r.x0<=4096)/\(-4096<=r.y0/\r.y0<=4096)/\(-4096<=r.x1/\r.x1<=4096)/\(-4096<=r.y1/\r.y1<=4096):=by
  unfold R4.ok;simp[vF,and_assoc]
theorem fB {r:R4}(h:r.emp=false):r.ok=true/\r.x0<r.x1/\r.y0<r.y1:=by
  unfold R4.emp at h;simp at h;exact⟨h.1.1,h.1.2,h.2⟩
theorem R4.can_bd (r:R4):((-4096<=r.can.x0/\r.can.x0<=4096)/\(-4096<=r.can.y0/\r.can.y0<=4096)/\(-4096<=r.can.x1/\r.can.x1<=4096)/\(-4096<=r.can.y1/\r.can.y1<=4096))/\r.can.x0<=r.can.x1/\r.can.y0<=r.can.y1:=by
  unfold R4.can;by_cases c:r.emp=true
  · rw[if_pos c];decide
  rw[if_neg c];have h:=fB (Bool.eq_false_iff.2 c);exact⟨Rp.1 h.1,Int.le_of_lt h.2.1,Int.le_of_lt h.2.2⟩
theorem Ux{x y}(h1: -8192<=x/\x<=8192)(h2: -8192<=y/\y<=8192): -67108864<=x*y/\x*y<=67108864:=by
  have h:(x*y).natAbs<=8192*8192:=by rw[Int.natAbs_mul];exact Nat.mul_le_mul ω (ω)
  omega
theorem tV{r:R4}{x y}(h:r.has x y=true):r.emp=false/\r.x0<=x/\x<r.x1/\r.y0<=y/\y<r.y1:=by
  unfold R4.has at h;simp at h;exact⟨h.1.1.1.1,h.1.1.1.2,h.1.1.2,h.1.2,h.2⟩
theorem Jr(n w):Calls prog 90 #[iV n] w fun e w'=>e= .returned (.bool (aZ n))/\Aa w w':=by
  unfold aZ;by_cases h1: -4096<=n<;>by_cases h2:n<=4096<;>simp only[h1,h2,decide_true,decide_false,Bool.and_true,Bool.and_false]<;>
    (go_enter func90,ntmps90;go_wp2_with fail;go_ret;exact⟨rfl,Aa.refl _⟩)
theorem Rv(r:R4)(w):Calls prog 48 #[.agg #[iV r.x0,iV r.y0,iV r.x1,iV r.y1]] w fun e w'=>e= .returned (.bool r.ok)/\Aa w w':=by
 go_enter func48,ntmps48;have H0:=zH (Hp.start w);go_upto_region 0 with fail;apply wl;apply Ca 35 [iV r.x0,iV r.y0,iV r.x1,iV r.y1] H0.1;intro X1 w2 H3 _;apply zq φ;rcases Cl (aZ r.x0=true)with C0|C0
 ·rcases Cl (aZ r.y0=true)with C1|C1
  ·rcases Cl (aZ r.x1=true)with C2|C2
   ·rcases Cl (aZ r.y1=true)with C3|C3
    ·go_upto_region 1 with fail
     apply wl;refine Cc H3.1 _ _ ?_;refine aC H3.1 ((Jr r.x0 _).mono fun _ _ h_=>(⟨h_.1.trans (by rw[C0.1]),h_.2⟩:_=Ending.returned τ/\Aa _ _)) ?_;intro D1 A8 _;refine Da A8.1 τ _ _ ?_;refine aC A8.1 ((Jr r.y0 _).mono fun _ _ h_=>(⟨h_.1.trans (by rw[C1.1]),h_.2⟩:_=Ending.returned τ/\Aa _ _)) ?_;intro D0 A7 _;refine Ef A7.1 τ τ _ _ ?_;refine aC A7.1 ((Jr r.x1 _).mono fun _ _ h_=>(⟨h_.1.trans (by rw[C2.1]),h_.2⟩:_=Ending.returned τ/\Aa _ _)) ?_;intro C9 A6 _;refine Ef A6.1 τ τ _ _ ?_;refine aC A6.1 ((Jr r.y1 _).mono fun _ _ h_=>(⟨h_.1.trans (by rw[C3.1]),h_.2⟩:_=Ending.returned τ/\Aa _ _)) ?_;intro C8 B3 _;refine Cc Ah τ τ ?_;have HV:=zH (show r.ok=true from by unfold R4.ok;rw[C0.1,C1.1,C2.1,C3.1]<;>rfl);go_wp2_with fail
     go_ret;exact⟨by rw[HV.1]<;>rfl,B3.1.ext⟩
    have F3:=zH (Bool.eq_false_iff.2 C3.1);go_upto_region 1 with fail;apply wl;refine Cc H3.1 _ _ ?_;refine aC H3.1 ((Jr r.x0 _).mono fun _ _ h_=>(⟨h_.1.trans (by rw[C0.1]),h_.2⟩:_=Ending.returned τ/\Aa _ _)) ?_;intro C7 A5 _;refine Da A5.1 τ _ _ ?_;refine aC A5.1 ((Jr r.y0 _).mono fun _ _ h_=>(⟨h_.1.trans (by rw[C1.1]),h_.2⟩:_=Ending.returned τ/\Aa _ _)) ?_;intro C6 A4 _;refine Ef A4.1 τ τ _ _ ?_;refine aC A4.1 ((Jr r.x1 _).mono fun _ _ h_=>(⟨h_.1.trans (by rw[C2.1]),h_.2⟩:_=Ending.returned τ/\Aa _ _)) ?_;intro C5 A3 _;refine Ef A3.1 τ τ _ _ ?_;refine aC A3.1 ((Jr r.y1 _).mono fun _ _ h_=>(⟨h_.1.trans (by rw[F3.1]),h_.2⟩:_=Ending.returned φ/\Aa _ _)) ?_;intro C4 B2 _;refine Cc Ah φ φ ?_;have HV:=zH (show r.ok=false from by unfold R4.ok;simp[F3.1]);go_wp2_with fail
    go_ret;exact⟨by rw[HV.1]<;>rfl,B2.1.ext⟩
   have F2:=zH (Bool.eq_false_iff.2 C2.1);go_upto_region 1 with fail;apply wl;refine Cc H3.1 _ _ ?_;refine aC H3.1 ((Jr r.x0 _).mono fun _ _ h_=>(⟨h_.1.trans (by rw[C0.1]),h_.2⟩:_=Ending.returned τ/\Aa _ _)) ?_;intro B9 A2 _;refine Da A2.1 τ _ _ ?_;refine aC A2.1 ((Jr r.y0 _).mono fun _ _ h_=>(⟨h_.1.trans (by rw[C1.1]),h_.2⟩:_=Ending.returned τ/\Aa _ _)) ?_;intro B8 A1 _;refine Ef A1.1 τ τ _ _ ?_;refine aC A1.1 ((Jr r.x1 _).mono fun _ _ h_=>(⟨h_.1.trans (by rw[F2.1]),h_.2⟩:_=Ending.returned φ/\Aa _ _)) ?_;intro B7 B1 _;refine bC Ah φ φ _ _ _ φ φ ?_;have HV:=zH (show r.ok=false from by unfold R4.ok;simp[F2.1]);go_wp2_with fail
   go_ret;exact⟨by rw[HV.1]<;>rfl,B1.1.ext⟩
  have F1:=zH (Bool.eq_false_iff.2 C1.1);go_upto_region 1 with fail;apply wl;refine Cc H3.1 _ _ ?_;refine aC H3.1 ((Jr r.x0 _).mono fun _ _ h_=>(⟨h_.1.trans (by rw[C0.1]),h_.2⟩:_=Ending.returned τ/\Aa _ _)) ?_;intro B6 A0 _;refine Da A0.1 τ _ _ ?_;refine aC A0.1 ((Jr r.y0 _).mono fun _ _ h_=>(⟨h_.1.trans (by rw[F1.1]),h_.2⟩:_=Ending.returned φ/\Aa _ _)) ?_;intro B5 B0 _;refine Hz Ah φ φ _ _ _ φ φ _ ?_;refine Ef Ah _ _ φ φ ?_;have HV:=zH (show r.ok=false from by unfold R4.ok;simp[F1.1]);go_wp2_with fail
  go_ret;exact⟨by rw[HV.1]<;>rfl,B0.1.ext⟩
 have F0:=zH (Bool.eq_false_iff.2 C0.1);go_upto_region 1 with fail;apply wl;refine Cc H3.1 _ _ ?_;refine aC H3.1 ((Jr r.x0 _).mono fun _ _ h_=>(⟨h_.1.trans (by rw[F0.1]),h_.2⟩:_=Ending.returned φ/\Aa _ _)) ?_;intro B4 A9 _;refine Hz Ah φ _ _ _ φ φ _ _ ?_;refine Hz Ah _ φ φ _ _ _ φ φ ?_;have HV:=zH (show r.ok=false from by unfold R4.ok;simp[F0.1]);go_wp2_with fail
 go_ret;exact⟨by rw[HV.1]<;>rfl,A9.1.ext⟩
theorem Io(r:R4)(w):Calls prog 91 #[.agg #[iV r.x0,iV r.y0,iV r.x1,iV r.y1]] w fun e w'=>e= .returned (.bool r.emp)/\Aa w w':=by
 go_enter func91,ntmps91;have H0:=zH (Hp.start w);go_upto_region 0 with fail;apply wl;apply Ca 35 [iV r.x0,iV r.y0,iV r.x1,iV r.y1] H0.1;intro B0 A9 A0 _;apply zq φ;rcases Cl (r.ok=true)with C0|C0
 ·rcases Cl (r.x0<r.x1)with C1|C1
  ·rcases Cl (r.y0<r.y1)with C2|C2
   ·go_upto_region 1 with fail
    apply wl;refine Cg A0.1 _ ?_;refine aC A0.1 ((Rv r _).mono fun _ _ h_=>(⟨h_.1.trans (by rw[C0.1]),h_.2⟩:_=Ending.returned τ/\Aa _ _)) ?_;intro A8 A2 _;refine Qh A2.1 φ φ _ _ _ _ ?_;apply zp φ (by exact Og (e:=(Af (by have h_:=C1.1;omega))));refine Qh A2.1 φ φ _ _ _ _ ?_;apply zp φ (by exact Og (e:=(Af (by have h_:=C2.1;omega))));refine Cc Ah φ φ ?_;have HV:=zH (show r.emp=false from by unfold R4.emp;simp[C0.1];have B2:=C1.1;have B1:=C2.1;omega);go_wp2_with fail
    go_ret;exact⟨by rw[HV.1]<;>rfl,A2.1.ext⟩
   go_upto_region 1 with fail;apply wl;refine Cg A0.1 _ ?_;refine aC A0.1 ((Rv r _).mono fun _ _ h_=>(⟨h_.1.trans (by rw[C0.1]),h_.2⟩:_=Ending.returned τ/\Aa _ _)) ?_;intro A7 A1 _;refine Qh A1.1 φ φ _ _ _ _ ?_;apply zp φ (by exact Og (e:=(Af (by have h_:=C1.1;omega))));refine Qh A1.1 φ φ _ _ _ _ ?_;apply zp τ (by exact Og (e:=(Ar (by have h_:=C2.1;omega))));refine Cc Ah τ τ ?_;have HV:=zH (show r.emp=true from by unfold R4.emp;have h_:=C2.1;simp[C0.1];omega);go_wp2_with fail
   go_ret;exact⟨by rw[HV.1]<;>rfl,A1.1.ext⟩
  go_upto_region 1 with fail;apply wl;refine Cg A0.1 _ ?_;refine aC A0.1 ((Rv r _).mono fun _ _ h_=>(⟨h_.1.trans (by rw[C0.1]),h_.2⟩:_=Ending.returned τ/\Aa _ _)) ?_;intro A6 A3 _;refine Qh A3.1 φ φ _ _ _ _ ?_;apply zp τ (by exact Og (e:=(Ar (by have h_:=C1.1;omega))));refine Hz Ah τ τ _ _ _ _ _ τ ?_;apply zq τ;have HV:=zH (show r.emp=true from by unfold R4.emp;have h_:=C1.1;simp[C0.1];omega);go_wp2_with fail
  go_ret;exact⟨by rw[HV.1]<;>rfl,A3.1.ext⟩
 have F0:=zH (Bool.eq_false_iff.2 C0.1);go_upto_region 1 with fail;apply wl;refine Cg A0.1 _ ?_;refine aC A0.1 ((Rv r _).mono fun _ _ h_=>(⟨h_.1.trans (by rw[F0.1]),h_.2⟩:_=Ending.returned φ/\Aa _ _)) ?_;intro A5 A4 _;refine Hz Ah τ τ _ _ _ _ _ τ ?_;refine Hz Ah τ _ _ _ _ _ τ τ ?_;have HV:=zH (show r.emp=true from by unfold R4.emp;simp[F0.1]);go_wp2_with fail
 go_ret;exact⟨by rw[HV.1]<;>rfl,A4.1.ext⟩
theorem Uj(r:R4)(w):Calls prog 50 #[.agg #[iV r.x0,iV r.y0,iV r.x1,iV r.y1]] w fun e w'=>e= .returned (.agg #[iV r.can.x0,iV r.can.y0,iV r.can.x1,iV r.can.y1])/\Aa w w':=by
 go_enter func50,ntmps50;have H0:=zH (Hp.start w);go_upto_region 0 with fail;apply wl;apply Ca 35 [iV r.x0,iV r.y0,iV r.x1,iV r.y1] H0.1;intro B3 B1 A5 _;apply Ca 35 [iV 0,iV 0,iV 0,iV 0] A5.1;intro B2 B0 A0 _;rcases Cl (r.emp=true)with C0|C0
 ·go_upto_region 1 with fail
  apply wl;refine Cg A0.1 _ ?_;refine aC A0.1 ((Io r _).mono fun _ _ h_=>(⟨h_.1.trans (by rw[C0.1]),h_.2⟩:_=Ending.returned τ/\Aa _ _)) ?_;intro A9 A4 _;go_upto_region 2 with fail;apply wl;refine Cg Ah _ ?_;apply Cm 1 [iV 0,iV 0,iV 0,iV 0] A4.1;intro A8 A3 _;have HC:=zH (show r.can=R4.zero from if_pos C0.1);go_wp2_with fail
  refine bodyPost_ret ?_ rfl ⟨by rw[HC.1],A3.1.ext⟩;exact Ak rfl rfl ((A3.1.blk (i:=1) rR).loadVar rfl rfl rR)
 have F0:=zH (Bool.eq_false_iff.2 C0.1);go_upto_region 1 with fail;apply wl;refine Cg A0.1 _ ?_;refine aC A0.1 ((Io r _).mono fun _ _ h_=>(⟨h_.1.trans (by rw[F0.1]),h_.2⟩:_=Ending.returned φ/\Aa _ _)) ?_;intro A7 A2 _;go_upto_region 3 with fail;apply wl;refine Cg A2.1 _ ?_;apply Cm 1 [iV r.x0,iV r.y0,iV r.x1,iV r.y1] A2.1;intro A6 A1 _;have HC:=zH (show r.can=r from if_neg C0.1);go_wp2_with fail
 refine bodyPost_ret ?_ rfl ⟨by rw[HC.1],A1.1.ext⟩;exact Ak rfl rfl ((A1.1.blk (i:=1) rR).loadVar rfl rfl rR)
theorem Pi(r:R4)(w):Calls prog 49 #[.agg #[iV r.x0,iV r.y0,iV r.x1,iV r.y1]] w fun e w'=>e= .returned (iV r.area)/\Aa w w':=by
 have hb:=r.can_bd;have hm:=Ux (x:=r.can.x1-r.can.x0) (y:=r.can.y1-r.can.y0) ω ω;go_enter func49,ntmps49
 have H0:=zH (Hp.start w);go_upto_region 0 with fail;apply wl;apply Ca 35 [iV r.x0,iV r.y0,iV r.x1,iV r.y1] H0.1;intro A6 A5 A1 _;apply zq (iV 0);go_upto_region 1 with fail;apply wl;refine Cg A1.1 _ ?_;refine aC A1.1 (Uj r _) ?_;intro A4 A2 _;apply Cm 0 [iV r.can.x0,iV r.can.y0,iV r.can.x1,iV r.can.y1] A2.1;intro A3 A0 _;go_upto_region 2 with fail;apply wl;refine Ef A0.1 _ _ _ _ ?_;apply zp (iV (r.can.x1-r.can.x0)) (by exact Rh ω);refine Ef A0.1 _ _ _ _ ?_;apply zp (iV (r.can.y1-r.can.y0)) (by exact Rh ω);apply zp (iV ((r.can.x1-r.can.x0)*(r.can.y1-r.can.y0))) (by exact aG ω);apply zq (iV ((r.can.x1-r.can.x0)*(r.can.y1-r.can.y0)));go_wp2_with fail;go_ret;exact⟨rfl,A0.1.ext⟩
theorem qK(r:R4)(px py w):Calls prog 97 #[.agg #[iV r.x0,iV r.y0,iV r.x1,iV r.y1],iV px,iV py] w fun e w'=>e= .returned (.bool (r.has px py))/\Aa w w':=by
 go_enter func97,ntmps97;have H0:=zH (Hp.start w);go_upto_region 0 with fail;apply wl;apply Ca 35 [iV r.x0,iV r.y0,iV r.x1,iV r.y1] H0.1;intro B4 B3 A0 _;apply zq φ;rcases Cl (r.emp=false)with C0|C0
 ·rcases Cl (r.x0<=px)with C1|C1
  ·rcases Cl (px<r.x1)with C2|C2
   ·rcases Cl (r.y0<=py)with C3|C3
    ·rcases Cl (py<r.y1)with C4|C4
     ·go_upto_region 1 with fail
      apply wl;refine Cg A0.1 _ ?_;refine aC A0.1 ((Io r _).mono fun _ _ h_=>(⟨h_.1.trans (by rw[C0.1]),h_.2⟩:_=Ending.returned φ/\Aa _ _)) ?_;intro B2 A2 _;refine Lt A2.1 τ τ (iV px) _ _ ?_;apply zp τ (by exact Lj (e:=(Ar (by have h_:=C1.1;omega))));refine Lt A2.1 τ τ (iV px) _ _ ?_;apply zp τ (by exact Df (e:=(Ar (by have h_:=C2.1;omega))));refine Lt A2.1 τ τ (iV py) _ _ ?_;apply zp τ (by exact Lj (e:=(Ar (by have h_:=C3.1;omega))));refine Lt A2.1 τ τ (iV py) _ _ ?_;apply zp τ (by exact Df (e:=(Ar (by have h_:=C4.1;omega))));refine Cc Ah τ τ ?_;have HV:=zH (show r.has px py=true from by unfold R4.has;simp[C0.1,C1.1,C2.1,C3.1,C4.1]);go_wp2_with fail
      go_ret;exact⟨by rw[HV.1]<;>rfl,A2.1.ext⟩
     go_upto_region 1 with fail;apply wl;refine Cg A0.1 _ ?_;refine aC A0.1 ((Io r _).mono fun _ _ h_=>(⟨h_.1.trans (by rw[C0.1]),h_.2⟩:_=Ending.returned φ/\Aa _ _)) ?_;intro B1 A1 _;refine Lt A1.1 τ τ (iV px) _ _ ?_;apply zp τ (by exact Lj (e:=(Ar (by have h_:=C1.1;omega))));refine Lt A1.1 τ τ (iV px) _ _ ?_;apply zp τ (by exact Df (e:=(Ar (by have h_:=C2.1;omega))));refine Lt A1.1 τ τ (iV py) _ _ ?_;apply zp τ (by exact Lj (e:=(Ar (by have h_:=C3.1;omega))));refine Lt A1.1 τ τ (iV py) _ _ ?_;apply zp φ (by exact Df (e:=(Af (by have h_:=C4.1;omega))));refine Cc Ah φ φ ?_;have HV:=zH (show r.has px py=false from by unfold R4.has;simp[show decide _=false from decide_eq_false C4.1]);go_wp2_with fail
     go_ret;exact⟨by rw[HV.1]<;>rfl,A1.1.ext⟩
    go_upto_region 1 with fail;apply wl;refine Cg A0.1 _ ?_;refine aC A0.1 ((Io r _).mono fun _ _ h_=>(⟨h_.1.trans (by rw[C0.1]),h_.2⟩:_=Ending.returned φ/\Aa _ _)) ?_;intro B0 A3 _;refine Lt A3.1 τ τ (iV px) _ _ ?_;apply zp τ (by exact Lj (e:=(Ar (by have h_:=C1.1;omega))));refine Lt A3.1 τ τ (iV px) _ _ ?_;apply zp τ (by exact Df (e:=(Ar (by have h_:=C2.1;omega))));refine Lt A3.1 τ τ (iV py) _ _ ?_;apply zp φ (by exact Lj (e:=(Af (by have h_:=C3.1;omega))));refine Hz Ah φ φ _ _ _ _ φ φ ?_;have HV:=zH (show r.has px py=false from by unfold R4.has;simp[show decide _=false from decide_eq_false C3.1]);go_wp2_with fail
    go_ret;exact⟨by rw[HV.1]<;>rfl,A3.1.ext⟩
   go_upto_region 1 with fail;apply wl;refine Cg A0.1 _ ?_;refine aC A0.1 ((Io r _).mono fun _ _ h_=>(⟨h_.1.trans (by rw[C0.1]),h_.2⟩:_=Ending.returned φ/\Aa _ _)) ?_;intro A9 A4 _;refine Lt A4.1 τ τ (iV px) _ _ ?_;apply zp τ (by exact Lj (e:=(Ar (by have h_:=C1.1;omega))));refine Lt A4.1 τ τ (iV px) _ _ ?_;apply zp φ (by exact Df (e:=(Af (by have h_:=C2.1;omega))));refine Hz Ah φ φ _ _ _ _ φ φ ?_;refine Qh Ah _ _ _ _ φ φ ?_;have HV:=zH (show r.has px py=false from by unfold R4.has;simp[show decide _=false from decide_eq_false C2.1]);go_wp2_with fail
   go_ret;exact⟨by rw[HV.1]<;>rfl,A4.1.ext⟩
  go_upto_region 1 with fail;apply wl;refine Cg A0.1 _ ?_;refine aC A0.1 ((Io r _).mono fun _ _ h_=>(⟨h_.1.trans (by rw[C0.1]),h_.2⟩:_=Ending.returned φ/\Aa _ _)) ?_;intro A8 A5 _;refine Lt A5.1 τ τ (iV px) _ _ ?_;apply zp φ (by exact Lj (e:=(Af (by have h_:=C1.1;omega))));refine Hz Ah φ φ _ _ _ _ φ φ ?_;refine Hz Ah _ _ _ _ φ φ _ _ ?_;refine Ef Ah _ _ φ φ ?_;have HV:=zH (show r.has px py=false from by unfold R4.has;simp[show decide _=false from decide_eq_false C1.1]);go_wp2_with fail
  go_ret;exact⟨by rw[HV.1]<;>rfl,A5.1.ext⟩
 have F0:=zH (show r.emp=true from by simpa using C0.1);go_upto_region 1 with fail;apply wl;refine Cg A0.1 _ ?_;refine aC A0.1 ((Io r _).mono fun _ _ h_=>(⟨h_.1.trans (by rw[F0.1]),h_.2⟩:_=Ending.returned τ/\Aa _ _)) ?_;intro A7 A6 _;refine Hz Ah φ φ _ _ _ _ φ φ ?_;refine Hz Ah _ _ _ _ φ φ _ _ ?_;refine Hz Ah _ _ φ φ _ _ _ _ ?_;apply qV φ;apply zq φ;have HV:=zH (show r.has px py=false from by unfold R4.has;simp[F0.1]);go_wp2_with fail
 go_ret;exact⟨by rw[HV.1]<;>rfl,A6.1.ext⟩
theorem qI(r:R4)(px py w):Calls prog 56 #[.agg #[iV r.x0,iV r.y0,iV r.x1,iV r.y1],iV px,iV py] w fun e w'=>e= .returned (iV (r.ix px py))/\Aa w w':=by
 go_enter func56,ntmps56;have H0:=zH (Hp.start w);go_upto_region 0 with fail;apply wl;apply Ca 35 [iV r.x0,iV r.y0,iV r.x1,iV r.y1] H0.1;intro A6 A5 A1 _;apply zq (iV 0);rcases Cl (r.has px py=true)with C0|C0
 ·have HT:=zH (tV C0.1)
  have ho:=Rp.1 (fB HT.1.1).1;have ht:=HT.1.2;have hm:=Ux (x:=py-r.y0) (y:=r.x1-r.x0) ω ω;have HX:=zH (show r.ix px py=(py-r.y0)*(r.x1-r.x0)+px-r.x0 from if_pos C0.1);go_upto_region 1 with fail
  apply wl;refine Da A1.1 _ (iV px) (iV py) ?_;refine aC A1.1 ((qK r px py _).mono fun _ _ h_=>(⟨h_.1.trans (by rw[C0.1]),h_.2⟩:_=Ending.returned τ/\Aa _ _)) ?_;intro A4 A0 _;apply zq φ;go_upto_region 3 with fail;apply wl;refine Da A0.1 (iV py) _ _ ?_;apply zp (iV (py-r.y0)) (by exact Rh ω);refine Ef A0.1 _ _ _ _ ?_;apply zp (iV (r.x1-r.x0)) (by exact Rh ω);apply zp (iV ((py-r.y0)*(r.x1-r.x0))) (by exact aG ω);apply zq (iV px);apply zp (iV (((py-r.y0)*(r.x1-r.x0))+px)) (by exact Gm ω);refine Cc A0.1 _ _ ?_;apply zp (iV ((((py-r.y0)*(r.x1-r.x0))+px)-r.x0)) (by exact Rh ω);apply zq (iV ((((py-r.y0)*(r.x1-r.x0))+px)-r.x0));go_wp2_with fail;go_ret;exact⟨by rw[HX.1]<;>rfl,A0.1.ext⟩
 have F0:=zH (Bool.eq_false_iff.2 C0.1);go_upto_region 1 with fail;apply wl;refine Da A1.1 _ (iV px) (iV py) ?_;refine aC A1.1 ((qK r px py _).mono fun _ _ h_=>(⟨h_.1.trans (by rw[F0.1]),h_.2⟩:_=Ending.returned φ/\Aa _ _)) ?_;intro A3 A2 _;apply zq τ;go_upto_region 2 with fail;apply wl;apply zq (iV (-1));go_wp2_with fail;go_ret;exact⟨by rw[show r.ix px py= -1 from if_neg C0.1]<;>rfl,A2.1.ext⟩
theorem yH(a b:R4)(w):Calls prog 57 #[.agg #[iV a.x0,iV a.y0,iV a.x1,iV a.y1],.agg #[iV b.x0,iV b.y0,iV b.x1,iV b.y1]] w fun e w'=>e= .returned (.agg #[iV (a.uni b).x0,iV (a.uni b).y0,iV (a.uni b).x1,iV (a.uni b).y1])/\Aa w w':=by
 go_enter func57,ntmps57;have H0:=zH (Hp.start w);go_upto_region 0 with fail;apply wl;apply Ca 35 [iV a.x0,iV a.y0,iV a.x1,iV a.y1] H0.1;intro C6 C3 B0 _;apply Ca 35 [iV b.x0,iV b.y0,iV b.x1,iV b.y1] B0.1;intro C5 C2 A9 _;apply Ca 35 [iV 0,iV 0,iV 0,iV 0] A9.1;intro C4 B9 A2 _;rcases Cl (a.emp=true)with C0|C0
 ·go_upto_region 1 with fail
  apply wl;refine Cg A2.1 _ ?_;refine aC A2.1 ((Io a _).mono fun _ _ h_=>(⟨h_.1.trans (by rw[C0.1]),h_.2⟩:_=Ending.returned τ/\Aa _ _)) ?_;intro B8 A7 _;apply zq τ;go_upto_region 2 with fail;apply wl;refine Cg A7.1 _ ?_;refine aC A7.1 (Uj b _) ?_;intro B7 A8 _;apply Cm 2 [iV b.can.x0,iV b.can.y0,iV b.can.x1,iV b.can.y1] A8.1;intro B6 A6 _;have HC:=zH (show a.uni b=b.can from if_pos C0.1);go_wp2_with fail
  refine bodyPost_ret ?_ rfl ⟨by rw[HC.1],A6.1.ext⟩;exact Ak rfl rfl ((A6.1.blk (i:=2) rR).loadVar rfl rfl rR)
 have F0:=zH (Bool.eq_false_iff.2 C0.1);go_upto_region 1 with fail;apply wl;refine Cg A2.1 _ ?_;refine aC A2.1 ((Io a _).mono fun _ _ h_=>(⟨h_.1.trans (by rw[F0.1]),h_.2⟩:_=Ending.returned φ/\Aa _ _)) ?_;intro B5 A1 _;apply zq φ;rcases Cl (b.emp=true)with C1|C1
 ·go_upto_region 3 with fail
  apply wl;refine Cg A1.1 _ ?_;refine aC A1.1 ((Io b _).mono fun _ _ h_=>(⟨h_.1.trans (by rw[C1.1]),h_.2⟩:_=Ending.returned τ/\Aa _ _)) ?_;intro B4 A5 _;apply zq τ;go_upto_region 4 with fail;apply wl;refine Cg A5.1 _ ?_;apply Cm 2 [iV a.x0,iV a.y0,iV a.x1,iV a.y1] A5.1;intro B3 A4 _;have HC:=zH (show a.uni b=a from(if_neg C0.1).trans (if_pos C1.1));go_wp2_with fail
  refine bodyPost_ret ?_ rfl ⟨by rw[HC.1],A4.1.ext⟩;exact Ak rfl rfl ((A4.1.blk (i:=2) rR).loadVar rfl rfl rR)
 have F1:=zH (Bool.eq_false_iff.2 C1.1);go_upto_region 3 with fail;apply wl;refine Cg A1.1 _ ?_;refine aC A1.1 ((Io b _).mono fun _ _ h_=>(⟨h_.1.trans (by rw[F1.1]),h_.2⟩:_=Ending.returned φ/\Aa _ _)) ?_;intro B2 A0 _;apply zq φ;go_upto_region 5 with fail;apply wl;refine Hz A0.1 _ _ _ _ (iV (min a.x0 b.x0)) _ _ _ ?_;refine Hz A0.1 _ (iV (min a.y0 b.y0)) _ _ _ _ (iV (max a.x1 b.x1)) _ ?_;refine Lt A0.1 _ _ _ (iV (max a.y1 b.y1)) _ ?_;apply Cm 2 [iV (min a.x0 b.x0),iV (min a.y0 b.y0),iV (max a.x1 b.x1),iV (max a.y1 b.y1)] A0.1;intro B1 A3 _;have HC:=zH (show a.uni b=_ from(if_neg C0.1).trans (if_neg C1.1));go_wp2_with fail
 refine bodyPost_ret ?_ rfl ⟨by rw[HC.1],A3.1.ext⟩;exact Ak rfl rfl ((A3.1.blk (i:=2) rR).loadVar rfl rfl rR)
theorem Js(n w):Calls prog 78 #[iV n] w fun e w'=>e= .returned (.bool (aZ n))/\Aa w w':=by
  unfold aZ;by_cases h1: -4096<=n<;>by_cases h2:n<=4096<;>simp only[h1,h2,decide_true,decide_false,Bool.and_true,Bool.and_false]<;>
    (go_enter func78,ntmps78;go_wp2_with fail;go_ret;exact⟨rfl,Aa.refl _⟩)
theorem Rw(r:R4)(w):Calls prog 39 #[.agg #[iV r.x0,iV r.y0,iV r.x1,iV r.y1]] w fun e w'=>e= .returned (.bool r.ok)/\Aa w w':=by
 go_enter func39,ntmps39;have H0:=zH (Hp.start w);go_upto_region 0 with fail;apply wl;apply Ca 35 [iV r.x0,iV r.y0,iV r.x1,iV r.y1] H0.1;intro X1 w2 H3 _;apply zq φ;rcases Cl (aZ r.x0=true)with C0|C0
 ·rcases Cl (aZ r.y0=true)with C1|C1
  ·rcases Cl (aZ r.x1=true)with C2|C2
   ·rcases Cl (aZ r.y1=true)with C3|C3
    ·go_upto_region 1 with fail
     apply wl;refine Cc H3.1 _ _ ?_;refine aC H3.1 ((Js r.x0 _).mono fun _ _ h_=>(⟨h_.1.trans (by rw[C0.1]),h_.2⟩:_=Ending.returned τ/\Aa _ _)) ?_;intro D1 A8 _;refine Da A8.1 τ _ _ ?_;refine aC A8.1 ((Js r.y0 _).mono fun _ _ h_=>(⟨h_.1.trans (by rw[C1.1]),h_.2⟩:_=Ending.returned τ/\Aa _ _)) ?_;intro D0 A7 _;refine Ef A7.1 τ τ _ _ ?_;refine aC A7.1 ((Js r.x1 _).mono fun _ _ h_=>(⟨h_.1.trans (by rw[C2.1]),h_.2⟩:_=Ending.returned τ/\Aa _ _)) ?_;intro C9 A6 _;refine Ef A6.1 τ τ _ _ ?_;refine aC A6.1 ((Js r.y1 _).mono fun _ _ h_=>(⟨h_.1.trans (by rw[C3.1]),h_.2⟩:_=Ending.returned τ/\Aa _ _)) ?_;intro C8 B3 _;refine Cc Ah τ τ ?_;have HV:=zH (show r.ok=true from by unfold R4.ok;rw[C0.1,C1.1,C2.1,C3.1]<;>rfl);go_wp2_with fail
     go_ret;exact⟨by rw[HV.1]<;>rfl,B3.1.ext⟩
    have F3:=zH (Bool.eq_false_iff.2 C3.1);go_upto_region 1 with fail;apply wl;refine Cc H3.1 _ _ ?_;refine aC H3.1 ((Js r.x0 _).mono fun _ _ h_=>(⟨h_.1.trans (by rw[C0.1]),h_.2⟩:_=Ending.returned τ/\Aa _ _)) ?_;intro C7 A5 _;refine Da A5.1 τ _ _ ?_;refine aC A5.1 ((Js r.y0 _).mono fun _ _ h_=>(⟨h_.1.trans (by rw[C1.1]),h_.2⟩:_=Ending.returned τ/\Aa _ _)) ?_;intro C6 A4 _;refine Ef A4.1 τ τ _ _ ?_;refine aC A4.1 ((Js r.x1 _).mono fun _ _ h_=>(⟨h_.1.trans (by rw[C2.1]),h_.2⟩:_=Ending.returned τ/\Aa _ _)) ?_;intro C5 A3 _;refine Ef A3.1 τ τ _ _ ?_;refine aC A3.1 ((Js r.y1 _).mono fun _ _ h_=>(⟨h_.1.trans (by rw[F3.1]),h_.2⟩:_=Ending.returned φ/\Aa _ _)) ?_;intro C4 B2 _;refine Cc Ah φ φ ?_;have HV:=zH (show r.ok=false from by unfold R4.ok;simp[F3.1]);go_wp2_with fail
    go_ret;exact⟨by rw[HV.1]<;>rfl,B2.1.ext⟩
   have F2:=zH (Bool.eq_false_iff.2 C2.1);go_upto_region 1 with fail;apply wl;refine Cc H3.1 _ _ ?_;refine aC H3.1 ((Js r.x0 _).mono fun _ _ h_=>(⟨h_.1.trans (by rw[C0.1]),h_.2⟩:_=Ending.returned τ/\Aa _ _)) ?_;intro B9 A2 _;refine Da A2.1 τ _ _ ?_;refine aC A2.1 ((Js r.y0 _).mono fun _ _ h_=>(⟨h_.1.trans (by rw[C1.1]),h_.2⟩:_=Ending.returned τ/\Aa _ _)) ?_;intro B8 A1 _;refine Ef A1.1 τ τ _ _ ?_;refine aC A1.1 ((Js r.x1 _).mono fun _ _ h_=>(⟨h_.1.trans (by rw[F2.1]),h_.2⟩:_=Ending.returned φ/\Aa _ _)) ?_;intro B7 B1 _;refine bC Ah φ φ _ _ _ φ φ ?_;have HV:=zH (show r.ok=false from by unfold R4.ok;simp[F2.1]);go_wp2_with fail
   go_ret;exact⟨by rw[HV.1]<;>rfl,B1.1.ext⟩
  have F1:=zH (Bool.eq_false_iff.2 C1.1);go_upto_region 1 with fail;apply wl;refine Cc H3.1 _ _ ?_;refine aC H3.1 ((Js r.x0 _).mono fun _ _ h_=>(⟨h_.1.trans (by rw[C0.1]),h_.2⟩:_=Ending.returned τ/\Aa _ _)) ?_;intro B6 A0 _;refine Da A0.1 τ _ _ ?_;refine aC A0.1 ((Js r.y0 _).mono fun _ _ h_=>(⟨h_.1.trans (by rw[F1.1]),h_.2⟩:_=Ending.returned φ/\Aa _ _)) ?_;intro B5 B0 _;refine Hz Ah φ φ _ _ _ φ φ _ ?_;refine Ef Ah _ _ φ φ ?_;have HV:=zH (show r.ok=false from by unfold R4.ok;simp[F1.1]);go_wp2_with fail
  go_ret;exact⟨by rw[HV.1]<;>rfl,B0.1.ext⟩
 have F0:=zH (Bool.eq_false_iff.2 C0.1);go_upto_region 1 with fail;apply wl;refine Cc H3.1 _ _ ?_;refine aC H3.1 ((Js r.x0 _).mono fun _ _ h_=>(⟨h_.1.trans (by rw[F0.1]),h_.2⟩:_=Ending.returned φ/\Aa _ _)) ?_;intro B4 A9 _;refine Hz Ah φ _ _ _ φ φ _ _ ?_;refine Hz Ah _ φ φ _ _ _ φ φ ?_;have HV:=zH (show r.ok=false from by unfold R4.ok;simp[F0.1]);go_wp2_with fail
 go_ret;exact⟨by rw[HV.1]<;>rfl,A9.1.ext⟩
theorem qM(r:R4)(w):Calls prog 94 #[.agg #[iV r.x0,iV r.y0,iV r.x1,iV r.y1]] w fun e w'=>e= .returned (.bool r.emp)/\Aa w w':=by
 go_enter func94,ntmps94;have H0:=zH (Hp.start w);go_upto_region 0 with fail;apply wl;apply Ca 35 [iV r.x0,iV r.y0,iV r.x1,iV r.y1] H0.1;intro B0 A9 A0 _;apply zq φ;rcases Cl (r.ok=true)with C0|C0
 ·rcases Cl (r.x0<r.x1)with C1|C1
  ·rcases Cl (r.y0<r.y1)with C2|C2
   ·go_upto_region 1 with fail
    apply wl;refine Cg A0.1 _ ?_;refine aC A0.1 ((Rw r _).mono fun _ _ h_=>(⟨h_.1.trans (by rw[C0.1]),h_.2⟩:_=Ending.returned τ/\Aa _ _)) ?_;intro A8 A2 _;refine Qh A2.1 φ φ _ _ _ _ ?_;apply zp φ (by exact Og (e:=(Af (by have h_:=C1.1;omega))));refine Qh A2.1 φ φ _ _ _ _ ?_;apply zp φ (by exact Og (e:=(Af (by have h_:=C2.1;omega))));refine Cc Ah φ φ ?_;have HV:=zH (show r.emp=false from by unfold R4.emp;simp[C0.1];have B2:=C1.1;have B1:=C2.1;omega);go_wp2_with fail
    go_ret;exact⟨by rw[HV.1]<;>rfl,A2.1.ext⟩
   go_upto_region 1 with fail;apply wl;refine Cg A0.1 _ ?_;refine aC A0.1 ((Rw r _).mono fun _ _ h_=>(⟨h_.1.trans (by rw[C0.1]),h_.2⟩:_=Ending.returned τ/\Aa _ _)) ?_;intro A7 A1 _;refine Qh A1.1 φ φ _ _ _ _ ?_;apply zp φ (by exact Og (e:=(Af (by have h_:=C1.1;omega))));refine Qh A1.1 φ φ _ _ _ _ ?_;apply zp τ (by exact Og (e:=(Ar (by have h_:=C2.1;omega))));refine Cc Ah τ τ ?_;have HV:=zH (show r.emp=true from by unfold R4.emp;have h_:=C2.1;simp[C0.1];omega);go_wp2_with fail
   go_ret;exact⟨by rw[HV.1]<;>rfl,A1.1.ext⟩
  go_upto_region 1 with fail;apply wl;refine Cg A0.1 _ ?_;refine aC A0.1 ((Rw r _).mono fun _ _ h_=>(⟨h_.1.trans (by rw[C0.1]),h_.2⟩:_=Ending.returned τ/\Aa _ _)) ?_;intro A6 A3 _;refine Qh A3.1 φ φ _ _ _ _ ?_;apply zp τ (by exact Og (e:=(Ar (by have h_:=C1.1;omega))));refine Hz Ah τ τ _ _ _ _ _ τ ?_;apply zq τ;have HV:=zH (show r.emp=true from by unfold R4.emp;have h_:=C1.1;simp[C0.1];omega);go_wp2_with fail
  go_ret;exact⟨by rw[HV.1]<;>rfl,A3.1.ext⟩
 have F0:=zH (Bool.eq_false_iff.2 C0.1);go_upto_region 1 with fail;apply wl;refine Cg A0.1 _ ?_;refine aC A0.1 ((Rw r _).mono fun _ _ h_=>(⟨h_.1.trans (by rw[F0.1]),h_.2⟩:_=Ending.returned φ/\Aa _ _)) ?_;intro A5 A4 _;refine Hz Ah τ τ _ _ _ _ _ τ ?_;refine Hz Ah τ _ _ _ _ _ τ τ ?_;have HV:=zH (show r.emp=true from by unfold R4.emp;simp[F0.1]);go_wp2_with fail
 go_ret;exact⟨by rw[HV.1]<;>rfl,A4.1.ext⟩
theorem qS(r:R4)(w):Calls prog 52 #[.agg #[iV r.x0,iV r.y0,iV r.x1,iV r.y1]] w fun e w'=>e= .returned (.agg #[iV r.can.x0,iV r.can.y0,iV r.can.x1,iV r.can.y1])/\Aa w w':=by
 go_enter func52,ntmps52;have H0:=zH (Hp.start w);go_upto_region 0 with fail;apply wl;apply Ca 35 [iV r.x0,iV r.y0,iV r.x1,iV r.y1] H0.1;intro B3 B1 A5 _;apply Ca 35 [iV 0,iV 0,iV 0,iV 0] A5.1;intro B2 B0 A0 _;rcases Cl (r.emp=true)with C0|C0
 ·go_upto_region 1 with fail
  apply wl;refine Cg A0.1 _ ?_;refine aC A0.1 ((qM r _).mono fun _ _ h_=>(⟨h_.1.trans (by rw[C0.1]),h_.2⟩:_=Ending.returned τ/\Aa _ _)) ?_;intro A9 A4 _;go_upto_region 2 with fail;apply wl;refine Cg Ah _ ?_;apply Cm 1 [iV 0,iV 0,iV 0,iV 0] A4.1;intro A8 A3 _;have HC:=zH (show r.can=R4.zero from if_pos C0.1);go_wp2_with fail
  refine bodyPost_ret ?_ rfl ⟨by rw[HC.1],A3.1.ext⟩;exact Ak rfl rfl ((A3.1.blk (i:=1) rR).loadVar rfl rfl rR)
 have F0:=zH (Bool.eq_false_iff.2 C0.1);go_upto_region 1 with fail;apply wl;refine Cg A0.1 _ ?_;refine aC A0.1 ((qM r _).mono fun _ _ h_=>(⟨h_.1.trans (by rw[F0.1]),h_.2⟩:_=Ending.returned φ/\Aa _ _)) ?_;intro A7 A2 _;go_upto_region 3 with fail;apply wl;refine Cg A2.1 _ ?_;apply Cm 1 [iV r.x0,iV r.y0,iV r.x1,iV r.y1] A2.1;intro A6 A1 _;have HC:=zH (show r.can=r from if_neg C0.1);go_wp2_with fail
 refine bodyPost_ret ?_ rfl ⟨by rw[HC.1],A1.1.ext⟩;exact Ak rfl rfl ((A1.1.blk (i:=1) rR).loadVar rfl rfl rR)
theorem Kz(r:R4)(w):Calls prog 40 #[.agg #[iV r.x0,iV r.y0,iV r.x1,iV r.y1]] w fun e w'=>e= .returned (iV r.area)/\Aa w w':=by
 have hb:=r.can_bd;have hm:=Ux (x:=r.can.x1-r.can.x0) (y:=r.can.y1-r.can.y0) ω ω;go_enter func40,ntmps40
 have H0:=zH (Hp.start w);go_upto_region 0 with fail;apply wl;apply Ca 35 [iV r.x0,iV r.y0,iV r.x1,iV r.y1] H0.1;intro A9 A7 A1 _;apply zq (iV 0);go_upto_region 1 with fail;apply wl;refine Cg A1.1 _ ?_;refine aC A1.1 (qS r _) ?_;intro A6 A3 _;apply Ca 35 [iV 0,iV 0,iV 0,iV 0] A3.1;intro A8 A5 A2 _;apply Cm 1 [iV r.can.x0,iV r.can.y0,iV r.can.x1,iV r.can.y1] A2.1;intro A4 A0 _;go_upto_region 2 with fail;apply wl;refine Ef A0.1 _ _ _ _ ?_;apply zp (iV (r.can.x1-r.can.x0)) (by exact Rh ω);refine Ef A0.1 _ _ _ _ ?_;apply zp (iV (r.can.y1-r.can.y0)) (by exact Rh ω);apply zp (iV ((r.can.x1-r.can.x0)*(r.can.y1-r.can.y0))) (by exact aG ω);apply zq (iV ((r.can.x1-r.can.x0)*(r.can.y1-r.can.y0)));go_wp2_with fail;go_ret;exact⟨rfl,A0.1.ext⟩
end
section
open Go.RowKit Go.Shelf
attribute [local go_sem] Oper.semAt_some
structure Kq (Bm:Nat) (T:TypeId) (l:Nat) (W W':World):Prop where
  size:W.heap.size<=W'.heap.size
  same:∀(k:Nat) (o:Obj),W.heap[k]?=some o->k≠Bm->(o.isCells=true\/k≠l)->(∀cs,o≠ .cells cs T)->W'.heap[k]?=some o
theorem Kq.trans{Bm l T A B C}(h:Kq Bm T l A B)(k:Kq Bm T l B C):Kq Bm T l A C:=⟨Al h.size k.size,fun i o h1 h2 h3 h4=>k.same i o (h.same i o h1 h2 h3 h4) h2 h3 h4⟩
theorem Kq.put(Bm T){l W o}(o')(hl:W.heap[l]?=some o)(ho:o.isCells=false):Kq Bm T l W (W.putObj l o'):=⟨by simp,fun k p h _ h3 _=>by
  by_cases e:k=l
  · subst e
    rw[hl]at h;injection h with h
    subst h;rcases h3 with h3|h3
    · rw[ho]at h3;cases h3
    exact absurd rfl h3
  exact(World.putObj_heap_other e).trans h⟩
theorem Kq.of_ext{Bm l T W W'}(x:Aa W W'):Kq Bm T l W W':=⟨x.size,fun k _ h _ _ _=>(x.block k (Array.getElem?_eq_some_iff.1 h).1).trans h⟩
def aBD {α:Type}(n:Nat)(P:Program)(g:Nat)(lb:Array Value)(encs:α->Array Value)(Bm:Nat)(T:TypeId)(N:Nat)(S:List α->Prop)(w:World):Prop:=
  ∀ (l:Nat) (J:List α->World->Prop) (W:World),Aa w W->w.heap.size<=l->l<W.heap.size->OwnFrom W.heap.size J->
    (∀pre x W1,J pre W1->pre.length<N->YieldAt Fence.wide (n-1) P l (encs x) W1 fun e W'=>e= .returned τ/\J (pre++[x]) W'/\Kq Bm T l W1 W')->
    J [] W->CallsIn Fence.wide n P g (#[.func (.yield l) #[] #[]]++lb) W fun e W'=>(∃v,e= .returned v)/\∃xs,S xs/\J xs W'
theorem Vz{α:Type}{n P g p0 assign body Q a w}
(h1:1<=n){gf lb}(hg:a.eval g= .func (.func gf) #[] lb)(eg:∀args w,(callFunc gf args).run P w= .ok (.enter gf args) w)
{enc:α->Value}{Bm T}{N:Nat}{S:List α->Prop}(hseq:aBD (n-1) P gf lb (fun x=>#[enc x]) Bm T N S w)
(I:List α->World->Prop)(hI:OwnFrom w.heap.size I)(h0:I [] w)(Ax:α->Act->World->Prop)(hAx:∀x a',OwnFrom w.heap.size (fun(_:Unit) W=>Ax x a' W))
(hassign:∀(l:Nat) (pre:List α) (x:α) (W:World) (K:Act->World->Prop),I pre W->(∀a' W',KeepsFrom w.heap.size W W'->Kq Bm T l W W'->I pre W'->Ax x a' W'->K a' W')->
   assign.wpIn (Fence.wide.inRound l) (n-1-1) P (Exit.then K (fun _ _ _=>False)) {tmps:=a.tmps.setIfInBounds p0 (enc x),defers:=[]} W)
(hbody:∀(l:Nat) (pre:List α) (x:α) (a':Act) (W:World),I pre W->Ax x a' W->pre.length<N->
   body.wpIn (Fence.wide.inRound l) (n-1-1) P (ownPostG w.heap.size (Kq Bm T l) I (fun _ _ _=>False) (pre++[x]) W) a' W)
(hdone:∀(D:Nat) (xs:List α) (W:World),w.heap.size<=D->S xs->I xs W->W.heap[D]?=some (.deferred (some []))->Q .normal {a with defers:={target:= .collected D,args:=#[]}::a.defers} W):
  (Code.rangeFunc g #[p0] assign body).wpIn Fence.wide n P Q a w:=by
 refine wpIn_rangeFunc ?_;intro fn hfn;obtain⟨rec,hrec⟩:∃rec:LoopState->Loop,rec=fun st=>{state:=st,pending:=none,fn,tmps:=a.tmps,params:=#[p0],assign,body,defers:=w.heap.size}:=⟨_,rfl⟩
 obtain⟨W1,hW1⟩:∃W1,(w.alloc (.deferred (some []))).alloc (.loop (rec .ready))=W1:=⟨_,rfl⟩;have hL1:W1.heap[w.heap.size+1]?=some (.loop (rec .ready)):=by
  rw[<-hW1];have h2:=World.alloc_heap_new (w.alloc (.deferred (some []))) (.loop (rec .ready));rwa[bXX]at h2
 have x1:Aa w W1:=by rw[<-hW1];exact((Aa.refl w).alloc _).alloc _
 have s1:W1.heap.size=w.heap.size+2:=by rw[<-hW1];simp
 have hK1:W1.heap[w.heap.size]?=some (.deferred (some [])):=by
  rw[<-hW1];exact(((Aa.refl (w.alloc (.deferred (some [])))).alloc (.loop (rec .ready))).block _ (by simp)).trans (World.alloc_heap_new w _)
 have hI1:I [] W1:=by rw[<-hW1];exact hI.alloc _ (hI.alloc _ h0)
 refine⟨w.heap.size+1,[{target:= .collected w.heap.size,args:=#[]}],W1,{target:= .fn (.func gf) lb,args:=#[.func (.yield (w.heap.size+1)) #[] #[]]},W1,gf,
  #[.func (.yield (w.heap.size+1)) #[] #[]]++lb,W1,?_,?_,fun _ _=>trivial,?_,fun _=>h1,?_⟩
 ·rw[<-hW1,hrec];exact run_enterLoop_outer _ _ _ _ _
 ·simp only[resolve,hg]
  simp[go_sem]
 ·simp[invoke,go_sem,eg]
 have keep:∀{A B:World} {row:Option Nat} {k:Nat} {o:Obj},A.grownBy B row->(∀r,row=some r->W1.heap.size<=r/\∃o:Obj,A.heap[r]?=some o/\o.isCells=false)->k<W1.heap.size->A.heap[k]?=some o->B.heap[k]?=some o:=fun hg' hr hk ho=>
  (hg'.block _ (Array.getElem?_eq_some_iff.1 ho).1 (fun e=>by have:=(hr _ e.symm).1;omega)).trans ho
 refine(hseq (w.heap.size+1) (fun pre W=>I pre W/\W.heap[w.heap.size+1]?=some (.loop (rec .ready))/\W.heap[w.heap.size]?=some (.deferred (some []))) W1 x1 ω (ω)
  (fun s A B row hs hg' hr=>⟨hI s A B row hs.1 hg' (fun r e=>⟨by have:=(hr r e).1;omega,(hr r e).2⟩),keep hg' hr ω hs.2.1,keep hg' hr ω hs.2.2⟩) ?_ ⟨hI1,hL1,hK1⟩).mono ?_
 ·rintro pre x W ⟨hi,hl,hk⟩ hlen
  have hlt:w.heap.size+1<W.heap.size:=(Array.getElem?_eq_some_iff.1 hl).1;have hy:=run_yield (P:=P) (args:=#[enc x]) hl (by rw[hrec];rfl);rw[hrec]at hy;refine⟨fn,_,assign,body,hy,roundIn_of_wpIn hfn ?_⟩;have e:(((#[p0]:Array Tmp).zip #[enc x]).foldl (fun t (p,v)=>t.setIfInBounds p v) a.tmps)=a.tmps.setIfInBounds p0 (enc x):=by simp
  rw[e];refine hassign _ pre x W _ hi ?_;intro a' Wa kf kp ia ax;have hl2:=kf.same _ _ ω hl rfl;have hk2:=kf.same _ _ (Cp _) hk rfl;have hlt2:w.heap.size+1<Wa.heap.size:=(Array.getElem?_eq_some_iff.1 hl2).1;refine⟨_,run_beginRound hl2 (by rw[hrec]),?_⟩;have hl3:(Wa.putObj (w.heap.size+1) (.loop {rec .ready with state:= .busy})).heap[w.heap.size+1]?=some (.loop {rec .ready with state:= .busy}):=World.putObj_heap_same hlt2;have hk3:(Wa.putObj (w.heap.size+1) (.loop {rec .ready with state:= .busy})).heap[w.heap.size]?=some (.deferred (some [])):=(World.putObj_heap_other ω).trans hk2;refine wpIn_mono (hbody _ pre x a' _ (hI.putObj _ ia ω hl2 rfl) ((hAx x a').putObj (s:=()) _ ax ω hl2 rfl) hlen) ?_;rintro e a3 W3 hp;cases e with
  |normal=>
   obtain⟨k3,p3,i3⟩:=hp;have hl4:=k3.same _ _ ω hl3 rfl;have hk4:=k3.same _ _ (Cp _) hk3 rfl;have hlt4:w.heap.size+1<W3.heap.size:=(Array.getElem?_eq_some_iff.1 hl4).1;have hr:=run_endRound (P:=P) none hl4;refine⟨_,_,hr,rfl,⟨hI.putObj _ i3 ω hl4 rfl,?_,(World.putObj_heap_other ω).trans hk4⟩,kp.trans ((Kq.put _ _ _ hl2 rfl).trans (p3.trans (Kq.put _ _ _ hl4 rfl)))⟩;rw[World.putObj_heap_same hlt4,hrec];rfl
  |ret=>exact hp.2.elim
  |exit id=>exact hp.2.elim
  |goto t=>exact hp.2.elim
  |panic ch=>exact hp.elim
  |outgrown=>exact hp.elim
 rintro e W2 ⟨⟨v,rfl⟩,xs,hS,hi,hl,hk⟩;have hr:=run_endLoop (P:=P) hl (by rw[hrec];simp);rw[hrec]at hr;exact⟨none,_,hr,hdone _ xs _ (Cp _) hS (hI.putObj _ hi ω hl rfl) ((World.putObj_heap_other ω).trans hk)⟩
end
section
open Go.RowKit Go.Shelf
attribute [local go_sem] Oper.semAt_some
attribute [local go_sem ↓] Go.wp_at_zero Go.wp_at_succ Aq An
structure Kc (Bm:Nat) (T:TypeId) (W W':World):Prop where
  size:W.heap.size<=W'.heap.size
  same:∀(k:Nat) (t:TypeId) (cs:Array Value),Aj W k t cs->k≠Bm->t≠T->Aj W' k t cs
theorem Kc.trans{Bm T A B C}(h:Kc Bm T A B)(k:Kc Bm T B C):Kc Bm T A C:=⟨Al h.size k.size,fun i t cs h1 h2 h3=>k.same i t cs (h.same i t cs h1 h2 h3) h2 h3⟩
theorem Kc.of_ext{Bm T W W'}(x:Aa W W'):Kc Bm T W W':=⟨x.size,fun _ _ _ h _ _=>h.ext x⟩
theorem Kc.put{Bm T}(W l o o')(hl:W.heap[l]?=some o)(ho:o.isCells=false):Kc Bm T W (W.putObj l o'):=⟨by simp,fun k t cs h _ _=>by
  have e:k≠l:=fun e=>by
    subst e;unfold Aj at h;rw[hl]at h;injection h with h
    subst h;cases ho
  unfold Aj at h⊢;exact(World.putObj_heap_other e).trans h⟩
theorem Kq.kc{Bm l T W W'}(h:Kq Bm T l W W'):Kc Bm T W W':=⟨h.size,fun k t cs hb hk ht=>h.same k _ hb hk (.inl rfl) (fun cs' e=>ht (by injection e))⟩
theorem Kq.kf{Bm l B T W W'}(h:Kq Bm T l W W')(hl:l<B)(hm:Bm<B):KeepsFrom B W W':=⟨h.size,fun k o hB ho hc=>h.same k o ho ω (.inr ω) (fun cs e=>by subst e;cases hc)⟩
theorem rY{B Bm T}(W0):OwnFrom B (fun(_:Unit) W=>Kc Bm T W0 W):=fun _ W W' row h hg hr=>h.trans ⟨hg.size,fun k t cs hb _ _=>hb.grown hg (fun e=>by
  obtain⟨_,o,h1,h2⟩:=hr k e;unfold Aj at hb;rw[hb]at h1;injection h1 with h1
  subst h1;cases h2)⟩
def Ht (p q:Int):List Int:=(List.range (q-p).toNat).map fun(k:Nat)=>p+(k:Int)
theorem Ga(p q):(Ht p q).length=(q-p).toNat:=by unfold Ht;simp
theorem Nb{p q}{k:Nat}(h:p+(k:Int)<q):(Ht p q).take (k+1)=(Ht p q).take k++[p+(k:Int)]:=by
  rw[List.take_add_one];unfold Ht;rw[kXX,List.getElem?_range ω];rfl
abbrev I2 (p q:Int):={x:Int//p<=x/\x<q}
def aBV (p:Int×Int):Prop:=(-4096<=p.1/\p.1<4096)/\ -4096<=p.2/\p.2<4096
abbrev xJ:={p:Int×Int//aBV p}
def cG (R:R4)(y:Int):List (Int×Int):=(Ht R.x0 R.x1).map fun x=>(x,y)
def Lb (R:R4):List (Int×Int):=(Ht R.y0 R.y1).flatMap (cG R)
theorem Zg(R y):(cG R y).length=(Ht R.x0 R.x1).length:=fXX _
theorem Rg {α β:Type}{f:α->List β}{c:Nat}(h:∀x,(f x).length=c):∀l:List α,(l.flatMap f).length=l.length*c
  | []=>by simp
  |x::l=>by rw[List.flatMap_cons,aXX,h,Rg h l,hQQ,kZZ];omega
theorem Pk(R):(Lb R).length=(Ht R.y0 R.y1).length*(Ht R.x0 R.x1).length:=Rg (Zg R) _
def uG (p:Int×Int):Value:= .agg #[iV p.1,iV p.2,iV (p.1+1),iV (p.2+1)]
theorem Rx{α:Type}{l k}{x:α}(h:l.take (k+1)=l.take k++[x]):l.take k++[x]<+:l:=by rw[<-h];exact List.take_prefix _ _
theorem YieldAt.any{m}(m'){P l args W R}(h:YieldAt Fence.wide m P l args W R):YieldAt Fence.wide m' P l args W R:=by
  obtain⟨fn,tmps,assign,body,h1,h2,h3⟩:=h;exact⟨fn,tmps,assign,body,h1,h2,fun c cs _=>h3 c cs (fun d h=>by cases h)⟩
theorem fN(m)(hm:1<=m)(l N Bf Bt Bb Bm T p q)(J Jx:List Int->World->Prop)(w)
(cf:Aj w Bf 3 #[iV p])(ct:Aj w Bt 3 #[iV q])(cb:Aj w Bb 3 #[iV 1])(ht:Bt≠Bm)(hb:Bb≠Bm)(hT:3≠T)(hp: -4096<=p/\p<=4096)(hq: -4096<=q/\q<=4096)
(hY:∀pre x W,J pre W->pre.length<N->(p<=x/\x<q)->YieldAt Fence.wide (m-1) prog l #[iV x] W fun e W'=>(e= .returned τ/\J (pre++[x]) W'/\Kc Bm T W W')\/(e= .returned φ/\Jx (pre++[x]) W'))
(hN:(Ht p q).length<=N)(h0:J [] w):
  CallsIn Fence.wide m prog 130 #[.func (.yield l) #[] #[],.pointer (π Bf),.pointer (π Bt),.pointer (π Bb)] w fun e W'=>(∃v,e= .returned v)/\((∃ys,ys=Ht p q/\J ys W')\/(∃pre,pre<+:Ht p q/\Jx pre W')):=by
 have HY:=zH hY;clear hY;have hcf:w.cell? ⟨Bf,0,none⟩=some (iV p):=cf.cell 0;refine callsIn_of_wp func130 rfl trivial ?_ rfl;simp only[ntmps130,List.size_toArray,hQQ,List.length_nil,Nat.reduceAdd,Nat.reduceSub,Array.replicate_succ,Array.replicate_zero,List.push_toArray,List.append_toArray,fQQ,jXX];gi_wp2
 gi_loopw [5] (fun i wr=>∃(k:Nat) (n:Int),n=p+(k:Int)/\(k:Int)<=max 0 (q-p)/\i= iV n/\Kc Bm T w wr/\J ((Ht p q).take k) wr) (fun i _=>(q-intOf i).toNat)
 case atStart=>exact⟨0,p,ω,ω,rfl,Kc.of_ext At,h0⟩
 obtain⟨k,n,hn,hk,rfl,hkc,hj⟩:=hrel;have HK:=zH hkc;have HJ:=zH hj;have HN:=zH hn;have cT:wr.cell? ⟨Bt,0,none⟩=some (iV q):=(hkc.same _ _ _ ct ht hT).cell 0;clear hj hkc hn;by_cases hlt:n<q
 ·have htk:=Nb (p:=p) (q:=q) (k:=k) (by have:=HN.1;omega)
  rw[<-HN.1]at htk;have HTK:=zH htk;obtain⟨fn,tmps,assign,body,hy,hRd⟩:=HY.1 _ n _ HJ.1 (by
   have h1:=(Rx htk).length_le;simp at h1⊢;omega) ⟨by have:=HN.1;omega,hlt⟩
  clear htk;gi_wp2
  refine hRd.mono ?_;rintro e W3 (⟨rfl,hJ3,hk3⟩|⟨rfl,hJx3⟩)
  ·have hk4:=HK.1.trans hk3
   have cT3:W3.cell? ⟨Bt,0,none⟩=some (iV q):=(hk4.same _ _ _ ct ht hT).cell 0;have cB3:W3.cell? ⟨Bb,0,none⟩=some (iV 1):=(hk4.same _ _ _ cb hb hT).cell 0;have w1:IntKind.i64.wrap (q-n)=q-n:=by rw[IntKind.wrap_i64];have:=HN.1;omega
   have w2:IntKind.i64.wrap (n+1)=n+1:=by rw[IntKind.wrap_i64];have:=HN.1;omega
   have hge:¬q-n<1:=ω;gi_wp2
   go_roundw
   case rel=>exact⟨k+1,n+1,by have:=HN.1;omega,by have:=HN.1;omega,rfl,hk4,by rw[Nb (by have:=HN.1;omega),<-HN.1];exact hJ3⟩
   case measure=>simp[intOf];omega
  gi_wp2
  go_end0
  exact⟨⟨_,rfl⟩,.inr ⟨_,Rx HTK.1,hJx3⟩⟩
 have e:(Ht p q).take k=Ht p q:=cQQ (by rw[Ga];have:=HN.1;omega);gi_wp2
 refine⟨fun _ h=>(by cases h),?_⟩;gi_wp2
 go_end0
 exact⟨⟨_,rfl⟩,.inl ⟨_,rfl,by rw[<-e];exact HJ.1⟩⟩
theorem Tt(n)(hn:1<=n)(Bf Bt Bb Bm T p q w)(cf:Aj w Bf 3 #[iV p])(ct:Aj w Bt 3 #[iV q])(cb:Aj w Bb 3 #[iV 1])(ht:Bt≠Bm)(hb:Bb≠Bm)(hT:3≠T)(hp: -4096<=p/\p<=4096)(hq: -4096<=q/\q<=4096):
    SeqStopsK Fence.wide n prog 130 #[.pointer (π Bf),.pointer (π Bt),.pointer (π Bb)] (fun x:I2 p q=>#[Value.int .i64 x.1]) (Kc Bm T) (fun ys=>ys.map Subtype.val=Ht p q) (fun pre=>pre.map Subtype.val<+:Ht p q) (Ht p q).length w:=fun l J Jx W hW _ _ hY h0=>by
  refine(fN n hn l _ Bf Bt Bb Bm T p q (fun s W=>∃xs:List (I2 p q),xs.map Subtype.val=s/\J xs W) (fun s W=>∃xs:List (I2 p q),xs.map Subtype.val=s/\Jx xs W) W (cf.ext hW) (ct.ext hW) (cb.ext hW) ht hb hT hp hq ?_ (Cp _) ⟨[],rfl,h0⟩).mono ?_
  · rintro pre x W2 ⟨xs,rfl,h2⟩ A1 A0
    refine(hY xs ⟨x,A0⟩ W2 h2 (by simpa using A1)).mono ?_;rintro e W3 (⟨rfl,h3,h4⟩|⟨rfl,h3⟩)
    · exact .inl ⟨rfl,⟨_,by simp,h3⟩,h4⟩
    exact .inr ⟨rfl,⟨_,by simp,h3⟩⟩
  rintro e W2 ⟨h1,⟨ys,rfl,xs,h2,h3⟩|⟨pre,h2,xs,h3,h4⟩⟩
  · exact⟨h1,.inl ⟨xs,h2,h3⟩⟩
  exact⟨h1,.inr ⟨xs,by show xs.map Subtype.val<+:Ht p q;rw[h3];exact h2,h4⟩⟩
theorem Tu(p q w):Calls prog 93 #[iV p,iV q,iV 1] w fun e w'=>∃Bf Bt Bb,e= .returned (.func (.func 130) #[] #[.pointer (π Bf),.pointer (π Bt),.pointer (π Bb)])/\Aj w' Bf 3 #[iV p]/\Aj w' Bt 3 #[iV q]/\Aj w' Bb 3 #[iV 1]/\w.heap.size<=Bf/\w.heap.size<=Bt/\w.heap.size<=Bb/\Aa w w':=by
 go_enter func93,ntmps93;go_wp2_with fail;go_ret;have b1:=Aj.new w 3 #[iV p];have b2:=Aj.new (w.alloc (.cells #[iV p] 3)) 3 #[iV q];have b3:=Aj.new ((w.alloc (.cells #[iV p] 3)).alloc (.cells #[iV q] 3)) 3 #[iV 1];have x2:=(Aa.refl (w.alloc (.cells #[iV p] 3))).alloc (.cells #[iV q] 3);have x3:=(Aa.refl ((w.alloc (.cells #[iV p] 3)).alloc (.cells #[iV q] 3))).alloc (.cells #[iV 1] 3);rw[bXX]at b2 b3;rw[bXX]at b3;exact⟨_,_,_,rfl,(b1.ext x2).ext x3,b2.ext x3,b3,Cp _,ω,ω,(((Aa.refl w).alloc _).trans x2).trans x3⟩
def aCJ (Bw Bh Br By B0:Nat)(y:Int)(a':Act)(W:World):Prop:=∃(J:Nat->Value) (Bv:Nat),Aj W Bv 3 #[iV y]/\B0<=Bv/\a'={tmps:=#[J 0,.pointer (π Bw),.pointer (π Bh),.pointer (π Br),.pointer (π By),.pointer (π Bv),J 6,J 7,J 8,J 9,J 10,J 11,J 12,J 13,J 14,J 15,J 16,J 17,J 18,J 19,J 20,J 21,J 22,J 23,J 24,J 25,J 26,J 27,J 28,J 29,J 30,J 31,J 32,J 33,J 34,J 35,J 36,J 37,J 38,J 39,J 40,J 41,J 42,J 43,J 44,J 45,J 46,J 47,J 48,J 49,J 50],defers:=[]}
def aCI (Bw Bh Br By Bv:Nat)(x:Int)(a':Act):Prop:=∃J:Nat->Value,a'={tmps:=#[J 0,.pointer (π Bw),.pointer (π Bh),.pointer (π Br),.pointer (π By),.pointer (π Bv),iV x,J 7,J 8,J 9,J 10,J 11,J 12,J 13,J 14,J 15,J 16,J 17,J 18,J 19,J 20,J 21,J 22,J 23,J 24,J 25,J 26,J 27,J 28,J 29,J 30,J 31,J 32,J 33,J 34,J 35,J 36,J 37,J 38,J 39,J 40,J 41,J 42,J 43,J 44,J 45,J 46,J 47,J 48,J 49,J 50],defers:=[]}
theorem uF(Bw Bh Br By B0 B y a'):OwnFrom B (fun(_:Unit) W=>aCJ Bw Bh Br By B0 y a' W):=by
  rintro _ W W' row ⟨J,Bv,h1,h2⟩ hg hr;exact⟨J,Bv,h1.kept hg (fun k hk=>(hr k hk).2),h2⟩
theorem yE{Bw Bh Br By B0 Bv y a' W}(h1:Aj W Bv 3 #[iV y])(h2:B0<=Bv)(h3:a'={tmps:=#[γ a' 0,.pointer (π Bw),.pointer (π Bh),.pointer (π Br),.pointer (π By),.pointer (π Bv),γ a' 6,γ a' 7,γ a' 8,γ a' 9,γ a' 10,γ a' 11,γ a' 12,γ a' 13,γ a' 14,γ a' 15,γ a' 16,γ a' 17,γ a' 18,γ a' 19,γ a' 20,γ a' 21,γ a' 22,γ a' 23,γ a' 24,γ a' 25,γ a' 26,γ a' 27,γ a' 28,γ a' 29,γ a' 30,γ a' 31,γ a' 32,γ a' 33,γ a' 34,γ a' 35,γ a' 36,γ a' 37,γ a' 38,γ a' 39,γ a' 40,γ a' 41,γ a' 42,γ a' 43,γ a' 44,γ a' 45,γ a' 46,γ a' 47,γ a' 48,γ a' 49,γ a' 50],defers:=[]}):aCJ Bw Bh Br By B0 y a' W:=⟨fun q=>a'.tmps.getD q undef,Bv,h1,h2,h3⟩
theorem yD{Bw Bh Br By Bv x a'}(h3:a'={tmps:=#[γ a' 0,.pointer (π Bw),.pointer (π Bh),.pointer (π Br),.pointer (π By),.pointer (π Bv),iV x,γ a' 7,γ a' 8,γ a' 9,γ a' 10,γ a' 11,γ a' 12,γ a' 13,γ a' 14,γ a' 15,γ a' 16,γ a' 17,γ a' 18,γ a' 19,γ a' 20,γ a' 21,γ a' 22,γ a' 23,γ a' 24,γ a' 25,γ a' 26,γ a' 27,γ a' 28,γ a' 29,γ a' 30,γ a' 31,γ a' 32,γ a' 33,γ a' 34,γ a' 35,γ a' 36,γ a' 37,γ a' 38,γ a' 39,γ a' 40,γ a' 41,γ a' 42,γ a' 43,γ a' 44,γ a' 45,γ a' 46,γ a' 47,γ a' 48,γ a' 49,γ a' 50],defers:=[]}):aCI Bw Bh Br By Bv x a':=⟨fun q=>a'.tmps.getD q undef,h3⟩
def aCX (R:R4)(J:List xJ->World->Prop)(pre:List (I2 R.y0 R.y1))(W:World):Prop:=∃zs:List xJ,zs.map Subtype.val=(pre.map Subtype.val).flatMap (cG R)/\J zs W
theorem jB{B n R J}(h:OwnFrom n J)(hB:n<=B):OwnFrom B (aCX R J):=fun _ W W' row hs hg hr=>by
  obtain⟨zs,h1,h2⟩:=hs;exact⟨zs,h1,h zs W W' row h2 hg (fun r e=>⟨Al hB (hr r e).1,(hr r e).2⟩)⟩
def aCW (R:R4)(J:List xJ->World->Prop)(zs:List xJ)(y:Int)(pre:List (I2 R.x0 R.x1))(W:World):Prop:=∃us:List xJ,us.map Subtype.val=zs.map Subtype.val++(pre.map Subtype.val).map (fun x=>(x,y))/\J us W
theorem uE{B n R J}(h:OwnFrom n J)(hB:n<=B)(zs y):OwnFrom B (aCW R J zs y):=fun _ W W' row hs hg hr=>by
  obtain⟨us,h1,h2⟩:=hs;exact⟨us,h1,h us W W' row h2 hg (fun r e=>⟨Al hB (hr r e).1,(hr r e).2⟩)⟩
theorem lA(m)(hm:9<=m)(l Br Bw Bh Bm T R J w)
(cr:Aj w Br 35 #[iV R.x0,iV R.y0,iV R.x1,iV R.y1])(cw:Aj w Bw 3 #[iV 1])(ch:Aj w Bh 3 #[iV 1])(hr:Br≠Bm)(hw:Bw≠Bm)(hh:Bh≠Bm)(hT:3≠T)(hT2:35≠T)(hT3:64≠T)
(hR:((-4096<=R.x0/\R.x0<=4096)/\(-4096<=R.y0/\R.y0<=4096)/\(-4096<=R.x1/\R.x1<=4096)/\(-4096<=R.y1/\R.y1<=4096)))(hl:l<w.heap.size)(hBm:Bm<w.heap.size)
(hJ:OwnFrom w.heap.size J)
(hY:∀pre x W,J pre W->pre.length<(Lb R).length->YieldAt Fence.wide (m-1) prog l #[uG x.1] W fun e W'=>e= .returned τ/\J (pre++[x]) W'/\Kq Bm T l W W')(h0:J [] w):
  CallsIn Fence.wide m prog 92 #[.func (.yield l) #[] #[],.pointer (π Bw),.pointer (π Bh),.pointer (π Br)] w fun e W'=>(∃v,e= .returned v)/\∃xs:List xJ,xs.map Subtype.val=Lb R/\J xs W':=by
 have HY:=zH hY;have HJ:=zH hJ;clear hY hJ;have c1:w.cell? ⟨Bw,0,none⟩=some (iV 1):=cw.cell 0;have c2:w.cell? ⟨Bh,0,none⟩=some (iV 1):=ch.cell 0;have c3:w.cell? ⟨Br,1,none⟩=some (iV R.y0):=cr.cell 1;have c4:w.cell? ⟨Br,3,none⟩=some (iV R.y1):=cr.cell 3;have xa:=(Aa.refl w).alloc (.cells #[.func (.yield l) #[] #[]] 64);have d1:=xa.get c1;have d2:=xa.get c2;have d3:=xa.get c3;have d4:=xa.get c4;have bY0:=Aj.new w 64 #[.func (.yield l) #[] #[]];clear c1 c2 c3 c4;have hm1:1<=m:=ω
 refine callsIn_of_wp_marks func92 rfl trivial ?_ rfl;simp only[ntmps92,List.size_toArray,hQQ,List.length_nil,Nat.reduceAdd,Nat.reduceSub,Array.replicate_succ,Array.replicate_zero,List.push_toArray,List.append_toArray,fQQ,jXX];gi_wp2_with (refine⟨trivial,?_⟩;gi_at_call 93;refine(callsIn_wide.2 (Tu R.y0 R.y1 _)).mono ?_;rintro e W0 ⟨Bf,Bt,Bb,rfl,bF,bT,bB,sF,sT,sB,hx0⟩)
 have hx1:=xa.trans hx0;have bR:=cr.ext hx1;have bW:=cw.ext hx1;have bH:=ch.ext hx1;have bY:=bY0.ext hx0;have hs0:w.heap.size<=W0.heap.size:=hx1.size;have sF2:w.heap.size+1<=Bf:=by rw[bXX]at sF;exact sF
 have sT2:w.heap.size+1<=Bt:=by rw[bXX]at sT;exact sT
 have sB2:w.heap.size+1<=Bb:=by rw[bXX]at sB;exact sB
 have j0:J [] W0:=by
  refine HJ.1 [] w W0 none h0 (Cx _ hx1) (fun r e=>by cases e)
 generalize w.heap.size=By at*;clear sF sT sB d1 d2 d3 d4;have yl:By<W0.heap.size:=bY.lt;refine wpIn_rangeFunc_ownH rfl ω (gf:=130) (lb:=#[.pointer (π Bf),.pointer (π Bt),.pointer (π Bb)]) rfl trivial (enters_of func130 kR rfl)
  (Tt (m-1) ω Bf Bt Bb Bm T R.y0 R.y1 W0 bF bT bB ω ω hT hR.2.1 hR.2.2.2) (fun h k=>Kc.trans h k) (fun W l o o' _ h1 h2 _=>Kc.put W l o o' h1 h2) (Below.refl _ _) (fun _=>rfl)
  (fun pre W=>aCX R J pre W/\Kc Bm T W0 W) (fun _ _ _=>False)
  (OwnFrom.and (jB HJ.1 hs0) (fun _ W W' row h hg hr=>rY W0 () W W' row h hg hr)) (fun _ _ _ _ _ hs _ _=>hs)
  ⟨⟨[],rfl,j0⟩,Kc.of_ext At⟩ (fun y a' W=>aCJ Bw Bh Br By W0.heap.size y.1 a' W) (fun y a'=>uF _ _ _ _ _ _ y.1 a') ?assign ?body ?done ?stop
 case assign=>
  rintro l1 pre y W K ⟨hj,hkc⟩ hK;have HK:=zH hK;have hxn:=(Aa.refl W).alloc (.cells #[iV y.1] 3);have bN:=Aj.new W 3 #[iV y.1];gi_wp2
  exact HK.1 _ _ ((KeepsOthers.alloc _ _).from _) (Kc.of_ext hxn) ⟨(jB HJ.1 hs0).alloc _ hj,hkc.trans (Kc.of_ext hxn)⟩ (yE bN hkc.size rfl)
 case body=>
  rintro l1 pre y a' W hl1 ⟨r1,hr1⟩ ⟨⟨zs,hz,hj⟩,hkc⟩ ⟨Jv,Bv,bV,sV,rfl⟩ hlen;have HZ:=zH hz;have bR2:=hkc.same _ _ _ bR ω hT2;have bW2:=hkc.same _ _ _ bW ω hT;have bH2:=hkc.same _ _ _ bH ω hT;have bY2:=hkc.same _ _ _ bY ω hT3;have e1:W.cell? ⟨Br,0,none⟩=some (iV R.x0):=bR2.cell 0;have e2:W.cell? ⟨Br,2,none⟩=some (iV R.x1):=bR2.cell 2;have e3:W.cell? ⟨Bw,0,none⟩=some (iV 1):=bW2.cell 0;have hm2:1<=m-1-1:=ω
  have hlw:l1<W.heap.size:=(Array.getElem?_eq_some_iff.1 hr1).1;clear hz;gi_wp2_with (refine⟨trivial,?_⟩;gi_at_call 93;refine(CallsIn.inRound l1 (callsIn_wide.2 (Tu R.x0 R.x1 _))).mono ?_;rintro e W2 ⟨Cf,Ct,Cb,rfl,cF,cT,cB,qF,qT,qB,hx2⟩)
  have hr2:W2.heap[l1]?=some (.loop r1):=(hx2.block _ hlw).trans hr1;have bV2:=bV.ext hx2;have bR3:=bR2.ext hx2;have bW3:=bW2.ext hx2;have bH3:=bH2.ext hx2;have bY3:=bY2.ext hx2;have hs2:W0.heap.size<=W2.heap.size:=Al hkc.size hx2.size;have j2:J zs W2:=HJ.1 zs W W2 none hj (Cx _ hx2) (fun r e=>by cases e);have q0:W0.heap.size<=W.heap.size:=hkc.size;clear e1 e2 e3;refine wpIn_rangeFunc_ownN (l₀:=l1) (r₀:=r1) rfl hr2 ω (gf:=130) (lb:=#[.pointer (π Cf),.pointer (π Ct),.pointer (π Cb)]) rfl trivial (enters_of func130 kR rfl)
   ((Tt (m-1-1-1) ω Cf Ct Cb Bm T R.x0 R.x1 W2 cF cT cB ω ω hT hR.1 hR.2.2.1).inRound l1) (fun h k=>Kc.trans h k) (fun W l o o' _ h1 h2 _=>Kc.put W l o o' h1 h2) (Below.refl _ _) (fun _=>rfl)
   (fun pre' W'=>aCW R J zs y.1 pre' W'/\Kc Bm T W2 W'/\KeepsFrom W0.heap.size W2 W') (fun _ _ _=>False)
   (OwnFrom.and (uE HJ.1 (Al hs0 hs2) zs y.1) (OwnFrom.and (fun _ W W' row h hg hr=>rY W2 () W W' row h hg hr) (ownFrom_keepsFrom (Cp _)))) (fun _ _ _ _ _ hs _ _=>hs)
   ⟨⟨zs,by simp,j2⟩,Kc.of_ext At,KeepsFrom.refl _ _⟩ (fun x a' _=>aCI Bw Bh Br By Bv x.1 a') (fun x a'=>ownFrom_pure _ (fun _=>aCI Bw Bh Br By Bv x.1 a')) ?assign2 ?body2 ?done2 ?stop2
  case assign2=>
   rintro l2 pre' x W' K hi hK;have HK:=zH hK;clear hK;gi_wp2
   exact HK.1 _ _ (KeepsFrom.refl _ _) (Kc.of_ext At) hi (yD rfl)
  case body2=>
   rintro l2 pre' x a'' W' hl2 ⟨r2,hr3⟩ ⟨⟨us,hu,hju⟩,hkc2,hkf⟩ ⟨Jw,rfl⟩ hlen2;have HU:=zH hu;have HF:=zH hkf;clear hu hkf;have hyv:=y.2;have hxv:=x.2;have ox:aBV (x.1,y.1):=⟨⟨by have:=hR.1;omega,by have:=hR.2.2.1;omega⟩,by have:=hR.2.1;omega,by have:=hR.2.2.2;omega⟩;have hll:us.length<(Lb R).length:=by
    rw[Pk];have h1:=congrArg List.length HU.1;have h2:=congrArg List.length HZ.1;rw[aXX,fXX,fXX,fXX,fXX]at h1;rw[fXX,Rg (Zg R),fXX]at h2;have h3:=gQQ (Ht R.x0 R.x1).length (show pre.length+1<=(Ht R.y0 R.y1).length from hlen);rw[kZZ,Nat.one_mul]at h3;omega
   have bRa:=hkc2.same _ _ _ bR3 ω hT2;have bWa:=hkc2.same _ _ _ bW3 ω hT;have bHa:=hkc2.same _ _ _ bH3 ω hT;have bYa:=hkc2.same _ _ _ bY3 ω hT3;have bVa:=hkc2.same _ _ _ bV2 ω hT;have f1:W'.cell? ⟨Bv,0,none⟩=some (iV y.1):=bVa.cell 0;have f2:W'.cell? ⟨Bw,0,none⟩=some (iV 1):=bWa.cell 0;have f3:W'.cell? ⟨Bh,0,none⟩=some (iV 1):=bHa.cell 0;have f4:W'.cell? ⟨Br,2,none⟩=some (iV R.x1):=bRa.cell 2;have f5:W'.cell? ⟨Br,3,none⟩=some (iV R.y1):=bRa.cell 3;have f6:W'.cell? ⟨By,0,none⟩=some (.func (.yield l) #[] #[]):=bYa.cell 0;have xt:=(Aa.refl W').alloc (.cells #[iV x.1,iV y.1,iV (x.1+1),iV (y.1+1)] 35);have g6:=xt.get f6;have w1:IntKind.i64.wrap (R.x1-x.1)=R.x1-x.1:=by rw[IntKind.wrap_i64];have:=hR;omega
   have w2:IntKind.i64.wrap (R.y1-y.1)=R.y1-y.1:=by rw[IntKind.wrap_i64];have:=hR;omega
   have w3:IntKind.i64.wrap (x.1+1)=x.1+1:=by rw[IntKind.wrap_i64];have:=ox;omega
   have w4:IntKind.i64.wrap (y.1+1)=y.1+1:=by rw[IntKind.wrap_i64];have:=ox;omega
   have m1:min 1 (R.x1-x.1)=1:=ω;have m2:min 1 (R.y1-y.1)=1:=ω;have jt:J us (W'.alloc (.cells #[iV x.1,iV y.1,iV (x.1+1),iV (y.1+1)] 35)):=HJ.1 us _ _ none hju (Cx _ xt) (fun r e=>by cases e);obtain⟨fn,tmps,assign,body,hy,hRd⟩:=YieldAt.any (m-1-1-1-1-1) (HY.1 us ⟨(x.1,y.1),ox⟩ _ jt hll);dsimp only[uG]at hy
   gi_wp2
   refine⟨fun _=>ω,RoundIn.mono (show RoundIn ((Fence.wide.inRound l1).inRound l2) _ _ _ _ _ _ _ _ _ from hRd) ?_⟩;rintro e W3 ⟨rfl,hJ3,hk3⟩;have hq3:=(Kq.of_ext (Bm:=Bm) (T:=T) (l:=l) xt).trans hk3;gi_wp2
   exact⟨hq3.kf ω ω,hq3.kc,⟨us++[⟨(x.1,y.1),ox⟩],by rw[hXX,HU.1];simp,hJ3⟩,hkc2.trans hq3.kc,HF.1.trans (hq3.kf ω ω)⟩
  case done2=>
   rintro ps W' hps ⟨⟨us,hu,hju⟩,hkc2,hkf⟩;gi_wp2
   have hk0:KeepsFrom W0.heap.size W W2:=⟨hx2.size,fun k o _ hk _=>(hx2.block _ (Array.getElem?_eq_some_iff.1 hk).1).trans hk⟩;exact⟨hk0.trans hkf,(Kc.of_ext hx2).trans hkc2,⟨us,by rw[hu,HZ.1,hps,hXX,List.flatMap_append];simp[cG],hju⟩,hkc.trans ((Kc.of_ext hx2).trans hkc2)⟩
  rintro c pre' W' _ h;exact h.elim
 case done=>
  rintro D xs W hD hxs ⟨⟨zs,hz,hj⟩,hkc⟩ hK;gi_wp2
  refine⟨by simp,.inl ⟨_,_,rfl,run_takeDeferred hK,?_⟩⟩;exact⟨_,results_none rfl _ _ _,⟨_,rfl⟩,zs,by rw[hz,hxs];rfl,HJ.1.putObj _ hj (Al hs0 hD) hK rfl⟩
 rintro D c pre W _ _ h _;exact h.elim
theorem kZ(R:R4)(w):Calls prog 51 #[.agg #[iV R.x0,iV R.y0,iV R.x1,iV R.y1],iV 1,iV 1] w fun e w'=>∃Br Bw Bh,e= .returned (.func (.func 92) #[] #[.pointer (π Bw),.pointer (π Bh),.pointer (π Br)])/\
  Aj w' Br 35 #[iV R.can.x0,iV R.can.y0,iV R.can.x1,iV R.can.y1]/\Aj w' Bw 3 #[iV 1]/\Aj w' Bh 3 #[iV 1]/\w.heap.size<=Br/\w.heap.size<=Bw/\w.heap.size<=Bh/\Br<w'.heap.size/\Bw<w'.heap.size/\Bh<w'.heap.size/\Aa w w':=by
 go_enter func51,ntmps51;have H0:=zH (Hp.start w);go_upto_region 0 with fail;apply wl;apply Ca 35 [iV R.x0,iV R.y0,iV R.x1,iV R.y1] H0.1;intro X1 w2 H3 _;apply Ca 3 [iV 1] H3.1;intro X6 w7 H8 _;apply Ca 3 [iV 1] H8.1;intro A2 A6 A1 _;apply zq (.nilFunc);go_upto_region 1 with fail;apply wl;refine Cg A1.1 _ ?_;refine aC A1.1 (Uj R _) ?_;intro A5 A3 _;apply Cm 0 [iV R.can.x0,iV R.can.y0,iV R.can.x1,iV R.can.y1] A3.1;intro A4 A0 _;go_upto_region 2 with fail;apply wl;refine Cc Ah _ _ ?_;go_wp2_with fail;go_ret;exact⟨X1,X6,A2,rfl,A0.1.blk (i:=0) (by rfl),A0.1.blk (i:=1) (by rfl),A0.1.blk (i:=2) (by rfl),A0.1.ge (i:=0) (by rfl) rfl,A0.1.ge (i:=1) (by rfl) rfl,A0.1.ge (i:=2) (by rfl) rfl,A0.1.lt (i:=0) (by rfl) rfl,A0.1.lt (i:=1) (by rfl) rfl,A0.1.lt (i:=2) (by rfl) rfl,A0.1.ext⟩
theorem kY(n)(hn:9<=n)(Br Bw Bh Bm T R w)
(cr:Aj w Br 35 #[iV R.x0,iV R.y0,iV R.x1,iV R.y1])(cw:Aj w Bw 3 #[iV 1])(ch:Aj w Bh 3 #[iV 1])(hr:Br≠Bm)(hw:Bw≠Bm)(hh:Bh≠Bm)(hT:3≠T)(hT2:35≠T)(hT3:64≠T)
(hR:((-4096<=R.x0/\R.x0<=4096)/\(-4096<=R.y0/\R.y0<=4096)/\(-4096<=R.x1/\R.x1<=4096)/\(-4096<=R.y1/\R.y1<=4096)))(hBm:Bm<w.heap.size):
    aBD n prog 92 #[.pointer (π Bw),.pointer (π Bh),.pointer (π Br)] (fun p:xJ=>#[uG p.1]) Bm T (Lb R).length (fun xs=>xs.map Subtype.val=Lb R) w:=fun l J W hW _ hlt hJ hY h0=>
  lA n hn l Br Bw Bh Bm T R J W (cr.ext hW) (cw.ext hW) (ch.ext hW) hr hw hh hT hT2 hT3 hR hlt (kQQ hBm hW.size) hJ hY h0
end
end Go.Proofs.YtlipfipniibpoaaGreat
