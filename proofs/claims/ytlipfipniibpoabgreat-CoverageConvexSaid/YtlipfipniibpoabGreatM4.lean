import Derived.Deep.DeepCutAuto
import Derived.Deep.Upon
import Derived.Deep.LoopGhost
import Derived.RangeFuncNested
import Derived.RangeFuncBound
import Derived.RangeFuncCalls
import Derived.RangeFuncLeaves
import Derived.Shelf.Abstract
import Derived.Shelf.RegionOpen
import Derived.OwnWalkIn
import Derived.TacticsInMore
import Derived.LoopNIn
import Derived.LoopIn
import Derived.Maps.AppendAt
import Derived.OrdersIn
import Derived.Test.YtlipfipniibpoabGreatM3
set_option maxRecDepth 100000
set_option maxHeartbeats 4000000
namespace Go.Proofs.YtlipfipniibpoabGreat
open Go.RowKit
open Go.Proofs.Tryz
section
attribute [local go_sem ↓] Go.wp_at_zero Go.wp_at_succ Ae Ad
theorem Yg {q r:Rat}:Dh q r<=0↔q<=r:=by rw[<-Rat.not_lt,<-Ia];omega
theorem Yh {q r:Rat}:0<=Dh q r↔r<=q:=by rw[<-Rat.not_lt,<-rcmp_lt];omega
theorem Hk.own {L:Nat}{w w':World}{cs:Array Value}{q:Rat}(h:Hk L w cs q){g:Nat}{t:TypeId}{zs:Array Value}(hb:Ac w g t zs)(hn:Rz zs)(o:Bi g w w'):Hk L w' cs q:=by
  obtain⟨a,h1,h2⟩:=h;exact⟨a,h1,h2.own hb hn o⟩
theorem lZ (L:Nat)(ca cb:Array Value)(p q:Rat)(k:Int)(w:World)(ha:Hk L w ca p)(hb:Hk L w cb q)(hL:L<=60000)(hz:(Dh p q=k)):
  Calls prog 135 #[.agg ca,.agg cb,iV k] w fun e w'=>∃c,e= .returned (.agg c)/\Hk L w' c p/\Aa w w':=by
 have ZA:=ha.size;have ZB:=hb.size;have OA:=ha.one;have OB:=hb.one;have Fa:=zH ha;have Fb:=zH hb;clear ha hb;go_enter func135,ntmps135
 go_upto_region 1 with fail;have A1:Ac (((w.alloc (.cells ca 58)).alloc (.cells cb 58)).alloc (.cells z4 58)) (w.heap.size) 58 ca:=Ac.ext (Ac.new_at w _ (by simp) _ _) ((Aq.alloc _).alloc _);have A0:Ac (((w.alloc (.cells ca 58)).alloc (.cells cb 58)).alloc (.cells z4 58)) (w.heap.size+1) 58 cb:=Ac.ext (Ac.new_at (w.alloc (.cells ca 58)) _ (by simp) _ _) (Aq.alloc _);have A7:Ac (((w.alloc (.cells ca 58)).alloc (.cells cb 58)).alloc (.cells z4 58)) (w.heap.size+1+1) 58 z4:=Ac.ext (Ac.new_at ((w.alloc (.cells ca 58)).alloc (.cells cb 58)) _ (by simp) _ _) Aq;have hE:Aa w (((w.alloc (.cells ca 58)).alloc (.cells cb 58)).alloc (.cells z4 58)):=(((Aq.alloc _).alloc _).alloc _);have A9:w.heap.size<=w.heap.size+1+1:=ω
 have A4:w.heap.size≠w.heap.size+1+1:=ω;have A3:w.heap.size+1≠w.heap.size+1+1:=ω;generalize (((w.alloc (.cells ca 58)).alloc (.cells cb 58)).alloc (.cells z4 58))=wa at*;generalize w.heap.size+1+1=R0 at*;generalize w.heap.size+1=bx1 at*;have E1:=zH hE;have A2:=zH A1;have A6:=zH A0;have B0:=zH A7;clear hE A1 A0 A7;refine wp_region_lit ?_;refine pL A2.1 underlying58 (by rw[show(ca:Array Value).size=4 from ZA];kernel_rfl) ?_;try simp only[ζ]
 refine pL A6.1 underlying58 (by rw[show(cb:Array Value).size=4 from ZB];kernel_rfl) ?_;try simp only[ζ]
 refine Gs (by rfl) (by go_simp) (Ga (Fa.1.ext E1.1) (Fb.1.ext E1.1) ω) ?_;rintro e w2 ⟨rfl,hx⟩;have E2:=zH hx;clear hx;refine⟨_,rfl,?_⟩;try simp only[ζ]
 refine pV (w':=w2) ?_;try simp only[ζ]
 refine pV (w':=w2) ?_;try simp only[ζ]
 go_upto_region 2 with fail;refine wp_region_lit ?_;refine pL (A2.1.ext E2.1) underlying58 (by rw[show(ca:Array Value).size=4 from ZA];kernel_rfl) ?_;try simp only[ζ]
 have o1:=Bi.setCells w2 R0 ca;have A5:=(B0.1.ext E2.1);refine pO ca A5 (Eq.trans ZA rfl) (by rw[show(ca:Array Value).size=4 from ZA];kernel_rfl) OA ?_
 (try simp only[Act.put])
 have A8:=A5.setCells ca (Eq.trans ZA rfl);go_wp2_with fail;refine bodyPost_ret (v:= .agg ca) ?_ rfl ⟨_,rfl,((Fa.1.ext (tr E1 E2).1).own A5 Xf o1),(o1.ext (tr E1 E2).1 A9)⟩;exact Ak rfl rfl (A8.loadVar rfl rfl (by rw[ZA];rfl))
theorem lY (L:Nat)(ca cb:Array Value)(p q:Rat)(k:Int)(w:World)(ha:Hk L w ca p)(hb:Hk L w cb q)(hL:L<=60000)(hz:¬(Dh p q=k)):
  Calls prog 135 #[.agg ca,.agg cb,iV k] w fun e w'=>∃c,e= .returned (.agg c)/\Hk L w' c q/\Aa w w':=by
 have ZA:=ha.size;have ZB:=hb.size;have OA:=ha.one;have OB:=hb.one;have Fa:=zH ha;have Fb:=zH hb;clear ha hb;go_enter func135,ntmps135
 go_upto_region 1 with fail;have A1:Ac (((w.alloc (.cells ca 58)).alloc (.cells cb 58)).alloc (.cells z4 58)) (w.heap.size) 58 ca:=Ac.ext (Ac.new_at w _ (by simp) _ _) ((Aq.alloc _).alloc _);have A0:Ac (((w.alloc (.cells ca 58)).alloc (.cells cb 58)).alloc (.cells z4 58)) (w.heap.size+1) 58 cb:=Ac.ext (Ac.new_at (w.alloc (.cells ca 58)) _ (by simp) _ _) (Aq.alloc _);have A7:Ac (((w.alloc (.cells ca 58)).alloc (.cells cb 58)).alloc (.cells z4 58)) (w.heap.size+1+1) 58 z4:=Ac.ext (Ac.new_at ((w.alloc (.cells ca 58)).alloc (.cells cb 58)) _ (by simp) _ _) Aq;have hE:Aa w (((w.alloc (.cells ca 58)).alloc (.cells cb 58)).alloc (.cells z4 58)):=(((Aq.alloc _).alloc _).alloc _);have A9:w.heap.size<=w.heap.size+1+1:=ω
 have A4:w.heap.size≠w.heap.size+1+1:=ω;have A3:w.heap.size+1≠w.heap.size+1+1:=ω;generalize (((w.alloc (.cells ca 58)).alloc (.cells cb 58)).alloc (.cells z4 58))=wa at*;generalize w.heap.size+1+1=R0 at*;generalize w.heap.size+1=bx1 at*;have E1:=zH hE;have A6:=zH A1;have A2:=zH A0;have B0:=zH A7;clear hE A1 A0 A7;refine wp_region_lit ?_;refine pL A6.1 underlying58 (by rw[show(ca:Array Value).size=4 from ZA];kernel_rfl) ?_;try simp only[ζ]
 refine pL A2.1 underlying58 (by rw[show(cb:Array Value).size=4 from ZB];kernel_rfl) ?_;try simp only[ζ]
 refine Gs (by rfl) (by go_simp) (Ga (Fa.1.ext E1.1) (Fb.1.ext E1.1) ω) ?_;rintro e w2 ⟨rfl,hx⟩;have E2:=zH hx;clear hx;refine⟨_,rfl,?_⟩;try simp only[ζ]
 refine pV (w':=w2) ?_;try simp only[ζ]
 refine pV (w':=w2) ?_;try simp only[ζ]
 go_upto_region 3 with fail;refine wp_region_lit ?_;refine pL (A2.1.ext E2.1) underlying58 (by rw[show(cb:Array Value).size=4 from ZB];kernel_rfl) ?_;try simp only[ζ]
 have o1:=Bi.setCells w2 R0 cb;have A5:=(B0.1.ext E2.1);refine pO cb A5 (Eq.trans ZB rfl) (by rw[show(cb:Array Value).size=4 from ZB];kernel_rfl) OB ?_
 (try simp only[Act.put])
 have A8:=A5.setCells cb (Eq.trans ZB rfl);go_wp2_with fail;refine bodyPost_ret (v:= .agg cb) ?_ rfl ⟨_,rfl,((Fb.1.ext (tr E1 E2).1).own A5 Xf o1),(o1.ext (tr E1 E2).1 A9)⟩;exact Ak rfl rfl (A8.loadVar rfl rfl (by rw[ZB];rfl))
theorem eA {q r:Rat}:Dh q r=1↔r<q:=by rw[<-Ia];unfold Dh;rw[Int.sign_eq_one_iff_pos,Int.sign_pos_iff]
theorem Yf {q r:Rat}:Dh q r= -1↔q<r:=by rw[<-rcmp_lt];unfold Dh;rw[Int.sign_eq_neg_one_iff_neg,Int.sign_neg_iff]
theorem qC (L:Nat)(ca cb:Array Value)(p f:Rat)(w:World)(ha:Hk L w ca p)(hb:Hk L w cb f)(hL:L<=60000):
    Calls prog 135 #[.agg ca,.agg cb,iV 1] w fun e w'=>∃c,e= .returned (.agg c)/\Hk L w' c (if p<f then f else p)/\Aa w w':=by
  by_cases h:Dh p f=1
  · have h2:=eA.1 h
    rw[if_neg (by grind)];exact lZ L ca cb p f 1 w ha hb hL h
  have h2:¬f<p:=fun k=>h (eA.2 k)
  have e:(if p<f then f else p)=f:=by grind
  rw[e];exact lY L ca cb p f 1 w ha hb hL h
theorem jS (L:Nat)(ca cb:Array Value)(q t:Rat)(w:World)(ha:Hk L w ca q)(hb:Hk L w cb t)(hL:L<=60000):
    Calls prog 135 #[.agg ca,.agg cb,iV (-1)] w fun e w'=>∃c,e= .returned (.agg c)/\Hk L w' c (if t<q then t else q)/\Aa w w':=by
  by_cases h:Dh q t= -1
  · have h2:=Yf.1 h
    rw[if_neg (by grind)];exact lZ L ca cb q t (-1) w ha hb hL h
  have h2:¬q<t:=fun k=>h (Yf.2 k)
  have e:(if t<q then t else q)=t:=by grind
  rw[e];exact lY L ca cb q t (-1) w ha hb hL h
end
namespace spn
attribute [local go_sem ↓] Go.wp_at_zero Go.wp_at_succ Ae Ad
theorem insertion_any {α:Type}(enc:α->List Value)(hk:∀x,(enc x).length=8)(h1:∀x,∀v,v∈enc x->v.oneCell'=true)(lt:α->α->Bool)(W:Stb.Wk lt)(w0 w:World)(g cap a b N:Nat)(T:TypeId)(rest:List Value)(P X S:List α)(hc:(∀wr,Bi g w0 wr->∀x y:α,Calls prog 163 #[.agg (enc x).toArray,.agg (enc y).toArray] wr fun e w'=>∃z:Int,e= .returned (iV z)/\(z<0↔lt x y=true)/\Aa wr w'))(hst:Sw w0 w g T enc rest (P++(X++S)))(ha:P.length=a)(hb:a+X.length=b)(hN:(P++(X++S)).length=N)(hsz:N<=100000):
  Calls prog 198 #[.slice (π g) N cap,iV a,iV b,.func (.func 163) #[] #[]] w fun e w'=>e= .returned (.tuple #[])/\Sw w0 w' g T enc rest (P++(Stb.stab lt X++S)):=by
 have A6:P.length+(X.length+S.length)=N:=by rw[<-hN];simp
 have HC:=zH hc;have B0:=zH (show Sw w0 w g T enc rest (P++(Stb.stab lt (X.take 1)++(X.drop 1++S)))by rw[Stb.stab_take1,<-jQQ (X.take 1),List.take_append_drop];exact hst);have b1:a<=100000:=ω
 have b2:b<=100000:=ω;have C7:=zH ha;have D0:=zH A6;have HB:=zH hb;clear hst hc ha hb hN A6;go_enter func198,ntmps198
 go_wp2_with fail;go_loopg [8] (b+1-a) (fun c v wr=>∃t i:Nat,1<=t/\(t<=X.length\/t=1)/\i=a+t/\c=b+1-i+1/\v= iV i/\Sw w0 wr g T enc rest (P++(Stb.stab lt (X.take t)++(X.drop t++S))))
 case atStart=>exact⟨1,a+1,Cl _,Or.inr rfl,rfl,by have:=HB.1;omega,by go_num,B0.1⟩
 clear B0;obtain⟨t,i,D8,D1,hi,rfl,rfl,hst⟩:=hrel;have D4:=HB.1;have E0:i<=100001:=by have:=D0.1;have:=C7.1;omega
 by_cases hlt:i<b
 ·have D2:(i:Int)<(b:Int):=ω
  have B5:t<X.length:=ω;obtain⟨y,hy⟩:∃y,X[t]=y:=⟨_,rfl⟩;have C4:X.drop t=y::X.drop (t+1):=by rw[<-hy];exact List.drop_eq_getElem_cons B5
  have C1:X.take (t+1)=X.take t++[y]:=by rw[iQQ B5,hy]
  have C6:=zH (show Stb.stab lt (X.take (t+1))=Stb.ins lt (Stb.stab lt (X.take t)) y by rw[C1,Stb.stab_snoc]);have B1:=zH (Stb.stab_srt W (X.take t));have C5:(Stb.stab lt (X.take t)).length=t:=by rw[Stb.stab_len,dXX];omega
  rw[C4]at hst;generalize Stb.stab lt (X.take t)=L at*;have B2:=zH C5;have B6:=zH B5;have HI:=zH hi;have A9:=zH (show Sw w0 wr g T enc rest (P++(L.take t++y::(L.drop t++(X.drop (t+1)++S))))by rw[cXX ω,List.drop_of_length_le ω];exact hst);clear hst C4 C1 hy C5 hi D1 D4;go_wp2_with fail
  go_loopg [9] t (fun c v wr=>∃u j:Nat,u<=t/\c=0+u/\j=a+u/\v= iV j/\(∀z,z∈L.drop u->lt y z=true)/\Sw w0 wr g T enc rest (P++(L.take u++y::(L.drop u++(X.drop (t+1)++S)))))
  case atStart=>exact⟨t,i,Cl _,ω,HI.1,rfl,by intro z hz;rw[List.drop_of_length_le (by have:=B2.1;omega)]at hz;simp at hz,A9.1⟩
  clear A9;obtain⟨u,j,hu,rfl,hj,rfl,A7,hst⟩:=hrel;have A3:=zH A7;have A0:=zH hst;have D9:j<=100000:=by have:=HI.1;omega
  have wj:IntKind.i64.wrap (j:Int)=(j:Int):=by rw[IntKind.wrap_i64];omega
  have C2:(P++(L.take u++y::(L.drop u++(X.drop (t+1)++S)))).length=N:=by
   have h1:=D0.1;have h2:=B6.1;have h3:=B2.1
   simp;omega
  have HJ:=zH hj;have HU:=zH hu;clear A7 hst;by_cases hu0:0<u
  ·obtain⟨p,hp⟩:∃p,p+1=j:=⟨j-1,ω⟩
   obtain⟨q,hq⟩:∃q,q+1=u:=⟨u-1,ω⟩;have C3:(a:Int)<(j:Int):=ω
   have e1:(j:Int)-1=(p:Int):=ω;have wp:IntKind.i64.wrap (p:Int)=(p:Int):=by rw[IntKind.wrap_i64];omega
   have D5:=C7.1;have A5:q<L.length:=by have:=B2.1;omega
   have gx:(P++(L.take u++y::(L.drop u++(X.drop (t+1)++S))))[p]?=some L[q]:=by
    have h:=mA P (L.take u) (y::(L.drop u++(X.drop (t+1)++S))) q (by rw[dXX];omega);rw[show P.length+q=p by omega]at h;rw[h,List.getElem?_take,if_pos ω];exact aQQ A5
   have gy:(P++(L.take u++y::(L.drop u++(X.drop (t+1)++S))))[j]?=some y:=by
    rw[dQQ ω,dQQ (by rw[dXX];omega),dXX,show j-P.length-min u L.length=0 by have:=B2.1;omega];rfl
   have A8:=zH (show aEE (P++(L.take u++y::(L.drop u++(X.drop (t+1)++S)))) j p=P++(L.take q++y::(L.drop q++(X.drop (t+1)++S)))by
    have h:=Xs P L (X.drop (t+1)++S) y q A5;rw[show P.length+q=p by omega,hp,hq]at h;exact h)
   have D7:=zH (show∀z,z∈L.drop q->z=L[q]\/z∈L.drop u by
    intro z hz;rw[List.drop_eq_getElem_cons A5,hq]at hz;simpa using hz)
   have A2:=zH (fun h=>Stb.ins_stop W (y:=y) B1.1 A3.1 (by have:=B2.1;omega) (Or.inr ⟨q,hq,A5,h⟩));have bj:(j:Int)<(N:Int):=by rw[<-C2];have:=(List.getElem?_eq_some_iff.1 gy).1;omega
   have bp:(p:Int)<(N:Int):=ω;have HE:=zH (iD gy gx);have C9:=zH (List.getElem?_eq_some_iff.1 gy).1;have C8:=zH (List.getElem?_eq_some_iff.1 gx).1;have Hx:=zH gx;have Hy:=zH gy;generalize L[q]=x at*
   generalize hrow:P++(L.take u++y::(L.drop u++(X.drop (t+1)++S)))=row at*;have HQ:=zH (And.intro hq hp);have B7:=zH hrow;clear gx gy A5 hu hq hp hj D5 hrow;go_upto_region 4 with fail
   refine wp_region_held_drew (S:=fun x=>Aa wr x) (by kernel_rfl) Aq.drew (fun _=> ?_);refine zv 0 (bs 17 1) Aq.drew ?_;refine zv 1 (bs 17 3) Aq.drew ?_;refine zv 2 (bs 17 7) Aq.drew ?_;refine zv 3 (bs 17 15) Aq.drew ?_;refine zv 4 (bs 17 31) Aq.drew ?_;refine zv 5 (bs 17 63) Aq.drew ?_;refine zv 6 (bs 17 127) Aq.drew ?_;refine zv 7 (bs 17 255) Aq.drew ?_;refine Ih (i:=8) (listed':=(bs 17 511)) (by rfl) (by kernel_rfl) (by kernel_rfl) (by kernel_rfl) _ _ (by rfl) g (j*8) (enc y) _ (by intro _ _ _ h;exact h) (by rfl) (by rfl) (fun w1 hw1=>(A0.1.ext hw1).read Hy.1 hk) underlying150 (by rfl) (by rw[hk];kernel_rfl) Aq.drew (by kernel_rfl) ?_;try simp only[ζ]
   refine zv 9 (bs 17 1023) Aq.drew ?_;refine zv 10 (bs 17 2047) Aq.drew ?_;refine zv 11 (bs 17 4095) Aq.drew ?_;refine zv 12 (bs 17 8191) Aq.drew ?_;refine Ih (i:=13) (listed':=(bs 17 16383)) (by rfl) (by kernel_rfl) (by kernel_rfl) (by kernel_rfl) _ _ (by rfl) g (p*8) (enc x) _ (by intro _ _ _ h;exact h) (by rfl) (by rfl) (fun w1 hw1=>(A0.1.ext hw1).read Hx.1 hk) underlying150 (by rfl) (by rw[hk];kernel_rfl) Aq.drew (by kernel_rfl) ?_;try simp only[ζ]
   refine mC 14 (bs 17 32767) (HC.1 _ ((A0.1.ext Aq.drew).own) y x) ?_;rintro e w2 ⟨z,rfl,hz,C0⟩;have A1:=zH (show Aa wr w2 from Aq.drew.trans C0);clear C0;refine⟨_,rfl,A1.1,?_⟩;try simp only[ζ]
   by_cases hlt:lt y x=true
   ·have B8:=zH hlt
    have A4:z<0:=hz.2 hlt;have B4:decide (z<0)=true:=by simpa using A4
    clear hz;refine zv 15 (bs 17 65535) A1.1 ?_;refine zv 16 (bs 17 131071) A1.1 ?_;refine wpAnyH_done (by kernel_rfl) ?_ _;clear hlt A4 B4;have A0:=zH (A0.1.ext A1.1);clear A1;have E2:row.length=N:=C2;generalize w2=wr at*
    go_upto_region 6 with fail;refine wp_region_held_drew (S:=fun x=>Bi g wr x) (by kernel_rfl) (Bi.refl _ _).drew (fun _=> ?_);refine zv 0 (bs 18 1) (Bi.refl _ _).drew ?_;refine zv 1 (bs 18 3) (Bi.refl _ _).drew ?_;refine zv 2 (bs 18 7) (Bi.refl _ _).drew ?_;refine zv 3 (bs 18 15) (Bi.refl _ _).drew ?_;refine zv 4 (bs 18 31) (Bi.refl _ _).drew ?_;refine zv 5 (bs 18 63) (Bi.refl _ _).drew ?_;refine zv 6 (bs 18 127) (Bi.refl _ _).drew ?_;refine zv 7 (bs 18 255) (Bi.refl _ _).drew ?_;refine zv 8 (bs 18 511) (Bi.refl _ _).drew ?_;refine zv 10 (bs 18 1535) (Bi.refl _ _).drew ?_;refine zv 11 (bs 18 3583) (Bi.refl _ _).drew ?_;refine zv 12 (bs 18 7679) (Bi.refl _ _).drew ?_;refine Yq (i:=9) (j:=13) (li:=(bs 18 8191)) (lj:=(bs 18 15871)) (listed':=(bs 18 16383)) (by rfl) (by rfl) (by kernel_rfl) (by kernel_rfl) (by kernel_rfl) (by kernel_rfl) (by kernel_rfl) (by kernel_rfl) (by kernel_rfl) 150 _ _ (by rfl) (by rfl) (by rfl) (by rfl) g (p*8) (j*8) (enc x) (enc y) _ underlying150 (by rfl) (by rfl) (by rfl) (by rfl) (by rfl) (A0.1.ext Aq.drew |>.read Hx.1 hk) (A0.1.ext Aq.drew |>.read Hy.1 hk) (by rw[hk];kernel_rfl) (by rw[hk];kernel_rfl) (Bi.refl _ _).drew (by rfl) ?_;try simp only[ζ]
    refine zv 14 (bs 18 32767) (Bi.refl _ _).drew ?_;have B3:=(A0.1.ext Aq.drew).put (i:=j) C9.1 hk x;have B9:=B3.put (i:=p) (by rw[eZZ];exact C8.1) hk y;refine Ni (i:=15) (listed':=(bs 18 65535)) (by rfl) (by kernel_rfl) (by rfl) 150 _ _ (by rfl) g (j*8) (enc x) (by rfl) (by rfl) (by rw[hk];exact(A0.1.ext Aq.drew).there C9.1 hk) (by rw[hk];kernel_rfl) (h1 x) (Bi.setCells_l _ _ (Bi.refl _ _).drew) (by kernel_rfl) ?_
    (try simp only[Act.put])
    refine zv 16 (bs 18 131071) (Bi.setCells_l _ _ (Bi.refl _ _).drew) ?_;refine Ni (i:=17) (listed':=(bs 18 262143)) (by rfl) (by kernel_rfl) (by rfl) 150 _ _ (by rfl) g (p*8) (enc y) (by rfl) (by rfl) (by rw[hk];exact B3.there (by rw[eZZ];exact C8.1) hk) (by rw[hk];kernel_rfl) (h1 y) (Bi.setCells_l _ _ (Bi.setCells_l _ _ (Bi.refl _ _).drew)) (by kernel_rfl) ?_
    (try simp only[Act.put])
    refine wpAnyH_done (by kernel_rfl) ?_ _;have D6:=zH B9;clear B3 B9;generalize (World.setCells _ g (p*8) (enc y))=w3 at*
    go_wp2_with fail;go_roundg q
    case measure=>have:=HQ.1.1;omega
    case rel=>exact⟨q,p,by have:=HQ.1;have:=HU.1;omega,ω,by have:=HQ.1;have:=HJ.1;omega,rfl,fun z hz=>(D7.1 z hz).elim (fun h=>by rw[h];exact B8.1) (A3.1 z),by rw[<-A8.1,HE.1];exact D6.1⟩
   have B8:=zH (eq_false_of_ne_true hlt);have A4:¬z<0:=fun h=>hlt (hz.1 h)
   have B4:decide (z<0)=false:=by simpa using A4
   clear hz;refine zv 15 (bs 17 65535) A1.1 ?_;refine zv 16 (bs 17 131071) A1.1 ?_;refine wpAnyH_done (by kernel_rfl) ?_ _;clear hlt A4 B4;have HR:=zH (show Sw w0 w2 g T enc rest (P++(Stb.stab lt (X.take (t+1))++(X.drop (t+1)++S)))by rw[C6.1,A2.1 B8.1];have h:=A0.1.ext A1.1;rw[<-B7.1]at h;simpa using h);go_wp2_with fail
   go_roundg (b+1-(i+1)+1)
   case measure=>omega
   case rel=>exact⟨t+1,i+1,ω,Or.inl B6.1,by have:=HI.1;omega,ω,by go_num,HR.1⟩
  obtain rfl:u=0:=ω;have C3:¬(a:Int)<(j:Int):=ω;have D3:decide ((a:Int)<(j:Int))=false:=by simpa using C3
  have A2:=zH (Stb.ins_stop W (y:=y) B1.1 A3.1 (eXX _) (Or.inl rfl));go_upto_region 4 with fail;refine wp_region_held_drew (S:=fun x=>Aa wr x) (by kernel_rfl) Aq.drew (fun _=> ?_);refine zv 0 (bs 17 1) Aq.drew ?_;refine zv 1 (bs 17 3) Aq.drew ?_;refine zv 2 (bs 17 7) Aq.drew ?_;refine zv 3 (bs 17 15) Aq.drew ?_;refine zs 4 (bs 17 31) Aq.drew ?_;refine zs 5 (bs 17 63) Aq.drew ?_;refine zs 6 (bs 17 127) Aq.drew ?_;refine zs 7 (bs 17 255) Aq.drew ?_;refine zs 8 (bs 17 511) Aq.drew ?_;refine zs 9 (bs 17 1023) Aq.drew ?_;refine zs 10 (bs 17 2047) Aq.drew ?_;refine zs 11 (bs 17 4095) Aq.drew ?_;refine zs 12 (bs 17 8191) Aq.drew ?_;refine zs 13 (bs 17 16383) Aq.drew ?_;refine zs 14 (bs 17 32767) Aq.drew ?_;refine zs 15 (bs 17 65535) Aq.drew ?_;refine zv 16 (bs 17 131071) Aq.drew ?_;refine wpAnyH_done (by kernel_rfl) ?_ _;have HR:=zH (show Sw w0 wr.drew g T enc rest (P++(Stb.stab lt (X.take (t+1))++(X.drop (t+1)++S)))by rw[C6.1,A2.1];have h:=A0.1.ext Aq.drew;simpa using h);go_wp2_with fail
  go_roundg (b+1-(i+1)+1)
  case measure=>omega
  case rel=>exact⟨t+1,i+1,ω,Or.inl B6.1,by have:=HI.1;omega,ω,by go_num,HR.1⟩
 have A0:=zH (show Sw w0 wr g T enc rest (P++(Stb.stab lt X++S))by rw[cXX ω,List.drop_of_length_le ω]at hst;exact hst);have E1:¬(i:Int)<(b:Int):=ω
 clear hst;go_wp2_with fail;go_end0
 exact⟨rfl,A0.1⟩
theorem stable_any {α:Type}(enc:α->List Value)(hk:∀x,(enc x).length=8)(h1:∀x,∀v,v∈enc x->v.oneCell'=true)(lt:α->α->Bool)(W:Stb.Wk lt)(w0 w:World)(g cap N:Nat)(T:TypeId)(rest:List Value)(xs:List α)(hc:(∀wr,Bi g w0 wr->∀x y:α,Calls prog 163 #[.agg (enc x).toArray,.agg (enc y).toArray] wr fun e w'=>∃z:Int,e= .returned (iV z)/\(z<0↔lt x y=true)/\Aa wr w'))(hst:Sw w0 w g T enc rest xs)(hN:xs.length=N)(hsz:N<20):
  Calls prog 182 #[.slice (π g) N cap,iV N,.func (.func 163) #[] #[]] w fun e w'=>e= .returned (.tuple #[])/\Sw w0 w' g T enc rest (Stb.stab lt xs):=by
 have HC:=zH hc;have A0:=zH hst;have HN:=zH hN;clear hst hc hN;go_enter func182,ntmps182
 have A4:¬(20:Int)<=(N:Int):=ω;have A3:¬(20:Int)<(N:Int):=ω;have A2:([]++(xs++[])).length=N:=by rw[fQQ,gXX];exact HN.1
 have HB:=zH (insertion_any enc hk h1 lt W w0 w g cap 0 N N T rest [] xs [] HC.1 (by rw[fQQ,gXX];exact A0.1) rfl ((cZZ _).trans HN.1) A2 ω);clear A0 A2;go_wp2_with fail;apply wp_loop_rounds 1;rw[rounds_succ];go_wp2_with (go_at_call 198;refine HB.1.mono ?_;rintro e w2 ⟨rfl,A1⟩)
 apply wp_loop_rounds 1;rw[rounds_succ];go_wp2_with fail;go_end0
 rw[fQQ,gXX]at A1;exact⟨rfl,A1⟩
theorem sortStable_any {α:Type}(enc:α->List Value)(hk:∀x,(enc x).length=8)(h1:∀x,∀v,v∈enc x->v.oneCell'=true)(lt:α->α->Bool)(W:Stb.Wk lt)(w0 w:World)(g cap N:Nat)(T:TypeId)(rest:List Value)(xs:List α)(hc:(∀wr,Bi g w0 wr->∀x y:α,Calls prog 163 #[.agg (enc x).toArray,.agg (enc y).toArray] wr fun e w'=>∃z:Int,e= .returned (iV z)/\(z<0↔lt x y=true)/\Aa wr w'))(hst:Sw w0 w g T enc rest xs)(hN:xs.length=N)(hsz:N<20):
  Calls prog 162 #[.slice (π g) N cap,.func (.func 163) #[] #[]] w fun e w'=>e= .returned (.tuple #[])/\Sw w0 w' g T enc rest (Stb.stab lt xs):=by
 have HB:=zH (stable_any enc hk h1 lt W w0 w g cap N T rest xs hc hst hN hsz);clear hc hst hN;go_enter func162,ntmps162;go_wp2_with (go_at_call 182;refine HB.1.mono ?_;rintro e w2 ⟨rfl,A0⟩)
 go_end0
 exact⟨rfl,A0⟩
theorem insertion_none (v c:Value)(w:World):Calls prog 198 #[v,iV 0,iV 0,c] w fun e w'=>e= .returned (.tuple #[])/\w=w':=by
  go_enter func198,ntmps198;go_wp2_with fail;apply wp_loop_rounds 1;rw[rounds_succ];go_wp2_with fail;go_end0
  exact⟨rfl,rfl⟩
theorem stable_none (v c:Value)(w:World):Calls prog 182 #[v,iV 0,c] w fun e w'=>e= .returned (.tuple #[])/\w=w':=by
  go_enter func182,ntmps182;go_wp2_with fail;apply wp_loop_rounds 1;rw[rounds_succ];go_wp2_with (go_at_call 198;refine(insertion_none _ _ _).mono ?_;rintro e w2 ⟨rfl,rfl⟩)
  apply wp_loop_rounds 1;rw[rounds_succ];go_wp2_with fail;go_end0
  exact⟨rfl,rfl⟩
theorem sortStable_none (A:Option Addr)(cap:Nat)(c:Value)(w:World):Calls prog 162 #[.slice A 0 cap,c] w fun e w'=>e= .returned (.tuple #[])/\w=w':=by
  go_enter func162,ntmps162;go_wp2_with (go_at_call 182;refine(stable_none _ _ _).mono ?_;rintro e w2 ⟨rfl,rfl⟩)
  go_end0
  exact⟨rfl,rfl⟩
end spn
section
abbrev QQ:=Rat×Rat
def Hn (ps:List QQ):List QQ:=ps.filter fun p=>decide (p.1<p.2)
def aBC (a b:QQ):Bool:=decide (a.1<b.1)
def Ej (out:List QQ)(s:QQ):List QQ:=match out.getLast? with
  |none=>out++[s]
  |some l=>if l.2<s.1 then out++[s]else if l.2<s.2 then out.dropLast++[(l.1,s.2)]else out
def Ea (ps:List QQ):List QQ:=Stb.stab aBC (Hn ps)
def Ff (ps:List QQ):List QQ:=(Ea ps).foldl Ej []
theorem iI {ps:List QQ}{k:Nat}{p:QQ}(h:ps[k]?=some p):Hn (ps.take (k+1))=if p.1<p.2 then Hn (ps.take k)++[p]else Hn (ps.take k):=by
  obtain⟨hk,rfl⟩:=List.getElem?_eq_some_iff.1 h;unfold Hn;rw[iQQ hk,List.filter_append];by_cases hp:ps[k].1<ps[k].2
  · rw[if_pos hp];simp[hp]
  rw[if_neg hp];simp[hp]
theorem Vs {l:List QQ}{k:Nat}{p:QQ}(h:l[k]?=some p):(l.take (k+1)).foldl Ej []=Ej ((l.take k).foldl Ej []) p:=by
  obtain⟨hk,rfl⟩:=List.getElem?_eq_some_iff.1 h;rw[iQQ hk,List.foldl_append];rfl
theorem pG (out:List QQ)(s:QQ):(Ej out s).length<=out.length+1:=by
  unfold Ej;split
  · simp
  split
  · simp
  split
  · simp
    try omega
  omega
theorem uW (l:List QQ)(k:Nat):((l.take k).foldl Ej []).length<=k:=by
  induction k with
  |zero=>simp
  | succ k ih=>
    by_cases h:k<l.length
    · rw[Vs (aQQ h)]
      have:=pG ((l.take k).foldl Ej []) l[k];omega
    rw[cXX ω];rw[cXX ω]at ih;omega
theorem zI {α β:Type}(f:α->β){lt:α->α->Bool}{lt':β->β->Bool}(h:∀x y,lt x y=lt' (f x) (f y))(l:List α)(y:α):(Stb.ins lt l y).map f=Stb.ins lt' (l.map f) (f y):=by
  induction l with
  |nil=>rfl
  | cons x l ih=>
    rw[Stb.ins,List.map_cons,Stb.ins,<-h];split
    · rfl
    rw[List.map_cons,ih]
theorem Pc {α β:Type}(f:α->β){lt:α->α->Bool}{lt':β->β->Bool}(h:∀x y,lt x y=lt' (f x) (f y))(l:List α):(Stb.stab lt l).map f=Stb.stab lt' (l.map f):=by
  induction l using Stb.rev_rec with
  |nil=>rfl
  |snoc l y ih=>rw[Stb.stab_snoc,zI f h,ih,jXX];exact(Stb.stab_snoc _ _).symm
theorem aFM {α:Type}(f:α->Rat):Stb.Wk (fun x y:α=>decide (f x<f y)):=by
  refine⟨fun x y h=> ?_,fun x y z h1 h2=> ?_⟩
  · rw[decide_eq_true_iff]at h
    rw[decide_eq_false_iff_not];intro h2;grind
  rw[decide_eq_false_iff_not]at h1 h2⊢;grind
theorem aCW:(prog.info? 150).map (fun i=>(i.zero,i.size,i.bytes))=some (some (.agg z8),8,128):=by kernel_rfl
theorem Vj:Ar (Value.agg z8).cells.toList:=by intro x hx k;simp[Value.cells]at hx;rcases hx with rfl|rfl|rfl|rfl|rfl|rfl|rfl|rfl<;>simp
theorem Rf (w:World)(cs:List Value)(t:TypeId):∀(j:Nat) (u:Value),cs[j]?=some u->(w.alloc (.cells cs.toArray t)).cell? ((⟨w.heap.size,0,none⟩:Addr).add j)=some u:=by
  intro j u hj;have e3:(⟨w.heap.size,0,none⟩:Addr).add j=⟨w.heap.size,j,none⟩:=by
    unfold Addr.add;by_cases hz:j=0
    · rw[if_pos hz,hz]
    rw[if_neg hz];simp
  rw[e3,(Ac.new w t cs.toArray).cell j,aZZ];exact hj
theorem Ly.snoc {L:Nat}{w w':World}{base g cap n:Nat}{v:Value}{es:List Dk}{e:Dk}(h:Ly L w base v es)(hn:es.length=n)(he:e.Ok L w)(h2:Ba w' base 150 8 (.slice (π g) (n+1) cap) (n+1) (Dv es++e.cells))
    (h4:∀(r:RV) (q:Rat),r.Is w q->r.Is w' q):Ly L w' base (.slice (π g) (n+1) cap) (es++[e]):=by
  subst hn;refine⟨by rw[Lb,bQQ];exact h2,fun x hx=> ?_⟩;rcases List.mem_append.1 hx with hx|hx
  · exact(h.2 x hx).map h4
  simp at hx;rw[hx];exact he.map h4
theorem Cu {a b:World}(row:Option Nat)(h:Aa a b):a.grownBy b row:=⟨h.os,h.tape,h.output,h.size,fun i hi _=>h.block i hi⟩
theorem qM {a b c:World}{row:Option Nat}(h:Aa a b)(k:b.grownBy c row):a.grownBy c row:=
  ⟨k.os.trans h.os,k.tape.trans h.tape,k.output.trans h.output,Av h.size k.size,fun i hi hn=>(k.block i (jZZ hi h.size) hn).trans (h.block i hi)⟩
theorem sE {L:Nat}{w:World}{base X:Nat}{v:Value}{es:List Dk}(h:Ly L w base v es)(hX:w.heap.size<=X):v.ownBlock≠some X:=by
  intro e;rcases h.form with⟨rfl,_⟩|⟨g,cap,rest,rfl,_,hs,_⟩
  · simp[Value.ownBlock]at e
  simp[Value.ownBlock]at e;have:=hs.blk.lt;omega
theorem Ya {w:World}{base:Nat}{e:TypeId}{size:Nat}{v:Value}{n:Nat}{xs:List Value}(h:Ba w base e size v n xs):∃A c,v= .slice A n c:=by
  obtain⟨_,⟨rfl,hz⟩|⟨gv,A0,rest,rfl,_⟩⟩:=h
  · exact⟨none,0,by rw[hz]⟩
  exact⟨_,A0,rfl⟩
def aBD (e f:Dk):Bool:=decide (e.p<f.p)
theorem bA {es:List Dk}{rest:List Value}(h:Ar rest):Rz (Dv es++rest).toArray:=by
  refine bC _ fun v hv x=> ?_
  rcases List.mem_append.1 hv with hv|hv
  · exact bD es v hv x
  exact h v hv x
theorem Vz {L:Nat}{w:World}:∀xs:List {e:Dk//e.Ok L w},xs.flatMap (fun x=>x.1.cells)=Dv (xs.map Subtype.val)
  | []=>rfl
  |x::xs=>by rw[List.flatMap_cons,Vz xs];rfl
theorem iG (L:Nat)(v:Value)(es:List Dk)(base:Nat)(w:World)(h:Ly L w base v es)(hL:L<=60000)(hn:es.length<20):
  Calls prog 162 #[v,.func (.func 163) #[] #[]] w fun e w'=>
   e= .returned (.tuple #[])/\Ly L w' base v (Stb.stab aBD es)/\w.grownBy w' v.ownBlock:=by
 rcases h.form with⟨rfl,rfl⟩|⟨g,cap,rest,rfl,hb,hs,hc1,hc2,hc3,hc4⟩
 ·refine(spn.sortStable_none none 0 _ w).mono ?_
  rintro e w' ⟨rfl,rfl⟩;exact⟨rfl,h,World.grownBy.refl _ _⟩
 have A4:∃xs:List {e:Dk//e.Ok L w},xs.map Subtype.val=es:=by
  have h2:=h.2;clear h hs hc1 hc3 hn;induction es with
  |nil=>exact⟨[],rfl⟩
  |cons e es ih=>
   obtain⟨xs,hx⟩:=ih (fun f hf=>h2 f (by simp[hf]));exact⟨⟨e,h2 e (by simp)⟩::xs,by rw[List.map_cons,hx]⟩
 obtain⟨xs,rfl⟩:=A4;have A1:Rz (Dv (xs.map Subtype.val)++rest).toArray:=bA hc4;have A2:xs.length=(xs.map Subtype.val).length:=by rw[fXX]
 refine(spn.sortStable_any (fun x: {e:Dk//e.Ok L w}=>x.1.cells) (fun _=>rfl) (fun x=>x.1.one) (fun x y=>decide (x.1.p<y.1.p)) (aFM fun x: {e:Dk//e.Ok L w}=>x.1.p) w w g cap _ 150 rest xs (fun wr o x y=> ?_) ⟨by rw[Vz];exact hs.blk,Bi.refl _ _⟩ A2 hn).mono ?_
 ·have hx:x.1.Ok L wr:=x.2.map fun r q hr=>hr.own hs.blk A1 o
  have hy:y.1.Ok L wr:=y.2.map fun r q hr=>hr.own hs.blk A1 o
  refine(bE L _ _ _ _ _ _ wr hx.ptIn hy.ptIn ω).mono ?_;rintro e w' ⟨rfl,A5⟩;exact⟨_,rfl,by rw[decide_eq_true_iff];exact rcmp_lt,A5⟩
 rintro e w' ⟨rfl,A0⟩;have hm:(Stb.stab (fun x y: {e:Dk//e.Ok L w}=>decide (x.1.p<y.1.p)) xs).map Subtype.val=Stb.stab aBD (xs.map Subtype.val):=Pc Subtype.val (lt':=aBD) (fun _ _=>rfl) xs;have A3:(Stb.stab aBD (xs.map Subtype.val)).length=(xs.map Subtype.val).length:=Stb.stab_len _;refine⟨rfl,⟨⟨Ev _,Or.inr ⟨g,cap,rest,by rw[A3],hb,?_,by rw[A3];exact hc1,hc2,?_,?_⟩⟩,fun e he=> ?_⟩,?_⟩
 ·have h3:=A0.blk
  rw[Vz,hm]at h3;exact h3
 ·rw[Ev,A3,<-Ev];exact hc3
 ·exact(bD _).app hc4
 ·rw[<-hm]at he
  obtain⟨x,_,rfl⟩:=List.mem_map.1 he;exact x.2.map fun r q hr=>hr.own hs.blk A1 A0.own
 show w.grownBy w' (Value.ownBlock _);have:=A0.own;simpa[Value.ownBlock,Bi]using this
theorem half (e:Dk):e.cells=[.bool e.a.n,.slice e.a.p e.a.l e.a.c,.bool e.a.m,.slice e.a.p2 e.a.l2 e.a.c2]++[.bool e.b.n,.slice e.b.p e.b.l e.b.c,.bool e.b.m,.slice e.b.p2 e.b.l2 e.b.c2]:=rfl
theorem Ly.turn {L:Nat}{w:World}{base g cap n:Nat}{es:List Dk}{l e:Dk}(h:Ly L w base (.slice (π g) (n+1) cap) (es++[l]))(hn:es.length=n)(he:e.Ok L w):
  w.there g (n*8+4) 4/\Ly L (w.setCells g (n*8+4) [.bool e.b.n,.slice e.b.p e.b.l e.b.c,.bool e.b.m,.slice e.b.p2 e.b.l2 e.b.c2]) base (.slice (π g) (n+1) cap) (es++[⟨l.a,e.b,l.p,e.q⟩])/\
   Bi g w (w.setCells g (n*8+4) [.bool e.b.n,.slice e.b.p e.b.l e.b.c,.bool e.b.m,.slice e.b.p2 e.b.l2 e.b.c2]):=by
 obtain⟨hl,⟨hv,_⟩|⟨g',A7,rest,hv,hb,hg,h3,h4,h5,h6⟩⟩:=h.1
 ·cases hv
 injection hv with e1 e2 e3
 injection e1 with e1
 injection e1 with e1
 subst e1 e3;have A1:Dv (es++[l])++rest=(Dv es++[.bool l.a.n,.slice l.a.p l.a.l l.a.c,.bool l.a.m,.slice l.a.p2 l.a.l2 l.a.c2])++([.bool l.b.n,.slice l.b.p l.b.l l.b.c,.bool l.b.m,.slice l.b.p2 l.b.l2 l.b.c2]++rest):=by
  rw[Lb,half];simp
 have A2:(Dv es++([.bool l.a.n,.slice l.a.p l.a.l l.a.c,.bool l.a.m,.slice l.a.p2 l.a.l2 l.a.c2]:List Value)).length=n*8+4:=by rw[bQQ,Ev,hn];rfl
 have A5:Rz (Dv (es++[l])++rest).toArray:=bA h6.right;have A6:=hg;rw[A1]at hg;have ht:=hg.therePart (n*8+4) 4 (by rw[bQQ,A2];simp);have hp:=hg.setMid [.bool e.b.n,.slice e.b.p e.b.l e.b.c,.bool e.b.m,.slice e.b.p2 e.b.l2 e.b.c2] (by rfl);rw[A2]at hp;have ho:Bi g w (w.setCells g (n*8+4) [.bool e.b.n,.slice e.b.p e.b.l e.b.c,.bool e.b.m,.slice e.b.p2 e.b.l2 e.b.c2]):=Bi.setCells_l _ _ (Bi.refl _ _);refine⟨ht,⟨⟨Ev _,Or.inr ⟨g,cap,rest,by rw[bQQ,hn];rfl,hb,?_,by rw[bQQ]at h3⊢;exact h3,h4,?_,(bD _).app h6.right⟩⟩,fun x hx=> ?_⟩,ho⟩
 ·have e5:Dv (es++[⟨l.a,e.b,l.p,e.q⟩])++rest=(Dv es++[.bool l.a.n,.slice l.a.p l.a.l l.a.c,.bool l.a.m,.slice l.a.p2 l.a.l2 l.a.c2])++([.bool e.b.n,.slice e.b.p e.b.l e.b.c,.bool e.b.m,.slice e.b.p2 e.b.l2 e.b.c2]++rest):=by
   rw[Lb,half];simp
  rw[e5];exact hp
 ·rw[Ev,bQQ]at h5⊢;exact h5
 have A0:∀x:Dk,x.Ok L w->x.Ok L (w.setCells g (n*8+4) [.bool e.b.n,.slice e.b.p e.b.l e.b.c,.bool e.b.m,.slice e.b.p2 e.b.l2 e.b.c2]):=fun x hx=>hx.map fun r q hr=>hr.own A6 A5 ho
 rcases List.mem_append.1 hx with hx|hx
 ·exact A0 x (h.2 x (by simp[hx]))
 simp at hx;rw[hx];have A3:=A0 l (h.2 l (by simp));have A4:=A0 e he;exact⟨A3.1,A4.2.1,A3.2.2.1,A4.2.2.2⟩
theorem Ly.grown {L:Nat}{w w':World}{base:Nat}{v:Value}{es:List Dk}{row:Option Nat}(h:Ly L w base v es)(hg:w.grownBy w' row)(hne:∀j,v.ownBlock=some j->row≠some j)(hm:∀(r:RV) (q:Rat),r.Is w q->r.Is w' q):Ly L w' base v es:=by
  refine⟨?_,fun e he=>(h.2 e he).map hm⟩;obtain⟨hl,⟨hv,hz⟩|⟨g,A0,rest,rfl,hb,hB,h3⟩⟩:=h.1
  · exact⟨hl,Or.inl ⟨hv,hz⟩⟩
  exact⟨hl,Or.inr ⟨g,A0,rest,rfl,hb,hB.grown hg (hne g (by simp[Value.ownBlock])),h3⟩⟩
theorem Ly.lt {L:Nat}{w:World}{base:Nat}{v:Value}{es:List Dk}(h:Ly L w base v es):∀j,v.ownBlock=some j->j<w.heap.size:=fun _ hj=>Nat.lt_of_not_le fun hn=>sE h hn hj
theorem Ly.rowNoU {L:Nat}{w:World}{base g n cap:Nat}{es:List Dk}(h:Ly L w base (.slice (π g) n cap) es):∃cs:Array Value,Ac w g 150 cs/\Rz cs:=by
  obtain⟨hl,⟨hv,_⟩|⟨g',A0,rest,hv,hb,hB,h3,h4,h5,h6⟩⟩:=h.1
  · cases hv
  injection hv with e1 _ _
  injection e1 with e1
  injection e1 with e1
  subst e1;exact⟨_,hB,bA h6.right⟩
theorem pF (s:QQ):Ej [] s=[s]:=rfl
theorem pI (os:List QQ)(l s:QQ):Ej (os++[l]) s=if l.2<s.1 then os++[l]++[s]else if l.2<s.2 then os++[(l.1,s.2)]else os++[l]:=by
  unfold Ej;rw[List.getLast?_concat];simp only[List.dropLast_concat]
theorem xN {α:Type}(l:List α):l=[]\/∃l' x,l=l'++[x]:=by
  rcases List.eq_nil_or_concat l with h|⟨a,b,h⟩
  · exact Or.inl h
  exact Or.inr ⟨a,b,by simpa using h⟩
theorem Ly.readEnd {L:Nat}{w:World}{base g cap n:Nat}{es:List Dk}{l:Dk}(h:Ly L w base (.slice (π g) (n+1) cap) (es++[l]))(hn:es.length=n):
  w.rangeAt g (n*8+4) [.bool l.b.n,.slice l.b.p l.b.l l.b.c,.bool l.b.m,.slice l.b.p2 l.b.l2 l.b.c2]:=by
 rcases h.form with⟨hv,_⟩|⟨g',cap',rest,hv,_,hs,_⟩
 ·cases hv
 injection hv with e1 _ _
 injection e1 with e1
 injection e1 with e1
 subst e1;have hr:=hs.read (i:=n) (x:=l) (by rw[dQQ ω,hn,Nat.sub_self];rfl) Dk.len;intro j u hj;have A0:=hr (4+j) u (by
  rw[half,dQQ (by simp)];simpa using hj)
 rw[Nat.add_assoc];exact A0
theorem Hk.ofb {L:Nat}{w:World}{e:Dk}(h:e.Ok L w):Hk L w ([.bool e.b.n,.slice e.b.p e.b.l e.b.c,.bool e.b.m,.slice e.b.p2 e.b.l2 e.b.c2]:List Value).toArray e.q:=⟨e.b,rfl,h.2.1.isIn h.2.2.2⟩
theorem Fs {α:Type}(f:α->List Value)(es:List α)(e:α):es.flatMap f++f e=(es++[e]).flatMap f:=by simp
theorem iU {w:World}{g o:Nat}{cs:List Value}(h:w.rangeAt g o cs)(k n:Nat):w.rangeAt g (o+k) ((cs.drop k).take n):=by
  intro j v hv;have hj:j<n:=by
    have:=(List.getElem?_eq_some_iff.1 hv).1;rw[dXX]at this;omega
  rw[List.getElem?_take_of_lt hj,List.getElem?_drop]at hv;have:=h (k+j) v hv;rw[show o+(k+j)=o+k+j by omega]at this;exact this
theorem Aj {w:World}{g o:Nat}{v:Value}{cs:List Value}(h:w.rangeAt g o (v::cs)):w.cell? ⟨g,o,none⟩=some v:=by
  have:=h 0 v rfl;simpa using this
theorem Rb {q r:Rat}:Dh q r=0↔q=r:=rcmp_eq
theorem Bu (k:Int)(h1: -9223372036854775808<=k)(h2:k<=9223372036854775807):Nm.rl (k:Rat)<=2:=by
  unfold Nm.rl;rw[Rat.num_intCast,Rat.den_intCast];have h1:Nm.nl k.natAbs<=2:=Nm.nl_le ω;have h2:Nm.nl 1<=1:=Nm.nl_le (by decide);omega
theorem Hp.add2 {w0 wb w:World}{m:List Df}{X Y:Nat}{T U:TypeId}{zs us:List Value}(h:Hp w0 wb m)(x:Aa wb w)(B1:Ac w X T zs.toArray)(B2:Ac w Y U us.toArray)(z1:wb.heap.size<=X)(z2:wb.heap.size<=Y)(hne:X≠Y)(n1:Ar zs)(n2:Ar us):
  Hp w0 w (m++[.blk X T zs]++[.blk Y U us]):=by
 have h1:=h.addBlk x B1 z1 n1;refine h1.add ⟨Av h.ext.size z2,B2,n2⟩ (fun i f hf k hk e=> ?_);injection e with e
 rcases Nat.lt_trichotomy i m.length with hl|hl|hl
 ·rw[dZZ hl]at hf
  have:=h.lt hf hk;omega
 ·subst hl
  rw[dQQ (Cl _)]at hf;simp at hf;subst hf;injection hk with hk
  omega
 rw[dQQ (nQQ hl),kZZ (by simp;omega)]at hf;cases hf
theorem pK {P:Program}{l:List Oper}{Q:Exit->Act->World->Prop}{md:Region.Mode}{S:World->Prop}{i j:Nat}{oi oj:Oper}{fuel:Nat}{listed li lj lij:Array Bool}{a:Act}{w w0:World}{m:List Df}{T U:TypeId}{zs us:List Value}
  (hi:l[i]?=some oi)(hj:l[j]?=some oj)(hr:Region.ready md l.toArray listed=[i,j])(hli:listed.setIfInBounds i true=li)(hlj:listed.setIfInBounds j true=lj)(hri:Region.ready md l.toArray li=[j])(hrj:Region.ready md l.toArray lj=[i])
  (hlij:li.setIfInBounds j true=lij)(hlji:lj.setIfInBounds i true=lij)(hgi:oi.guard=none)(hgj:oj.guard=none)(hd:∀d,oj.dst=some d->oi.dst≠some d)
  (hvi:∀(ρ:Operand->Value) (x:World),(execOp ρ oi).run P x= .ok (.value (.pointer (π x.heap.size))) (x.alloc (.cells zs.toArray T)))
  (hvj:∀(ρ:Operand->Value) (x:World),(execOp ρ oj).run P x= .ok (.value (.pointer (π x.heap.size))) (x.alloc (.cells us.toArray U)))
  (hS:∀x y,S x->Aa x y->S y)(hSw:S w)(hH:Hp w0 w m)(hn1:Ar zs)(hn2:Ar us)
  (h:∀X Y w',Hp w0 w' (m++[.blk X T zs]++[.blk Y U us])->Aa w w'->w.heap.size<=X->w.heap.size<=Y->S w'->wpAnyH P md l.toArray Q S fuel lij ((a.put oi.dst (.pointer (π X))).put oj.dst (.pointer (π Y))) w'):
  wpAnyH P md l.toArray Q S (fuel+1+1) listed a w:=by
 have A1:∀b:Act,Region.wanted oi (yielded l.toArray b.tmps)=true:=fun b=>by simp[Region.wanted,hgi]
 have A0:∀b:Act,Region.wanted oj (yielded l.toArray b.tmps)=true:=fun b=>by simp[Region.wanted,hgj]
 have x1:Aa w (w.alloc (.cells zs.toArray T)):=(Aa.refl w).alloc _;have x2:Aa w (w.alloc (.cells us.toArray U)):=(Aa.refl w).alloc _;have y1:Aa (w.alloc (.cells zs.toArray T)) ((w.alloc (.cells zs.toArray T)).alloc (.cells us.toArray U)):=Aq.alloc _;have y2:Aa (w.alloc (.cells us.toArray U)) ((w.alloc (.cells us.toArray U)).alloc (.cells zs.toArray T)):=Aq.alloc _;refine aCQ hi hj hr (A1 a) (hvi _ w) (hS _ _ hSw x1) hli (A0 a) (hvj _ w) (hS _ _ hSw x2) hlj ?_ ?_
 ·refine Mo hj hri (A0 _) (hvj _ _) (hS _ _ (hS _ _ hSw x1) y1) hlij ?_
  exact h _ _ _ (hH.add2 (x1.trans y1) ((Ac.new w T zs.toArray).ext y1) (Ac.new _ U us.toArray) (Cl _) x1.size (by simp) hn1 hn2) (x1.trans y1) (Cl _) x1.size (hS _ _ (hS _ _ hSw x1) y1)
 refine Mo hi hrj (A1 _) (hvi _ _) (hS _ _ (hS _ _ hSw x2) y2) hlji ?_;have h2:=h _ _ _ (hH.add2 (x2.trans y2) (Ac.new _ T zs.toArray) ((Ac.new w U us.toArray).ext y2) x2.size (Cl _) (by simp) hn1 hn2) (x2.trans y2) x2.size (Cl _) (hS _ _ (hS _ _ hSw x2) y2);rw[Act.put_comm a _ _ hd];exact h2
theorem aDN:cU prog 124 150 8 128:=cU.of (z:= .agg z8) underlying124 (by kernel_rfl) rfl (by simp[Ar,Value.cells]) (by decide)
theorem aBH:cU prog 127 58 4 64:=cU.of (z:= .agg z4) underlying127 (by kernel_rfl) rfl (by simp[Ar,Value.cells]) (by decide)
theorem vH:cU prog 151 154 5 72:=cU.of (z:= .agg #[.bool false,.slice none 0 0,.bool false,.slice none 0 0,iV 0]) underlying151 (by kernel_rfl) rfl (by simp[Ar,Value.cells]) (by decide)
theorem aFZ:cU prog 158 161 4 32:=cU.of (z:= .agg #[iV 0,iV 0,iV 0,iV 0]) underlying158 (by kernel_rfl) rfl (by simp[Ar,Value.cells]) (by decide)
abbrev rc (r:RV):List Value:=[.bool r.n,.slice r.p r.l r.c,.bool r.m,.slice r.p2 r.l2 r.c2]
abbrev rg (r:RV):Value:= .agg #[.bool r.n,.slice r.p r.l r.c,.bool r.m,.slice r.p2 r.l2 r.c2]
abbrev rz:List Value:=[.bool false,.slice none 0 0,.bool false,.slice none 0 0]
abbrev ro {α:Type}(t:TypeId)(s:Nat)(A:Option Addr)(n c:Nat)(f:α->List Value)(es:List α):Df:= .row t s (.slice A n c) n (List.flatMap f es)
def rM (m:List Df)(g:Nat)(cs:List Value):Prop:=∃(i:Nat) (t:TypeId),m[i]?=some (.blk g t cs)
def Kz (P:Program)(ops:Array Oper)(w0 w:World)(m:List Df)(op:Oper)(a:Act)(_v:Value)(a':Act):Prop:=Hp w0 w m->∀(Q:Exit->Act->World->Prop) (rest:List Oper),wpList P ops Q rest a' w->wpList P ops Q (op::rest) a w
def SD (P:Program)(md:Region.Mode)(l:List Oper)(Q:Exit->Act->World->Prop)(w0 b:World)(m:List Df)(i:Nat)(listed:Array Bool)(a:Act)(_v:Value)(a':Act):Prop:=Hp w0 b m->∀(fuel:Nat) (w:World),Aa b w->wpAnyH P md l.toArray Q (fun x=>Aa b x) fuel (listed.setIfInBounds i true) a' w->wpAnyH P md l.toArray Q (fun x=>Aa b x) (fuel+1) listed a w
section
variable {P:Program} {ops:Array Oper} {rest:List Oper} {op:Oper} {a:Act} {a':Act} {w:World} {Q:Exit->Act->World->Prop} {ty:TypeId} {x:Operand} {l:List Oper} {md:Region.Mode} {b:World} {oi:Oper} {fuel:Nat} {listed:Array Bool} {o:Oper} {t:TypeId} {t':TypeId} {y:Operand} {g:Nat} {w0:World} {m:List Df} {m':List Df} {cs:List Value} {v:Value} {o1:Oper} {a1:Act} {o2:Oper} {a2:Act} {o3:Oper} {a3:Act} {o4:Oper} {a4:Act} {o5:Oper} {a5:Act} {a6:Act} {a7:Act} {i:Nat}
theorem zd {d:TypeDesc}(g o:Nat)(cs:List Value)(hb:w.rangeAt g o cs)(hu:P.underlying ty=some d)(h:wpList P ops Q rest a' w)(hw:Region.wanted op (yielded ops a.tmps)=true:=by rfl)(ho:op.op= .load ty x:=by rfl)(hx:a.eval x= .pointer (some ⟨g,o,none⟩):=by rfl)(hd:d.isRow=true:=by rfl)(hz:(P.info? ty).map (·.size)=some cs.length:=by kernel_rfl)(ha:a.put op.dst (.agg cs.toArray)=a':=by simp only[ζ]<;>rfl):wpList P ops Q (op::rest) a w:=by subst ha;exact aBA hw ty x ho g o cs hx hb hu hd hz h
theorem ze (g o:Nat)(v:Value)(hb:w.rangeAt g o [v])(h:wpList P ops Q rest a' w)(hw:Region.wanted op (yielded ops a.tmps)=true:=by rfl)(hv:∀x:World,x.cell? ⟨g,o,none⟩=some v->(execOp a.eval op).run P x= .ok (.value v) x:=by intro x hq;(try simp only[nXX]at hq);go_simp<;>with_reducible rfl)(ha:a.put op.dst v=a':=by simp only[ζ]<;>rfl):wpList P ops Q (op::rest) a w:=by subst ha;exact uH hw (Aj hb) hv h
theorem zf (i:Nat)(listed':Array Bool)(g o:Nat)(v:Value)(hb:b.rangeAt g o [v])(hS:Aa b w)(h:wpAnyH P md l.toArray Q (fun x=>Aa b x) fuel listed' a' w)(hi:l[i]?=some oi:=by rfl)(hs:Region.noSelect l.toArray=true:=by kernel_rfl)(hf:Region.free md l.toArray listed i=true:=by kernel_rfl)(hr:(Region.ready md l.toArray listed).contains i=true:=by kernel_rfl)(hQ:∀c a w,Q (.panic c) (a.put oi.dst v) w->Q (.panic c) a w:=by intro _ _ _ h;exact h)(hw:Region.wanted oi (yielded l.toArray a.tmps)=true:=by rfl)(hv:∀x:World,x.cell? ⟨g,o,none⟩=some v->(execOp a.eval oi).run P x= .ok (.value v) x:=by intro x hq;(try simp only[nXX]at hq);go_simp<;>with_reducible rfl)(hl:listed.setIfInBounds i true=listed':=by kernel_rfl)(ha:a.put oi.dst v=a':=by simp only[ζ]<;>rfl):wpAnyH P md l.toArray Q (fun x=>Aa b x) (fuel+1) listed a w:=by subst ha;exact Ec hi hs hf hr hQ hw (fun x hx=>Aa.get hx (Aj hb)) hv hS hl h
theorem zg (i:Nat)(listed':Array Bool){d:TypeDesc}(g o:Nat)(cs:List Value)(hb:b.rangeAt g o cs)(hu:P.underlying ty=some d)(hS:Aa b w)(h:wpAnyH P md l.toArray Q (fun x=>Aa b x) fuel listed' a' w)(hi:l[i]?=some oi:=by rfl)(hs:Region.noSelect l.toArray=true:=by kernel_rfl)(hf:Region.free md l.toArray listed i=true:=by kernel_rfl)(hr:(Region.ready md l.toArray listed).contains i=true:=by kernel_rfl)(ho:oi.op= .load ty x:=by rfl)(hQ:∀c a w,Q (.panic c) (a.put oi.dst (.agg cs.toArray)) w->Q (.panic c) a w:=by intro _ _ _ h;exact h)(hw:Region.wanted oi (yielded l.toArray a.tmps)=true:=by rfl)(hx:a.eval x= .pointer (some ⟨g,o,none⟩):=by rfl)(hd:d.isRow=true:=by rfl)(hz:(P.info? ty).map (·.size)=some cs.length:=by kernel_rfl)(hl:listed.setIfInBounds i true=listed':=by kernel_rfl)(ha:a.put oi.dst (.agg cs.toArray)=a':=by simp only[ζ]<;>rfl):wpAnyH P md l.toArray Q (fun x=>Aa b x) (fuel+1) listed a w:=by subst ha;exact Ih hi hs hf hr ty x ho g o cs d hQ hw hx (fun x hx=>Bp hb hx) hu hd hz hS hl h
theorem Ht {ρ:Operand->Value}{A:Int}{B:Int}{E:Int}(h: -9223372036854775808<=E/\E<=9223372036854775807)(ho:o.op= .binOp .add t x y t':=by rfl)(hx:ρ x= iV A:=by rfl)(hy:ρ y= iV B:=by rfl)(hE:A+B=E:=by first|rfl|omega):(execOp ρ o).run P w= .ok (.value (iV E)) w:=aDJ ho hx hy hE h.1 h.2
theorem Xg {ρ:Operand->Value}{A:Int}{B:Int}{E:Int}(h: -9223372036854775808<=E/\E<=9223372036854775807)(ho:o.op= .binOp .sub t x y t':=by rfl)(hx:ρ x= iV A:=by rfl)(hy:ρ y= iV B:=by rfl)(hE:A-B=E:=by first|rfl|omega):(execOp ρ o).run P w= .ok (.value (iV E)) w:=bU ho hx hy hE h.1 h.2
theorem gZ {ρ:Operand->Value}{A:Int}{B:Int}{E:Int}(h: -9223372036854775808<=E/\E<=9223372036854775807)(ho:o.op= .binOp .mul t x y t':=by rfl)(hx:ρ x= iV A:=by rfl)(hy:ρ y= iV B:=by rfl)(hE:A*B=E:=by first|rfl|omega):(execOp ρ o).run P w= .ok (.value (iV E)) w:=vE ho hx hy hE h.1 h.2
theorem Eg {ρ:Operand->Value}{A:Int}{B:Int}{b:Bool}(ho:o.op= .binOp .lss t x y t':=by rfl)(hx:ρ x= iV A:=by rfl)(hy:ρ y= iV B:=by rfl)(e:decide (A<B)=b):(execOp ρ o).run P w= .ok (.value (.bool b)) w:=aDE ho hx hy e
theorem Qg {ρ:Operand->Value}{A:Int}{B:Int}{b:Bool}(ho:o.op= .binOp .leq t x y t':=by rfl)(hx:ρ x= iV A:=by rfl)(hy:ρ y= iV B:=by rfl)(e:decide (A<=B)=b):(execOp ρ o).run P w= .ok (.value (.bool b)) w:=aDF ho hx hy e
theorem Sn {ρ:Operand->Value}{A:Int}{B:Int}{b:Bool}(ho:o.op= .binOp .gtr t x y t':=by rfl)(hx:ρ x= iV A:=by rfl)(hy:ρ y= iV B:=by rfl)(e:decide (B<A)=b):(execOp ρ o).run P w= .ok (.value (.bool b)) w:=aDG ho hx hy e
theorem Od {ρ:Operand->Value}{A:Int}{B:Int}{b:Bool}(ho:o.op= .binOp .geq t x y t':=by rfl)(hx:ρ x= iV A:=by rfl)(hy:ρ y= iV B:=by rfl)(e:decide (B<=A)=b):(execOp ρ o).run P w= .ok (.value (.bool b)) w:=aDH ho hx hy e
theorem Rr {ρ:Operand->Value}{A:Int}{B:Int}{b:Bool}(ho:o.op= .binOp .eql t x y t':=by rfl)(hx:ρ x= iV A:=by rfl)(hy:ρ y= iV B:=by rfl)(e:decide (A=B)=b):(execOp ρ o).run P w= .ok (.value (.bool b)) w:=aDI ho hx hy e
theorem Nw {ρ:Operand->Value}{A:Int}{B:Int}{b:Bool}(ho:o.op= .binOp .neq t x y t':=by rfl)(hx:ρ x= iV A:=by rfl)(hy:ρ y= iV B:=by rfl)(e:decide (A≠B)=b):(execOp ρ o).run P w= .ok (.value (.bool b)) w:=aDD ho hx hy e
theorem Ha {ρ:Operand->Value}{off:Nat}{n:Nat}{c:Nat}{k:Nat}{size:Nat}{off':Nat}{z:Int}{e:TypeId}(ht:P.underlying t=some (.slice e))(ho:o.op= .indexAddr t x y:=by rfl)(hs:(P.info? e).map (·.size)=some size:=by kernel_rfl)(hx:ρ x= .slice (some ⟨g,off,none⟩) n c:=by rfl)(hy:ρ y= iV z:=by rfl)(hz:z=(k:Int):=by omega)(l:k<n)(f:off'=off+k*size):(execOp ρ o).run P w= .ok (.value (.pointer (some ⟨g,off',none⟩))) w:=vF ho ht hs hx hy hz l f
theorem zy {id:Nat}(h:wpAnyH P .any ops Q (fun x=>Aa w x) ops.size (Array.replicate ops.size false) a w.drew)(hm:P.follows .mixedOrders=true:=by kernel_rfl):(Code.region id ops true).wp P Q a w:=wp_region_held_drew (S:=fun x=>Aa w x) hm Aq.drew (fun _=>h)
theorem zn {d:Option Nat}{u:Value}(h:wpList P ops Q rest a' w)(ha:a.put d u=a':=by simp only[ζ]<;>rfl):∃v,Ending.returned u= .returned v/\wpList P ops Q rest (a.put d v) w:=⟨u,rfl,by rw[ha];exact h⟩
theorem zm {S:World->Prop}{lt:Array Bool}{d:Option Nat}{u:Value}(hS:S w)(h:wpAnyH P md l.toArray Q S fuel lt a' w)(ha:a.put d u=a':=by simp only[ζ]<;>rfl):∃v,Ending.returned u= .returned v/\S w/\wpAnyH P md l.toArray Q S fuel lt (a.put d v) w:=⟨u,rfl,hS,by rw[ha];exact h⟩
theorem zb:Aa w w.drew:=Aq.drew
theorem zc {f:FuncId}{args:Array Value}{Φ:Ending->World->Prop}(hc:Calls P f args w Φ)(h:∀e w',Φ e w'->∃v,e= .returned v/\wpList P ops Q rest (a.put op.dst v) w')(hw:Region.wanted op (yielded ops a.tmps)=true:=by rfl)(hv:(execOp a.eval op).run P w= .ok (.enter f args) w:=by go_simp):wpList P ops Q (op::rest) a w:=Gs hw hv hc h
theorem aA {m':Nat->List Df}{a':Nat->Act}(T:TypeId)(zs:List Value)(H:Hp w0 w m)(h:∀X w',Hd (Hp w0 w' (m' X))->Aa w w'->w.heap.size<=X->wpList P ops Q rest (a' X) w')(hw:Region.wanted op (yielded ops a.tmps)=true:=by rfl)(hv:(execOp a.eval op).run P w= .ok (.value (.pointer (π w.heap.size))) (w.alloc (.cells zs.toArray T)):=by (try simp only[rz,rc]);go_simp)(hn:Ar zs:=by simp[Ar,rz,rc])(hm:∀X,m++[.blk X T zs]=m' X:=by intro X;(try simp only[iZZ,fQQ]);rfl)(ha:∀X,a.put op.dst (.pointer (π X))=a' X:=by intro X;(try simp only[ζ]);rfl):wpList P ops Q (op::rest) a w:=eT hw hv H hn fun X w' hh hx hg=>by rw[ha];exact h X w' (zH (hm X▸hh)) hx hg
theorem Cm {m':Nat->List Df}{a':Nat->Act}(T:TypeId)(zs:List Value)(H:Hp w0 w m)(h:∀X w',Hd (Hp w0 w' (m' X))->Hd (Ah w w')->wpList P ops Q rest (a' X) w')(hw:Region.wanted op (yielded ops a.tmps)=true:=by rfl)(hv:(execOp a.eval op).run P w= .ok (.value (.pointer (π w.heap.size))) (w.alloc (.cells zs.toArray T)):=by (try simp only[rz,rc]);go_simp)(hn:Ar zs:=by simp[Ar,rz,rc])(hm:∀X,m++[.blk X T zs]=m' X:=by intro X;(try simp only[iZZ,fQQ]);rfl)(ha:∀X,a.put op.dst (.pointer (π X))=a' X:=by intro X;(try simp only[ζ]);rfl):wpList P ops Q (op::rest) a w:=eT hw hv H hn fun X w' hh hx _=>by rw[ha];exact h X w' (zH (hm X▸hh)) (zH (Ah.of_ext hx))
theorem aL {m':Nat->List Df}{a':Nat->Act}(n:Nat)(T:TypeId)(zs:List Value)(H:Hp w0 w m)(h:∀X w',Hd (Hp w0 w' (m' X))->Aa w w'->w.heap.size<=X->wpList P ops Q rest (a' X) w')(hw:Region.wanted op (yielded ops a.tmps)=true:=by rfl)(hv:(execOp a.eval op).run P w= .ok (.value (.slice (π w.heap.size) n n)) (w.alloc (.cells zs.toArray T)):=by (try simp only[rz,rc]);go_simp)(hn:Ar zs:=by simp[Ar,rz,rc])(hm:∀X,m++[.blk X T zs]=m' X:=by intro X;(try simp only[iZZ,fQQ]);rfl)(ha:∀X,a.put op.dst (.slice (π X) n n)=a' X:=by intro X;(try simp only[ζ]);rfl):wpList P ops Q (op::rest) a w:=uG hw hv H hn fun X w' hh hx hg=>by rw[ha];exact h X w' (zH (hm X▸hh)) hx hg
theorem Zp {m':Nat->List Df}{a':Nat->Act}(n:Nat)(T:TypeId)(zs:List Value)(H:Hp w0 w m)(h:∀X w',Hd (Hp w0 w' (m' X))->Hd (Ah w w')->wpList P ops Q rest (a' X) w')(hw:Region.wanted op (yielded ops a.tmps)=true:=by rfl)(hv:(execOp a.eval op).run P w= .ok (.value (.slice (π w.heap.size) n n)) (w.alloc (.cells zs.toArray T)):=by (try simp only[rz,rc]);go_simp)(hn:Ar zs:=by simp[Ar,rz,rc])(hm:∀X,m++[.blk X T zs]=m' X:=by intro X;(try simp only[iZZ,fQQ]);rfl)(ha:∀X,a.put op.dst (.slice (π X) n n)=a' X:=by intro X;(try simp only[ζ]);rfl):wpList P ops Q (op::rest) a w:=uG hw hv H hn fun X w' hh hx _=>by rw[ha];exact h X w' (zH (hm X▸hh)) (zH (Ah.of_ext hx))
theorem aS (ix:Nat)(vs:List Value)(H:Hp w0 w m)(h:∀w',Hd (Hp w0 w' m')->Ah w w'->Bi g w w'->wpList P ops Q rest a' w')(hw:Region.wanted op (yielded ops a.tmps)=true:=by rfl)(ho:op.op= .store ty x y:=by rfl)(hi:m[ix]?=some (.blk g t cs):=by rfl)(hx:a.eval x= .pointer (π g):=by rfl)(hy:a.eval y= .agg vs.toArray:=by rfl)(hl:cs.length=vs.length:=by rfl)(hz:(P.info? ty).map (·.size)=some vs.length:=by kernel_rfl)(h1:∀v,v∈vs->v.oneCell'=true:=by simp[Value.oneCell',rc,rz])(hn:Ar vs:=by simp[Ar,rz,rc])(hm:m.set ix (.blk g t (vs))=m':=by (try simp only[List.set_cons_succ,List.set_cons_zero]);rfl)(ha:a.put op.dst undef=a':=by (try simp only[Act.put]);rfl):wpList P ops Q (op::rest) a w:=aAZ hw ty x y ho H hi 0 vs hx hy (kXX (by rw[cZZ];exact hl.symm)) hz h1 hn fun w' hh hd hq=>by rw[ha];exact h w' (zH (hm▸(show Hp _ _ _ from(by have e:cs.take 0++vs++cs.drop (0+vs.length)=vs:=(by rw[List.take_zero,fQQ,cZZ,List.drop_eq_nil_of_le (kXX hl),gXX]);rw[e]at hh;exact hh)))) hd hq
theorem Da (ix:Nat)(vs:List Value)(H:Hp w0 w m)(h:∀w',Hd (Hp w0 w' m')->Hd (Ah w w')->wpList P ops Q rest a' w')(hw:Region.wanted op (yielded ops a.tmps)=true:=by rfl)(ho:op.op= .store ty x y:=by rfl)(hi:m[ix]?=some (.blk g t cs):=by rfl)(hx:a.eval x= .pointer (π g):=by rfl)(hy:a.eval y= .agg vs.toArray:=by rfl)(hl:cs.length=vs.length:=by rfl)(hz:(P.info? ty).map (·.size)=some vs.length:=by kernel_rfl)(h1:∀v,v∈vs->v.oneCell'=true:=by simp[Value.oneCell',rc,rz])(hn:Ar vs:=by simp[Ar,rz,rc])(hm:m.set ix (.blk g t (vs))=m':=by (try simp only[List.set_cons_succ,List.set_cons_zero]);rfl)(ha:a.put op.dst undef=a':=by (try simp only[Act.put]);rfl):wpList P ops Q (op::rest) a w:=aAZ hw ty x y ho H hi 0 vs hx hy (kXX (by rw[cZZ];exact hl.symm)) hz h1 hn fun w' hh hd hq=>by rw[ha];exact h w' (zH (hm▸(show Hp _ _ _ from(by have e:cs.take 0++vs++cs.drop (0+vs.length)=vs:=(by rw[List.take_zero,fQQ,cZZ,List.drop_eq_nil_of_le (kXX hl),gXX]);rw[e]at hh;exact hh)))) (zH hd)
theorem aU (ix:Nat)(v:Value)(H:Hp w0 w m)(h:∀w',Hd (Hp w0 w' m')->Ah w w'->Bi g w w'->wpList P ops Q rest a' w')(hw:Region.wanted op (yielded ops a.tmps)=true:=by rfl)(ho:op.op= .store ty x y:=by rfl)(hi:m[ix]?=some (.blk g t cs):=by rfl)(hx:a.eval x= .pointer (π g):=by rfl)(hy:a.eval y=v:=by rfl)(hl:cs.length=1:=by rfl)(hz:(P.info? ty).map (·.size)=some 1:=by kernel_rfl)(hc:v.cells=#[v]:=by simp[Value.cells])(h1:v.oneCell'=true:=by simp[Value.oneCell'])(hn:Ar [v]:=by simp[Ar,rz,rc])(hm:m.set ix (.blk g t ([v]))=m':=by (try simp only[List.set_cons_succ,List.set_cons_zero]);rfl)(ha:a.put op.dst undef=a':=by (try simp only[Act.put]);rfl):wpList P ops Q (op::rest) a w:=uF hw ty x y ho H hi 0 v hx hy (kXX (by rw[cZZ];exact hl.symm)) hz hc h1 hn fun w' hh hd hq=>by rw[ha];exact h w' (zH (hm▸(show Hp _ _ _ from(by have e:cs.take 0++[v]++cs.drop (0+1)=[v]:=(by rw[List.take_zero,fQQ,cZZ,List.drop_eq_nil_of_le (kXX hl),gXX]);rw[e]at hh;exact hh)))) hd hq
theorem aGM (ix:Nat)(v:Value)(H:Hp w0 w m)(h:∀w',Hd (Hp w0 w' m')->Hd (Ah w w')->wpList P ops Q rest a' w')(hw:Region.wanted op (yielded ops a.tmps)=true:=by rfl)(ho:op.op= .store ty x y:=by rfl)(hi:m[ix]?=some (.blk g t cs):=by rfl)(hx:a.eval x= .pointer (π g):=by rfl)(hy:a.eval y=v:=by rfl)(hl:cs.length=1:=by rfl)(hz:(P.info? ty).map (·.size)=some 1:=by kernel_rfl)(hc:v.cells=#[v]:=by simp[Value.cells])(h1:v.oneCell'=true:=by simp[Value.oneCell'])(hn:Ar [v]:=by simp[Ar,rz,rc])(hm:m.set ix (.blk g t ([v]))=m':=by (try simp only[List.set_cons_succ,List.set_cons_zero]);rfl)(ha:a.put op.dst undef=a':=by (try simp only[Act.put]);rfl):wpList P ops Q (op::rest) a w:=uF hw ty x y ho H hi 0 v hx hy (kXX (by rw[cZZ];exact hl.symm)) hz hc h1 hn fun w' hh hd hq=>by rw[ha];exact h w' (zH (hm▸(show Hp _ _ _ from(by have e:cs.take 0++[v]++cs.drop (0+1)=[v]:=(by rw[List.take_zero,fQQ,cZZ,List.drop_eq_nil_of_le (kXX hl),gXX]);rw[e]at hh;exact hh)))) (zH hd)
theorem bS (ix:Nat)(i:Nat)(lt:Array Bool)(vs:List Value)(H:Hp w0 w m)(hS:Aa b w)(hG:b.heap.size<=g)(h:∀w',Hd (Hp w0 w' m')->Hd (Ah w w')->Hd (Aa b w')->wpAnyH P md l.toArray Q (fun x=>Aa b x) fuel lt a' w')(hli:l[i]?=some oi:=by rfl)(hr:Region.ready md l.toArray listed=[i]:=by kernel_rfl)(hw:Region.wanted oi (yielded l.toArray a.tmps)=true:=by rfl)(hlt:listed.setIfInBounds i true=lt:=by kernel_rfl)(ho:oi.op= .store ty x y:=by rfl)(hi:m[ix]?=some (.blk g t cs):=by rfl)(hx:a.eval x= .pointer (π g):=by rfl)(hy:a.eval y= .agg vs.toArray:=by rfl)(hl:cs.length=vs.length:=by rfl)(hz:(P.info? ty).map (·.size)=some vs.length:=by kernel_rfl)(h1:∀v,v∈vs->v.oneCell'=true:=by simp[Value.oneCell',rc,rz])(hn:Ar vs:=by simp[Ar,rz,rc])(hm:m.set ix (.blk g t (vs))=m':=by (try simp only[List.set_cons_succ,List.set_cons_zero]);rfl)(ha:a.put oi.dst undef=a':=by (try simp only[Act.put]);rfl):wpAnyH P md l.toArray Q (fun x=>Aa b x) (fuel+1) listed a w:=Ef hli hr hw hlt ty x y ho H hi 0 vs hx hy (kXX (by rw[cZZ];exact hl.symm)) hz h1 hn fun w' hh hd hq=>⟨Bi.ext hq hS hG,by rw[ha];exact h w' (zH (hm▸(show Hp _ _ _ from(by have e:cs.take 0++vs++cs.drop (0+vs.length)=vs:=(by rw[List.take_zero,fQQ,cZZ,List.drop_eq_nil_of_le (kXX hl),gXX]);rw[e]at hh;exact hh)))) (zH hd) (zH (Bi.ext hq hS hG))⟩
theorem rM.h:rM (.blk g t cs::m) g cs:=⟨0,t,rfl⟩
theorem rM.tl {e:Df}(h:rM m g cs):rM (e::m) g cs:=by obtain⟨i,t,h⟩:=h;exact⟨i+1,t,h⟩
theorem Sk (hn:Region.wanted op (yielded ops a.tmps)=false:=by rfl)(ha:a.put op.dst undef=a':=by (try simp only[ζ]);rfl):Kz P ops w0 w m op a undef a':=fun _ _ _ h=>by subst ha;exact lK hn h
theorem Sq (hw:Region.wanted op (yielded ops a.tmps)=true:=by rfl)(hv:(execOp a.eval op).run P w= .ok (.value v) w:=by go_simp<;>with_reducible rfl)(ha:a.put op.dst v=a':=by (try simp only[ζ]);rfl):Kz P ops w0 w m op a v a':=fun _ _ _ h=>by subst ha;exact Lh hw hv h
theorem Sd {o:Nat}(hw:Region.wanted op (yielded ops a.tmps)=true:=by rfl)(ho:op.op= .load ty x:=by rfl)(hx:a.eval x= .pointer (some ⟨g,o,none⟩):=by rfl)(hi:rM m g cs:=by repeat (first|exact rM.h|apply rM.tl))(ho0:o=0:=by rfl)(hd:(P.underlying ty).map (·.isRow)=some true:=by decide+kernel)(hz:(P.info? ty).map (·.size)=some cs.length:=by kernel_rfl)(ha:a.put op.dst (.agg cs.toArray)=a':=by (try simp only[ζ]);rfl):Kz P ops w0 w m op a (.agg cs.toArray) a':=fun H _ _ h=>by
  subst ha;subst ho0;obtain⟨i,t,hi⟩:=hi;cases hu:P.underlying ty with
  |none=>rw[hu]at hd;cases hd
  |some d=>
  have hr:=H.range hi 0 cs.length;rw[List.drop_zero,mZZ]at hr;exact aBA hw ty x ho g 0 cs hx hr hu (by rw[hu]at hd;exact Option.some.inj hd) hz h
theorem Se {o:Nat}(hw:Region.wanted op (yielded ops a.tmps)=true:=by rfl)(_ho:op.op= .load ty x:=by rfl)(_hx:a.eval x= .pointer (some ⟨g,o,none⟩):=by rfl)(hi:rM m g cs:=by repeat (first|exact rM.h|apply rM.tl))(hc:cs[o]?=some v:=by rfl)(hv:∀x:World,x.cell? ⟨g,o,none⟩=some v->(execOp a.eval op).run P x= .ok (.value v) x:=by intro x hq;go_simp<;>with_reducible rfl)(ha:a.put op.dst v=a':=by (try simp only[ζ]);rfl):Kz P ops w0 w m op a v a':=fun H _ _ h=>by
  subst ha;obtain⟨i,t,hi⟩:=hi;exact uH hw (H.cell hi o hc) hv h
theorem Cn (H:Hp w0 w m)(v1:Value)(h:wpList P ops Q rest a1 w)(s1:Kz P ops w0 w m o1 a v1 a1:=by first|exact Sk|exact Sd|exact Se|exact Sq):wpList P ops Q (o1::rest) a w:=s1 H _ _ (h)
theorem Cc (H:Hp w0 w m)(v1 v2:Value)(h:wpList P ops Q rest a2 w)(s1:Kz P ops w0 w m o1 a v1 a1:=by first|exact Sk|exact Sd|exact Se|exact Sq)(s2:Kz P ops w0 w m o2 a1 v2 a2:=by first|exact Sk|exact Sd|exact Se|exact Sq):wpList P ops Q (o1::o2::rest) a w:=s1 H _ _ (s2 H _ _ (h))
theorem Dt (H:Hp w0 w m)(v1 v2 v3:Value)(h:wpList P ops Q rest a3 w)(s1:Kz P ops w0 w m o1 a v1 a1:=by first|exact Sk|exact Sd|exact Se|exact Sq)(s2:Kz P ops w0 w m o2 a1 v2 a2:=by first|exact Sk|exact Sd|exact Se|exact Sq)(s3:Kz P ops w0 w m o3 a2 v3 a3:=by first|exact Sk|exact Sd|exact Se|exact Sq):wpList P ops Q (o1::o2::o3::rest) a w:=s1 H _ _ (s2 H _ _ (s3 H _ _ (h)))
theorem Fk (H:Hp w0 w m)(v1 v2 v3 v4:Value)(h:wpList P ops Q rest a4 w)(s1:Kz P ops w0 w m o1 a v1 a1:=by first|exact Sk|exact Sd|exact Se|exact Sq)(s2:Kz P ops w0 w m o2 a1 v2 a2:=by first|exact Sk|exact Sd|exact Se|exact Sq)(s3:Kz P ops w0 w m o3 a2 v3 a3:=by first|exact Sk|exact Sd|exact Se|exact Sq)(s4:Kz P ops w0 w m o4 a3 v4 a4:=by first|exact Sk|exact Sd|exact Se|exact Sq):wpList P ops Q (o1::o2::o3::o4::rest) a w:=s1 H _ _ (s2 H _ _ (s3 H _ _ (s4 H _ _ (h))))
theorem Na (H:Hp w0 w m)(v1 v2 v3 v4 v5:Value)(h:wpList P ops Q rest a5 w)(s1:Kz P ops w0 w m o1 a v1 a1:=by first|exact Sk|exact Sd|exact Se|exact Sq)(s2:Kz P ops w0 w m o2 a1 v2 a2:=by first|exact Sk|exact Sd|exact Se|exact Sq)(s3:Kz P ops w0 w m o3 a2 v3 a3:=by first|exact Sk|exact Sd|exact Se|exact Sq)(s4:Kz P ops w0 w m o4 a3 v4 a4:=by first|exact Sk|exact Sd|exact Se|exact Sq)(s5:Kz P ops w0 w m o5 a4 v5 a5:=by first|exact Sk|exact Sd|exact Se|exact Sq):wpList P ops Q (o1::o2::o3::o4::o5::rest) a w:=s1 H _ _ (s2 H _ _ (s3 H _ _ (s4 H _ _ (s5 H _ _ (h)))))
theorem Tx {o6:Oper}(H:Hp w0 w m)(v1 v2 v3 v4 v5 v6:Value)(h:wpList P ops Q rest a6 w)(s1:Kz P ops w0 w m o1 a v1 a1:=by first|exact Sk|exact Sd|exact Se|exact Sq)(s2:Kz P ops w0 w m o2 a1 v2 a2:=by first|exact Sk|exact Sd|exact Se|exact Sq)(s3:Kz P ops w0 w m o3 a2 v3 a3:=by first|exact Sk|exact Sd|exact Se|exact Sq)(s4:Kz P ops w0 w m o4 a3 v4 a4:=by first|exact Sk|exact Sd|exact Se|exact Sq)(s5:Kz P ops w0 w m o5 a4 v5 a5:=by first|exact Sk|exact Sd|exact Se|exact Sq)(s6:Kz P ops w0 w m o6 a5 v6 a6:=by first|exact Sk|exact Sd|exact Se|exact Sq):wpList P ops Q (o1::o2::o3::o4::o5::o6::rest) a w:=s1 H _ _ (s2 H _ _ (s3 H _ _ (s4 H _ _ (s5 H _ _ (s6 H _ _ (h))))))
theorem rJ {o6:Oper}{o7:Oper}(H:Hp w0 w m)(v1 v2 v3 v4 v5 v6 v7:Value)(h:wpList P ops Q rest a7 w)(s1:Kz P ops w0 w m o1 a v1 a1:=by first|exact Sk|exact Sd|exact Se|exact Sq)(s2:Kz P ops w0 w m o2 a1 v2 a2:=by first|exact Sk|exact Sd|exact Se|exact Sq)(s3:Kz P ops w0 w m o3 a2 v3 a3:=by first|exact Sk|exact Sd|exact Se|exact Sq)(s4:Kz P ops w0 w m o4 a3 v4 a4:=by first|exact Sk|exact Sd|exact Se|exact Sq)(s5:Kz P ops w0 w m o5 a4 v5 a5:=by first|exact Sk|exact Sd|exact Se|exact Sq)(s6:Kz P ops w0 w m o6 a5 v6 a6:=by first|exact Sk|exact Sd|exact Se|exact Sq)(s7:Kz P ops w0 w m o7 a6 v7 a7:=by first|exact Sk|exact Sd|exact Se|exact Sq):wpList P ops Q (o1::o2::o3::o4::o5::o6::o7::rest) a w:=s1 H _ _ (s2 H _ _ (s3 H _ _ (s4 H _ _ (s5 H _ _ (s6 H _ _ (s7 H _ _ (h)))))))
theorem Iu {o6:Oper}{o7:Oper}{o8:Oper}{a8:Act}(H:Hp w0 w m)(v1 v2 v3 v4 v5 v6 v7 v8:Value)(h:wpList P ops Q rest a8 w)(s1:Kz P ops w0 w m o1 a v1 a1:=by first|exact Sk|exact Sd|exact Se|exact Sq)(s2:Kz P ops w0 w m o2 a1 v2 a2:=by first|exact Sk|exact Sd|exact Se|exact Sq)(s3:Kz P ops w0 w m o3 a2 v3 a3:=by first|exact Sk|exact Sd|exact Se|exact Sq)(s4:Kz P ops w0 w m o4 a3 v4 a4:=by first|exact Sk|exact Sd|exact Se|exact Sq)(s5:Kz P ops w0 w m o5 a4 v5 a5:=by first|exact Sk|exact Sd|exact Se|exact Sq)(s6:Kz P ops w0 w m o6 a5 v6 a6:=by first|exact Sk|exact Sd|exact Se|exact Sq)(s7:Kz P ops w0 w m o7 a6 v7 a7:=by first|exact Sk|exact Sd|exact Se|exact Sq)(s8:Kz P ops w0 w m o8 a7 v8 a8:=by first|exact Sk|exact Sd|exact Se|exact Sq):wpList P ops Q (o1::o2::o3::o4::o5::o6::o7::o8::rest) a w:=s1 H _ _ (s2 H _ _ (s3 H _ _ (s4 H _ _ (s5 H _ _ (s6 H _ _ (s7 H _ _ (s8 H _ _ (h))))))))
theorem aC {f:FuncId}{args:Array Value}(H:Hp w0 w m)(hc:Calls P f args w (fun e w'=>e= .returned v/\Aa w w'))(h:∀w',Hd (Hp w0 w' m)->Hd (Ah w w')->wpList P ops Q rest a' w')(hw:Region.wanted op (yielded ops a.tmps)=true:=by rfl)(hv:(execOp a.eval op).run P w= .ok (.enter f args) w:=by go_simp)(ha:a.put op.dst v=a':=by (try simp only[ζ]);rfl):wpList P ops Q (op::rest) a w:=Gs hw hv hc fun e w' ⟨h1,hx⟩=>⟨v,h1,by rw[ha];exact h w' (zH (H.step hx)) (zH (Ah.of_ext hx))⟩
theorem hN (h:Hp w0 w m)(hm:m=m':=by (try simp only[iZZ,fQQ,List.set_cons_succ,List.set_cons_zero]);rfl):Hd (Hp w0 w m'):=zH (hm▸h)
theorem Tk (hi:l[i]?=some oi:=by rfl)(hs:Region.noSelect l.toArray=true:=by kernel_rfl)(hf:Region.free md l.toArray listed i=true:=by kernel_rfl)(hr:(Region.ready md l.toArray listed).contains i=true:=by kernel_rfl)(hn:Region.wanted oi (yielded l.toArray a.tmps)=false:=by rfl)(hQ:∀c a w,Q (.panic c) (a.put oi.dst undef) w->Q (.panic c) a w:=by intro _ _ _ h;exact h)(ha:a.put oi.dst undef=a':=by (try simp only[ζ]);rfl):SD P md l Q w0 b m i listed a undef a':=fun _ _ _ hS h=>by subst ha;exact lL hi hs hf hr hQ hn hS rfl h
theorem Tq (hi:l[i]?=some oi:=by rfl)(hs:Region.noSelect l.toArray=true:=by kernel_rfl)(hf:Region.free md l.toArray listed i=true:=by kernel_rfl)(hr:(Region.ready md l.toArray listed).contains i=true:=by kernel_rfl)(hw:Region.wanted oi (yielded l.toArray a.tmps)=true:=by rfl)(hv:∀w,Aa b w->(execOp a.eval oi).run P w= .ok (.value v) w:=by intro w A0;go_simp<;>with_reducible rfl)(hQ:∀c a w,Q (.panic c) (a.put oi.dst v) w->Q (.panic c) a w:=by intro _ _ _ h;exact h)(ha:a.put oi.dst v=a':=by (try simp only[ζ]);rfl):SD P md l Q w0 b m i listed a v a':=fun _ _ _ hS h=>by subst ha;exact Mn hi hs hf hr hQ hw hv hS rfl h
theorem Td {o:Nat}(hi:l[i]?=some oi:=by rfl)(hs:Region.noSelect l.toArray=true:=by kernel_rfl)(hf:Region.free md l.toArray listed i=true:=by kernel_rfl)(hr:(Region.ready md l.toArray listed).contains i=true:=by kernel_rfl)(hw:Region.wanted oi (yielded l.toArray a.tmps)=true:=by rfl)(ho:oi.op= .load ty x:=by rfl)(hx:a.eval x= .pointer (some ⟨g,o,none⟩):=by rfl)(hi_:rM m g cs:=by repeat (first|exact rM.h|apply rM.tl))(ho0:o=0:=by rfl)(hd:(P.underlying ty).map (·.isRow)=some true:=by decide+kernel)(hz:(P.info? ty).map (·.size)=some cs.length:=by kernel_rfl)(hQ:∀c a w,Q (.panic c) (a.put oi.dst (.agg cs.toArray)) w->Q (.panic c) a w:=by intro _ _ _ h;exact h)(ha:a.put oi.dst (.agg cs.toArray)=a':=by (try simp only[ζ]);rfl):SD P md l Q w0 b m i listed a (.agg cs.toArray) a':=fun H _ _ hS h=>by
  subst ha;subst ho0;obtain⟨j,t,hj⟩:=hi_;cases hu:P.underlying ty with
  |none=>rw[hu]at hd;cases hd
  |some d=>
  have A0:=H.range hj 0 cs.length;rw[List.drop_zero,mZZ]at A0;exact Ih hi hs hf hr ty x ho g 0 cs d hQ hw hx (fun x hx=>Bp A0 hx) hu (by rw[hu]at hd;exact Option.some.inj hd) hz hS rfl h
theorem Te {o:Nat}(hi:l[i]?=some oi:=by rfl)(hs:Region.noSelect l.toArray=true:=by kernel_rfl)(hf:Region.free md l.toArray listed i=true:=by kernel_rfl)(hr:(Region.ready md l.toArray listed).contains i=true:=by kernel_rfl)(hw:Region.wanted oi (yielded l.toArray a.tmps)=true:=by rfl)(_ho:oi.op= .load ty x:=by rfl)(_hx:a.eval x= .pointer (some ⟨g,o,none⟩):=by rfl)(hi_:rM m g cs:=by repeat (first|exact rM.h|apply rM.tl))(hc:cs[o]?=some v:=by rfl)(hv:∀x:World,x.cell? ⟨g,o,none⟩=some v->(execOp a.eval oi).run P x= .ok (.value v) x:=by intro x hq;go_simp<;>with_reducible rfl)(hQ:∀c a w,Q (.panic c) (a.put oi.dst v) w->Q (.panic c) a w:=by intro _ _ _ h;exact h)(ha:a.put oi.dst v=a':=by (try simp only[ζ]);rfl):SD P md l Q w0 b m i listed a v a':=fun H _ _ hS h=>by
  subst ha;obtain⟨j,t,hj⟩:=hi_;exact Ec hi hs hf hr hQ hw (fun x hx=>Aa.get hx (H.cell hj o hc)) hv hS rfl h
theorem Mz (H:Hp w0 b m)(hS:Aa b w)(lt:Array Bool)(i1:Nat)(v1:Value)(h:wpAnyH P md l.toArray Q (fun x=>Aa b x) fuel lt a1 w)(s1:SD P md l Q w0 b m i1 listed a v1 a1:=by first|exact Tk|exact Td|exact Te|exact Tq)(hl:(listed.setIfInBounds i1 true)=lt:=by kernel_rfl):wpAnyH P md l.toArray Q (fun x=>Aa b x) (fuel+1) listed a w:=s1 H _ _ hS ((by rw[hl];exact h))
theorem cR (H:Hp w0 b m)(hS:Aa b w)(lt:Array Bool)(i1 i2:Nat)(v1 v2:Value)(h:wpAnyH P md l.toArray Q (fun x=>Aa b x) fuel lt a2 w)(s1:SD P md l Q w0 b m i1 listed a v1 a1:=by first|exact Tk|exact Td|exact Te|exact Tq)(s2:SD P md l Q w0 b m i2 (listed.setIfInBounds i1 true) a1 v2 a2:=by first|exact Tk|exact Td|exact Te|exact Tq)(hl:((listed.setIfInBounds i1 true).setIfInBounds i2 true)=lt:=by kernel_rfl):wpAnyH P md l.toArray Q (fun x=>Aa b x) (fuel+1+1) listed a w:=s1 H _ _ hS (s2 H _ _ hS ((by rw[hl];exact h)))
theorem rN (H:Hp w0 b m)(hS:Aa b w)(lt:Array Bool)(i1 i2 i3:Nat)(v1 v2 v3:Value)(h:wpAnyH P md l.toArray Q (fun x=>Aa b x) fuel lt a3 w)(s1:SD P md l Q w0 b m i1 listed a v1 a1:=by first|exact Tk|exact Td|exact Te|exact Tq)(s2:SD P md l Q w0 b m i2 (listed.setIfInBounds i1 true) a1 v2 a2:=by first|exact Tk|exact Td|exact Te|exact Tq)(s3:SD P md l Q w0 b m i3 ((listed.setIfInBounds i1 true).setIfInBounds i2 true) a2 v3 a3:=by first|exact Tk|exact Td|exact Te|exact Tq)(hl:(((listed.setIfInBounds i1 true).setIfInBounds i2 true).setIfInBounds i3 true)=lt:=by kernel_rfl):wpAnyH P md l.toArray Q (fun x=>Aa b x) (fuel+1+1+1) listed a w:=s1 H _ _ hS (s2 H _ _ hS (s3 H _ _ hS ((by rw[hl];exact h))))
theorem aEA (H:Hp w0 b m)(hS:Aa b w)(lt:Array Bool)(i1 i2 i3 i4:Nat)(v1 v2 v3 v4:Value)(h:wpAnyH P md l.toArray Q (fun x=>Aa b x) fuel lt a4 w)(s1:SD P md l Q w0 b m i1 listed a v1 a1:=by first|exact Tk|exact Td|exact Te|exact Tq)(s2:SD P md l Q w0 b m i2 (listed.setIfInBounds i1 true) a1 v2 a2:=by first|exact Tk|exact Td|exact Te|exact Tq)(s3:SD P md l Q w0 b m i3 ((listed.setIfInBounds i1 true).setIfInBounds i2 true) a2 v3 a3:=by first|exact Tk|exact Td|exact Te|exact Tq)(s4:SD P md l Q w0 b m i4 (((listed.setIfInBounds i1 true).setIfInBounds i2 true).setIfInBounds i3 true) a3 v4 a4:=by first|exact Tk|exact Td|exact Te|exact Tq)(hl:((((listed.setIfInBounds i1 true).setIfInBounds i2 true).setIfInBounds i3 true).setIfInBounds i4 true)=lt:=by kernel_rfl):wpAnyH P md l.toArray Q (fun x=>Aa b x) (fuel+1+1+1+1) listed a w:=s1 H _ _ hS (s2 H _ _ hS (s3 H _ _ hS (s4 H _ _ hS ((by rw[hl];exact h)))))
theorem aGW (H:Hp w0 b m)(hS:Aa b w)(lt:Array Bool)(i1 i2 i3 i4 i5:Nat)(v1 v2 v3 v4 v5:Value)(h:wpAnyH P md l.toArray Q (fun x=>Aa b x) fuel lt a5 w)(s1:SD P md l Q w0 b m i1 listed a v1 a1:=by first|exact Tk|exact Td|exact Te|exact Tq)(s2:SD P md l Q w0 b m i2 (listed.setIfInBounds i1 true) a1 v2 a2:=by first|exact Tk|exact Td|exact Te|exact Tq)(s3:SD P md l Q w0 b m i3 ((listed.setIfInBounds i1 true).setIfInBounds i2 true) a2 v3 a3:=by first|exact Tk|exact Td|exact Te|exact Tq)(s4:SD P md l Q w0 b m i4 (((listed.setIfInBounds i1 true).setIfInBounds i2 true).setIfInBounds i3 true) a3 v4 a4:=by first|exact Tk|exact Td|exact Te|exact Tq)(s5:SD P md l Q w0 b m i5 ((((listed.setIfInBounds i1 true).setIfInBounds i2 true).setIfInBounds i3 true).setIfInBounds i4 true) a4 v5 a5:=by first|exact Tk|exact Td|exact Te|exact Tq)(hl:(((((listed.setIfInBounds i1 true).setIfInBounds i2 true).setIfInBounds i3 true).setIfInBounds i4 true).setIfInBounds i5 true)=lt:=by kernel_rfl):wpAnyH P md l.toArray Q (fun x=>Aa b x) (fuel+1+1+1+1+1) listed a w:=s1 H _ _ hS (s2 H _ _ hS (s3 H _ _ hS (s4 H _ _ hS (s5 H _ _ hS ((by rw[hl];exact h))))))
theorem aBN (H:Hp w0 b m)(hS:Aa b w)(lt:Array Bool)(i1 i2 i3 i4 i5 i6:Nat)(v1 v2 v3 v4 v5 v6:Value)(h:wpAnyH P md l.toArray Q (fun x=>Aa b x) fuel lt a6 w)(s1:SD P md l Q w0 b m i1 listed a v1 a1:=by first|exact Tk|exact Td|exact Te|exact Tq)(s2:SD P md l Q w0 b m i2 (listed.setIfInBounds i1 true) a1 v2 a2:=by first|exact Tk|exact Td|exact Te|exact Tq)(s3:SD P md l Q w0 b m i3 ((listed.setIfInBounds i1 true).setIfInBounds i2 true) a2 v3 a3:=by first|exact Tk|exact Td|exact Te|exact Tq)(s4:SD P md l Q w0 b m i4 (((listed.setIfInBounds i1 true).setIfInBounds i2 true).setIfInBounds i3 true) a3 v4 a4:=by first|exact Tk|exact Td|exact Te|exact Tq)(s5:SD P md l Q w0 b m i5 ((((listed.setIfInBounds i1 true).setIfInBounds i2 true).setIfInBounds i3 true).setIfInBounds i4 true) a4 v5 a5:=by first|exact Tk|exact Td|exact Te|exact Tq)(s6:SD P md l Q w0 b m i6 (((((listed.setIfInBounds i1 true).setIfInBounds i2 true).setIfInBounds i3 true).setIfInBounds i4 true).setIfInBounds i5 true) a5 v6 a6:=by first|exact Tk|exact Td|exact Te|exact Tq)(hl:((((((listed.setIfInBounds i1 true).setIfInBounds i2 true).setIfInBounds i3 true).setIfInBounds i4 true).setIfInBounds i5 true).setIfInBounds i6 true)=lt:=by kernel_rfl):wpAnyH P md l.toArray Q (fun x=>Aa b x) (fuel+1+1+1+1+1+1) listed a w:=s1 H _ _ hS (s2 H _ _ hS (s3 H _ _ hS (s4 H _ _ hS (s5 H _ _ hS (s6 H _ _ hS ((by rw[hl];exact h)))))))
theorem aGV {a8:Act}(H:Hp w0 b m)(hS:Aa b w)(lt:Array Bool)(i1 i2 i3 i4 i5 i6 i7 i8:Nat)(v1 v2 v3 v4 v5 v6 v7 v8:Value)(h:wpAnyH P md l.toArray Q (fun x=>Aa b x) fuel lt a8 w)(s1:SD P md l Q w0 b m i1 listed a v1 a1:=by first|exact Tk|exact Td|exact Te|exact Tq)(s2:SD P md l Q w0 b m i2 (listed.setIfInBounds i1 true) a1 v2 a2:=by first|exact Tk|exact Td|exact Te|exact Tq)(s3:SD P md l Q w0 b m i3 ((listed.setIfInBounds i1 true).setIfInBounds i2 true) a2 v3 a3:=by first|exact Tk|exact Td|exact Te|exact Tq)(s4:SD P md l Q w0 b m i4 (((listed.setIfInBounds i1 true).setIfInBounds i2 true).setIfInBounds i3 true) a3 v4 a4:=by first|exact Tk|exact Td|exact Te|exact Tq)(s5:SD P md l Q w0 b m i5 ((((listed.setIfInBounds i1 true).setIfInBounds i2 true).setIfInBounds i3 true).setIfInBounds i4 true) a4 v5 a5:=by first|exact Tk|exact Td|exact Te|exact Tq)(s6:SD P md l Q w0 b m i6 (((((listed.setIfInBounds i1 true).setIfInBounds i2 true).setIfInBounds i3 true).setIfInBounds i4 true).setIfInBounds i5 true) a5 v6 a6:=by first|exact Tk|exact Td|exact Te|exact Tq)(s7:SD P md l Q w0 b m i7 ((((((listed.setIfInBounds i1 true).setIfInBounds i2 true).setIfInBounds i3 true).setIfInBounds i4 true).setIfInBounds i5 true).setIfInBounds i6 true) a6 v7 a7:=by first|exact Tk|exact Td|exact Te|exact Tq)(s8:SD P md l Q w0 b m i8 (((((((listed.setIfInBounds i1 true).setIfInBounds i2 true).setIfInBounds i3 true).setIfInBounds i4 true).setIfInBounds i5 true).setIfInBounds i6 true).setIfInBounds i7 true) a7 v8 a8:=by first|exact Tk|exact Td|exact Te|exact Tq)(hl:((((((((listed.setIfInBounds i1 true).setIfInBounds i2 true).setIfInBounds i3 true).setIfInBounds i4 true).setIfInBounds i5 true).setIfInBounds i6 true).setIfInBounds i7 true).setIfInBounds i8 true)=lt:=by kernel_rfl):wpAnyH P md l.toArray Q (fun x=>Aa b x) (fuel+1+1+1+1+1+1+1+1) listed a w:=s1 H _ _ hS (s2 H _ _ hS (s3 H _ _ hS (s4 H _ _ hS (s5 H _ _ hS (s6 H _ _ hS (s7 H _ _ hS (s8 H _ _ hS ((by rw[hl];exact h)))))))))
theorem Cx (p:Prop):Hd p\/Hd (¬p):=(Classical.em p).imp zH zH
theorem kR {α:Type}{a:α}{b:α}(h:a=b:=by kernel_rfl):a=b:=h
theorem rR {α:Type}{a:α}{b:α}(h:a=b:=by rfl):a=b:=h
theorem dC {p:Prop}(h:p:=by decide):p:=h
theorem wl {id:Nat}(h:wpList P l.toArray Q l a w):Code.wp P (Code.region id l.toArray false) Q a w:=wp_region_lit h
theorem tD {a:World}{c:World}(h:Hd (Ah a b))(k:Hd (Ah b c)):Hd (Ah a c):=zH (h.1.trans k.1)
end
end
section
open Go.RowKit Go.Deep
theorem Vx (w:World)(r:Option Nat):w.grownBy w r:=⟨rfl,rfl,rfl,Cl _,fun _ _ _=>rfl⟩
theorem dS {P:Program}{w:World}{base:Nat}{t ty e:TypeId}{size bytes:Nat}(el:cU P t e size bytes){v:Value}{n:Nat}{xs:List Value}(hown:Ba w base e size v n xs)
    (A:Option Addr)(k c:Nat)(news:List Value)(hl:news.length=k*size)(hA:0<k->∃ad,A=some ad/\∀j u,news[j]?=some u->w.cell? (ad.add j)=some u)(h1:∀u∈news,u.oneCell'=true)(hnu:Ar news)
    (h63:n+k<=maxLen)(hbytes:(n+k)*bytes<=140737488355328)(hbase:base<=w.heap.size):
    ∃ A' c' w',(Builtin.append_ #[t,t] ty #[v,.slice A k c]).run P w= .ok (.slice A' (n+k) c') w'/\Ba w' base e size (.slice A' (n+k) c') (n+k) (xs++news)/\w.grownBy w' v.ownBlock/\
      ∀g,(Value.slice A' (n+k) c').ownBlock=some g->v.ownBlock=some g\/w.heap.size<=g:=by
  obtain⟨ht,i,z,e1,e2,e3,e4,e5,e6,e7⟩:=el;by_cases hk:0<k
  · obtain⟨ad,rfl,A0⟩:=hA hk
    obtain⟨v',w',hr,q2,q3,q4,g,A1,rfl,hf⟩:=Lq (P:=P) w base t ty e i z size bytes ht e1 e2 e3 e4 e5 e7 e6 v n xs hown ad k c news hl A0 h1 hnu hk h63 hbytes hbase
    exact ⟨_, _, w', hr, q2, q3, fun g' hg' => by obtain rfl:g=g':=by simpa[Value.ownBlock]using hg'
                                                  exact hf⟩
  obtain rfl:k=0:=ω;obtain rfl:news=[]:=iXX (by simpa using hl);have hs:Src P i.size t (.slice A 0 c) 0 [] w:=by
    cases A with
    |none=>exact Src.ofNil w ht c
    |some ad=>exact Src.ofSlice w ht ad 0 c [] (by simp) (by simp) (by simp)
  obtain⟨A2,A3⟩:=hown;rcases A3 with⟨rfl,rfl⟩|⟨g,A1,rest,rfl,q1,q2,q3,q4,q5,q6⟩
  · refine⟨none,0,w,run_append_nothing w t t ty e i ht e1 none 0 0 (Cl _) _ hs,⟨by simpa using A2,.inl ⟨rfl,rfl⟩⟩,Vx _ _,fun g hg=> .inl hg⟩
  refine⟨some ⟨g,0,none⟩,A1,w,run_append_nothing w t t ty e i ht e1 (π g) n A1 q3 _ hs,⟨by simpa using A2,.inr ⟨g,A1,rest,rfl,q1,by simpa using q2,q3,q4,by simpa using q5,by simpa using q6⟩⟩,Vx _ _,fun g hg=> .inl hg⟩
section
variable {P:Program} {w0 w:World} {m:List Df} {ix:Nat} {a:Act} {Q:Exit->Act->World->Prop}
theorem yR {rest:List Oper}{o:Oper}{ops:Array Oper}(hw:Region.wanted o (yielded ops a.tmps)=true)(s x:Operand)(t:TypeId)
  (ho:o.op= .call {callee:= .builtin .append,args:=#[s,x],argTypes:=#[t,t]}){e:TypeId}{size bytes:Nat}(el:cU P t e size bytes){v:Value}{n:Nat}{xs:List Value}(hs:a.eval s=v)
  (hH:Hp w0 w m)(hi:m[ix]?=some (.row e size v n xs))(A:Option Addr)(k c:Nat)(news:List Value)(hx:a.eval x= .slice A k c)(hl:news.length=k*size)
  (hA:0<k->∃ad,A=some ad/\∀j u,news[j]?=some u->w.cell? (ad.add j)=some u)(h1:∀u∈news,u.oneCell'=true)(hnu:Ar news)
  (A0:n+k<=maxLen)(hbytes:(n+k)*bytes<=140737488355328)
  (h:∀A' c' w',Hp w0 w' (m.set ix (.row e size (.slice A' (n+k) c') (n+k) (xs++news)))->Ah w w'->w.grownBy w' v.ownBlock->(∀g,(Value.slice A' (n+k) c').ownBlock=some g->v.ownBlock=some g\/w.heap.size<=g)->
   wpList P ops Q rest (a.put o.dst (.slice A' (n+k) c')) w'):wpList P ops Q (o::rest) a w:=by
 obtain⟨A',c',w',hr,h2,h3,h4⟩:=dS (P:=P) (ty:=o.type) el (hH.row hi) A k c news hl hA h1 hnu A0 hbytes hH.ext.size;refine Ck hw ?_;unfold Oper.wp execOp;simp only[ho,resolve,invoke,builtin,Sem.run_bind,Sem.run_pure,Result.andThen_ok,List.map_toArray,List.map_cons,List.map_nil,hs,hx,hr];exact h A' c' w' (hH.turn hi (fun k hk=>hk) h3 h2 h4) (Ah.grown (hH.row hi) h3) h3 h4
end
instance:Inhabited Dk:=⟨⟨⟨false,none,0,0,false,none,0,0⟩,⟨false,none,0,0,false,none,0,0⟩,0,0⟩⟩
theorem Df.Holds.fr {b:Nat}{w w':World}{e:Df}{G:Nat->Prop}(h:e.Holds b w)(x:Fr G w w')(hn:∀k,e.own=some k->¬G k):e.Holds b w':=by
 have hb:∀(g:Nat) (t:TypeId) (cs:Array Value),Ac w g t cs->¬G g->Ac w' g t cs:=by
  intro g t cs h1 h2;unfold Ac;rw[x.block g h1.lt h2];exact h1
 cases e with
 |blk g t cs=>exact⟨h.1,hb _ _ _ h.2.1 (hn g rfl),h.2.2⟩
 |row t size v n xs=>
  obtain⟨h1,h2|⟨g,A0,rest,rfl,a,h3,c⟩⟩:=h
  ·exact⟨h1,.inl h2⟩
  exact⟨h1,.inr ⟨g,A0,rest,rfl,a,hb _ _ _ h3 (hn g rfl),c⟩⟩
section
variable {w0 w w':World} {m:List Df}
theorem Zw {e f:Df}{i:Nat}{x:Df}(h: [e,f][i]?=some x):(i=0/\x=e)\/(i=1/\x=f):=by
  match i,h with
  |0,h=>injection h with h;exact .inl ⟨rfl,h.symm⟩
  |1,h=>injection h with h;exact .inr ⟨rfl,h.symm⟩
  |k+2,h=>simp at h
theorem Hp.pick2 {ib ir:Nat}{e f:Df}(h:Hp w0 w m)(hb:m[ib]?=some e)(hr:m[ir]?=some f)(hne:ib≠ir):Hp w0 w [e,f]:=by
  refine⟨h.ext,fun i x hx=> ?_,fun i j x y hx hy hij=> ?_⟩
  · rcases Zw hx with⟨_,rfl⟩|⟨_,rfl⟩
    · exact h.all _ _ hb
    exact h.all _ _ hr
  rcases Zw hx with⟨e1,rfl⟩|⟨e1,rfl⟩<;>rcases Zw hy with⟨e2,rfl⟩|⟨e2,rfl⟩
  · omega
  · exact h.apart _ _ _ _ hb hr hne
  · exact h.apart _ _ _ _ hr hb (Ne.symm hne)
  omega
theorem Hp.call2 {ib ir:Nat}{e f e' f':Df}{G:Nat->Prop}(h:Hp w0 w m)(hb:m[ib]?=some e)(hr:m[ir]?=some f)(_hne:ib≠ir)(x:Fr G w w')(hG:∀k,G k->e.own=some k\/f.own=some k)(h2:Hp w0 w' [e',f'])
  (he:∀k,e'.own=some k->e.own=some k\/w.heap.size<=k)(hf:∀k,f'.own=some k->f.own=some k\/w.heap.size<=k):Hp w0 w' ((m.set ib e').set ir f'):=by
 have A7:ib<m.length:=(List.getElem?_eq_some_iff.1 hb).1;have A6:ir<m.length:=(List.getElem?_eq_some_iff.1 hr).1;have A0:∀(j:Nat) (y:Df),((m.set ib e').set ir f')[j]?=some y->(j=ir/\y=f')\/(j=ib/\y=e')\/(j≠ir/\j≠ib/\m[j]?=some y):=by
  intro j y hj;rw[List.getElem?_set]at hj;by_cases h1:ir=j
  ·rw[if_pos h1,if_pos (by simpa using h1▸A6)]at hj
   injection hj with hj
   exact .inl ⟨h1.symm,hj.symm⟩
  rw[if_neg h1,List.getElem?_set]at hj;by_cases h3:ib=j
  ·rw[if_pos h3,if_pos ω]at hj
   injection hj with hj
   exact .inr (.inl ⟨h3.symm,hj.symm⟩)
  rw[if_neg h3]at hj;exact .inr (.inr ⟨fun q=>h1 q.symm,fun q=>h3 q.symm,hj⟩)
 have A5:∀(j:Nat) (y:Df),j≠ir->j≠ib->m[j]?=some y->∀k,y.own=some k->¬G k:=by
  intro j y A4 A3 hy k hk hg;rcases hG k hg with h1|h1
  ·exact h.apart j ib y e hy hb A3 k hk h1
  exact h.apart j ir y f hy hr A4 k hk h1
 have A2:∀(j:Nat) (y:Df),j≠ir->j≠ib->m[j]?=some y->∀k,y.own=some k->e'.own≠some k:=by
  intro j y A4 A3 hy k hk hq;rcases he k hq with h1|h1
  ·exact h.apart j ib y e hy hb A3 k hk h1
  have:=h.lt hy hk;omega
 have A1:∀(j:Nat) (y:Df),j≠ir->j≠ib->m[j]?=some y->∀k,y.own=some k->f'.own≠some k:=by
  intro j y A4 A3 hy k hk hq;rcases hf k hq with h1|h1
  ·exact h.apart j ir y f hy hr A4 k hk h1
  have:=h.lt hy hk;omega
 refine⟨h2.ext,fun j y hj=> ?_,fun i j x y hi hj hij k hk=> ?_⟩
 ·rcases A0 j y hj with⟨_,rfl⟩|⟨_,rfl⟩|⟨h3,h4,h5⟩
  ·exact h2.all 1 _ rfl
  ·exact h2.all 0 _ rfl
  exact(h.all j y h5).fr x (A5 j y h3 h4 h5)
 rcases A0 i x hi with⟨e1,rfl⟩|⟨e1,rfl⟩|⟨a1,a2,a3⟩<;>rcases A0 j y hj with⟨e2,rfl⟩|⟨e2,rfl⟩|⟨b1,b2,b3⟩
 ·omega
 ·exact h2.apart 1 0 _ _ rfl rfl (by decide) k hk
 ·exact fun q=>A1 j y b1 b2 b3 k q hk
 ·exact h2.apart 0 1 _ _ rfl rfl (by decide) k hk
 ·omega
 ·exact fun q=>A2 j y b1 b2 b3 k q hk
 ·exact A1 i x a1 a2 a3 k hk
 ·exact A2 i x a1 a2 a3 k hk
 exact h.apart i j x y a3 b3 hij k hk
end
section
variable {P:Program} {w0 w:World} {m:List Df} {ix:Nat} {a:Act} {Q:Exit->Act->World->Prop} {rest:List Oper} {op:Oper} {ops:Array Oper}
theorem pD {α:Type}{f:α->List Value}(hw:Region.wanted op (yielded ops a.tmps)=true)(ty:TypeId)(x y:Operand)(ho:op.op= .store ty x y){g n cap size:Nat}{t:TypeId}{es:List α}(hH:Hp w0 w m)(hi:m[ix]?=some (.row t size (.slice (π g) n cap) n (es.flatMap f)))
  (hc:∀x,(f x).length=size)(k:Nat)(z:α)(hk:k<es.length)(vs:List Value)(hf:f z=vs)(o:Nat)(hko:o=k*size)(hx:a.eval x= .pointer (some ⟨g,o,none⟩))(hy:a.eval y= .agg vs.toArray)(hz:(P.info? ty).map (·.size)=some vs.length)(h1:∀v,v∈vs->v.oneCell'=true)(hn:Ar vs)
  (h:∀w',Hp w0 w' (m.set ix (.row t size (.slice (π g) n cap) n ((es.set k z).flatMap f)))->Ah w w'->Bi g w w'->wpList P ops Q rest (a.put op.dst undef) w'):wpList P ops Q (op::rest) a w:=by
 subst hf;subst hko;refine uE hw ty x y ho hH hi (k*size) (f z) hx hy ?_ hz h1 hn (fun w' h2 h3 h4=>h w' ?_ h3 h4)
 ·rw[Dm hc,hc]
  calc k*size+size=(k+1)*size:=by rw[kQQ];omega
   _<=es.length*size:=hXX _ hk
 rw[fL hc es k hk z]at h2;exact h2
end
end
section
attribute [local go_sem ↓] Go.wp_at_zero Go.wp_at_succ Ae Ad
def Et (a b:Int×Int):Bool:=decide (a.2<b.2)||(decide (a.2=b.2)&&decide (a.1<b.1))
def dv (a b:Int×Int):Int×Int:=(b.1-a.1,b.2-a.2)
def cr (u v:Int×Int):Int:=u.1*v.2-u.2*v.1
abbrev Du (p:Int×Int):Prop:=Dd p.1 p.2=true
theorem Bd {p:Int×Int}(h:Du p):(-1048576<=p.1/\p.1<=1048576)/\(-1048576<=p.2/\p.2<=1048576):=by simpa[Du,Dd]using h
theorem Rh {a b:Int}(h1: -2097152<=a/\a<=2097152)(h2: -2097152<=b/\b<=2097152): -4398046511104<=a*b/\a*b<=4398046511104:=by
  have h:(a*b).natAbs<=2097152*2097152:=by rw[Int.natAbs_mul];exact Nat.mul_le_mul ω (ω)
  omega
theorem Gc {a b:Int×Int}(ha:Du a)(hb:Du b):(-2097152<=(dv a b).1/\(dv a b).1<=2097152)/\(-2097152<=(dv a b).2/\(dv a b).2<=2097152):=by
  have h1:=Bd ha;have h2:=Bd hb;unfold dv;dsimp only
  omega
theorem Zj {u v:Int×Int}(hu:(-2097152<=u.1/\u.1<=2097152)/\(-2097152<=u.2/\u.2<=2097152))(hv:(-2097152<=v.1/\v.1<=2097152)/\(-2097152<=v.2/\v.2<=2097152)): -8796093022208<=cr u v/\cr u v<=8796093022208:=by
  have h1:=Rh hu.1 hv.2;have h2:=Rh hu.2 hv.1;unfold cr;omega
theorem Nk (p:Int×Int)(w:World)(h:Du p):Calls prog 97 #[.agg #[iV p.1,iV p.2]] w fun e w'=>e= .returned (.agg #[iV p.1,iV p.2])/\Aa w w':=by
  have A0:=Bd h;have c1:Hj p.1 (-1048576) 1048576=p.1:=by have h:=Kv p.1;rw[decide_eq_true A0.1]at h;simpa using h
  have c2:Hj p.2 (-1048576) 1048576=p.2:=by have h:=Kv p.2;rw[decide_eq_true A0.2]at h;simpa using h
  have k:=Qd p.1 p.2 w;rw[c1,c2]at k;exact k
theorem Ku {ρ:Operand->Value}{o:Oper}{w:World}{a b c d:Int}{bb:Bool}{t':TypeId}{x y:Operand}(ho:o.op= .binOp .eql 44 x y t')(hx:ρ x= .agg #[iV a,iV b])(hy:ρ y= .agg #[iV c,iV d])(h:(a==c&&b==d)=bb):
    (execOp ρ o).run prog w= .ok (.value (.bool bb)) w:=by
  subst h;unfold execOp;simp only[ho,hx,hy];simp[go_sem,Ee]
theorem Ps {a b:Int×Int}:(a.1==b.1&&a.2==b.2)=true↔a=b:=by
  rw[hZZ,beq_iff_eq,beq_iff_eq];exact⟨fun h=>Prod.ext h.1 h.2,fun h=>by rw[h];exact⟨rfl,rfl⟩⟩
def Gz (a b:Int×Int):Int×Int:=if Et b a=true then b else a
def Fn (a b:Int×Int):Int×Int:=if Et b a=true then a else b
def Ns (a b c d:Int×Int):Int×Int:=if Et (Gz a b) (Gz c d)=true then Gz c d else Gz a b
def Um (a b c d:Int×Int):Int×Int:=if Et (Fn c d) (Fn a b)=true then Fn c d else Fn a b
def Ay (a b c d:Int×Int):(Int×Int)×Int:=if Et (Um a b c d) (Ns a b c d)=true then((0,0),0)else if Ns a b c d=Um a b c d then(Ns a b c d,1)else((0,0),2)
theorem aFB {a b:Int×Int}(ha:Du a)(hb:Du b):Du (Gz a b):=by unfold Gz;split<;>assumption
theorem aFC {a b:Int×Int}(ha:Du a)(hb:Du b):Du (Fn a b):=by unfold Fn;split<;>assumption
theorem aCM {a b c d:Int×Int}(ha:Du a)(hb:Du b)(hc:Du c)(hd:Du d):Du (Ns a b c d):=by unfold Ns;split;exact aFB hc hd;exact aFB ha hb
theorem aEI {a b c d:Int×Int}(ha:Du a)(hb:Du b)(hc:Du c)(hd:Du d):Du (Um a b c d):=by unfold Um;split;exact aFC hc hd;exact aFC ha hb
theorem Co {P:Program}{fn:Func}{i j k:Tmp}{t u:TypeId}(h:fn.results=#[.cell i t,.cell j u,.tmp k]){tmps:Array Value}{w:World}{p q:Addr}{v z x:Value}
    (hi:tmps.getD i undef= .pointer (some p))(hj:tmps.getD j undef= .pointer (some q))(h1:(Go.loadVar t p).run P w= .ok v w)(h2:(Go.loadVar u q).run P w= .ok z w)(hk:tmps.getD k undef=x):
    (results fn tmps).run P w= .ok (.tuple #[v,z,x]) w:=by
  simp only[Array.getD_eq_getD_getElem?]at hi hj hk;simp[results,h,hi,hj,hk,h1,h2,asAddr]
theorem Ua (p q:Int×Int)(w:World)(hp:Du p)(hq:Du q):
  Calls prog 169 #[.agg #[iV p.1,iV p.2],.agg #[iV q.1,iV q.2]] w fun e w'=>e= .returned (.agg #[iV (dv q p).1,iV (dv q p).2])/\Aa w w':=by
 have op:=Bd hp;have oq:=Bd hq;go_enter func169,ntmps169
 have H0:=zH (Hp.start w);go_upto_region 0 with fail;apply wl;apply Cm 44 [iV p.1,iV p.2] H0.1;intro X1 w2 H3 _;apply Cm 44 [iV q.1,iV q.2] H3.1;intro X6 w7 H8 _;apply Cm 44 [iV 0,iV 0] H8.1;intro A1 A9 A0 _;go_upto_region 1 with fail;refine wp_region_held_drew (S:=fun x=>(fun x_=>Hp w x_ [.blk X1 44 [iV p.1,iV p.2],.blk X6 44 [iV q.1,iV q.2],.blk A1 44 [iV 0,iV 0]]) x) kR (A0.1.step zb) (fun _=> ?_);have B5:=zH (A0.1.step (Aa.refl A9).drew);refine mR 0 (bs 6 1) X1 (0) [iV p.1,iV p.2] (fun x hx=>hx.range (i:=0) rR 0 2) underlying44 (A0.1.step zb) ?_;refine zr 2 (bs 6 5) X6 (0) [iV q.1,iV q.2] (fun x hx=>hx.range (i:=1) rR 0 2) underlying44 (A0.1.step zb) ?_;refine mC 1 (bs 6 7) (Nk p _ hp) ?_;rintro e A8 ⟨rfl,hx⟩;have B4:=zH (B5.1.step hx);have A3:=zH (show(fun x_=>Hp w x_ [.blk X1 44 [iV p.1,iV p.2],.blk X6 44 [iV q.1,iV q.2],.blk A1 44 [iV 0,iV 0]]) A8 from(A0.1.step zb).step hx);clear hx;refine⟨_,rfl,A3.1,?_⟩;try simp only[ζ]
 refine mC 3 (bs 6 15) (Nk q _ hq) ?_;rintro e B7 ⟨rfl,hx⟩;have B3:=zH (B4.1.step hx);have B2:=zH (A3.1.step hx);clear hx;refine⟨_,rfl,B2.1,?_⟩;try simp only[ζ]
 refine Ef (i:=4) (listed':=(bs 6 31)) rR kR rR kR _ _ _ rR B3.1 (ix:=0) rR 0 [iV p.1,iV p.2] rR rR (by simp) kR (by simp[Value.oneCell']) (by simp[Ar]) ?_;intro A7 hh hd ho;have A5:=hN hh;have B1:=zH (show(fun x_=>Hp w x_ [.blk X1 44 [iV p.1,iV p.2],.blk X6 44 [iV q.1,iV q.2],.blk A1 44 [iV 0,iV 0]]) A7 from A5.1);clear hh hd ho;refine⟨B1.1,?_⟩
 (try simp only[Act.put])
 refine Ef (i:=5) (listed':=(bs 6 63)) rR kR rR kR _ _ _ rR A5.1 (ix:=1) rR 0 [iV q.1,iV q.2] rR rR (by simp) kR (by simp[Value.oneCell']) (by simp[Ar]) ?_;intro A6 hh hd ho;have A2:=hN hh;have B0:=zH (show(fun x_=>Hp w x_ [.blk X1 44 [iV p.1,iV p.2],.blk X6 44 [iV q.1,iV q.2],.blk A1 44 [iV 0,iV 0]]) A6 from A2.1);clear hh hd ho;refine⟨B0.1,?_⟩
 (try simp only[Act.put])
 refine wpAnyH_done kR ?_ _;go_upto_region 2 with fail;apply wl;refine Fk A2.1 _ _ _ _ ?_;apply zp (iV (p.1-q.1)) (by exact Xg ω);refine Fk A2.1 _ _ _ _ ?_;apply zp (iV (p.2-q.2)) (by exact Xg ω);apply zq (.agg #[iV (p.1-q.1),iV (p.2-q.2)]);apply Da 2 [iV (p.1-q.1),iV (p.2-q.2)] A2.1;intro B6 A4 _;go_wp2_with fail;refine bodyPost_ret (v:= .agg #[iV (dv q p).1,iV (dv q p).2]) ?_ rfl ⟨rfl,A4.1.ext⟩;exact Ak rfl rfl ((A4.1.blk (i:=2) rR).loadVar rfl rfl rR)
theorem Jb (p q:Int×Int)(w:World)(hp:Du p)(hq:Du q):
  Calls prog 186 #[.agg #[iV p.1,iV p.2],.agg #[iV q.1,iV q.2]] w fun e w'=>e= .returned (.bool (Et p q))/\Aa w w':=by
 have op:=Bd hp;have oq:=Bd hq;go_enter func186,ntmps186
 have H0:=zH (Hp.start w);go_upto_region 0 with fail;apply wl;apply Cm 44 [iV p.1,iV p.2] H0.1;intro A2 B8 B6 _;apply Cm 44 [iV q.1,iV q.2] B6.1;intro A1 A9 A3 _;apply zq φ;go_upto_region 1 with fail;refine wp_region_held_drew (S:=fun x=>(fun x_=>Hp w x_ [.blk A2 44 [iV p.1,iV p.2],.blk A1 44 [iV q.1,iV q.2]]) x) kR (A3.1.step zb) (fun _=> ?_);have B5:=zH (A3.1.step (Aa.refl A9).drew);refine mR 0 (bs 6 1) A2 (0) [iV p.1,iV p.2] (fun x hx=>hx.range (i:=0) rR 0 2) underlying44 (A3.1.step zb) ?_;refine zr 2 (bs 6 5) A1 (0) [iV q.1,iV q.2] (fun x hx=>hx.range (i:=1) rR 0 2) underlying44 (A3.1.step zb) ?_;refine mC 1 (bs 6 7) (Nk p _ hp) ?_;rintro e A8 ⟨rfl,hx⟩;have B4:=zH (B5.1.step hx);have A4:=zH (show(fun x_=>Hp w x_ [.blk A2 44 [iV p.1,iV p.2],.blk A1 44 [iV q.1,iV q.2]]) A8 from(A3.1.step zb).step hx);clear hx;refine⟨_,rfl,A4.1,?_⟩;try simp only[ζ]
 refine mC 3 (bs 6 15) (Nk q _ hq) ?_;rintro e B7 ⟨rfl,hx⟩;have B3:=zH (B4.1.step hx);have B2:=zH (A4.1.step hx);clear hx;refine⟨_,rfl,B2.1,?_⟩;try simp only[ζ]
 refine Ef (i:=4) (listed':=(bs 6 31)) rR kR rR kR _ _ _ rR B3.1 (ix:=0) rR 0 [iV p.1,iV p.2] rR rR (by simp) kR (by simp[Value.oneCell']) (by simp[Ar]) ?_;intro A7 hh hd ho;have A5:=hN hh;have B1:=zH (show(fun x_=>Hp w x_ [.blk A2 44 [iV p.1,iV p.2],.blk A1 44 [iV q.1,iV q.2]]) A7 from A5.1);clear hh hd ho;refine⟨B1.1,?_⟩
 (try simp only[Act.put])
 refine Ef (i:=5) (listed':=(bs 6 63)) rR kR rR kR _ _ _ rR A5.1 (ix:=1) rR 0 [iV q.1,iV q.2] rR rR (by simp) kR (by simp[Value.oneCell']) (by simp[Ar]) ?_;intro A6 hh hd ho;have A0:=hN hh;have B0:=zH (show(fun x_=>Hp w x_ [.blk A2 44 [iV p.1,iV p.2],.blk A1 44 [iV q.1,iV q.2]]) A6 from A0.1);clear hh hd ho;refine⟨B0.1,?_⟩
 (try simp only[Act.put])
 refine wpAnyH_done kR ?_ _;rcases Cx (p.2<q.2)with C1|C1
 ·go_upto_region 2 with fail
  apply wl;refine Fk A0.1 _ _ _ _ ?_;apply zp τ (by exact Eg (e:=(An C1.1)));refine Iu Af τ _ _ _ _ _ _ _ ?_;refine rJ Af _ _ _ _ _ τ τ ?_;go_wp2_with fail;go_ret;exact⟨by rw[show Et p q=true from by unfold Et;simp[C1.1]];rfl,A0.1.ext⟩
 rcases Cx (p.2=q.2)with C2|C2
 ·rcases Cx (p.1<q.1)with C3|C3
  ·go_upto_region 2 with fail
   apply wl;refine Fk A0.1 _ _ _ _ ?_;apply zp φ (by exact Eg (e:=(Al C1.1)));refine Na A0.1 φ _ _ _ _ ?_;apply zp τ (by exact Rr (e:=(An C2.1)));refine Na A0.1 τ _ _ _ _ ?_;apply zp τ (by exact Eg (e:=(An C3.1)));refine Dt Af τ τ τ ?_;go_wp2_with fail;go_ret;exact⟨by rw[show Et p q=true from by unfold Et;simp[C2.1,C3.1]];rfl,A0.1.ext⟩
  go_upto_region 2 with fail;apply wl;refine Fk A0.1 _ _ _ _ ?_;apply zp φ (by exact Eg (e:=(Al C1.1)));refine Na A0.1 φ _ _ _ _ ?_;apply zp τ (by exact Rr (e:=(An C2.1)));refine Na A0.1 τ _ _ _ _ ?_;apply zp φ (by exact Eg (e:=(Al C3.1)));refine Dt Af φ φ φ ?_;go_wp2_with fail;go_ret;exact⟨by rw[show Et p q=false from by unfold Et;simp[C2.1,C3.1]];rfl,A0.1.ext⟩
 go_upto_region 2 with fail;apply wl;refine Fk A0.1 _ _ _ _ ?_;apply zp φ (by exact Eg (e:=(Al C1.1)));refine Na A0.1 φ _ _ _ _ ?_;apply zp φ (by exact Rr (e:=(Al C2.1)));refine Iu Af φ _ _ _ _ _ φ φ ?_;apply zq φ;go_wp2_with fail;go_ret;exact⟨by rw[show Et p q=false from by unfold Et;simp[C1.1,C2.1]];rfl,A0.1.ext⟩
theorem Gw (u v:Int×Int)(w:World)(hu:(-2097152<=u.1/\u.1<=2097152)/\(-2097152<=u.2/\u.2<=2097152))(hv:(-2097152<=v.1/\v.1<=2097152)/\(-2097152<=v.2/\v.2<=2097152)):
  Calls prog 170 #[.agg #[iV u.1,iV u.2],.agg #[iV v.1,iV v.2]] w fun e w'=>e= .returned (iV (cr u v))/\Aa w w':=by
 have m1:=Rh hu.1 hv.2;have m2:=Rh hu.2 hv.1;go_enter func170,ntmps170
 have H0:=zH (Hp.start w);go_upto_region 0 with fail;apply wl;apply Cm 44 [iV u.1,iV u.2] H0.1;intro A5 A3 A1 _;apply Cm 44 [iV v.1,iV v.2] A1.1;intro A4 A2 A0 _;apply zq (iV 0);go_upto_region 1 with fail;apply wl;refine Fk A0.1 _ _ _ _ ?_;apply zp (iV (u.1*v.2)) (by exact gZ ω);refine Fk A0.1 _ _ _ _ ?_;apply zp (iV (u.2*v.1)) (by exact gZ ω);apply zp (iV ((u.1*v.2)-(u.2*v.1))) (by exact Xg ω);apply zq (iV ((u.1*v.2)-(u.2*v.1)));go_wp2_with fail;go_ret;exact⟨rfl,A0.1.ext⟩
theorem fR (a b:Int×Int)(w:World)(ha:Du a)(hb:Du b):
  Calls prog 185 #[.agg #[iV a.1,iV a.2],.agg #[iV b.1,iV b.2]] w fun e w'=>e= .returned (.tuple #[.agg #[iV (Gz a b).1,iV (Gz a b).2],.agg #[iV (Fn a b).1,iV (Fn a b).2]])/\Aa w w':=by
 go_enter func185,ntmps185;have H0:=zH (Hp.start w);go_upto_region 0 with fail;apply wl;apply Cm 44 [iV a.1,iV a.2] H0.1;intro A7 C9 C3 _;apply Cm 44 [iV b.1,iV b.2] C3.1;intro A6 C8 C2 _;apply Cm 44 [iV 0,iV 0] C2.1;intro A5 C7 C1 _;apply Cm 44 [iV 0,iV 0] C1.1;intro A4 C6 A8 _;rcases Cx (Et b a=true)with CL|CL
 ·go_upto_region 1 with fail
  apply wl;refine Cc A8.1 _ _ ?_;refine zc (Jb b a _ hb ha) ?_;rintro e A3 ⟨rfl,hx⟩;have A1:=zH (A8.1.step hx);clear hx;refine⟨.bool true,by rw[CL.1],?_⟩;try simp only[ζ]
  go_upto_region 2 with fail;refine wp_region_held_drew (S:=fun x=>Fr (fun kz=>kz=A5\/kz=A4) A3 x) kR (Fr.of_ext zb) (fun _=> ?_);have C0:=zH (A1.1.step (Aa.refl A3).drew);refine mR 0 (bs 4 1) A6 (0) [iV b.1,iV b.2] (fun x hx=>Fr.range hx (show World.rangeAt A3 A6 (0) [iV b.1,iV b.2]from(A1.1.range (i:=1) rR 0 2)) (fun hk=>hk.elim (A1.1.offBlk (i:=1) (j:=2) rR rR dC rR) (A1.1.offBlk (i:=1) (j:=3) rR rR dC rR))) underlying44 (Fr.of_ext zb) ?_;refine zr 1 (bs 4 3) A7 (0) [iV a.1,iV a.2] (fun x hx=>Fr.range hx (show World.rangeAt A3 A7 (0) [iV a.1,iV a.2]from(A1.1.range (i:=0) rR 0 2)) (fun hk=>hk.elim (A1.1.offBlk (i:=0) (j:=2) rR rR dC rR) (A1.1.offBlk (i:=0) (j:=3) rR rR dC rR))) underlying44 (Fr.of_ext zb) ?_;refine Ef (i:=2) (listed':=(bs 4 7)) rR kR rR kR _ _ _ rR C0.1 (ix:=2) rR 0 [iV b.1,iV b.2] rR rR (by simp) kR (by simp[Value.oneCell']) (by simp[Ar]) ?_;intro B4 hh hd ho;have B9:=hN hh;have B2:=zH (show Fr (fun kz=>kz=A5\/kz=A4) A3 B4 from Fr.trans_new (Fr.of_ext zb) ho (fun j hj=> .inl (.inl (by injection hj with hj;exact hj.symm))));clear hh hd ho;refine⟨B2.1,?_⟩
  (try simp only[Act.put])
  refine Ef (i:=3) (listed':=(bs 4 15)) rR kR rR kR _ _ _ rR B9.1 (ix:=3) rR 0 [iV a.1,iV a.2] rR rR (by simp) kR (by simp[Value.oneCell']) (by simp[Ar]) ?_;intro C5 hh hd ho;have B0:=hN hh;have B6:=zH (Fr.trans_new B2.1 ho (fun j hj=> .inl (.inr (by injection hj with hj;exact hj.symm))));clear hh hd ho;refine⟨B6.1,?_⟩
  (try simp only[Act.put])
  refine wpAnyH_done kR ?_ _;go_wp2_with fail;refine bodyPost_ret (v:= .tuple #[.agg #[iV b.1,iV b.2],.agg #[iV a.1,iV a.2]]) ?_ rfl ⟨by unfold Gz Fn;rw[if_pos CL.1,if_pos CL.1],B0.1.ext⟩;exact Ob rfl rfl rfl ((B0.1.blk (i:=2) rR).loadVar rfl rfl rR) ((B0.1.blk (i:=3) rR).loadVar rfl rfl rR)
 go_upto_region 1 with fail;apply wl;refine Cc A8.1 _ _ ?_;refine zc (Jb b a _ hb ha) ?_;rintro e A2 ⟨rfl,hx⟩;have A0:=zH (A8.1.step hx);clear hx;refine⟨.bool false,by rw[Bool.eq_false_iff.2 CL.1],?_⟩;try simp only[ζ]
 go_upto_region 3 with fail;refine wp_region_held_drew (S:=fun x=>Fr (fun kz=>kz=A5\/kz=A4) A2 x) kR (Fr.of_ext zb) (fun _=> ?_);have B8:=zH (A0.1.step (Aa.refl A2).drew);refine mR 0 (bs 4 1) A7 (0) [iV a.1,iV a.2] (fun x hx=>Fr.range hx (show World.rangeAt A2 A7 (0) [iV a.1,iV a.2]from(A0.1.range (i:=0) rR 0 2)) (fun hk=>hk.elim (A0.1.offBlk (i:=0) (j:=2) rR rR dC rR) (A0.1.offBlk (i:=0) (j:=3) rR rR dC rR))) underlying44 (Fr.of_ext zb) ?_;refine zr 1 (bs 4 3) A6 (0) [iV b.1,iV b.2] (fun x hx=>Fr.range hx (show World.rangeAt A2 A6 (0) [iV b.1,iV b.2]from(A0.1.range (i:=1) rR 0 2)) (fun hk=>hk.elim (A0.1.offBlk (i:=1) (j:=2) rR rR dC rR) (A0.1.offBlk (i:=1) (j:=3) rR rR dC rR))) underlying44 (Fr.of_ext zb) ?_;refine Ef (i:=2) (listed':=(bs 4 7)) rR kR rR kR _ _ _ rR B8.1 (ix:=2) rR 0 [iV a.1,iV a.2] rR rR (by simp) kR (by simp[Value.oneCell']) (by simp[Ar]) ?_;intro B3 hh hd ho;have B7:=hN hh;have B1:=zH (show Fr (fun kz=>kz=A5\/kz=A4) A2 B3 from Fr.trans_new (Fr.of_ext zb) ho (fun j hj=> .inl (.inl (by injection hj with hj;exact hj.symm))));clear hh hd ho;refine⟨B1.1,?_⟩
 (try simp only[Act.put])
 refine Ef (i:=3) (listed':=(bs 4 15)) rR kR rR kR _ _ _ rR B7.1 (ix:=3) rR 0 [iV b.1,iV b.2] rR rR (by simp) kR (by simp[Value.oneCell']) (by simp[Ar]) ?_;intro C4 hh hd ho;have A9:=hN hh;have B5:=zH (Fr.trans_new B1.1 ho (fun j hj=> .inl (.inr (by injection hj with hj;exact hj.symm))));clear hh hd ho;refine⟨B5.1,?_⟩
 (try simp only[Act.put])
 refine wpAnyH_done kR ?_ _;go_wp2_with fail;refine bodyPost_ret (v:= .tuple #[.agg #[iV a.1,iV a.2],.agg #[iV b.1,iV b.2]]) ?_ rfl ⟨by unfold Gz Fn;rw[if_neg CL.1,if_neg CL.1],A9.1.ext⟩;exact Ob rfl rfl rfl ((A9.1.blk (i:=2) rR).loadVar rfl rfl rR) ((A9.1.blk (i:=3) rR).loadVar rfl rfl rR)
theorem Ul (a b c d:Int×Int)(w:World)(ha:Du a)(hb:Du b)(hc:Du c)(hd:Du d):
  Calls prog 171 #[.agg #[iV a.1,iV a.2],.agg #[iV b.1,iV b.2],.agg #[iV c.1,iV c.2],.agg #[iV d.1,iV d.2]] w fun e w'=>e= .returned (.tuple #[.agg #[iV (Ay a b c d).1.1,iV (Ay a b c d).1.2],iV (Ay a b c d).2])/\Aa w w':=by
 go_enter func171,ntmps171;have H0:=zH (Hp.start w);go_upto_region 0 with fail;apply wl;apply Cm 44 [iV a.1,iV a.2] H0.1;intro X1 w2 H3 _;apply Cm 44 [iV b.1,iV b.2] H3.1;intro X6 w7 H8 _;apply Cm 44 [iV c.1,iV c.2] H8.1;intro A9 E8 C8 _;apply Cm 44 [iV d.1,iV d.2] C8.1;intro A4 E7 C7 _;apply Cm 44 [iV 0,iV 0] C7.1;intro A8 E6 B5 _;apply zq (iV 0);go_upto_region 1 with fail;apply wl;refine Cc B5.1 _ _ ?_;refine aC B5.1 (fR a b _ ha hb) ?_;intro E5 C6 _;refine Dt Af _ _ _ ?_;apply Da 0 [iV ((Gz a b).1),iV ((Gz a b).2)] C6.1;intro E4 C5 _;apply Da 1 [iV ((Fn a b).1),iV ((Fn a b).2)] C5.1;intro E3 B4 _;go_upto_region 2 with fail;apply wl;refine Cc B4.1 _ _ ?_;refine aC B4.1 (fR c d _ hc hd) ?_;intro E2 C2 _;refine Dt Af _ _ _ ?_;apply Da 2 [iV ((Gz c d).1),iV ((Gz c d).2)] C2.1;intro E1 C1 _;apply Da 3 [iV ((Fn c d).1),iV ((Fn c d).2)] C1.1;intro E0 B3 _;go_upto_region 3 with fail;apply wl;refine Cc B3.1 _ _ ?_;refine aC B3.1 (Jb (Gz a b) (Gz c d) _ (aFB ha hb) (aFB hc hd)) ?_;intro B7 A7 _;go_upto_if 24 with fail
 go_cut [] (fun wx=>Hp w wx [.blk X1 44 [iV ((Ns a b c d).1),iV ((Ns a b c d).2)],.blk X6 44 [iV ((Fn a b).1),iV ((Fn a b).2)],.blk A9 44 [iV ((Gz c d).1),iV ((Gz c d).2)],.blk A4 44 [iV ((Fn c d).1),iV ((Fn c d).2)],.blk A8 44 [iV 0,iV 0]]/\Ah B7 wx)
 case first=>
  by_cases cj:Et (Gz a b) (Gz c d)=true
  ·rw[cj]
   go_upto_region 4 with fail;apply wl;refine Cn A7.1 _ ?_;apply Da 0 [iV ((Gz c d).1),iV ((Gz c d).2)] A7.1;intro D9 C0 D0;go_wp2_with fail;go_meet
   exact⟨(by rw[show Ns a b c d=Gz c d from if_pos cj];exact C0.1),D0.1⟩
  rw[Bool.eq_false_iff.2 cj];go_wp2_with fail;go_meet
  exact⟨(by rw[show Ns a b c d=Gz a b from if_neg cj];exact A7.1),(Ah.refl _)⟩
 obtain⟨A2,A3⟩:=hcut;generalize wc=D8 at*;have A6:=zH A2;have F0:=zH A3;clear A2 A3;go_upto_region 5 with fail
 apply wl;refine zd A4 (0) [iV ((Fn c d).1),iV ((Fn c d).2)] (A6.1.range (i:=3) rR 0 2) underlying44 ?_;refine zd X6 (0) [iV ((Fn a b).1),iV ((Fn a b).2)] (A6.1.range (i:=1) rR 0 2) underlying44 ?_;refine aC A6.1 (Jb (Fn c d) (Fn a b) _ (aFC hc hd) (aFC ha hb)) ?_;intro B6 A5 _;go_upto_if 28 with fail
 go_cut [] (fun wx=>Hp w wx [.blk X1 44 [iV ((Ns a b c d).1),iV ((Ns a b c d).2)],.blk X6 44 [iV ((Um a b c d).1),iV ((Um a b c d).2)],.blk A9 44 [iV ((Gz c d).1),iV ((Gz c d).2)],.blk A4 44 [iV ((Fn c d).1),iV ((Fn c d).2)],.blk A8 44 [iV 0,iV 0]]/\Ah B6 wx)
 case first=>
  by_cases cj:Et (Fn c d) (Fn a b)=true
  ·rw[cj]
   go_upto_region 6 with fail;apply wl;refine zd A4 (0) [iV ((Fn c d).1),iV ((Fn c d).2)] (A5.1.range (i:=3) rR 0 2) underlying44 ?_;apply Da 1 [iV ((Fn c d).1),iV ((Fn c d).2)] A5.1;intro D7 B9 C9;go_wp2_with fail;go_meet
   exact⟨(by rw[show Um a b c d=Fn c d from if_pos cj];exact B9.1),C9.1⟩
  rw[Bool.eq_false_iff.2 cj];go_wp2_with fail;go_meet
  exact⟨(by rw[show Um a b c d=Fn a b from if_neg cj];exact A5.1),(Ah.refl _)⟩
 obtain⟨A2,A3⟩:=hcut;generalize wc=D6 at*;have A1:=zH A2;have E9:=zH A3;clear A2 A3;rcases Cx (Et (Um a b c d) (Ns a b c d)=true)with C3|C3
 ·go_upto_region 7 with fail
  apply wl;refine zd X6 (0) [iV ((Um a b c d).1),iV ((Um a b c d).2)] (A1.1.range (i:=1) rR 0 2) underlying44 ?_;refine zd X1 (0) [iV ((Ns a b c d).1),iV ((Ns a b c d).2)] (A1.1.range (i:=0) rR 0 2) underlying44 ?_;refine zc (Jb (Um a b c d) (Ns a b c d) _ (aEI ha hb hc hd) (aCM ha hb hc hd)) ?_;rintro e D5 ⟨rfl,hx⟩;have B8:=zH (A1.1.step hx);clear hx;refine⟨.bool true,by rw[C3.1],?_⟩;try simp only[ζ]
  apply zq τ;go_upto_region 8 with fail;apply wl;refine Cn Af _ ?_;apply Da 4 [iV 0,iV 0] B8.1;intro D4 B2 _;apply zq (iV 0);go_wp2_with fail;refine bodyPost_ret (v:= .tuple #[.agg #[iV 0,iV 0],iV 0]) ?_ rfl ⟨by rw[show Ay a b c d=((0,0),0)from by unfold Ay;exact if_pos C3.1],B2.1.ext⟩;exact At rfl rfl ((B2.1.blk (i:=4) rR).loadVar rfl rfl rR) rfl
 go_upto_region 7 with fail;apply wl;refine zd X6 (0) [iV ((Um a b c d).1),iV ((Um a b c d).2)] (A1.1.range (i:=1) rR 0 2) underlying44 ?_;refine zd X1 (0) [iV ((Ns a b c d).1),iV ((Ns a b c d).2)] (A1.1.range (i:=0) rR 0 2) underlying44 ?_;refine zc (Jb (Um a b c d) (Ns a b c d) _ (aEI ha hb hc hd) (aCM ha hb hc hd)) ?_;rintro e D3 ⟨rfl,hx⟩;have A0:=zH (A1.1.step hx);clear hx;refine⟨.bool false,by rw[Bool.eq_false_iff.2 C3.1],?_⟩;try simp only[ζ]
 apply zq φ;rcases Cx (Ns a b c d=Um a b c d)with C4|C4
 ·go_upto_region 9 with fail
  apply wl;refine zd X1 (0) [iV ((Ns a b c d).1),iV ((Ns a b c d).2)] (A0.1.range (i:=0) rR 0 2) underlying44 ?_;refine zd X6 (0) [iV ((Um a b c d).1),iV ((Um a b c d).2)] (A0.1.range (i:=1) rR 0 2) underlying44 ?_;apply zp τ (by exact Ku rR rR rR (Ps.2 C4.1));apply zq τ;go_upto_region 10 with fail;apply wl;refine zd X1 (0) [iV ((Ns a b c d).1),iV ((Ns a b c d).2)] (A0.1.range (i:=0) rR 0 2) underlying44 ?_;apply Da 4 [iV ((Ns a b c d).1),iV ((Ns a b c d).2)] A0.1;intro D2 B1 _;apply zq (iV 1);go_wp2_with fail;refine bodyPost_ret (v:= .tuple #[.agg #[iV (Ns a b c d).1,iV (Ns a b c d).2],iV 1]) ?_ rfl ⟨by rw[show Ay a b c d=(Ns a b c d,1)from by unfold Ay;rw[if_neg C3.1];exact if_pos C4.1],B1.1.ext⟩;exact At rfl rfl ((B1.1.blk (i:=4) rR).loadVar rfl rfl rR) rfl
 go_upto_region 9 with fail;apply wl;refine zd X1 (0) [iV ((Ns a b c d).1),iV ((Ns a b c d).2)] (A0.1.range (i:=0) rR 0 2) underlying44 ?_;refine zd X6 (0) [iV ((Um a b c d).1),iV ((Um a b c d).2)] (A0.1.range (i:=1) rR 0 2) underlying44 ?_;apply zp φ (by exact Ku rR rR rR (Bool.eq_false_iff.2 (fun h_=>C4.1 (Ps.1 h_))));apply zq φ;go_upto_region 11 with fail;apply wl;refine Cn Af _ ?_;apply Da 4 [iV 0,iV 0] A0.1;intro D1 B0 _;apply zq (iV 2);go_wp2_with fail;refine bodyPost_ret (v:= .tuple #[.agg #[iV 0,iV 0],iV 2]) ?_ rfl ⟨by rw[show Ay a b c d=((0,0),2)from by unfold Ay;rw[if_neg C3.1];exact if_neg C4.1],B0.1.ext⟩;exact At rfl rfl ((B0.1.blk (i:=4) rR).loadVar rfl rfl rR) rfl
end
section
section
variable {P:Program} {l:List Oper} {Q:Exit->Act->World->Prop} {md:Region.Mode} {S:World->Prop} {j i:Nat} {dj:Option Tmp} {T:TypeId} {zs:List Value} {b w0:World} {m:List Df} {fuel:Nat} {listed li lj lij:Array Bool} {a:Act} {w:World} {oi oj:Oper} {v:Value}
def Fl (P:Program)(md:Region.Mode)(l:List Oper)(Q:Exit->Act->World->Prop)(S:World->Prop)(j:Nat)(dj:Option Tmp)(T:TypeId)(zs:List Value)(b w0:World)(m:List Df)(fuel:Nat)(listed:Array Bool)(a:Act)(w:World):Prop:=
  wpAnyH P md l.toArray Q S (fuel+1) listed a w/\
  ∀X y,Aa w y->Hp w0 y (m++[.blk X T zs])->S y->b.heap.size<=X->wpAnyH P md l.toArray Q S fuel (listed.setIfInBounds j true) (a.put dj (.pointer (π X))) y
theorem Fl.go (h:Fl P md l Q S j dj T zs b w0 m fuel listed a w):wpAnyH P md l.toArray Q S (fuel+1) listed a w:=h.1
def Gi (l:List Oper)(o:Oper)(dj:Option Tmp):Bool:=match dj with|none=>true|some d=> !(o.looksAt l.toArray).contains d&&o.dst != some d
theorem Fe {o:Oper}(h:Gi l o dj=true):(∀d,dj=some d->d∉o.looksAt l.toArray)/\∀d,dj=some d->o.dst≠some d:=by
  cases dj with
  |none=>exact⟨fun d h=>(by cases h),fun d h=>(by cases h)⟩
  | some d=>
    unfold Gi at h;simp at h;refine⟨fun d' e=> ?_,fun d' e=> ?_⟩
    · injection e with e;subst e;exact h.1
    injection e with e;subst e;exact h.2
theorem zQ (hi:l[i]?=some oi)(hs:Region.noSelect l.toArray=true)(hf:Region.free md l.toArray listed i=true)(hr:(Region.ready md l.toArray listed).contains i=true)(hlj:listed.setIfInBounds j true=lj)
  (hf2:Region.free md l.toArray lj i=true)(hr2:(Region.ready md l.toArray lj).contains i=true)(hij:i≠j)(hoff:Gi l oi dj=true)
  (hQ:∀c a w,Q (.panic c) (a.put oi.dst v) w->Q (.panic c) a w)(hy:YieldsIf P l.toArray S oi v a)(hS:S w)(hl:listed.setIfInBounds i true=li)
  (h:Fl P md l Q S j dj T zs b w0 m fuel li (a.put oi.dst v) w):Fl P md l Q S j dj T zs b w0 m (fuel+1) listed a w:=by
 obtain⟨o1,o2⟩:=Fe hoff;have A0:=fun cs b=>Region.noSelect_spec hs i oi cs b (by rw[aZZ];exact hi)
 refine⟨Fp hi hs hf hr hQ hy hS (by rw[hl];exact h.1),fun X y x hH hSy hX=> ?_⟩;have h2:=h.2 X y x hH hSy hX;rw[Act.put_comm a v _ (fun d e=>fun e2=>(o2 d e2) e)]at h2;rw[hlj];refine Fp hi hs hf2 hr2 hQ (hy.of_same (execOp_put oi A0 a dj _ o1) (wanted_put oi a dj _ o1)) hSy ?_;rw[<-hlj,Array.setIfInBounds_comm _ _ (Ne.symm hij),hl];exact h2
theorem zR {f:FuncId}{args:Array Value}{Φ:World->Ending->World->Prop}(hi:l[i]?=some oi)(hj:l[j]?=some oj)(hs:Region.noSelect l.toArray=true)(hlj:listed.setIfInBounds j true=lj)
  (hr:((Region.ready md l.toArray listed).all fun k=>k==i||k==j)=true)(hne:(Region.ready md l.toArray listed).isEmpty=false)(hr2:Region.ready md l.toArray lj=[i])(hij:i≠j)(hoff:Gi l oi dj=true)(hdj:oj.dst=dj)(hgj:oj.guard=none)
  (hvj:∀(ρ:Operand->Value) (x:World),(execOp ρ oj).run P x= .ok (.value (.pointer (π x.heap.size))) (x.alloc (.cells zs.toArray T)))
  (hSx:∀x y,S x->Aa x y->S y)(hb:b.heap.size<=w.heap.size)(hH:Hp w0 w m)(hn:Ar zs)(hSw:S w)
  (hw:Region.wanted oi (yielded l.toArray a.tmps)=true)(hv:∀x:World,(execOp a.eval oi).run P x= .ok (.enter f args) x)(hl:listed.setIfInBounds i true=li)
  (hc0:∀x,Aa w x->Calls P f args x (Φ x))(hE:∀x e x',Φ x e x'->Aa x x')
  (h0:∀x e x',Aa w x->Φ x e x'->∃v,e= .returned v/\Fl P md l Q S j dj T zs b w0 m fuel li (a.put oi.dst v) x'):Fl P md l Q S j dj T zs b w0 m (fuel+1) listed a w:=by
 have hc:∀x,Aa w x->Calls P f args x fun e x'=>Φ x e x'/\Aa x x':=fun x hx=>(hc0 x hx).mono fun e x' h1=>⟨h1,hE x e x' h1⟩
 have h:=fun(x:World) (e:Ending) (x':World) (h1:Aa w x) (h2:Φ x e x') (_:Aa x x')=>h0 x e x' h1 h2
 obtain⟨o1,o2⟩:=Fe hoff;have A0:=fun cs b=>Region.noSelect_spec hs i oi cs b (by rw[aZZ];exact hi)
 have done:∀X y,Aa w y->Hp w0 y (m++[.blk X T zs])->S y->b.heap.size<=X->wpAnyH P md l.toArray Q S (fuel+1) (listed.setIfInBounds j true) (a.put dj (.pointer (π X))) y:=by
  intro X y x A3 A2 hX;rw[hlj];refine bG hi hr2 (by rw[wanted_put oi a dj _ o1];exact hw) (by rw[execOp_put oi A0 a dj _ o1];exact hv y) (hc y x) rfl ?_;rintro e y' ⟨h1,h2⟩;obtain⟨v,rfl,hf⟩:=h y e y' x h1 h2;refine⟨v,rfl,hSx _ _ A2 h2,?_⟩;have h3:=hf.2 X y' Aq (A3.step h2) (hSx _ _ A2 h2) hX;rw[Act.put_comm a v _ (fun d e=>fun e2=>(o2 d e2) e)]at h3;rw[<-hlj,Array.setIfInBounds_comm _ _ (Ne.symm hij),hl];exact h3
 refine⟨?_,done⟩;have x1:Aa w (w.alloc (.cells zs.toArray T)):=(Aa.refl w).alloc _;refine wpAnyH_ready rfl (fun e=>by rw[e]at hne;cases hne) (fun k hk=> ?_);have A1:=List.all_eq_true.1 hr k hk;simp only[Bool.or_eq_true,beq_iff_eq]at A1;rcases A1 with rfl|rfl
 ·refine wpOp_step (by rw[aZZ];exact hi) (fun K' hK=> ?_)
  rw[if_pos hw];refine Dq (hv w) (hc w (Aa.refl w)) ?_;rintro e x' ⟨h1,h2⟩;obtain⟨v,rfl,hf⟩:=h w e x' (Aa.refl w) h1 h2;refine⟨v,rfl,hK _ _ ⟨hSx _ _ hSw h2,?_⟩⟩;rw[hl];exact hf.1
 refine wpOp_step (by rw[aZZ];exact hj) (fun K' hK=> ?_);rw[if_pos (by simp[Region.wanted,hgj])];unfold Oper.wp;rw[hvj];refine hK _ _ ⟨hSx _ _ hSw x1,?_⟩;rw[hdj];exact done _ _ x1 (hH.alloc T zs hn) (hSx _ _ hSw x1) hb
theorem aDB (hj:l[j]?=some oj)(hr:Region.ready md l.toArray listed=[j])(hdj:oj.dst=dj)(hgj:oj.guard=none)
  (hvj:∀(ρ:Operand->Value) (x:World),(execOp ρ oj).run P x= .ok (.value (.pointer (π x.heap.size))) (x.alloc (.cells zs.toArray T)))
  (hSx:∀x y,S x->Aa x y->S y)(hb:b.heap.size<=w.heap.size)(hH:Hp w0 w m)(hn:Ar zs)(hSw:S w)(hl:listed.setIfInBounds j true=lj)
  (h:∀X y,Aa w y->Hp w0 y (m++[.blk X T zs])->S y->b.heap.size<=X->wpAnyH P md l.toArray Q S fuel lj (a.put dj (.pointer (π X))) y):Fl P md l Q S j dj T zs b w0 m fuel listed a w:=by
 have x1:Aa w (w.alloc (.cells zs.toArray T)):=(Aa.refl w).alloc _;refine⟨Mo hj hr (by simp[Region.wanted,hgj]) (hvj _ w) (hSx _ _ hSw x1) hl ?_,fun X y x hHy hSy hX=>by rw[hl];exact h X y x hHy hSy hX⟩;rw[hdj];exact h _ _ x1 (hH.alloc T zs hn) (hSx _ _ hSw x1) hb
end
section
variable {P:Program} {l:List Oper} {S:World->Prop} {oi:Oper} {a:Act}
theorem Kk {v:Value}(hw:Region.wanted oi (yielded l.toArray a.tmps)=true)(hv:∀w,S w->(execOp a.eval oi).run P w= .ok (.value v) w):YieldsIf P l.toArray S oi v a:= .inl ⟨hw,hv⟩
theorem dA {g o:Nat}{v:Value}(hw:Region.wanted oi (yielded l.toArray a.tmps)=true)(hc:∀x,S x->x.cell? ⟨g,o,none⟩=some v)(hv:∀x:World,x.cell? ⟨g,o,none⟩=some v->(execOp a.eval oi).run P x= .ok (.value v) x):YieldsIf P l.toArray S oi v a:= .inl ⟨hw,fun x hx=>hv x (hc x hx)⟩
theorem aFG (hw:Region.wanted oi (yielded l.toArray a.tmps)=true)(ty:TypeId)(x:Operand)(ho:oi.op= .load ty x)(g o:Nat)(cs:List Value){d:TypeDesc}(hx:a.eval x= .pointer (some ⟨g,o,none⟩))(hb:∀w,S w->w.rangeAt g o cs)
    (hu:P.underlying ty=some d)(hd:d.isRow=true)(hz:(P.info? ty).map (·.size)=some cs.length):YieldsIf P l.toArray S oi (.agg cs.toArray) a:=yieldsIf_load_mid (P:=P) (ops:=l.toArray) (S:=S) hw ty x ho g o hx cs d hb hu hd hz
end
section
variable {P:Program} {l:List Oper} {Q:Exit->Act->World->Prop} {md:Region.Mode} {S:World->Prop} {j i:Nat} {dj:Option Tmp} {u:Value} {b:World} {fuel:Nat} {listed li lj lij:Array Bool} {a:Act} {w:World} {oi oj:Oper} {v:Value}
def Fd (P:Program)(md:Region.Mode)(l:List Oper)(Q:Exit->Act->World->Prop)(S:World->Prop)(j:Nat)(dj:Option Tmp)(u:Value)(fuel:Nat)(listed:Array Bool)(a:Act)(w:World):Prop:=
  wpAnyH P md l.toArray Q S (fuel+1) listed a w/\wpAnyH P md l.toArray Q S fuel (listed.setIfInBounds j true) (a.put dj u) w
theorem Fd.go (h:Fd P md l Q S j dj u fuel listed a w):wpAnyH P md l.toArray Q S (fuel+1) listed a w:=h.1
theorem Ie {f:FuncId}{args:Array Value}{Φ:Ending->World->Prop}(hi:l[i]?=some oi)(hj:l[j]?=some oj)(hs:Region.noSelect l.toArray=true)(hlj:listed.setIfInBounds j true=lj)
  (hr:((Region.ready md l.toArray listed).all fun k=>k==i||k==j)=true)(hne:(Region.ready md l.toArray listed).isEmpty=false)(hr2:Region.ready md l.toArray lj=[i])(hij:i≠j)(hoff:Gi l oi dj=true)(hdj:oj.dst=dj)(hgj:oj.guard=none)
  (hSx:∀x,Aa b x->S x)(hb:Aa b w)(hvj:∀x,Aa b x->(execOp a.eval oj).run P x= .ok (.value u) x)
  (hw:Region.wanted oi (yielded l.toArray a.tmps)=true)(hv:(execOp a.eval oi).run P w= .ok (.enter f args) w)(hl:listed.setIfInBounds i true=li)
  (hc:Calls P f args w Φ)
  (h:∀e x',Φ e x'->∃v,e= .returned v/\Aa w x'/\Fd P md l Q S j dj u fuel li (a.put oi.dst v) x'):Fd P md l Q S j dj u (fuel+1) listed a w:=by
 obtain⟨o1,o2⟩:=Fe hoff;have A0:=fun cs b=>Region.noSelect_spec hs i oi cs b (by rw[aZZ];exact hi)
 have done:wpAnyH P md l.toArray Q S (fuel+1) (listed.setIfInBounds j true) (a.put dj u) w:=by
  rw[hlj];refine bG hi hr2 (by rw[wanted_put oi a dj _ o1];exact hw) (by rw[execOp_put oi A0 a dj _ o1];exact hv) hc rfl ?_;intro e y' h1;obtain⟨v,rfl,h2,hf⟩:=h e y' h1;refine⟨v,rfl,hSx _ (hb.trans h2),?_⟩;have h3:=hf.2;rw[Act.put_comm a v _ (fun d e=>fun e2=>(o2 d e2) e)]at h3;rw[<-hlj,Array.setIfInBounds_comm _ _ (Ne.symm hij),hl];exact h3
 refine⟨?_,done⟩;refine wpAnyH_ready rfl (fun e=>by rw[e]at hne;cases hne) (fun k hk=> ?_);have A1:=List.all_eq_true.1 hr k hk;simp only[Bool.or_eq_true,beq_iff_eq]at A1;rcases A1 with rfl|rfl
 ·refine wpOp_step (by rw[aZZ];exact hi) (fun K' hK=> ?_)
  rw[if_pos hw];refine Dq hv hc ?_;intro e x' h1;obtain⟨v,rfl,h2,hf⟩:=h e x' h1;refine⟨v,rfl,hK _ _ ⟨hSx _ (hb.trans h2),?_⟩⟩;rw[hl];exact hf.1
 refine wpOp_step (by rw[aZZ];exact hj) (fun K' hK=> ?_);rw[if_pos (by simp[Region.wanted,hgj])];unfold Oper.wp;rw[hvj w hb];refine hK _ _ ⟨hSx _ hb,?_⟩;rw[hdj];exact done
theorem On (hj:l[j]?=some oj)(hr:Region.ready md l.toArray listed=[j])(hdj:oj.dst=dj)(hgj:oj.guard=none)(hS:S w)(hvj:(execOp a.eval oj).run P w= .ok (.value u) w)(hl:listed.setIfInBounds j true=lj)
    (h:wpAnyH P md l.toArray Q S fuel lj (a.put dj u) w):Fd P md l Q S j dj u fuel listed a w:=by
  refine⟨Mo hj hr (by simp[Region.wanted,hgj]) hvj hS hl ?_,by rw[hl];exact h⟩;rw[hdj];exact h
end
theorem Kb {P:Program}{ρ:Operand->Value}{o:Oper}{w:World}(ty:TypeId)(x:Operand)(ho:o.op= .load ty x)(g k:Nat)(cs:List Value){d:TypeDesc}(hx:ρ x= .pointer (some ⟨g,k,none⟩))(hb:w.rangeAt g k cs)
    (hu:P.underlying ty=some d)(hd:d.isRow=true)(hz:(P.info? ty).map (·.size)=some cs.length):(execOp ρ o).run P w= .ok (.value (.agg cs.toArray)) w:=by
  unfold execOp;simp only[ho,hx,Instr.loadAt,Instr.sureAddr,Sem.run_bind,Sem.run_pure,Result.andThen_ok,run_loadVar_mid w g k ty cs d hb hu hd hz]
section
variable {P:Program} {l:List Oper} {Q:Exit->Act->World->Prop} {md:Region.Mode} {S:World->Prop} {i j ix jx X:Nat} {oi oj:Oper} {fuel:Nat} {listed listed':Array Bool} {a:Act} {w w0:World} {m:List Df}
end
section
variable {P:Program} {l:List Oper} {Q:Exit->Act->World->Prop} {md:Region.Mode} {S:World->Prop} {j i:Nat} {dj:Option Tmp} {T:TypeId} {zs:List Value} {b w0:World} {m:List Df} {fuel:Nat} {listed li lj lij:Array Bool} {a:Act} {w:World} {oi oj:Oper} {v:Value}
theorem gK {a':Act}(i:Nat)(lj li:Array Bool)(v:Value)(hS:S w)(h:Fl P md l Q S j dj T zs b w0 m fuel li a' w)(hi:l[i]?=some oi:=by rfl)(hs:Region.noSelect l.toArray=true:=by kernel_rfl)(hf:Region.free md l.toArray listed i=true:=by kernel_rfl)(hr:(Region.ready md l.toArray listed).contains i=true:=by kernel_rfl)(hlj:listed.setIfInBounds j true=lj:=by kernel_rfl)(hf2:Region.free md l.toArray lj i=true:=by kernel_rfl)(hr2:(Region.ready md l.toArray lj).contains i=true:=by kernel_rfl)(hij:i≠j:=by decide)(hoff:Gi l oi dj=true:=by kernel_rfl)(hQ:∀c a w,Q (.panic c) (a.put oi.dst v) w->Q (.panic c) a w:=by intro _ _ _ h;exact h)(hw:Region.wanted oi (yielded l.toArray a.tmps)=true:=by rfl)(hv:∀w,S w->(execOp a.eval oi).run P w= .ok (.value v) w:=by intro w A0;go_simp<;>with_reducible rfl)(hl:listed.setIfInBounds i true=li:=by kernel_rfl)(ha:a.put oi.dst v=a':=by (try simp only[ζ]);rfl):Fl P md l Q S j dj T zs b w0 m (fuel+1) listed a w:=by subst ha;exact zQ hi hs hf hr hlj hf2 hr2 hij hoff hQ (Kk hw hv) hS hl h
theorem gL {f:FuncId}{args:Array Value}{Φ:World->Ending->World->Prop}(i:Nat)(lj li:Array Bool)(hb:b.heap.size<=w.heap.size)(hH:Hp w0 w m)(hSw:S w)(hc0:∀x,Aa w x->Calls P f args x (Φ x))(hE:∀x e x',Φ x e x'->Aa x x')(h0:∀x e x',Aa w x->Φ x e x'->∃v,e= .returned v/\Fl P md l Q S j dj T zs b w0 m fuel li (a.put oi.dst v) x')(hi:l[i]?=some oi:=by rfl)(hj:l[j]?=some oj:=by rfl)(hs:Region.noSelect l.toArray=true:=by kernel_rfl)(hlj:listed.setIfInBounds j true=lj:=by kernel_rfl)(hr:((Region.ready md l.toArray listed).all fun k=>k==i||k==j)=true:=by kernel_rfl)(hne:(Region.ready md l.toArray listed).isEmpty=false:=by kernel_rfl)(hr2:Region.ready md l.toArray lj=[i]:=by kernel_rfl)(hij:i≠j:=by decide)(hoff:Gi l oi dj=true:=by kernel_rfl)(hdj:oj.dst=dj:=by rfl)(hgj:oj.guard=none:=by rfl)(hvj:∀(ρ:Operand->Value) (x:World),(execOp ρ oj).run P x= .ok (.value (.pointer (π x.heap.size))) (x.alloc (.cells zs.toArray T)):=by intro r_ x_;go_simp)(hSx:∀x y,S x->Aa x y->S y:=by intro x y h1 h2;exact h1.trans h2)(hn:Ar zs:=by simp[Ar,rz,rc])(hw:Region.wanted oi (yielded l.toArray a.tmps)=true:=by rfl)(hv:∀x:World,(execOp a.eval oi).run P x= .ok (.enter f args) x:=by intro x_;go_simp)(hl:listed.setIfInBounds i true=li:=by kernel_rfl):Fl P md l Q S j dj T zs b w0 m (fuel+1) listed a w:=zR hi hj hs hlj hr hne hr2 hij hoff hdj hgj hvj hSx hb hH hn hSw hw hv hl hc0 hE h0
theorem gE (lj:Array Bool)(hb:b.heap.size<=w.heap.size)(hH:Hp w0 w m)(hSw:S w)(h:∀X y,Aa w y->Hp w0 y (m++[.blk X T zs])->S y->b.heap.size<=X->wpAnyH P md l.toArray Q S fuel lj (a.put dj (.pointer (π X))) y)(hj:l[j]?=some oj:=by rfl)(hr:Region.ready md l.toArray listed=[j]:=by kernel_rfl)(hdj:oj.dst=dj:=by rfl)(hgj:oj.guard=none:=by rfl)(hvj:∀(ρ:Operand->Value) (x:World),(execOp ρ oj).run P x= .ok (.value (.pointer (π x.heap.size))) (x.alloc (.cells zs.toArray T)):=by intro r_ x_;go_simp)(hSx:∀x y,S x->Aa x y->S y:=by intro x y h1 h2;exact h1.trans h2)(hn:Ar zs:=by simp[Ar,rz,rc])(hl:listed.setIfInBounds j true=lj:=by kernel_rfl):Fl P md l Q S j dj T zs b w0 m fuel listed a w:=aDB hj hr hdj hgj hvj hSx hb hH hn hSw hl h
theorem gG {w':World}(j:Nat)(dj:Option Tmp)(T:TypeId)(zs:List Value)(b:World)(_H:Hp w0 w' m)(h:Fl P md l Q S j dj T zs b w0 m fuel listed a w):wpAnyH P md l.toArray Q S (fuel+1) listed a w:=h.1
end
end
section
structure FJ where
  i:Nat
  d:Option Tmp
  T:TypeId
  zs:List Value
def lP:List FJ->List Bool->Array Bool->Array Bool
  |j::J,true::p,l=>lP J p (l.setIfInBounds j.i true)
  |_::J,false::p,l=>lP J p l
  | [],_,l=>l
  |_::_,[],l=>l
def aD:List FJ->List (Option Nat)->Act->Act
  |j::J,some X::D,a=>aD J D (a.put j.d (.pointer (π X)))
  |_::J,none::D,a=>aD J D a
  | [],_,a=>a
  |_::_,[],a=>a
def cN:List (Option Nat)->Nat
  | []=>0
  |none::D=>cN D+1
  |some _::D=>cN D
def gD (b y:World):List FJ->List (Option Nat)->Prop
  |j::J,some X::D=>(Ac y X j.T j.zs.toArray/\b.heap.size<=X/\some X∉D)/\gD b y J D
  |_::J,none::D=>gD b y J D
  | [],_=>True
  |_::_,[]=>True
def Sx:Nat->List (List Bool)
  |0=>[[]]
  |n+1=>(Sx n).map (true:: ·)++(Sx n).map (false:: ·)
theorem Pz:∀(p:List Bool),p∈Sx p.length
  | []=>List.mem_singleton.2 rfl
  |true::p=>List.mem_append.2 (.inl (List.mem_map.2 ⟨p,Pz p,rfl⟩))
  |false::p=>List.mem_append.2 (.inr (List.mem_map.2 ⟨p,Pz p,rfl⟩))
def rU:List FJ->List Bool->List Nat
  |_::J,true::p=>rU J p
  |j::J,false::p=>j.i::rU J p
  | [],_=>[]
  |_::_,[]=>[]
def nd:List FJ->Bool
  | []=>true
  |j::J=>J.all (fun k=>k.i != j.i&&k.d != j.d)&&nd J
section
variable {P:Program} {l:List Oper} {Q:Exit->Act->World->Prop} {md:Region.Mode} {S:World->Prop} {b w:World} {J:List FJ} {i:Nat} {fuel:Nat} {listed li:Array Bool} {a:Act} {oi:Oper} {v:Value}
theorem bO:∀{J:List FJ} {p:List Bool} {L:Array Bool} {i:Nat},(∀j,j∈J->j.i≠i)->(lP J p L).setIfInBounds i true=lP J p (L.setIfInBounds i true)
  | [],p,L,i,_=>by cases p<;>rfl
  |j::J,[],L,i,_=>rfl
  | j::J,true::p,L,i,h=>by
    show(lP J p (L.setIfInBounds j.i true)).setIfInBounds i true=lP J p ((L.setIfInBounds i true).setIfInBounds j.i true);rw[bO fun k hk=>h k (cQQ _ hk),Array.setIfInBounds_comm _ _ (h j (eQQ ..))]
  |j::J,false::p,L,i,h=>bO (J:=J) fun k hk=>h k (cQQ _ hk)
theorem cO:∀{J:List FJ} {D:List (Option Nat)} {a:Act} {d:Option Tmp} {v:Value},(∀j,j∈J->∀t,j.d=some t->d≠some t)->(aD J D a).put d v=aD J D (a.put d v)
  | [],D,a,d,v,_=>by cases D<;>rfl
  |j::J,[],a,d,v,_=>rfl
  | j::J,some X::D,a,d,v,h=>by
    show(aD J D (a.put j.d _)).put d v=aD J D ((a.put d v).put j.d _);rw[cO fun k hk=>h k (cQQ _ hk),Act.put_comm a _ _ (h j (eQQ ..))]
  |j::J,none::D,a,d,v,h=>cO (J:=J) fun k hk=>h k (cQQ _ hk)
theorem Tn:∀{J:List FJ} {D:List (Option Nat)} {L:Array Bool} {q:Nat} {j:FJ} {X:Nat},nd J=true->J[q]?=some j->D[q]?=some none->(lP J (D.map Option.isSome) L).setIfInBounds j.i true=lP J ((D.set q (some X)).map Option.isSome) L
 | [],D,L,q,j,X,_,h,_=>by simp at h
 |k::J,[],L,q,j,X,_,_,h=>by simp at h
 |k::J,x::D,L,0,j,X,hn,h,h2=>by
  have hk:k=j:=by simpa using h
  have hx:x=none:=by simpa using h2
  subst hk;subst hx;unfold nd at hn;rw[hZZ]at hn;show(lP J (D.map Option.isSome) L).setIfInBounds k.i true=lP J (D.map Option.isSome) (L.setIfInBounds k.i true);exact bO fun z hz=>by
   have:=List.all_eq_true.1 hn.1 z hz;simp at this;exact this.1
 |k::J,x::D,L,q+1,j,X,hn,h,h2=>by
  have h:J[q]?=some j:=by simpa using h
  have h2:D[q]?=some none:=by simpa using h2
  unfold nd at hn;rw[hZZ]at hn;cases x with
  |none=>exact Tn (J:=J) (D:=D) hn.2 h h2
  |some Y=>exact Tn (L:=L.setIfInBounds k.i true) hn.2 h h2
theorem Tw:∀{J:List FJ} {D:List (Option Nat)} {a:Act} {q:Nat} {j:FJ} {X:Nat},nd J=true->J[q]?=some j->D[q]?=some none->(aD J D a).put j.d (.pointer (π X))=aD J (D.set q (some X)) a
 | [],D,a,q,j,X,_,h,_=>by simp at h
 |k::J,[],a,q,j,X,_,_,h=>by simp at h
 |k::J,x::D,a,0,j,X,hn,h,h2=>by
  have hk:k=j:=by simpa using h
  have hx:x=none:=by simpa using h2
  subst hk;subst hx;unfold nd at hn;rw[hZZ]at hn;show(aD J D a).put k.d _=aD J D (a.put k.d _);exact cO fun z hz t ht e=>by
   have:=List.all_eq_true.1 hn.1 z hz;simp at this;exact this.2 (by rw[ht,e])
 |k::J,x::D,a,q+1,j,X,hn,h,h2=>by
  have h:J[q]?=some j:=by simpa using h
  have h2:D[q]?=some none:=by simpa using h2
  unfold nd at hn;rw[hZZ]at hn;cases x with
  |none=>exact Tw (J:=J) (D:=D) hn.2 h h2
  |some Y=>exact Tw (a:=a.put k.d _) hn.2 h h2
theorem cL:∀{D:List (Option Nat)} {q X:Nat},D[q]?=some none->cN (D.set q (some X))+1=cN D
  | [],q,X,h=>by simp at h
  | x::D,0,X,h=>by
    have hx:x=none:=by simpa using h
    subst hx;rfl
  | x::D,q+1,X,h=>by
    have h:D[q]?=some none:=by simpa using h
    have:=cL (X:=X) h;cases x<;>simp only[List.set_cons_succ,cN]<;>omega
theorem Vy {b y y':World}(x:Aa y y'):∀{J:List FJ} {D:List (Option Nat)},gD b y J D->gD b y' J D
  | [],D,_=>by cases D<;>trivial
  |j::J,[],_=>trivial
  |j::J,some X::D,h=>⟨⟨h.1.1.ext x,h.1.2⟩,Vy x h.2⟩
  |j::J,none::D,h=>Vy (J:=J) x h
theorem mD {b y:World}:∀{J:List FJ} {D:List (Option Nat)} {X:Nat},D.length=J.length->gD b y J D->some X∈D->X<y.heap.size
  | [],D,X,hl,_,hX=>by
    have:D=[]:=iXX hl;rw[this]at hX;simp at hX
  |j::J,[],X,_,_,hX=>by simp at hX
  | j::J,some Y::D,X,hl,h,hX=>by
    rcases List.mem_cons.1 hX with e|hX
    · injection e with e;subst e;exact h.1.1.lt
    exact mD (by simpa using hl) h.2 hX
  | j::J,none::D,X,hl,h,hX=>by
    rcases List.mem_cons.1 hX with e|hX
    · cases e
    exact mD (J:=J) (by simpa using hl) h hX
theorem Tp {b y:World}{j:FJ}{X:Nat}(hb:Ac y X j.T j.zs.toArray)(hX:b.heap.size<=X):∀{J:List FJ} {D:List (Option Nat)} {q:Nat},J[q]?=some j->D[q]?=some none->gD b y J D->(∀Y,some Y∈D->Y<X)->gD b y J (D.set q (some X))
 | [],D,q,h,_,_,_=>by simp at h
 |k::J,[],q,_,h,_,_=>by simp at h
 |k::J,x::D,0,h,h2,hg,hl=>by
  have hk:k=j:=by simpa using h
  have hx:x=none:=by simpa using h2
  subst hk;subst hx;exact⟨⟨hb,hX,fun e=>by have:=hl X (cQQ _ e);omega⟩,hg⟩
 |k::J,x::D,q+1,h,h2,hg,hl=>by
  have h:J[q]?=some j:=by simpa using h
  have h2:D[q]?=some none:=by simpa using h2
  cases x with
  |none=>exact Tp (J:=J) hb hX h h2 hg fun Y hY=>hl Y (cQQ _ hY)
  |some Z=>
   refine⟨⟨hg.1.1,hg.1.2.1,fun e=> ?_⟩,Tp hb hX h h2 hg.2 fun Y hY=>hl Y (cQQ _ hY)⟩;rcases List.mem_or_eq_of_mem_set e with e|e
   ·exact hg.1.2.2 e
   injection e with e
   have:=hl Z (eQQ ..);omega
theorem Tf:∀{J:List FJ} {D:List (Option Nat)} {k:Nat},D.length=J.length->k∈rU J (D.map Option.isSome)->∃(q:Nat) (j:FJ),J[q]?=some j/\D[q]?=some none/\j.i=k
  | [],D,k,_,h=>by cases D<;>simp[rU]at h
  |j::J,[],k,hl,_=>by simp at hl
  | j::J,some X::D,k,hl,h=>by
    obtain⟨q,z,h1,h2,h3⟩:=Tf (J:=J) (D:=D) (by simpa using hl) h;exact⟨q+1,z,by simpa using h1,by simpa using h2,h3⟩
  | j::J,none::D,k,hl,h=>by
    rcases List.mem_cons.1 h with rfl|h
    · exact⟨0,j,rfl,rfl,rfl⟩
    obtain⟨q,z,h1,h2,h3⟩:=Tf (J:=J) (D:=D) (by simpa using hl) h;exact⟨q+1,z,by simpa using h1,by simpa using h2,h3⟩
def rI (P:Program)(l:List Oper):List FJ->Prop
  | []=>True
  |j::J=>(∃oj,l[j.i]?=some oj/\oj.dst=j.d/\oj.guard=none/\Ar j.zs/\∀(ρ:Operand->Value) (x:World),(execOp ρ oj).run P x= .ok (.value (.pointer (π x.heap.size))) (x.alloc (.cells j.zs.toArray j.T)))/\rI P l J
theorem rI.get:∀{J:List FJ} {q:Nat} {j:FJ},rI P l J->J[q]?=some j->∃oj,l[j.i]?=some oj/\oj.dst=j.d/\oj.guard=none/\Ar j.zs/\∀(ρ:Operand->Value) (x:World),(execOp ρ oj).run P x= .ok (.value (.pointer (π x.heap.size))) (x.alloc (.cells j.zs.toArray j.T))
  | [],q,j,_,h=>by simp at h
  | k::J,0,j,hk,h=>by
    have e:k=j:=by simpa using h
    subst e;exact hk.1
  |k::J,q+1,j,hk,h=>rI.get hk.2 (by simpa using h)
def FN (P:Program)(md:Region.Mode)(l:List Oper)(Q:Exit->Act->World->Prop)(S:World->Prop)(J:List FJ)(b:World)(fuel:Nat)(listed:Array Bool)(a:Act)(w:World):Prop:=
  ∀(D:List (Option Nat)) (y:World),D.length=J.length->Aa w y->gD b y J D->S y->wpAnyH P md l.toArray Q S (fuel+cN D) (lP J (D.map Option.isSome) listed) (aD J D a) y
theorem FN.go2 {j1 j2:FJ}(h:FN P md l Q S [j1,j2] b fuel listed a w)(hS:S w):wpAnyH P md l.toArray Q S (fuel+2) listed a w:=h [none,none] w rfl Aq trivial hS
theorem FN.go3 {j1 j2 j3:FJ}(h:FN P md l Q S [j1,j2,j3] b fuel listed a w)(hS:S w):wpAnyH P md l.toArray Q S (fuel+3) listed a w:=h [none,none,none] w rfl Aq trivial hS
theorem Vh (hs:Region.noSelect l.toArray=true)(hi:l[i]?=some oi):∀{J:List FJ} {D:List (Option Nat)} {a:Act},(J.all fun j=>Gi l oi j.d)=true->execOp (aD J D a).eval oi=execOp a.eval oi/\Region.wanted oi (yielded l.toArray (aD J D a).tmps)=Region.wanted oi (yielded l.toArray a.tmps)
  | [],D,a,_=>by cases D<;>exact⟨rfl,rfl⟩
  |j::J,[],a,_=>⟨rfl,rfl⟩
  | j::J,some X::D,a,h=>by
    have hsel:=fun cs b=>Region.noSelect_spec hs i oi cs b (by rw[aZZ];exact hi)
    rw[List.all_cons,hZZ]at h;obtain⟨o1,_⟩:=Fe h.1;obtain⟨h1,h2⟩:=Vh hs hi (D:=D) (a:=a.put j.d (.pointer (π X))) h.2;exact⟨h1.trans (execOp_put oi hsel a j.d _ o1),h2.trans (wanted_put oi a j.d _ o1)⟩
  | j::J,none::D,a,h=>by
    rw[List.all_cons,hZZ]at h;exact Vh hs hi (J:=J) h.2
theorem yK (h:(J.all fun j=>Gi l oi j.d)=true):∀j,j∈J->∀t,j.d=some t->oi.dst≠some t:=fun j hj t ht=>(Fe (List.all_eq_true.1 h j hj)).2 t ht
theorem aCZ (h:(J.all fun j=>j.i != i)=true):∀j,j∈J->j.i≠i:=fun j hj=>by simpa using List.all_eq_true.1 h j hj
theorem zP {f:FuncId}{args:Array Value}{Φ:World->Ending->World->Prop}(hi:l[i]?=some oi)(hs:Region.noSelect l.toArray=true)
  (hchk:((Sx J.length).all fun p=> !(Region.ready md l.toArray (lP J p listed)).isEmpty&&(Region.ready md l.toArray (lP J p listed)).all fun k=>k==i||(rU J p).contains k)=true)
  (hne:(J.all fun j=>j.i != i)=true)(hoff:(J.all fun j=>Gi l oi j.d)=true)(hnd:nd J=true)(hJ:rI P l J)
  (hSx:∀x y,S x->Aa x y->S y)(hb:b.heap.size<=w.heap.size)
  (hw:Region.wanted oi (yielded l.toArray a.tmps)=true)(hv:∀x:World,(execOp a.eval oi).run P x= .ok (.enter f args) x)(hl:listed.setIfInBounds i true=li)
  (hc0:∀x,Aa w x->Calls P f args x (Φ x))(hE:∀x e x',Φ x e x'->Aa x x')
  (h0:∀x e x',Aa w x->Φ x e x'->∃v,e= .returned v/\FN P md l Q S J b fuel li (a.put oi.dst v) x'):FN P md l Q S J b (fuel+1) listed a w:=by
 have key:∀(n:Nat) (D:List (Option Nat)) (y:World),cN D=n->D.length=J.length->Aa w y->gD b y J D->S y->wpAnyH P md l.toArray Q S (fuel+1+cN D) (lP J (D.map Option.isSome) listed) (aD J D a) y:=by
  intro n;induction n using Nat.strongRecOn with
  |ind n ih=>
  intro D y hn hD x hg A0;rw[show fuel+1+cN D=fuel+cN D+1 by omega];have hp:D.map Option.isSome∈Sx J.length:=by have:=Pz (D.map Option.isSome);rwa[fXX,hD]at this
  have hc:=List.all_eq_true.1 hchk _ hp;rw[hZZ]at hc;obtain⟨e1,e2⟩:=Vh hs hi (D:=D) (a:=a) hoff;refine wpAnyH_ready rfl (fun e=>by rw[e]at hc;exact absurd hc.1 dC) (fun k hk=> ?_);have A1:=List.all_eq_true.1 hc.2 k hk;simp only[Bool.or_eq_true,beq_iff_eq,List.contains_iff_mem]at A1;rcases A1 with rfl|A1
  ·refine wpOp_step (by rw[aZZ];exact hi) (fun K' hK=> ?_)
   rw[if_pos (by rw[e2];exact hw)];refine Dq (by rw[e1];exact hv y) (hc0 y x) ?_;intro e x' h1;obtain⟨v,rfl,hf⟩:=h0 y e x' x h1;have hx:=hE _ _ _ h1;refine⟨v,rfl,hK _ _ ⟨hSx _ _ A0 hx,?_⟩⟩;rw[bO (aCZ hne),cO (yK hoff),hl];exact hf D x' hD Aq (Vy hx hg) (hSx _ _ A0 hx)
  obtain⟨q,j,A2,A3,rfl⟩:=Tf hD A1;obtain⟨oj,ho,hd,A6,A7,A4⟩:=hJ.get A2;have x1:Aa y (y.alloc (.cells j.zs.toArray j.T)):=(Aa.refl y).alloc _;refine wpOp_step (by rw[aZZ];exact ho) (fun K' hK=> ?_);rw[if_pos (by simp[Region.wanted,A6])];unfold Oper.wp;rw[A4];refine hK _ _ ⟨hSx _ _ A0 x1,?_⟩;rw[hd,Tn (X:=y.heap.size) hnd A2 A3,Tw hnd A2 A3];have A8:=cL (X:=y.heap.size) A3;have A5:cN (D.set q (some y.heap.size))<n:=ω
  have h3:=ih _ A5 (D.set q (some y.heap.size)) _ rfl (by rw[eZZ];exact hD) (x.trans x1) (Tp (Ac.new y _ _) (Av hb x.size) A2 A3 (Vy x1 hg) (fun Y hY=>mD hD hg hY)) (hSx _ _ A0 x1);rw[show fuel+1+cN (D.set q (some y.heap.size))=fuel+cN D by omega]at h3;exact h3
 exact fun D y hD x hg A0=>key _ D y rfl hD x hg A0
theorem uY (hchk:((Sx J.length).all fun p=>p.all id||(!(Region.ready md l.toArray (lP J p listed)).isEmpty&&(Region.ready md l.toArray (lP J p listed)).all fun k=>(rU J p).contains k))=true)
  (hnd:nd J=true)(hJ:rI P l J)(hSx:∀x y,S x->Aa x y->S y)(hb:b.heap.size<=w.heap.size)
  (h:∀(D:List (Option Nat)) (y:World),D.length=J.length->cN D=0->Aa w y->gD b y J D->S y->wpAnyH P md l.toArray Q S fuel (lP J (D.map Option.isSome) listed) (aD J D a) y):FN P md l Q S J b fuel listed a w:=by
 have A0:∀D:List (Option Nat),(D.map Option.isSome).all id=true->cN D=0:=by
  intro D;induction D with
  |nil=>intro _;rfl
  |cons x D ih=>
   intro hh;cases x with
   |none=>simp at hh
   |some X=>exact ih (by simpa using hh)
 have key:∀(n:Nat) (D:List (Option Nat)) (y:World),cN D=n->D.length=J.length->Aa w y->gD b y J D->S y->wpAnyH P md l.toArray Q S (fuel+cN D) (lP J (D.map Option.isSome) listed) (aD J D a) y:=by
  intro n;induction n using Nat.strongRecOn with
  |ind n ih=>
  intro D y hn hD x hg A1;by_cases h0:cN D=0
  ·rw[h0]
   exact h D y hD h0 x hg A1
  have hp:D.map Option.isSome∈Sx J.length:=by have:=Pz (D.map Option.isSome);rwa[fXX,hD]at this
  have hc:=List.all_eq_true.1 hchk _ hp;rw[Bool.or_eq_true,hZZ]at hc;rcases hc with hc|hc
  ·exact absurd (A0 D hc) h0
  obtain⟨c,A8⟩:∃c,cN D=c+1:=⟨cN D-1,ω⟩;rw[A8,show fuel+(c+1)=fuel+c+1 by omega];refine wpAnyH_ready rfl (fun e=>by rw[e]at hc;exact absurd hc.1 dC) (fun k hk=> ?_);have A4:=List.all_eq_true.1 hc.2 k hk;rw[List.contains_iff_mem]at A4;obtain⟨q,j,A2,A3,rfl⟩:=Tf hD A4;obtain⟨oj,ho,hd,A7,A9,A5⟩:=hJ.get A2;have x1:Aa y (y.alloc (.cells j.zs.toArray j.T)):=(Aa.refl y).alloc _;refine wpOp_step (by rw[aZZ];exact ho) (fun K' hK=> ?_);rw[if_pos (by simp[Region.wanted,A7])];unfold Oper.wp;rw[A5];refine hK _ _ ⟨hSx _ _ A1 x1,?_⟩;rw[hd,Tn (X:=y.heap.size) hnd A2 A3,Tw hnd A2 A3];have B0:=cL (X:=y.heap.size) A3;have A6:cN (D.set q (some y.heap.size))<n:=ω
  have h3:=ih _ A6 (D.set q (some y.heap.size)) _ rfl (by rw[eZZ];exact hD) (x.trans x1) (Tp (Ac.new y _ _) (Av hb x.size) A2 A3 (Vy x1 hg) (fun Y hY=>mD hD hg hY)) (hSx _ _ A1 x1);rw[show cN (D.set q (some y.heap.size))=c by omega]at h3;exact h3
 exact fun D y hD x hg A1=>key _ D y rfl hD x hg A1
theorem Hp.addFree {w0 w:World}{m:List Df}{g:Nat}{t:TypeId}{cs:List Value}(h:Hp w0 w m)(hb:Ac w g t cs.toArray)(hf:∀(q k:Nat) (e:Df),m[q]?=some e->e.own=some k->k≠g)(hg:w0.heap.size<=g)(hn:Ar cs):Hp w0 w (m++[.blk g t cs]):=
  h.add ⟨hg,hb,hn⟩ (fun i f hf2 k hk e=>by
    injection e with e
    exact hf i k f hf2 hk e.symm)
theorem aDS {D:List (Option Nat)}(hl:D.length=2)(h:cN D=0):∃X Y,D=[some X,some Y]:=by
  match D,hl,h with
  | [some X,some Y],_,_=>exact⟨X,Y,rfl⟩
  | [none,_],_,h=>simp[cN]at h
  | [some _,none],_,h=>simp[cN]at h
theorem wC {D:List (Option Nat)}(hl:D.length=3)(h:cN D=0):∃X Y Z,D=[some X,some Y,some Z]:=by
  match D,hl,h with
  | [some X,some Y,some Z],_,_=>exact⟨X,Y,Z,rfl⟩
  | [none,_,_],_,h=>simp[cN]at h
  | [some _,none,_],_,h=>simp[cN]at h
  | [some _,some _,none],_,h=>simp[cN]at h
theorem zO {j1 j2:FJ}{w0:World}{m:List Df}{lt:Array Bool}(hchk:((Sx 2).all fun p=>p.all id||(!(Region.ready md l.toArray (lP [j1,j2] p listed)).isEmpty&&(Region.ready md l.toArray (lP [j1,j2] p listed)).all fun k=>(rU [j1,j2] p).contains k))=true)
  (hnd:nd [j1,j2]=true)(hJ:rI P l [j1,j2])(hSx:∀x y,S x->Aa x y->S y)(hb:b.heap.size<=w.heap.size)(hB:Hp w0 b m)(hH:Hp w0 w m)(hlt:lP [j1,j2] [true,true] listed=lt)
  (h:∀X Y y,Aa w y->Hp w0 y (m++[.blk X j1.T j1.zs]++[.blk Y j2.T j2.zs])->b.heap.size<=X->b.heap.size<=Y->S y->wpAnyH P md l.toArray Q S fuel lt ((a.put j1.d (.pointer (π X))).put j2.d (.pointer (π Y))) y):FN P md l Q S [j1,j2] b fuel listed a w:=by
 refine uY hchk hnd hJ hSx hb (fun D y hD hc x hg hSy=> ?_);obtain⟨X,Y,rfl⟩:=aDS hD hc;obtain⟨⟨b1,z1,n1⟩,⟨b2,z2,_⟩,_⟩:=hg;have A0:lP [j1,j2] (List.map Option.isSome [some X,some Y]) listed=lt:=hlt;rw[A0];have z0:=hB.ext.size;refine h X Y y x ?_ z1 z2 hSy;obtain⟨_,_,_,_,A2,_⟩:=hJ.1;obtain⟨_,_,_,_,A1,_⟩:=hJ.2.1;have h1:=(hH.step x).addFree b1 (fun q k e hq hk=>by have:=hB.lt hq hk;omega) (Av z0 z1) A2;refine h1.addFree b2 (fun q k e hq hk=> ?_) (Av z0 z2) A1;rcases List.mem_append.1 (bZZ hq)with hm|hm
 ·obtain⟨q2,A3⟩:=List.mem_iff_getElem?.1 hm
  have:=hB.lt A3 hk;omega
 rw[lZZ]at hm;subst hm;injection hk with hk
 subst hk;intro e2;subst e2;exact n1 (List.mem_singleton.2 rfl)
theorem zN {j1 j2 j3:FJ}{w0:World}{m:List Df}{lt:Array Bool}(hchk:((Sx 3).all fun p=>p.all id||(!(Region.ready md l.toArray (lP [j1,j2,j3] p listed)).isEmpty&&(Region.ready md l.toArray (lP [j1,j2,j3] p listed)).all fun k=>(rU [j1,j2,j3] p).contains k))=true)
  (hnd:nd [j1,j2,j3]=true)(hJ:rI P l [j1,j2,j3])(hSx:∀x y,S x->Aa x y->S y)(hb:b.heap.size<=w.heap.size)(hB:Hp w0 b m)(hH:Hp w0 w m)(hlt:lP [j1,j2,j3] [true,true,true] listed=lt)
  (h:∀X Y Z y,Aa w y->Hp w0 y (m++[.blk X j1.T j1.zs]++[.blk Y j2.T j2.zs]++[.blk Z j3.T j3.zs])->b.heap.size<=X->b.heap.size<=Y->b.heap.size<=Z->S y->wpAnyH P md l.toArray Q S fuel lt (((a.put j1.d (.pointer (π X))).put j2.d (.pointer (π Y))).put j3.d (.pointer (π Z))) y):FN P md l Q S [j1,j2,j3] b fuel listed a w:=by
 refine uY hchk hnd hJ hSx hb (fun D y hD hc x hg hSy=> ?_);obtain⟨X,Y,Z,rfl⟩:=wC hD hc;obtain⟨⟨b1,z1,n1⟩,⟨b2,z2,n2⟩,⟨b3,z3,_⟩,_⟩:=hg;have A1:lP [j1,j2,j3] (List.map Option.isSome [some X,some Y,some Z]) listed=lt:=hlt;rw[A1];have z0:=hB.ext.size;refine h X Y Z y x ?_ z1 z2 z3 hSy;obtain⟨_,_,_,_,A4,_⟩:=hJ.1;obtain⟨_,_,_,_,A3,_⟩:=hJ.2.1;obtain⟨_,_,_,_,A2,_⟩:=hJ.2.2.1;have h1:=(hH.step x).addFree b1 (fun q k e hq hk=>by have:=hB.lt hq hk;omega) (Av z0 z1) A4;have h2:Hp w0 y (m++[.blk X j1.T j1.zs]++[.blk Y j2.T j2.zs]):=by
  refine h1.addFree b2 (fun q k e hq hk=> ?_) (Av z0 z2) A3;rcases List.mem_append.1 (bZZ hq)with hm|hm
  ·obtain⟨q2,A0⟩:=List.mem_iff_getElem?.1 hm
   have:=hB.lt A0 hk;omega
  rw[lZZ]at hm;subst hm;injection hk with hk
  subst hk;intro e2;subst e2;exact n1 (by simp)
 refine h2.addFree b3 (fun q k e hq hk=> ?_) (Av z0 z3) A2;rcases List.mem_append.1 (bZZ hq)with hm|hm
 ·rcases List.mem_append.1 hm with hm|hm
  ·obtain⟨q2,A0⟩:=List.mem_iff_getElem?.1 hm
   have:=hB.lt A0 hk;omega
  rw[lZZ]at hm;subst hm;injection hk with hk
  subst hk;intro e2;subst e2;exact n1 (by simp)
 rw[lZZ]at hm;subst hm;injection hk with hk
 subst hk;intro e2;subst e2;exact n2 (by simp)
end
section
variable {P:Program} {l:List Oper} {Q:Exit->Act->World->Prop} {md:Region.Mode} {S:World->Prop} {b w:World} {J:List FJ} {i:Nat} {fuel:Nat} {listed li:Array Bool} {a:Act} {oi:Oper} {v:Value}
theorem gN {f:FuncId}{args:Array Value}{Φ:World->Ending->World->Prop}(i:Nat)(li:Array Bool)(hJ:rI P l J)(hb:b.heap.size<=w.heap.size)(hc0:∀x,Aa w x->Calls P f args x (Φ x))(hE:∀x e x',Φ x e x'->Aa x x')(h0:∀x e x',Aa w x->Φ x e x'->∃v,e= .returned v/\FN P md l Q S J b fuel li (a.put oi.dst v) x')(hi:l[i]?=some oi:=by rfl)(hs:Region.noSelect l.toArray=true:=by kernel_rfl)(hchk:((Sx J.length).all fun p=> !(Region.ready md l.toArray (lP J p listed)).isEmpty&&(Region.ready md l.toArray (lP J p listed)).all fun k=>k==i||(rU J p).contains k)=true:=by kernel_rfl)(hne:(J.all fun j=>j.i != i)=true:=by kernel_rfl)(hoff:(J.all fun j=>Gi l oi j.d)=true:=by kernel_rfl)(hnd:nd J=true:=by kernel_rfl)(hSx:∀x y,S x->Aa x y->S y:=by intro x y h1 h2;exact h1.trans h2)(hw:Region.wanted oi (yielded l.toArray a.tmps)=true:=by rfl)(hv:∀x:World,(execOp a.eval oi).run P x= .ok (.enter f args) x:=by intro x_;go_simp)(hl:listed.setIfInBounds i true=li:=by kernel_rfl):FN P md l Q S J b (fuel+1) listed a w:=zP hi hs hchk hne hoff hnd hJ hSx hb hw hv hl hc0 hE h0
theorem fk {j:FJ}{oj:Oper}(t:rI P l J)(h1:l[j.i]?=some oj:=by rfl)(h2:oj.dst=j.d:=by rfl)(h3:oj.guard=none:=by rfl)(h4:Ar j.zs:=by simp[Ar])(h5:∀(ρ:Operand->Value) (x:World),(execOp ρ oj).run P x= .ok (.value (.pointer (π x.heap.size))) (x.alloc (.cells j.zs.toArray j.T)):=by intro r_ x_;go_simp):rI P l (j::J):=⟨⟨oj,h1,h2,h3,h4,h5⟩,t⟩
theorem aGL {j1 j2:FJ}{w0:World}{m:List Df}(lt:Array Bool)(hJ:rI P l [j1,j2])(hb:b.heap.size<=w.heap.size)(hB:Hp w0 b m)(hH:Hp w0 w m)(h:∀X Y y,Aa w y->Hp w0 y (m++[.blk X j1.T j1.zs]++[.blk Y j2.T j2.zs])->b.heap.size<=X->b.heap.size<=Y->S y->wpAnyH P md l.toArray Q S fuel lt ((a.put j1.d (.pointer (π X))).put j2.d (.pointer (π Y))) y)(hchk:((Sx 2).all fun p=>p.all id||(!(Region.ready md l.toArray (lP [j1,j2] p listed)).isEmpty&&(Region.ready md l.toArray (lP [j1,j2] p listed)).all fun k=>(rU [j1,j2] p).contains k))=true:=by kernel_rfl)(hnd:nd [j1,j2]=true:=by kernel_rfl)(hSx:∀x y,S x->Aa x y->S y:=by intro x y h1 h2;exact h1.trans h2)(hlt:lP [j1,j2] [true,true] listed=lt:=by kernel_rfl):FN P md l Q S [j1,j2] b fuel listed a w:=zO hchk hnd hJ hSx hb hB hH hlt h
theorem aGY {j1 j2 j3:FJ}{w0:World}{m:List Df}(lt:Array Bool)(hJ:rI P l [j1,j2,j3])(hb:b.heap.size<=w.heap.size)(hB:Hp w0 b m)(hH:Hp w0 w m)(h:∀X Y Z y,Aa w y->Hp w0 y (m++[.blk X j1.T j1.zs]++[.blk Y j2.T j2.zs]++[.blk Z j3.T j3.zs])->b.heap.size<=X->b.heap.size<=Y->b.heap.size<=Z->S y->wpAnyH P md l.toArray Q S fuel lt (((a.put j1.d (.pointer (π X))).put j2.d (.pointer (π Y))).put j3.d (.pointer (π Z))) y)(hchk:((Sx 3).all fun p=>p.all id||(!(Region.ready md l.toArray (lP [j1,j2,j3] p listed)).isEmpty&&(Region.ready md l.toArray (lP [j1,j2,j3] p listed)).all fun k=>(rU [j1,j2,j3] p).contains k))=true:=by kernel_rfl)(hnd:nd [j1,j2,j3]=true:=by kernel_rfl)(hSx:∀x y,S x->Aa x y->S y:=by intro x y h1 h2;exact h1.trans h2)(hlt:lP [j1,j2,j3] [true,true,true] listed=lt:=by kernel_rfl):FN P md l Q S [j1,j2,j3] b fuel listed a w:=zN hchk hnd hJ hSx hb hB hH hlt h
end
end
section
attribute [local go_sem ↓] Go.wp_at_zero Go.wp_at_succ Ae Ad
end
section
attribute [local go_sem ↓] Go.wp_at_zero Go.wp_at_succ Ee Ed Ae Ad
theorem Ww (u:Value)(rs:List Ai)(w:World)(hu:Cv w u rs)(hv:Fm rs=true)(hn:rs.length<=1048576):
  Calls prog 109 #[u,.agg #[iV 0,iV 0]] w fun e w'=>∃v,e= .returned v/\Tr w.heap.size w' v rs/\Aa w w':=by
 have HT:=zH (Hf hv);have B7:∀r,r∈rs->r.length<=4096:=fun r hr=>by
  obtain⟨k,hk⟩:=List.mem_iff_getElem?.1 hr;have h1:=Ig hk;have h2:=If rs (k+1);have h3:=HT.1;omega
 have F8:=zH B7;have HV:=zH hv;have HC:=zH (fun W (hW:Aa w W)=>Ci u rs W (hu.ext hW) hn (fun r hr=>Av (B7 r hr) (by decide)));have HU:=zH hu;obtain⟨Au,cu,rfl,_⟩:=hu;obtain⟨i0,hi,A8,A7,A6⟩:=info_parts aCY;have HI:=zH (And.intro hi (And.intro A8 (And.intro A7 A6)));clear hi A8 A7 A6 B7;obtain⟨i1,hi,A8,A7,A6⟩:=info_parts aCX;have HJ:=zH (And.intro hi (And.intro A8 (And.intro A7 A6)));clear hi A8 A7 A6 hv;go_enter func109,ntmps109
 have hB:=Ac.new w 44 #[iV 0,iV 0];have hE:Aa w (w.alloc (.cells #[iV 0,iV 0] 44)):=Aq.alloc _;go_upto_if 13 with(go_at_call 28;refine(HC.1 _ hE).mono ?_;rintro e w1 ⟨rfl,B6⟩)
 have F3:(!Fm rs)=false:=by rw[HV.1];rfl
 rw[F3];have E0:=zH (hE.trans B6);have C7:=zH (hB.ext B6);clear hB hE B6;generalize hX3:w.heap.size=X3 at C7⊢
 have G9:=zH hX3;clear hX3;go_wp2_with fail;go_loopg [5,16] rs.length (fun c v i wr=>∃(k:Nat) (v2:Value),k<=rs.length/\c=rs.length-k/\i= iV k/\v2=v/\Tr w.heap.size wr v2 (rs.take k)/\Aa w wr/\Ac wr X3 44 #[iV 0,iV 0]/\v2.ownBlock≠some X3)
 case atStart=>exact⟨0,_,eXX _,rfl,rfl,rfl,⟨[],Ba.nil _ _ _ _,rfl,fun i r h=>by simp at h⟩,E0.1,C7.1,by simp[Value.ownBlock]⟩
 clear E0 C7;obtain⟨k,v,hk,rfl,rfl,rfl,D2,hx,D9,D0⟩:=hrel;have C2:=zH D2;have HX:=zH hx;have HB:=zH D9;have E1:=zH D0;clear D2 hx D9 D0;by_cases hlt:k<rs.length
 ·have E8:(k:Int)<(rs.length:Int):=ω
  obtain⟨r,hr⟩:∃r,rs[k]?=some r:=⟨_,aQQ hlt⟩;have E7:∃g A5,Au=some ⟨g,A5,none⟩/\∃B cb,w.cell? ⟨g,A5+k,none⟩=some (.slice B r.length cb)/\Fj w (.slice B r.length cb) r:=by
   obtain⟨A2,c2,A4,h2⟩:=HU.1;injection A4 with e1 _ _
   obtain⟨g,A5,h3,h4⟩:=h2 ω;obtain⟨B,cb,h5,h6⟩:=h4 k r hr;exact⟨g,A5,e1.trans h3,B,cb,h5,h6⟩
  obtain⟨g,A5,rfl,B,cb,D7,D5⟩:=E7;have c1:=HX.1.get D7;have HP:=zH (D5.ext HX.1);have F9:=zH hr;have G5:=F8.1 r (bZZ hr);have C4:=zH hlt;have F6:=zH (show rs.take (k+1)=rs.take k++[r]by rw[iQQ hlt];congr 1;obtain⟨_,h⟩:=List.getElem?_eq_some_iff.1 hr;rw[h]);have D6:(rs.take k).length=k:=by rw[dXX];omega
  have E3:=zH D6;clear D7 D5 hr hlt D6;generalize wr=W0 at*;go_wp2_with fail;go_loopg [8,22] r.length (fun c u i wx=>∃(j:Nat) (u2:Value),j<=r.length/\c=r.length-j/\i= iV j/\u2=u/\Ba wx W0.heap.size 44 2 u2 (r.take j).length (Gh (r.take j))/\Aa W0 wx)
  case atStart=>exact⟨0,_,eXX _,rfl,rfl,rfl,Ba.nil _ _ _ _,Aa.refl _⟩
  clear c1;obtain⟨j,v8,hj,rfl,rfl,rfl,A9,C9⟩:=hrel;have A1:=zH A9;have B2:=zH C9;clear A9 C9;by_cases hjl:j<r.length
  ·have E9:(j:Int)<(r.length:Int):=ω
   obtain⟨p,hp⟩:∃p,r[j]?=some p:=⟨_,aQQ hjl⟩;have F2:∃gb ob,B=some ⟨gb,ob,none⟩/\wr.cell? ⟨gb,ob+j*2,none⟩=some (iV p.1)/\wr.cell? ⟨gb,ob+j*2+1,none⟩=some (iV p.2):=by
    obtain⟨A2,c2,A4,h2⟩:=HP.1;injection A4 with e1 _ _
    obtain⟨gb,ob,h3,h4⟩:=h2 (by rintro rfl;simp at hjl);obtain⟨h5,h6⟩:=(h4.ext B2.1) j hjl;have F1:r.getD j (0,0)=p:=by obtain⟨_,h⟩:=List.getElem?_eq_some_iff.1 hp;simp[List.getD,hjl,h]
    rw[F1]at h5 h6;exact⟨gb,ob,e1.trans h3,h5,h6⟩
   obtain⟨gb,ob,rfl,q1,q2⟩:=F2;have G1:=zH (aCN HV.1 F9.1 hp);have E4:=zH hjl;have F7:=zH (show r.take (j+1)=r.take j++[p]by rw[iQQ hjl];congr 1;obtain⟨_,h⟩:=List.getElem?_eq_some_iff.1 hp;rw[h]);have B8:(r.take j).length=j:=by rw[dXX];omega
   have G3:=zH B8;have E2:=zH (show World.rangeAt wr gb (ob+j*2) [iV p.1,iV p.2]from fun i v hv=>by
    match i,hv with
    |0,hv=>simp at hv;rw[<-hv];exact q1
    |1,hv=>simp at hv;rw[<-hv];exact q2)
   rw[B8]at A1;clear hp hjl q1 q2 B8;go_upto_region 10 with fail;refine wp_region_lit ?_;apply zq (.pointer (some ⟨gb,ob+j*2,none⟩));refine Ck (by rfl) (wp_load_mid _ _ (by rfl) gb (ob+j*2) (by rfl) [iV p.1,iV p.2] _ E2.1 underlying44 (by rfl) (by kernel_rfl) ?_);try simp only[ζ]
   refine zp (w':=wr.alloc (.cells #[iV 0,iV 0] 44)) (.pointer (π wr.heap.size)) (by go_simp) ?_;refine pO #[iV p.1,iV p.2] (Ac.new wr _ _) rfl (by kernel_rfl) (all_oneCell_toArray (tW p)) ?_
   (try simp only[Act.put])
   obtain⟨B5,C8⟩:=Tl wr 44 #[iV 0,iV 0] #[iV p.1,iV p.2] rfl;generalize (wr.alloc (.cells #[iV 0,iV 0] 44)).setCells wr.heap.size 0 (#[iV p.1,iV p.2]:Array Value).toList=w4 at*;generalize wr.heap.size=G8 at*;have C1:=zH (B2.1.trans B5);have C6:=zH C8;have A3:=zH (A1.1.ext B5);clear B5 C8 E2 A1;go_upto_region 11 with fail
   refine wp_region_lit ?_;refine zq (v8) ?_;refine pL C6.1 underlying44 (by kernel_rfl) ?_;try simp only[ζ]
   refine pL (HB.1.ext C1.1) underlying44 (by kernel_rfl) ?_;try simp only[ζ]
   refine Gs (by rfl) (by go_simp) (wO p.1 p.2 _ G1.1) ?_;rintro e w5 ⟨rfl,hx⟩;have C5:=zH (show Aa w4 w5 from((Aa.refl w4)).trans hx);clear hx;refine⟨_,rfl,?_⟩;try simp only[ζ]
   have A0:Aa w4 (w5.alloc (.cells #[iV p.1,iV p.2] 44)):=C5.1.alloc _;have B0:=(C1.1.trans A0).size;have G7:j<=4096:=ω
   refine zp (w':=(w5.alloc (.cells #[iV p.1,iV p.2] 44))) (.slice (π w5.heap.size) 1 1) (by go_simp) ?_;refine Ck (by rfl) (Eu _ _ 46 (by rfl) W0.heap.size 44 i0 _ 2 16 underlying46 HI.1.1 HI.1.2.1 HI.1.2.2.1 HI.1.2.2.2 rfl (by decide) uA _ j (Gh (r.take j)) (by rfl) (A3.1.ext A0) ⟨w5.heap.size,0,none⟩ 1 1 [iV p.1,iV p.2] (by rfl) rfl (xC _ _ _ _) (tW p) (yL p) (by decide) (by unfold maxLen;omega) ω B0 ?_);intro gx cx w8 hf h2 h3 h4;try simp only[ζ]
   have C3:=zH (show Ba w8 W0.heap.size 44 2 (.slice (π gx) (j+1) cx) (r.take (j+1)).length (Gh (r.take (j+1)))by rw[F7.1,aM,bQQ,G3.1];exact h2);have C0:=zH (show Aa W0 w8 from(C1.1.trans A0).grown h3 (fun j hj=>(A3.1.ext A0).block j hj));clear h2 h3 h4 hf A0 B0;refine zp (w':=w8) (.slice (π gx) (j+1) cx) (by go_simp) ?_;go_wp2_with fail
   go_roundg (r.length-(j+1))
   case measure=>have:=E4.1;omega
   case rel=>exact⟨j+1,_,E4.1,rfl,by go_num,rfl,C3.1,C0.1⟩
  obtain rfl:j=r.length:=ω;have F0:¬(r.length:Int)<(r.length:Int):=ω;obtain⟨Bn,cn,rfl,D4,D8⟩:=Ba.pts (ps:=r) (by have h:=A1.1;rwa[cXX (Cl _)]at h);have G0:=zH D4;have E5:=zH D8;have B3:=zH (C2.1.ext B2.1);have B1:=zH (HX.1.trans B2.1);have E6:=zH (HB.1.ext B2.1);have G2:=zH (show∀A,Bn=some A->A.block<wr.heap.size from fun A hA=>by
   subst hA;obtain⟨_,⟨hv,_⟩|⟨g2,c2,r2,hv,_,B9,_⟩⟩:=A1.1
   ·cases hv
   injection hv with e1 _ _;injection e1 with e1;rw[e1];exact B9.lt)
  have F5:=zH (show∀j,v.ownBlock=some j->j<W0.heap.size from fun j hj=>by
   obtain⟨vs,h1,_⟩:=C2.1;obtain⟨_,⟨rfl,_⟩|⟨g2,c2,r2,rfl,_,B9,_⟩⟩:=h1
   ·simp[Value.ownBlock]at hj
   simp[Value.ownBlock]at hj;rw[<-hj];exact B9.lt)
  clear D4 D8 A1;go_upto_region 13 with fail;refine wp_region_lit ?_;refine qV (v) ?_;apply zq (.slice Bn r.length cn);have A0:Aa wr (wr.alloc (.cells #[.slice Bn r.length cn] 46)):=Aq.alloc _;obtain⟨vs,B4,A4,D1⟩:=B3.1.ext A0;have B0:=(B1.1.trans A0).size;have G6:k<=1048576:=by have:=C4.1;omega
  refine zp (w':=(wr.alloc (.cells #[.slice Bn r.length cn] 46))) (.slice (π wr.heap.size) 1 1) (by go_simp) ?_;refine Ck (by rfl) (Eu _ _ 22 (by rfl) w.heap.size 46 i1 _ 1 24 underlying22 HJ.1.1 HJ.1.2.1 HJ.1.2.2.1 HJ.1.2.2.2 rfl (by decide) tZ _ k vs (by rfl) (by have h:=B4;rwa[E3.1]at h) ⟨wr.heap.size,0,none⟩ 1 1 [.slice Bn r.length cn] (by rfl) rfl (He _ _ _) (by simp[Value.oneCell']) (by intro x hx q;simp at hx;rw[hx];simp) (by decide) (by unfold maxLen;omega) ω B0 ?_);intro gx cx w8 hf h2 h3 h4;try simp only[ζ]
  skip
  have D3:=Tr.snoc (B3.1.ext A0) E3.1 (r:=r) (s:= .slice Bn r.length cn) rfl (G0.1.ext A0) (fun A hA=>⟨fun e=>by have q1:=F5.1 _ e;have q2:=E5.1 A hA;omega,jZZ (G2.1 A hA) A0.size⟩) (fun A hA=>by have q2:=E5.1 A hA;have q3:=HX.1.size;omega) vs ⟨vs,B4,A4,rfl,D1⟩ h2 h3 hf;have C3:=zH (show Tr w.heap.size w8 (.slice (π gx) (k+1) cx) (rs.take (k+1))by rw[F6.1];exact D3);have C0:=zH (show Aa w w8 from(B1.1.trans A0).grown h3 (fun j hj=>B4.block j hj));have G4:=zH ((E6.1.ext A0).grown h3 E1.1);have F4:=zH (show(Value.slice (π gx) (k+1) cx).ownBlock≠some X3 from fun e=>by simp[Value.ownBlock]at e;rcases hf with hf|hf;exact E1.1 (by rw[<-e];exact hf);have:=E6.1.lt;have:=A0.size;omega);clear h2 h3 h4 hf A0 B0 D3 B4 A4 D1;refine zp (w':=w8) (.slice (π gx) (k+1) cx) (by go_simp) ?_;go_wp2_with fail
  go_roundg (rs.length-(k+1))
  case measure=>have:=C4.1;omega
  case rel=>exact⟨k+1,_,C4.1,rfl,by go_num,rfl,C3.1,C0.1,G4.1,F4.1⟩
 obtain rfl:k=rs.length:=ω;have F0:¬(rs.length:Int)<(rs.length:Int):=ω;have HR:=zH (show Tr w.heap.size wr v rs from by have h:=C2.1;rwa[cXX (Cl _)]at h);go_wp2_with fail;go_ret;exact⟨_,rfl,HR.1,HX.1⟩
end
section
def Fi (r:Ai)(i:Nat):Option ((Int×Int)×(Int×Int)):=
  match r[i]?,r[(i+1)%r.length]?with
  |some a,some b=>if a=b then none else some (a,b)
  |_,_=>none
def Eb (r:Ai)(n:Nat):List ((Int×Int)×(Int×Int)):=(List.range n).filterMap (Fi r)
def Bk (rs:List Ai):List ((Int×Int)×(Int×Int)):=rs.flatMap fun r=>Eb r r.length
theorem Sr {r:Ai}{i:Nat}{a b:Int×Int}(ha:r[i]?=some a)(hb:r[(i+1)%r.length]?=some b):Fi r i=if a=b then none else some (a,b):=by
  unfold Fi;rw[ha,hb]
theorem Qz {r:Ai}{n:Nat}(h:Fi r n=none):Eb r (n+1)=Eb r n:=by
  unfold Eb;rw[List.range_succ,List.filterMap_append];simp[h]
theorem Gg {r:Ai}{n:Nat}{e:(Int×Int)×(Int×Int)}(h:Fi r n=some e):Eb r (n+1)=Eb r n++[e]:=by
  unfold Eb;rw[List.range_succ,List.filterMap_append];simp[h]
theorem oJ {r:Ai}{n m:Nat}(h:n<=m):Eb r n<+:Eb r m:=by
  unfold Eb;obtain⟨d,rfl⟩:=Nat.exists_eq_add_of_le h;rw[List.range_add,List.filterMap_append];exact List.prefix_append _ _
theorem Sp {rs:List Ai}{k:Nat}{r:Ai}(h:rs[k]?=some r):Bk (rs.take (k+1))=Bk (rs.take k)++Eb r r.length:=by
  unfold Bk;rw[List.take_add_one,h];simp
theorem Xi (rs:List Ai)(k:Nat):Bk (rs.take k)<+:Bk rs:=by
  conv=>rhs;rw[<-List.take_append_drop k rs]
  unfold Bk;rw[List.flatMap_append];exact List.prefix_append _ _
theorem Rs {rs:List Ai}{k n:Nat}{r:Ai}(h:rs[k]?=some r)(hn:n<=r.length):Bk (rs.take k)++Eb r n<+:Bk rs:=by
  refine List.IsPrefix.trans ?_ (Xi rs (k+1));rw[Sp h];exact(List.prefix_append_right_inj _).2 (oJ hn)
theorem iS (r:Ai)(n:Nat):(Eb r n).length<=n:=by
  unfold Eb;have:=List.length_filterMap_le (Fi r) (List.range n);simpa using this
theorem qI (rs:List Ai):∀n:Nat,rs.foldl (fun n r=>n+r.length) n=n+rs.foldl (fun n r=>n+r.length) 0:=by
  induction rs with
  |nil=>intro n;simp
  |cons r rs ih=>intro n;rw[List.foldl_cons,List.foldl_cons,ih (n+r.length),ih (0+r.length)];omega
theorem Fh (rs:List Ai):(Bk rs).length<=Gx rs:=by
  unfold Gx;induction rs with
  |nil=>simp[Bk]
  | cons r rs ih=>
    have h1:=iS r r.length;have h2:Bk (r::rs)=Eb r r.length++Bk rs:=by simp[Bk]
    rw[h2,bQQ,List.foldl_cons,qI];omega
end
section
attribute [local go_sem ↓] Go.wp_at_zero Go.wp_at_succ Ee Ed
theorem Hc (u:Value)(rs:List Ai)(w:World)(hu:Cv w u rs)(hn:rs.length<=1048576)(hr:∀r,r∈rs->r.length<=1048576):
    Calls prog 14 #[u] w fun e w'=>e= .returned (.bool (Fm rs))/\Aa w w':=by
  obtain⟨A,cu,rfl,hA⟩:=hu;have HA:=zH hA;have HR:=zH hr;clear hA hr;go_enter func14,ntmps14
  go_wp2_with fail;go_loopg [3,4] rs.length (fun c n i wr=>∃k m:Nat,k<=rs.length/\c=rs.length-k/\i= iV k/\n= iV m/\m=Gx (rs.take k)/\m<=4096/\(∀i r,i<k->rs[i]?=some r->De r=true)/\Aa w wr)
  case atStart=>exact⟨0,0,eXX _,rfl,rfl,rfl,rfl,eXX _,fun i r h=>absurd h (Nat.not_lt_zero _),Aa.refl _⟩
  obtain⟨k,m,hk,rfl,rfl,rfl,hm,C6,ho,hx⟩:=hrel;have HO:=zH ho;have HX:=zH hx;have HM:=zH hm;clear ho hx hm;by_cases hlt:k<rs.length
  · obtain⟨r,hr⟩:∃r,rs[k]?=some r:=⟨_,aQQ hlt⟩
    obtain⟨g,C4,rfl,hp⟩:=HA.1 ω;obtain⟨B,cb,h1,h2⟩:=hp k r hr;have c1:=HX.1.get h1;have C3:=zH c1;have HP:=zH (h2.ext HX.1);have C2:=zH (HR.1 r (bZZ hr));have A4:=zH hr;have B9:=zH (Ig hr);have B5:(k:Int)<(rs.length:Int):=ω
    have B1:=zH hlt;have C5:=C2.1;obtain⟨m2,A1⟩:∃m2,m2=m+r.length:=⟨_,rfl⟩;have e1:(m:Int)+(r.length:Int)=(m2:Int):=ω
    have wm:IntKind.i64.wrap (m2:Int)=(m2:Int):=by rw[IntKind.wrap_i64];omega
    have ws:IntKind.i64.wrap (4096-(m:Int))=4096-(m:Int):=by rw[IntKind.wrap_i64];omega
    have B0:=zH (show m2=Gx (rs.take (k+1))by rw[B9.1,<-HM.1];exact A1);have C8:=zH A1;clear hp h1 h2 hr hlt;by_cases hbig:4096<m2
    · have B7:4096-(m:Int)<(r.length:Int):=ω
      have HF:=zH (Pv A4.1 (Or.inl (by rw[<-B0.1];exact hbig)));clear A1;go_wp2_with fail;go_ret;exact⟨by rw[HF.1];rfl,HX.1⟩
    have B7:¬4096-(m:Int)<(r.length:Int):=ω;clear A1;go_wp2_with fail;generalize wr=W0 at*;go_loopg [5] r.length (fun c j wi=>∃t:Nat,t<=r.length/\c=r.length-t/\j= iV t/\De (r.take t)=true/\Aa W0 wi)
    case atStart=>exact⟨0,eXX _,rfl,rfl,rfl,Aa.refl _⟩
    obtain⟨t,ht,rfl,rfl,A7,A5⟩:=hrel;have A9:=zH A7;have A0:=zH A5;have c2:=A0.1.get C3.1;clear A7 A5 c1;by_cases hlt3:t<r.length
    · obtain⟨A2,B8,ev,hv⟩:=HP.1
      injection ev with ev1 ev2 ev3
      subst ev1 ev3;clear ev2;obtain⟨g2,B3,rfl,A6⟩:=hv (by rintro rfl;simp at hlt3);obtain⟨d0,d1⟩:=(A6.ext A0.1) t hlt3;have A8:r.getD t (0,0)=r[t]:=by simp[List.getD,hlt3]
      rw[A8]at d0 d1;have C0:=zH (jA r t hlt3 A9.1);have C1:=zH (Oi r t hlt3);have B4:(t:Int)<(r.length:Int):=ω
      have B2:=zH hlt3;generalize r[t]=x at*;clear A6 hv A8 hlt3;by_cases hok:Dd x.1 x.2=true
      · have hb:(!Dd x.1 x.2)=false:=by rw[hok];rfl
        go_wp2_with (go_at_call 38;refine(Uq _ _ _).mono ?_;rintro e w2 ⟨rfl,A3⟩)
        go_roundg (r.length-(t+1))
        case measure=>have:=B2.1;omega
        case rel=>exact⟨t+1,B2.1,rfl,by go_num,C0.1 hok,A0.1.trans A3⟩
      replace hok:=eq_false_of_ne_true hok;have hb:(!Dd x.1 x.2)=true:=by rw[hok];rfl
      have HF:=zH (Pv A4.1 (Or.inr (C1.1 hok)));go_wp2_with (go_at_call 38;refine(Uq _ _ _).mono ?_;rintro e w2 ⟨rfl,A3⟩)
      go_ret;exact⟨by rw[HF.1];rfl,(HX.1.trans A0.1).trans A3⟩
    have B6:¬(t:Int)<(r.length:Int):=ω;have HE:=zH (Rc r t ht hlt3 A9.1);go_wp2_with fail;go_roundg (rs.length-(k+1))
    case measure=>have:=B1.1;omega
    case rel=>exact⟨k+1,m2,B1.1,rfl,by go_num,rfl,B0.1,ω,fun i r2 hi hr2=>by
      rcases Nat.lt_or_ge i k with h|h
      · exact HO.1 i r2 h hr2
      obtain rfl:i=k:=ω;rw[A4.1]at hr2;injection hr2 with hr2
      rw[<-hr2];exact HE.1,HX.1.trans A0.1⟩
  obtain rfl:k=rs.length:=ω;have HF:=zH (lI (rs:=rs) (by have h:=HM.1;rw[cXX (Cl _)]at h;omega) HO.1);have C7:¬(rs.length:Int)<(rs.length:Int):=ω
  go_wp2_with fail;go_ret;exact⟨by rw[HF.1];rfl,HX.1⟩
end
section
attribute [local go_sem ↓] Go.wp_at_zero Go.wp_at_succ Ae Ad
end
section
attribute [local go_sem ↓] Go.wp_at_zero Go.wp_at_succ
theorem Rm (n:Int)(w:World):Calls prog 184 #[iV n] w fun e w'=>e= .returned φ/\Aa w w':=by
  have A0:(n != n)=false:=by simp
  go_enter func184,ntmps184;go_wp2_with fail;go_ret;exact⟨by first|rfl|simp,Aa.refl _⟩
def Ov (a b:Int):Int:=if a<b then-1 else if b<a then 1 else 0
theorem gC (a b:Int)(w:World):Calls prog 167 #[iV a,iV b] w fun e w'=>e= .returned (iV (Ov a b))/\Aa w w':=by
 by_cases h1:a<b
 ·have e:Ov a b= -1:=by unfold Ov;rw[if_pos h1]
  rw[e];go_enter func167,ntmps167;go_wp2_with (go_at_call 184;refine(Rm _ _).mono ?_;rintro e w2 ⟨rfl,A0⟩)
  go_ret;exact⟨rfl,Aq.trans (by first|assumption|(apply Aa.trans<;>assumption))⟩
 by_cases h2:b<a
 ·have e:Ov a b=1:=by unfold Ov;rw[if_neg h1,if_pos h2]
  rw[e];go_enter func167,ntmps167;go_wp2_with (go_at_call 184;refine(Rm _ _).mono ?_;rintro e w2 ⟨rfl,A0⟩)
  go_ret;exact⟨rfl,Aq.trans (by first|assumption|(apply Aa.trans<;>assumption))⟩
 have e:Ov a b=0:=by unfold Ov;rw[if_neg h1,if_neg h2]
 rw[e];go_enter func167,ntmps167;go_wp2_with (go_at_call 184;refine(Rm _ _).mono ?_;rintro e w2 ⟨rfl,A0⟩)
 go_ret;exact⟨rfl,Aq.trans (by first|assumption|(apply Aa.trans<;>assumption))⟩
def aCK (a b:Int):Int:=if a=0 then b else a
theorem aCJ (g off c:Nat)(a b:Int)(w:World)(h0:w.cell? ⟨g,off,none⟩=some (iV a))(h1:w.cell? ⟨g,off+1,none⟩=some (iV b)):
  Calls prog 166 #[.slice (some ⟨g,off,none⟩) 2 c] w fun e w'=>e= .returned (iV (aCK a b))/\Aa w w':=by
 go_enter func166,ntmps166;go_wp2_with fail;go_loopg [8] 2 (fun d i wr=>∃k:Nat,k<=2/\d=2-k/\i= iV k/\(0<k->a=0)/\(1<k->b=0)/\Aa w wr)
 case atStart=>exact⟨0,ω,rfl,rfl,ω,ω,Aa.refl _⟩
 obtain⟨k,hk,rfl,rfl,ha,hb,hx⟩:=hrel;have HX:=zH hx;have k0:=hx.get h0;have k1:=hx.get h1;clear hx;rcases(show k=0\/k=1\/k=2 by omega)with rfl|rfl|rfl
 ·by_cases hz:a=0
  ·subst hz
   go_wp2_with fail;go_roundg 1
   case measure=>omega
   case rel=>exact⟨1,ω,rfl,by first|rfl|go_num,by simp,ω,HX.1⟩
  clear ha hb;go_wp2_with fail;go_ret;exact⟨by simp[aCK,hz],HX.1⟩
 ·have hz:=ha (ω)
  subst hz;by_cases hz:b=0
  ·subst hz
   clear ha hb;go_wp2_with fail;go_roundg 0
   case measure=>omega
   case rel=>exact⟨2,ω,rfl,by first|rfl|go_num,by simp,by simp,HX.1⟩
  clear ha hb;go_wp2_with fail;go_ret;exact⟨by simp[aCK],HX.1⟩
 have hz:=ha ω;have A0:=hb ω;subst hz;subst A0;clear ha hb;go_wp2_with fail
 go_ret;exact⟨by simp[aCK],HX.1⟩
end
section
attribute [local go_sem ↓] Go.wp_at_zero Go.wp_at_succ Ae Ad
def Qq (p:Rat)(i:Int)(q:Rat)(j:Int):Bool:=decide (p<q)||(decide (p=q)&&decide (j<i))
end
section
theorem gF {a b:Int}:Ov a b<0↔a<b:=by
  unfold Ov;split
  · omega
  split<;>omega
theorem aCI (p q:Rat)(i j:Int):decide (aCK (Dh p q) (Ov j i)<0)=Qq p i q j:=by
 unfold aCK Qq;by_cases h1:Dh p q=0
 ·have h2:=rcmp_eq.1 h1
  subst h2;rw[if_pos h1];have h3:¬p<p:=by grind
  by_cases h4:j<i
  ·have h5:Ov j i<0:=gF.2 h4
   simp[h4,h5]
  have h5:¬Ov j i<0:=fun k=>h4 (gF.1 k)
  simp[h3,h4,h5]
 have h2:¬p=q:=fun k=>h1 (rcmp_eq.2 k)
 rw[if_neg h1];by_cases h3:p<q
 ·have h4:=rcmp_lt.2 h3
  simp[h3,h4]
 have h4:¬Dh p q<0:=fun k=>h3 (rcmp_lt.1 k)
 simp[h2,h3,h4]
abbrev QI:=Rat×Int
def pS (a b:QI):Bool:=Qq a.1 a.2 b.1 b.2
theorem Jz {a b:QI}:pS a b=true↔a.1<b.1\/(a.1=b.1/\b.2<a.2):=by
  unfold pS Qq;simp
theorem aFN:Stb.Wk pS:=by
  refine⟨fun x y h=> ?_,fun x y z h1 h2=> ?_⟩
  · rw[Bool.eq_false_iff]
    intro k;have h:=Jz.1 h;have k:=Jz.1 k;grind
  rw[Bool.eq_false_iff]at h1 h2⊢;intro k;have k:=Jz.1 k;have h1:¬_:=fun q=>h1 (Jz.2 q)
  have h2:¬_:=fun q=>h2 (Jz.2 q)
  grind
end
namespace mrk
attribute [local go_sem ↓] Go.wp_at_zero Go.wp_at_succ Ae Ad
theorem insertion_any {α:Type}(enc:α->List Value)(hk:∀x,(enc x).length=5)(h1:∀x,∀v,v∈enc x->v.oneCell'=true)(lt:α->α->Bool)(W:Stb.Wk lt)(w0 w:World)(g cap a b N:Nat)(T:TypeId)(rest:List Value)(P X S:List α)(hc:(∀wr,Bi g w0 wr->∀x y:α,Calls prog 165 #[.agg (enc x).toArray,.agg (enc y).toArray] wr fun e w'=>∃z:Int,e= .returned (iV z)/\(z<0↔lt x y=true)/\Aa wr w'))(hst:Sw w0 w g T enc rest (P++(X++S)))(ha:P.length=a)(hb:a+X.length=b)(hN:(P++(X++S)).length=N)(hsz:N<=100000):
  Calls prog 200 #[.slice (π g) N cap,iV a,iV b,.func (.func 165) #[] #[]] w fun e w'=>e= .returned (.tuple #[])/\Sw w0 w' g T enc rest (P++(Stb.stab lt X++S)):=by
 have A6:P.length+(X.length+S.length)=N:=by rw[<-hN];simp
 have HC:=zH hc;have B0:=zH (show Sw w0 w g T enc rest (P++(Stb.stab lt (X.take 1)++(X.drop 1++S)))by rw[Stb.stab_take1,<-jQQ (X.take 1),List.take_append_drop];exact hst);have b1:a<=100000:=ω
 have b2:b<=100000:=ω;have C7:=zH ha;have D0:=zH A6;have HB:=zH hb;clear hst hc ha hb hN A6;go_enter func200,ntmps200
 go_wp2_with fail;go_loopg [8] (b+1-a) (fun c v wr=>∃t i:Nat,1<=t/\(t<=X.length\/t=1)/\i=a+t/\c=b+1-i+1/\v= iV i/\Sw w0 wr g T enc rest (P++(Stb.stab lt (X.take t)++(X.drop t++S))))
 case atStart=>exact⟨1,a+1,Cl _,Or.inr rfl,rfl,by have:=HB.1;omega,by go_num,B0.1⟩
 clear B0;obtain⟨t,i,D8,D1,hi,rfl,rfl,hst⟩:=hrel;have D4:=HB.1;have E0:i<=100001:=by have:=D0.1;have:=C7.1;omega
 by_cases hlt:i<b
 ·have D2:(i:Int)<(b:Int):=ω
  have B5:t<X.length:=ω;obtain⟨y,hy⟩:∃y,X[t]=y:=⟨_,rfl⟩;have C4:X.drop t=y::X.drop (t+1):=by rw[<-hy];exact List.drop_eq_getElem_cons B5
  have C1:X.take (t+1)=X.take t++[y]:=by rw[iQQ B5,hy]
  have C6:=zH (show Stb.stab lt (X.take (t+1))=Stb.ins lt (Stb.stab lt (X.take t)) y by rw[C1,Stb.stab_snoc]);have B1:=zH (Stb.stab_srt W (X.take t));have C5:(Stb.stab lt (X.take t)).length=t:=by rw[Stb.stab_len,dXX];omega
  rw[C4]at hst;generalize Stb.stab lt (X.take t)=L at*;have B2:=zH C5;have B6:=zH B5;have HI:=zH hi;have A9:=zH (show Sw w0 wr g T enc rest (P++(L.take t++y::(L.drop t++(X.drop (t+1)++S))))by rw[cXX ω,List.drop_of_length_le ω];exact hst);clear hst C4 C1 hy C5 hi D1 D4;go_wp2_with fail
  go_loopg [9] t (fun c v wr=>∃u j:Nat,u<=t/\c=0+u/\j=a+u/\v= iV j/\(∀z,z∈L.drop u->lt y z=true)/\Sw w0 wr g T enc rest (P++(L.take u++y::(L.drop u++(X.drop (t+1)++S)))))
  case atStart=>exact⟨t,i,Cl _,ω,HI.1,rfl,by intro z hz;rw[List.drop_of_length_le (by have:=B2.1;omega)]at hz;simp at hz,A9.1⟩
  clear A9;obtain⟨u,j,hu,rfl,hj,rfl,A7,hst⟩:=hrel;have A3:=zH A7;have A0:=zH hst;have D9:j<=100000:=by have:=HI.1;omega
  have wj:IntKind.i64.wrap (j:Int)=(j:Int):=by rw[IntKind.wrap_i64];omega
  have C2:(P++(L.take u++y::(L.drop u++(X.drop (t+1)++S)))).length=N:=by
   have h1:=D0.1;have h2:=B6.1;have h3:=B2.1
   simp;omega
  have HJ:=zH hj;have HU:=zH hu;clear A7 hst;by_cases hu0:0<u
  ·obtain⟨p,hp⟩:∃p,p+1=j:=⟨j-1,ω⟩
   obtain⟨q,hq⟩:∃q,q+1=u:=⟨u-1,ω⟩;have C3:(a:Int)<(j:Int):=ω
   have e1:(j:Int)-1=(p:Int):=ω;have wp:IntKind.i64.wrap (p:Int)=(p:Int):=by rw[IntKind.wrap_i64];omega
   have D5:=C7.1;have A5:q<L.length:=by have:=B2.1;omega
   have gx:(P++(L.take u++y::(L.drop u++(X.drop (t+1)++S))))[p]?=some L[q]:=by
    have h:=mA P (L.take u) (y::(L.drop u++(X.drop (t+1)++S))) q (by rw[dXX];omega);rw[show P.length+q=p by omega]at h;rw[h,List.getElem?_take,if_pos ω];exact aQQ A5
   have gy:(P++(L.take u++y::(L.drop u++(X.drop (t+1)++S))))[j]?=some y:=by
    rw[dQQ ω,dQQ (by rw[dXX];omega),dXX,show j-P.length-min u L.length=0 by have:=B2.1;omega];rfl
   have A8:=zH (show aEE (P++(L.take u++y::(L.drop u++(X.drop (t+1)++S)))) j p=P++(L.take q++y::(L.drop q++(X.drop (t+1)++S)))by
    have h:=Xs P L (X.drop (t+1)++S) y q A5;rw[show P.length+q=p by omega,hp,hq]at h;exact h)
   have D7:=zH (show∀z,z∈L.drop q->z=L[q]\/z∈L.drop u by
    intro z hz;rw[List.drop_eq_getElem_cons A5,hq]at hz;simpa using hz)
   have A2:=zH (fun h=>Stb.ins_stop W (y:=y) B1.1 A3.1 (by have:=B2.1;omega) (Or.inr ⟨q,hq,A5,h⟩));have bj:(j:Int)<(N:Int):=by rw[<-C2];have:=(List.getElem?_eq_some_iff.1 gy).1;omega
   have bp:(p:Int)<(N:Int):=ω;have HE:=zH (iD gy gx);have C9:=zH (List.getElem?_eq_some_iff.1 gy).1;have C8:=zH (List.getElem?_eq_some_iff.1 gx).1;have Hx:=zH gx;have Hy:=zH gy;generalize L[q]=x at*
   generalize hrow:P++(L.take u++y::(L.drop u++(X.drop (t+1)++S)))=row at*;have HQ:=zH (And.intro hq hp);have B7:=zH hrow;clear gx gy A5 hu hq hp hj D5 hrow;go_upto_region 4 with fail
   refine wp_region_held_drew (S:=fun x=>Aa wr x) (by kernel_rfl) Aq.drew (fun _=> ?_);refine zv 0 (bs 17 1) Aq.drew ?_;refine zv 1 (bs 17 3) Aq.drew ?_;refine zv 2 (bs 17 7) Aq.drew ?_;refine zv 3 (bs 17 15) Aq.drew ?_;refine zv 4 (bs 17 31) Aq.drew ?_;refine zv 5 (bs 17 63) Aq.drew ?_;refine zv 6 (bs 17 127) Aq.drew ?_;refine zv 7 (bs 17 255) Aq.drew ?_;refine Ih (i:=8) (listed':=(bs 17 511)) (by rfl) (by kernel_rfl) (by kernel_rfl) (by kernel_rfl) _ _ (by rfl) g (j*5) (enc y) _ (by intro _ _ _ h;exact h) (by rfl) (by rfl) (fun w1 hw1=>(A0.1.ext hw1).read Hy.1 hk) underlying154 (by rfl) (by rw[hk];kernel_rfl) Aq.drew (by kernel_rfl) ?_;try simp only[ζ]
   refine zv 9 (bs 17 1023) Aq.drew ?_;refine zv 10 (bs 17 2047) Aq.drew ?_;refine zv 11 (bs 17 4095) Aq.drew ?_;refine zv 12 (bs 17 8191) Aq.drew ?_;refine Ih (i:=13) (listed':=(bs 17 16383)) (by rfl) (by kernel_rfl) (by kernel_rfl) (by kernel_rfl) _ _ (by rfl) g (p*5) (enc x) _ (by intro _ _ _ h;exact h) (by rfl) (by rfl) (fun w1 hw1=>(A0.1.ext hw1).read Hx.1 hk) underlying154 (by rfl) (by rw[hk];kernel_rfl) Aq.drew (by kernel_rfl) ?_;try simp only[ζ]
   refine mC 14 (bs 17 32767) (HC.1 _ ((A0.1.ext Aq.drew).own) y x) ?_;rintro e w2 ⟨z,rfl,hz,C0⟩;have A1:=zH (show Aa wr w2 from Aq.drew.trans C0);clear C0;refine⟨_,rfl,A1.1,?_⟩;try simp only[ζ]
   by_cases hlt:lt y x=true
   ·have B8:=zH hlt
    have A4:z<0:=hz.2 hlt;have B4:decide (z<0)=true:=by simpa using A4
    clear hz;refine zv 15 (bs 17 65535) A1.1 ?_;refine zv 16 (bs 17 131071) A1.1 ?_;refine wpAnyH_done (by kernel_rfl) ?_ _;clear hlt A4 B4;have A0:=zH (A0.1.ext A1.1);clear A1;have E2:row.length=N:=C2;generalize w2=wr at*
    go_upto_region 6 with fail;refine wp_region_held_drew (S:=fun x=>Bi g wr x) (by kernel_rfl) (Bi.refl _ _).drew (fun _=> ?_);refine zv 0 (bs 18 1) (Bi.refl _ _).drew ?_;refine zv 1 (bs 18 3) (Bi.refl _ _).drew ?_;refine zv 2 (bs 18 7) (Bi.refl _ _).drew ?_;refine zv 3 (bs 18 15) (Bi.refl _ _).drew ?_;refine zv 4 (bs 18 31) (Bi.refl _ _).drew ?_;refine zv 5 (bs 18 63) (Bi.refl _ _).drew ?_;refine zv 6 (bs 18 127) (Bi.refl _ _).drew ?_;refine zv 7 (bs 18 255) (Bi.refl _ _).drew ?_;refine zv 8 (bs 18 511) (Bi.refl _ _).drew ?_;refine zv 10 (bs 18 1535) (Bi.refl _ _).drew ?_;refine zv 11 (bs 18 3583) (Bi.refl _ _).drew ?_;refine zv 12 (bs 18 7679) (Bi.refl _ _).drew ?_;refine Yq (i:=9) (j:=13) (li:=(bs 18 8191)) (lj:=(bs 18 15871)) (listed':=(bs 18 16383)) (by rfl) (by rfl) (by kernel_rfl) (by kernel_rfl) (by kernel_rfl) (by kernel_rfl) (by kernel_rfl) (by kernel_rfl) (by kernel_rfl) 154 _ _ (by rfl) (by rfl) (by rfl) (by rfl) g (p*5) (j*5) (enc x) (enc y) _ underlying154 (by rfl) (by rfl) (by rfl) (by rfl) (by rfl) (A0.1.ext Aq.drew |>.read Hx.1 hk) (A0.1.ext Aq.drew |>.read Hy.1 hk) (by rw[hk];kernel_rfl) (by rw[hk];kernel_rfl) (Bi.refl _ _).drew (by rfl) ?_;try simp only[ζ]
    refine zv 14 (bs 18 32767) (Bi.refl _ _).drew ?_;have B3:=(A0.1.ext Aq.drew).put (i:=j) C9.1 hk x;have B9:=B3.put (i:=p) (by rw[eZZ];exact C8.1) hk y;refine Ni (i:=15) (listed':=(bs 18 65535)) (by rfl) (by kernel_rfl) (by rfl) 154 _ _ (by rfl) g (j*5) (enc x) (by rfl) (by rfl) (by rw[hk];exact(A0.1.ext Aq.drew).there C9.1 hk) (by rw[hk];kernel_rfl) (h1 x) (Bi.setCells_l _ _ (Bi.refl _ _).drew) (by kernel_rfl) ?_
    (try simp only[Act.put])
    refine zv 16 (bs 18 131071) (Bi.setCells_l _ _ (Bi.refl _ _).drew) ?_;refine Ni (i:=17) (listed':=(bs 18 262143)) (by rfl) (by kernel_rfl) (by rfl) 154 _ _ (by rfl) g (p*5) (enc y) (by rfl) (by rfl) (by rw[hk];exact B3.there (by rw[eZZ];exact C8.1) hk) (by rw[hk];kernel_rfl) (h1 y) (Bi.setCells_l _ _ (Bi.setCells_l _ _ (Bi.refl _ _).drew)) (by kernel_rfl) ?_
    (try simp only[Act.put])
    refine wpAnyH_done (by kernel_rfl) ?_ _;have D6:=zH B9;clear B3 B9;generalize (World.setCells _ g (p*5) (enc y))=w3 at*
    go_wp2_with fail;go_roundg q
    case measure=>have:=HQ.1.1;omega
    case rel=>exact⟨q,p,by have:=HQ.1;have:=HU.1;omega,ω,by have:=HQ.1;have:=HJ.1;omega,rfl,fun z hz=>(D7.1 z hz).elim (fun h=>by rw[h];exact B8.1) (A3.1 z),by rw[<-A8.1,HE.1];exact D6.1⟩
   have B8:=zH (eq_false_of_ne_true hlt);have A4:¬z<0:=fun h=>hlt (hz.1 h)
   have B4:decide (z<0)=false:=by simpa using A4
   clear hz;refine zv 15 (bs 17 65535) A1.1 ?_;refine zv 16 (bs 17 131071) A1.1 ?_;refine wpAnyH_done (by kernel_rfl) ?_ _;clear hlt A4 B4;have HR:=zH (show Sw w0 w2 g T enc rest (P++(Stb.stab lt (X.take (t+1))++(X.drop (t+1)++S)))by rw[C6.1,A2.1 B8.1];have h:=A0.1.ext A1.1;rw[<-B7.1]at h;simpa using h);go_wp2_with fail
   go_roundg (b+1-(i+1)+1)
   case measure=>omega
   case rel=>exact⟨t+1,i+1,ω,Or.inl B6.1,by have:=HI.1;omega,ω,by go_num,HR.1⟩
  obtain rfl:u=0:=ω;have C3:¬(a:Int)<(j:Int):=ω;have D3:decide ((a:Int)<(j:Int))=false:=by simpa using C3
  have A2:=zH (Stb.ins_stop W (y:=y) B1.1 A3.1 (eXX _) (Or.inl rfl));go_upto_region 4 with fail;refine wp_region_held_drew (S:=fun x=>Aa wr x) (by kernel_rfl) Aq.drew (fun _=> ?_);refine zv 0 (bs 17 1) Aq.drew ?_;refine zv 1 (bs 17 3) Aq.drew ?_;refine zv 2 (bs 17 7) Aq.drew ?_;refine zv 3 (bs 17 15) Aq.drew ?_;refine zs 4 (bs 17 31) Aq.drew ?_;refine zs 5 (bs 17 63) Aq.drew ?_;refine zs 6 (bs 17 127) Aq.drew ?_;refine zs 7 (bs 17 255) Aq.drew ?_;refine zs 8 (bs 17 511) Aq.drew ?_;refine zs 9 (bs 17 1023) Aq.drew ?_;refine zs 10 (bs 17 2047) Aq.drew ?_;refine zs 11 (bs 17 4095) Aq.drew ?_;refine zs 12 (bs 17 8191) Aq.drew ?_;refine zs 13 (bs 17 16383) Aq.drew ?_;refine zs 14 (bs 17 32767) Aq.drew ?_;refine zs 15 (bs 17 65535) Aq.drew ?_;refine zv 16 (bs 17 131071) Aq.drew ?_;refine wpAnyH_done (by kernel_rfl) ?_ _;have HR:=zH (show Sw w0 wr.drew g T enc rest (P++(Stb.stab lt (X.take (t+1))++(X.drop (t+1)++S)))by rw[C6.1,A2.1];have h:=A0.1.ext Aq.drew;simpa using h);go_wp2_with fail
  go_roundg (b+1-(i+1)+1)
  case measure=>omega
  case rel=>exact⟨t+1,i+1,ω,Or.inl B6.1,by have:=HI.1;omega,ω,by go_num,HR.1⟩
 have A0:=zH (show Sw w0 wr g T enc rest (P++(Stb.stab lt X++S))by rw[cXX ω,List.drop_of_length_le ω]at hst;exact hst);have E1:¬(i:Int)<(b:Int):=ω
 clear hst;go_wp2_with fail;go_end0
 exact⟨rfl,A0.1⟩
theorem stable_any {α:Type}(enc:α->List Value)(hk:∀x,(enc x).length=5)(h1:∀x,∀v,v∈enc x->v.oneCell'=true)(lt:α->α->Bool)(W:Stb.Wk lt)(w0 w:World)(g cap N:Nat)(T:TypeId)(rest:List Value)(xs:List α)(hc:(∀wr,Bi g w0 wr->∀x y:α,Calls prog 165 #[.agg (enc x).toArray,.agg (enc y).toArray] wr fun e w'=>∃z:Int,e= .returned (iV z)/\(z<0↔lt x y=true)/\Aa wr w'))(hst:Sw w0 w g T enc rest xs)(hN:xs.length=N)(hsz:N<20):
  Calls prog 183 #[.slice (π g) N cap,iV N,.func (.func 165) #[] #[]] w fun e w'=>e= .returned (.tuple #[])/\Sw w0 w' g T enc rest (Stb.stab lt xs):=by
 have HC:=zH hc;have A0:=zH hst;have HN:=zH hN;clear hst hc hN;go_enter func183,ntmps183
 have A4:¬(20:Int)<=(N:Int):=ω;have A3:¬(20:Int)<(N:Int):=ω;have A2:([]++(xs++[])).length=N:=by rw[fQQ,gXX];exact HN.1
 have HB:=zH (insertion_any enc hk h1 lt W w0 w g cap 0 N N T rest [] xs [] HC.1 (by rw[fQQ,gXX];exact A0.1) rfl ((cZZ _).trans HN.1) A2 ω);clear A0 A2;go_wp2_with fail;apply wp_loop_rounds 1;rw[rounds_succ];go_wp2_with (go_at_call 200;refine HB.1.mono ?_;rintro e w2 ⟨rfl,A1⟩)
 apply wp_loop_rounds 1;rw[rounds_succ];go_wp2_with fail;go_end0
 rw[fQQ,gXX]at A1;exact⟨rfl,A1⟩
theorem sortStable_any {α:Type}(enc:α->List Value)(hk:∀x,(enc x).length=5)(h1:∀x,∀v,v∈enc x->v.oneCell'=true)(lt:α->α->Bool)(W:Stb.Wk lt)(w0 w:World)(g cap N:Nat)(T:TypeId)(rest:List Value)(xs:List α)(hc:(∀wr,Bi g w0 wr->∀x y:α,Calls prog 165 #[.agg (enc x).toArray,.agg (enc y).toArray] wr fun e w'=>∃z:Int,e= .returned (iV z)/\(z<0↔lt x y=true)/\Aa wr w'))(hst:Sw w0 w g T enc rest xs)(hN:xs.length=N)(hsz:N<20):
  Calls prog 164 #[.slice (π g) N cap,.func (.func 165) #[] #[]] w fun e w'=>e= .returned (.tuple #[])/\Sw w0 w' g T enc rest (Stb.stab lt xs):=by
 have HB:=zH (stable_any enc hk h1 lt W w0 w g cap N T rest xs hc hst hN hsz);clear hc hst hN;go_enter func164,ntmps164;go_wp2_with (go_at_call 183;refine HB.1.mono ?_;rintro e w2 ⟨rfl,A0⟩)
 go_end0
 exact⟨rfl,A0⟩
theorem insertion_none (v c:Value)(w:World):Calls prog 200 #[v,iV 0,iV 0,c] w fun e w'=>e= .returned (.tuple #[])/\w=w':=by
  go_enter func200,ntmps200;go_wp2_with fail;apply wp_loop_rounds 1;rw[rounds_succ];go_wp2_with fail;go_end0
  exact⟨rfl,rfl⟩
theorem stable_none (v c:Value)(w:World):Calls prog 183 #[v,iV 0,c] w fun e w'=>e= .returned (.tuple #[])/\w=w':=by
  go_enter func183,ntmps183;go_wp2_with fail;apply wp_loop_rounds 1;rw[rounds_succ];go_wp2_with (go_at_call 200;refine(insertion_none _ _ _).mono ?_;rintro e w2 ⟨rfl,rfl⟩)
  apply wp_loop_rounds 1;rw[rounds_succ];go_wp2_with fail;go_end0
  exact⟨rfl,rfl⟩
theorem sortStable_none (A:Option Addr)(cap:Nat)(c:Value)(w:World):Calls prog 164 #[.slice A 0 cap,c] w fun e w'=>e= .returned (.tuple #[])/\w=w':=by
  go_enter func164,ntmps164;go_wp2_with (go_at_call 183;refine(stable_none _ _ _).mono ?_;rintro e w2 ⟨rfl,rfl⟩)
  go_end0
  exact⟨rfl,rfl⟩
end mrk
section
open Go.RowKit Go.Shelf
section
variable {P:Program} {n l:Nat} {Q:Exit->Act->World->Prop}
theorem oF {row:String}{args:Array Value}{w:World}{R:Value->World->Prop}(h:Rows P row args w R):RowsIn (Fence.wide.inRound l) n P row args w R:=fun c cs _=>
  let ⟨v,w',r,s⟩:=h c cs
  ⟨v,w',r,stepsIn_wide.2 s⟩
theorem lG {o:Oper}{a:Act}{w:World}{K:Act->World->Prop}(ho:∀c,o.op≠ .defer c)(_hQ:¬LetsOut Q)(h:o.wp P a w K Q):o.wpIn (Fence.wide.inRound l) n P a w K Q:=by
 unfold Oper.wp at h;refine⟨fun _ _=>trivial,?_⟩;rw[Oper.semAt_eq _ _ _ ho];generalize (execOp a.eval o).run P w=r at h;cases r with
 |ok x w'=>
  cases x<;>simp only[Oper.upon]at h<;>simp only[Oper.uponIn];case value=>exact h
  case skip=>exact h
  case defer=>exact h
  case enter=>exact⟨fun hd=>by simp[Fence.wide]at hd,CallsIn.inRound l (callsIn_wide.2 h)⟩
  case row=>exact⟨fun hd=>by simp[Fence.wide]at hd,oF h⟩
 |halt x w'=>cases x<;>simp only[Oper.upon]at h<;>simp only[Oper.uponIn]<;>exact h
def Lg (ops:List Oper):Bool:=ops.all fun o=>match o.op with| .defer _=>false|_=>true
theorem Px {ops:List Oper}(h:Lg ops=true){o:Oper}(ho:o∈ops):∀c,o.op≠ .defer c:=by
  intro c e;have:=List.all_eq_true.1 h o ho;rw[e]at this;cases this
theorem Qs {md:Region.Mode}{ops:Array Oper}(hd:Lg ops.toList=true)(hQ:¬LetsOut Q):∀(fuel:Nat) (listed:Array Bool) (a:Act) (w:World),wpAny P md ops Q fuel listed a w->wpAnyIn (Fence.wide.inRound l) n P md ops Q fuel listed a w
  |0,_,_,_,h=>h
  | fuel+1,listed,a,w,h=>⟨h.1,fun i hi=>by
    have h2:=h.2 i hi;unfold wpOp at h2;unfold wpOpIn;cases ho:ops[i]?with
    |none=>rw[ho]at h2;exact Qs hd hQ fuel _ _ _ h2
    | some o=>
      rw[ho]at h2;simp only at h2⊢;split
      · rename_i hw
        rw[if_pos hw]at h2;rcases h2 with h2|⟨_,h3⟩
        · exact Oper.wpIn_mono (fun a' w' h4=>Qs hd hQ fuel _ _ _ h4) (lG (Px hd (by
            have h5:=Array.mem_of_getElem? ho;exact h5.1)) hQ h2)
        exact absurd h3 hQ
      rename_i hw;rw[if_neg hw]at h2;exact⟨fun _ _=>trivial,Qs hd hQ fuel _ _ _ h2⟩⟩
theorem Rk {ops:Array Oper}(hQ:¬LetsOut Q):∀(rest:List Oper) (_:Lg rest=true) (a:Act) (w:World),wpList P ops Q rest a w->wpListIn (Fence.wide.inRound l) n P ops Q rest a w
 | [],_,_,_,h=>h
 |o::rest,hd,a,w,h=>by
  unfold wpList at h;unfold wpListIn;have hd2:Lg rest=true:=by
   unfold Lg at hd⊢;rw[List.all_cons,hZZ]at hd;exact hd.2
  split
  ·rename_i hw
   rw[if_pos hw]at h;rcases h with h|⟨_,h3⟩
   ·exact Oper.wpIn_mono (fun a' w' h4=>Rk hQ rest hd2 a' w' h4) (lG (Px hd (by simp)) hQ h)
   exact absurd h3 hQ
  rename_i hw;rw[if_neg hw]at h;exact⟨fun _ _=>trivial,Rk hQ rest hd2 _ _ h⟩
theorem Eh {id:Nat}{ops:Array Oper}{S:World->Prop}{a:Act}{w:World}(hm:P.follows .mixedOrders=true)(hd:Lg ops.toList=true)(hQ:¬LetsOut Q)(hS:S w.drew)
    (h:S w.drew->wpAnyH P .any ops Q S ops.size (Array.replicate ops.size false) a w.drew):(Code.region id ops true).wpIn (Fence.wide.inRound l) n P Q a w:=
  wpIn_region_any hm (Qs hd hQ _ _ _ _ (wpAny_of_held _ _ _ _ (h hS)))
theorem Ab {id:Nat}{ops:List Oper}{a:Act}{w:World}(hd:Lg ops=true)(hQ:¬LetsOut Q)(h:wpList P ops.toArray Q ops a w):(Code.region id ops.toArray false).wpIn (Fence.wide.inRound l) n P Q a w:=
  wpIn_region_lit (Rk hQ _ hd _ _ h)
end
end
end Go.Proofs.YtlipfipniibpoabGreat
