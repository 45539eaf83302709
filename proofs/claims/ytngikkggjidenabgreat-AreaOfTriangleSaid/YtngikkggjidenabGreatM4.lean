/- Contracts that the claim stands on: XSrtS1 to XRXat. -/
import Derived.Deep.DeepCutAuto
import Derived.Deep.Upon
import Derived.Deep.LoopGhost
import Derived.Test.YtngikkggjidenabGreatM3
set_option maxRecDepth 100000
set_option maxHeartbeats 4000000
namespace Go.Proofs.YtngikkggjidenabGreat.spn
open Go.RowKit
attribute [local go_sem ↓] Go.wp_at_zero Go.wp_at_succ run_max_ii run_min_ii
theorem swapRange_any {α:Type}(enc:α->List Value)(hk:∀x,(enc x).length=8)(h1:∀x,∀v,v∈enc x->v.oneCell'=true)(w0 w:World)(g cap a b n:Nat)(T:TypeId)(rest:List Value)(xs:List α)(cb:Value)(hst:Sw w0 w g T enc rest xs)(ha:a+n<=xs.length)(hb:b+n<=xs.length)(hsz:xs.length<=100000):
  Calls Tryz.prog 202 #[.slice (some ⟨g,0,none⟩) xs.length cap,.int .i64 a,.int .i64 b,.int .i64 n,cb] w fun e w'=>e= .returned (.tuple #[])/\Sw w0 w' g T enc rest (swpN xs a b n):=by
 have HST0:=zH hst;clear hst;go_enter Tryz.func202,Tryz.ntmps202
 go_wp2_with fail
 go_loopg [10] n (fun c i wr=>∃t:Nat,t<=n/\c=n-t/\i= .int .i64 t/\Sw w0 wr g T enc rest (swpN xs a b t))
 case atStart=>exact⟨0,Nat.zero_le _,rfl,rfl,HST0.out⟩
 clear HST0;obtain⟨t,ht,rfl,rfl,hst⟩:=hrel;by_cases hlt:t<n
 ·have hlt2:(t:Int)<(n:Int):=by omega
  obtain⟨i,hi⟩:∃i,i=a+t:=⟨_,rfl⟩;obtain⟨j,hj⟩:∃j,j=b+t:=⟨_,rfl⟩;have e1:(a:Int)+(t:Int)=(i:Int):=by omega
  have e2:(b:Int)+(t:Int)=(j:Int):=by omega
  have HI:=zH hi;have HJ:=zH hj;have hnl:(swpN xs a b t).length=xs.length:=swpN_len _ _ _ _;have HSW:=zH (swpN_succ xs a b t);rw[<-hi,<-hj]at HSW;have k1_:i<xs.length:=by omega
  have k2_:j<xs.length:=by omega
  clear hi hj;generalize swpN xs a b t=ys at*
  have wi:IntKind.i64.wrap (i:Int)=(i:Int):=by rw[IntKind.wrap_i64];omega
  have wj:IntKind.i64.wrap (j:Int)=(j:Int):=by rw[IntKind.wrap_i64];omega
  have bi:(i:Int)<(xs.length:Int):=by omega
  have bj:(j:Int)<(xs.length:Int):=by omega
  have bi2:i<xs.length:=by omega
  have bj2:j<xs.length:=by omega
  have hN:(xs.length:Int)<=100000:=by omega
  obtain⟨x,hx⟩:∃x,ys[i]?=some x:=⟨_,List.getElem?_eq_getElem (by omega)⟩;obtain⟨y,hy⟩:∃y,ys[j]?=some y:=⟨_,List.getElem?_eq_getElem (by omega)⟩;have Hx:=zH hx;have Hy:=zH hy;have HLi:=zH (show i<ys.length by omega);have HLj:=zH (show j<ys.length by omega);have HE:=zH (swp_eq hx hy);have HST:=zH hst;clear hx hy hst;go_upto_region 3 with fail
  refine wp_region_held_drew (S:=fun x=>Own g wr x) (by kernel_rfl) (Own.refl _ _).drew (fun _=> ?_);refine zv 0 (bs 24 1) (Own.refl _ _).drew ?_;refine zv 1 (bs 24 3) (Own.refl _ _).drew ?_;refine zv 2 (bs 24 7) (Own.refl _ _).drew ?_;refine zv 3 (bs 24 15) (Own.refl _ _).drew ?_;refine zv 4 (bs 24 31) (Own.refl _ _).drew ?_;refine zv 5 (bs 24 63) (Own.refl _ _).drew ?_;refine zv 6 (bs 24 127) (Own.refl _ _).drew ?_;refine zv 7 (bs 24 255) (Own.refl _ _).drew ?_;refine zv 8 (bs 24 511) (Own.refl _ _).drew ?_;refine zv 9 (bs 24 1023) (Own.refl _ _).drew ?_;refine zv 10 (bs 24 2047) (Own.refl _ _).drew ?_;refine zv 11 (bs 24 4095) (Own.refl _ _).drew ?_;refine zv 12 (bs 24 8191) (Own.refl _ _).drew ?_;refine zv 14 (bs 24 24575) (Own.refl _ _).drew ?_;refine zv 15 (bs 24 57343) (Own.refl _ _).drew ?_;refine zv 16 (bs 24 122879) (Own.refl _ _).drew ?_;refine zv 17 (bs 24 253951) (Own.refl _ _).drew ?_;refine zv 18 (bs 24 516095) (Own.refl _ _).drew ?_;refine md_loads2 (i:=13) (j:=19) (li:=(bs 24 524287)) (lj:=(bs 24 1040383)) (listed':=(bs 24 1048575)) (by rfl) (by rfl) (by kernel_rfl) (by kernel_rfl) (by kernel_rfl) (by kernel_rfl) (by kernel_rfl) (by kernel_rfl) (by kernel_rfl) 94 _ _ (by rfl) (by rfl) (by rfl) (by rfl) g (j*8) (i*8) (enc y) (enc x) _ Tryz.underlying94 (by rfl) (by rfl) (by rfl) (by rfl) (by rfl) (HST.out.ext (Ext.refl _).drew |>.read Hy.out hk) (HST.out.ext (Ext.refl _).drew |>.read Hx.out hk) (by rw[hk];kernel_rfl) (by rw[hk];kernel_rfl) (Own.refl _ _).drew (by rfl) ?_;try simp only[Act.put,zA,zB,zC]
  refine zv 20 (bs 24 2097151) (Own.refl _ _).drew ?_;have s1_:=(HST.out.ext (Ext.refl _).drew).put (i:=i) HLi.out hk y;have s2_:=s1_.put (i:=j) (by rw[List.length_set];exact HLj.out) hk x;refine md_rstore (i:=21) (listed':=(bs 24 4194303)) (by rfl) (by kernel_rfl) (by rfl) 94 _ _ (by rfl) g (i*8) (enc y) (by rfl) (by rfl) (by rw[hk];exact(HST.out.ext (Ext.refl _).drew).there HLi.out hk) (by rw[hk];kernel_rfl) (h1 y) (Own.setCells_l _ _ (Own.refl _ _).drew) (by kernel_rfl) ?_
  (try simp only[Act.put])
  refine zv 22 (bs 24 8388607) (Own.setCells_l _ _ (Own.refl _ _).drew) ?_;refine md_rstore (i:=23) (listed':=(bs 24 16777215)) (by rfl) (by kernel_rfl) (by rfl) 94 _ _ (by rfl) g (j*8) (enc x) (by rfl) (by rfl) (by rw[hk];exact s1_.there (by rw[List.length_set];exact HLj.out) hk) (by rw[hk];kernel_rfl) (h1 x) (Own.setCells_l _ _ (Own.setCells_l _ _ (Own.refl _ _).drew)) (by kernel_rfl) ?_
  (try simp only[Act.put])
  refine wpAnyH_done (by kernel_rfl) ?_ _;have HS2:=zH s2_;clear s1_ s2_;generalize (World.setCells _ g (j*8) (enc x))=w2 at*
  go_wp2_with fail
  go_roundg (n-(t+1))
  case measure=>omega
  case rel=>exact⟨t+1,hlt,rfl,by go_num,by rw[HSW.out,HE.out];exact HS2.out⟩
 obtain rfl:t=n:=by omega
 have HST:=zH hst;have hge:¬(t:Int)<(t:Int):=by omega
 clear hst;go_wp2_with fail
 go_end0
 exact⟨rfl,HST.out⟩
theorem rotate_any {α:Type}(enc:α->List Value)(hk:∀x,(enc x).length=8)(h1:∀x,∀v,v∈enc x->v.oneCell'=true)(w0 w:World)(g cap a m b N:Nat)(T:TypeId)(rest:List Value)(P A B S:List α)(cb:Value)(hst:Sw w0 w g T enc rest (P++(A++(B++S))))(ha:P.length=a)(hm:a+A.length=m)(hb:m+B.length=b)(hA:A≠ [])(hB:B≠ [])(hN:(P++(A++(B++S))).length=N)(hsz:N<=100000):
  Calls Tryz.prog 195 #[.slice (some ⟨g,0,none⟩) N cap,.int .i64 a,.int .i64 m,.int .i64 b,cb] w fun e w'=>e= .returned (.tuple #[])/\Sw w0 w' g T enc rest (P++(B++(A++S))):=by
 have hlen:P.length+(A.length+(B.length+S.length))=N:=by rw[<-hN];simp
 have HST:=zH hst;have HAB:=zH (And.intro hA hB);have HN:=zH hN;have HLN:=zH hlen;have HPA:=zH (show P.length+A.length=m by omega);have e1:(m:Int)-(a:Int)=(A.length:Int):=by omega
 have e2:(b:Int)-(m:Int)=(B.length:Int):=by omega
 have b1:m<=100000:=by omega
 have b2:b<=100000:=by omega
 have b3:A.length<=100000:=by omega
 have b4:B.length<=100000:=by omega
 have w1_:IntKind.i64.wrap (A.length:Int)=(A.length:Int):=by rw[IntKind.wrap_i64];omega
 have w2_:IntKind.i64.wrap (B.length:Int)=(B.length:Int):=by rw[IntKind.wrap_i64];omega
 clear hst ha hm hb hA hB hN hlen;go_enter Tryz.func195,Tryz.ntmps195
 go_wp2_with fail
 go_loopg [10,11] (A.length+B.length) (fun c u v wr=>∃(P' A' B' S':List α),c=A'.length+B'.length/\u= .int .i64 A'.length/\v= .int .i64 B'.length/\A'≠ []/\B'≠ []/\P'.length+A'.length=m/\(P'++(A'++(B'++S'))).length=N/\P'++(B'++(A'++S'))=P++(B++(A++S))/\Sw w0 wr g T enc rest (P'++(A'++(B'++S'))))
 case atStart=>exact⟨P,A,B,S,rfl,rfl,rfl,HAB.out.1,HAB.out.2,HPA.out,HN.out,rfl,HST.out⟩
 clear HST HAB HN HLN HPA e1 e2 b3 b4 w1_ w2_;obtain⟨P',A',B',S',rfl,rfl,rfl,hA,hB,hPm,hN,hT,hst⟩:=hrel;have hlen:P'.length+(A'.length+(B'.length+S'.length))=N:=by rw[<-hN];simp
 have hA0:0<A'.length:=by cases A' with|nil=>exact absurd rfl hA|cons _ _=>simp
 have hB0:0<B'.length:=by cases B' with|nil=>exact absurd rfl hB|cons _ _=>simp
 have HT:=zH hT;have HST:=zH hst;have HN:=zH hN;clear hT hst hA hB hN;obtain⟨i,hi⟩:∃i,A'.length=i:=⟨_,rfl⟩;obtain⟨j,hj⟩:∃j,B'.length=j:=⟨_,rfl⟩;rw[hi]at hPm hlen hA0⊢;rw[hj]at hlen hB0⊢;have HI:=zH hi;have HJ:=zH hj;clear hi hj;obtain⟨p,hp⟩:∃p,P'.length=p:=⟨_,rfl⟩;rw[hp]at hPm hlen;have HP:=zH hp;clear hp;have e1:(m:Int)-(i:Int)=(p:Int):=by omega
 have b3:i<=100000:=by omega
 have b4:j<=100000:=by omega
 have b5:p<=100000:=by omega
 have w1_:IntKind.i64.wrap (i:Int)=(i:Int):=by rw[IntKind.wrap_i64];omega
 have w2_:IntKind.i64.wrap (j:Int)=(j:Int):=by rw[IntKind.wrap_i64];omega
 have w3_:IntKind.i64.wrap (p:Int)=(p:Int):=by rw[IntKind.wrap_i64];omega
 have HLN:=zH hlen;have HPM:=zH hPm;clear hlen hPm;rcases Nat.lt_trichotomy i j with hij|hij|hij
 ·-- i < j
  obtain⟨d,hd⟩:∃d,d+i=j:=⟨j-i,by omega⟩;have e2:(j:Int)-(i:Int)=(d:Int):=by omega
  obtain⟨q,hq⟩:∃q,q=m+d:=⟨_,rfl⟩;have e3:(m:Int)+(j:Int)-(i:Int)=(q:Int):=by omega
  have n1:¬(i:Int)=(j:Int):=by omega
  have n2:((i:Int) != (j:Int))=true:=by simp;omega
  have n3:¬(j:Int)<(i:Int):=by omega
  have w4_:IntKind.i64.wrap (d:Int)=(d:Int):=by rw[IntKind.wrap_i64];omega
  have w5_:IntKind.i64.wrap (q:Int)=(q:Int):=by rw[IntKind.wrap_i64];have:=HLN.out;have:=HPM.out;omega
  have w6_:IntKind.i64.wrap ((m:Int)+(j:Int))=(m:Int)+(j:Int):=by rw[IntKind.wrap_i64];omega
  have hBs:B'=B'.take d++B'.drop d:=(List.take_append_drop d B').symm;have l1:(B'.take d).length=d:=by rw[List.length_take];have:=HJ.out;omega
  have l2:(B'.drop d).length=i:=by rw[List.length_drop];have:=HJ.out;omega
  have HC:=zH (swapRange_any enc hk h1 w0 wr g cap p q i T rest (P'++(A'++(B'++S'))) cb HST.out (by rw[HN.out];have:=HLN.out;omega) (by rw[HN.out];have:=HLN.out;have:=HPM.out;omega) (by rw[HN.out];exact hsz));rw[HN.out]at HC;have hcut:swpN (P'++(A'++(B'++S'))) p q i=P'++(B'.drop d++(B'.take d++(A'++S'))):=by
   have h:=swpN_cut P' A' (B'.take d) (B'.drop d) S' i HI.out l2;rw[l1,HP.out,show p+i+d=q by have:=HPM.out;omega,<-List.append_assoc (B'.take d) (B'.drop d) S',<-hBs]at h;exact h
  rw[hcut]at HC;have hTT:P'++(B'.take d++(B'.drop d++(A'++S')))=P++(B++(A++S)):=by rw[<-List.append_assoc (B'.take d),<-hBs];exact HT.out
  have HTT:=zH hTT;have HD:=zH (And.intro hd (And.intro l1 l2));clear hcut hTT hBs l1 l2 hd hq hij;go_wp2_with (go_at_call 202;refine HC.out.mono ?_;rintro e w2 ⟨rfl,hs2⟩)
  go_roundg (i+d)
  case measure=>have:=HD.out.1;have:=HI.out;have:=HJ.out;omega
  case rel=>exact⟨P',B'.drop d,B'.take d,A'++S',by rw[HD.out.2.1,HD.out.2.2],by rw[HD.out.2.2],by rw[HD.out.2.1],by intro h;have:=HD.out.2.2;rw[h]at this;simp at this;omega,by intro h;have h2:=HD.out.2.1;rw[h]at h2;simp at h2;omega,by rw[HP.out,HD.out.2.2];exact HPM.out,by have:=HLN.out;have:=HD.out;simp[HP.out,HI.out,HD.out.2.1,HD.out.2.2]at*;omega,HTT.out,hs2⟩
 ·-- i = j
  subst hij;have n2:((i:Int) != (i:Int))=false:=by simp
  have HC:=zH (swapRange_any enc hk h1 w0 wr g cap p m i T rest (P'++(A'++(B'++S'))) cb HST.out (by rw[HN.out];have:=HLN.out;omega) (by rw[HN.out];have:=HLN.out;have:=HPM.out;omega) (by rw[HN.out];exact hsz));rw[HN.out]at HC;have hcut:swpN (P'++(A'++(B'++S'))) p m i=P++(B++(A++S)):=by
   have h:=swpN_cut P' A' [] B' S' i HI.out HJ.out;rw[HP.out,List.length_nil,Nat.add_zero,HPM.out]at h;exact h.trans HT.out
  rw[hcut]at HC;clear hcut;go_wp2_with (go_at_call 202;refine HC.out.mono ?_;rintro e w2 ⟨rfl,hs2⟩)
  go_end0
  exact⟨rfl,hs2⟩
 -- i > j
 obtain⟨d,hd⟩:∃d,d+j=i:=⟨i-j,by omega⟩;have e2:(i:Int)-(j:Int)=(d:Int):=by omega
 have n2:((i:Int) != (j:Int))=true:=by simp;omega
 have n3:(j:Int)<(i:Int):=by omega
 have w4_:IntKind.i64.wrap (d:Int)=(d:Int):=by rw[IntKind.wrap_i64];omega
 have hAs:A'=A'.take j++A'.drop j:=(List.take_append_drop j A').symm;have l1:(A'.take j).length=j:=by rw[List.length_take];have:=HI.out;omega
 have l2:(A'.drop j).length=d:=by rw[List.length_drop];have:=HI.out;omega
 have HC:=zH (swapRange_any enc hk h1 w0 wr g cap p m j T rest (P'++(A'++(B'++S'))) cb HST.out (by rw[HN.out];have:=HLN.out;omega) (by rw[HN.out];have:=HLN.out;have:=HPM.out;omega) (by rw[HN.out];exact hsz));rw[HN.out]at HC;have hcut:swpN (P'++(A'++(B'++S'))) p m j=(P'++B')++(A'.drop j++(A'.take j++S')):=by
  have h:=swpN_cut P' (A'.take j) (A'.drop j) B' S' j l1 HJ.out;rw[l2,HP.out,show p+j+d=m by have:=HPM.out;omega,<-List.append_assoc (A'.take j),<-hAs]at h;rw[h];simp only[List.append_assoc]
 rw[hcut]at HC;have hTT:(P'++B')++(A'.take j++(A'.drop j++S'))=P++(B++(A++S)):=by rw[<-List.append_assoc (A'.take j),<-hAs,List.append_assoc];exact HT.out
 have HTT:=zH hTT;have HD:=zH (And.intro hd (And.intro l1 l2));clear hcut hTT hAs l1 l2 hd hij;go_wp2_with (go_at_call 202;refine HC.out.mono ?_;rintro e w2 ⟨rfl,hs2⟩)
 go_roundg (d+j)
 case measure=>have:=HD.out.1;have:=HI.out;have:=HJ.out;omega
 case rel=>exact⟨P'++B',A'.drop j,A'.take j,S',by rw[HD.out.2.1,HD.out.2.2],by rw[HD.out.2.2],by rw[HD.out.2.1],by intro h;have h2:=HD.out.2.2;rw[h]at h2;simp at h2;omega,by intro h;have h2:=HD.out.2.1;rw[h]at h2;simp at h2;omega,by rw[List.length_append,HP.out,HJ.out,HD.out.2.2];have:=HPM.out;have:=HD.out.1;omega,by have:=HLN.out;have:=HD.out;simp[HP.out,HJ.out,HD.out.2.1,HD.out.2.2]at*;omega,HTT.out,hs2⟩
theorem insertion_any {α:Type}(enc:α->List Value)(hk:∀x,(enc x).length=8)(h1:∀x,∀v,v∈enc x->v.oneCell'=true)(lt:α->α->Bool)(W:Stb.Wk lt)(w0 w:World)(g cap a b N:Nat)(T:TypeId)(rest:List Value)(P X S:List α)(hc:(∀wr,Own g w0 wr->∀x y:α,Calls Tryz.prog 108 #[.agg (enc x).toArray,.agg (enc y).toArray] wr fun e w'=>∃z:Int,e= .returned (.int .i64 z)/\(z<0↔lt x y=true)/\Ext wr w'))(hst:Sw w0 w g T enc rest (P++(X++S)))(ha:P.length=a)(hb:a+X.length=b)(hN:(P++(X++S)).length=N)(hsz:N<=100000):
  Calls Tryz.prog 176 #[.slice (some ⟨g,0,none⟩) N cap,.int .i64 a,.int .i64 b,.func (.func 108) #[] #[]] w fun e w'=>e= .returned (.tuple #[])/\Sw w0 w' g T enc rest (P++(Stb.stab lt X++S)):=by
 have hlen:P.length+(X.length+S.length)=N:=by rw[<-hN];simp
 have HC:=zH hc;have HST0:=zH (show Sw w0 w g T enc rest (P++(Stb.stab lt (X.take 1)++(X.drop 1++S)))by rw[Stb.stab_take1,<-List.append_assoc (X.take 1),List.take_append_drop];exact hst);have b1:a<=100000:=by omega
 have b2:b<=100000:=by omega
 have HPA:=zH ha;have HLN:=zH hlen;have HB:=zH hb;clear hst hc ha hb hN hlen;go_enter Tryz.func176,Tryz.ntmps176
 go_wp2_with fail
 go_loopg [8] (b+1-a) (fun c v wr=>∃t i:Nat,1<=t/\(t<=X.length\/t=1)/\i=a+t/\c=b+1-i+1/\v= .int .i64 i/\Sw w0 wr g T enc rest (P++(Stb.stab lt (X.take t)++(X.drop t++S))))
 case atStart=>exact⟨1,a+1,Nat.le_refl _,Or.inr rfl,rfl,by have:=HB.out;omega,by go_num,HST0.out⟩
 clear HST0;obtain⟨t,i,ht1,ht2,hi,rfl,rfl,hst⟩:=hrel;have hbb:=HB.out;have hib:i<=100001:=by have:=HLN.out;have:=HPA.out;omega
 by_cases hlt:i<b
 ·have hlt2:(i:Int)<(b:Int):=by omega
  have htl:t<X.length:=by omega
  obtain⟨y,hy⟩:∃y,X[t]=y:=⟨_,rfl⟩;have hdr:X.drop t=y::X.drop (t+1):=by rw[<-hy];exact List.drop_eq_getElem_cons htl
  have htk:X.take (t+1)=X.take t++[y]:=by rw[List.take_succ_eq_append_getElem htl,hy]
  have HSN:=zH (show Stb.stab lt (X.take (t+1))=Stb.ins lt (Stb.stab lt (X.take t)) y by rw[htk,Stb.stab_snoc]);have HSRT:=zH (Stb.stab_srt W (X.take t));have hLl:(Stb.stab lt (X.take t)).length=t:=by rw[Stb.stab_len,List.length_take];omega
  rw[hdr]at hst;generalize Stb.stab lt (X.take t)=L at*
  have HLL:=zH hLl;have HTL:=zH htl;have HI:=zH hi;have HST1:=zH (show Sw w0 wr g T enc rest (P++(L.take t++y::(L.drop t++(X.drop (t+1)++S))))by rw[List.take_of_length_le (by omega),List.drop_of_length_le (by omega)];exact hst);clear hst hdr htk hy hLl hi ht2 hbb;go_wp2_with fail
  go_loopg [9] t (fun c v wr=>∃u j:Nat,u<=t/\c=0+u/\j=a+u/\v= .int .i64 j/\(∀z,z∈L.drop u->lt y z=true)/\Sw w0 wr g T enc rest (P++(L.take u++y::(L.drop u++(X.drop (t+1)++S)))))
  case atStart=>exact⟨t,i,Nat.le_refl _,by omega,HI.out,rfl,by intro z hz;rw[List.drop_of_length_le (by have:=HLL.out;omega)]at hz;simp at hz,HST1.out⟩
  clear HST1;obtain⟨u,j,hu,rfl,hj,rfl,hall,hst⟩:=hrel;have HALL:=zH hall;have HST:=zH hst;have hjb:j<=100000:=by have:=HI.out;omega
  have wj:IntKind.i64.wrap (j:Int)=(j:Int):=by rw[IntKind.wrap_i64];omega
  have hlu:(P++(L.take u++y::(L.drop u++(X.drop (t+1)++S)))).length=N:=by
   have h1:=HLN.out;have h2:=HTL.out;have h3:=HLL.out
   simp;omega
  have HJ:=zH hj;have HU:=zH hu;clear hall hst;by_cases hu0:0<u
  ·obtain⟨p,hp⟩:∃p,p+1=j:=⟨j-1,by omega⟩
   obtain⟨q,hq⟩:∃q,q+1=u:=⟨u-1,by omega⟩;have hja:(a:Int)<(j:Int):=by omega
   have e1:(j:Int)-1=(p:Int):=by omega
   have wp:IntKind.i64.wrap (p:Int)=(p:Int):=by rw[IntKind.wrap_i64];omega
   have hPa:=HPA.out;have hql:q<L.length:=by have:=HLL.out;omega
   have gx:(P++(L.take u++y::(L.drop u++(X.drop (t+1)++S))))[p]?=some L[q]:=by
    have h:=get_mid P (L.take u) (y::(L.drop u++(X.drop (t+1)++S))) q (by rw[List.length_take];omega);rw[show P.length+q=p by omega]at h;rw[h,List.getElem?_take,if_pos (by omega)];exact List.getElem?_eq_getElem hql
   have gy:(P++(L.take u++y::(L.drop u++(X.drop (t+1)++S))))[j]?=some y:=by
    rw[List.getElem?_append_right (by omega),List.getElem?_append_right (by rw[List.length_take];omega),List.length_take,show j-P.length-min u L.length=0 by have:=HLL.out;omega];rfl
   have HSTEP:=zH (show swp (P++(L.take u++y::(L.drop u++(X.drop (t+1)++S)))) j p=P++(L.take q++y::(L.drop q++(X.drop (t+1)++S)))by
    have h:=swps_left P L (X.drop (t+1)++S) y q hql;rw[show P.length+q=p by omega,hp,hq]at h;exact h)
   have HQX:=zH (show∀z,z∈L.drop q->z=L[q]\/z∈L.drop u by
    intro z hz;rw[List.drop_eq_getElem_cons hql,hq]at hz;simpa using hz)
   have HINS:=zH (fun h=>Stb.ins_stop W (y:=y) HSRT.out HALL.out (by have:=HLL.out;omega) (Or.inr ⟨q,hq,hql,h⟩));have bj:(j:Int)<(N:Int):=by rw[<-hlu];have:=(List.getElem?_eq_some_iff.1 gy).1;omega
   have bp:(p:Int)<(N:Int):=by omega
   have HE:=zH (swp_eq gy gx);have HLj:=zH (List.getElem?_eq_some_iff.1 gy).1;have HLp:=zH (List.getElem?_eq_some_iff.1 gx).1;have Hx:=zH gx;have Hy:=zH gy;generalize L[q]=x at*
   generalize hrow:P++(L.take u++y::(L.drop u++(X.drop (t+1)++S)))=row at*
   have HQ:=zH (And.intro hq hp);have HROW:=zH hrow;clear gx gy hql hu hq hp hj hPa hrow;go_upto_region 4 with fail
   refine wp_region_held_drew (S:=fun x=>Ext wr x) (by kernel_rfl) (Ext.refl _).drew (fun _=> ?_);refine zv 0 (bs 17 1) (Ext.refl _).drew ?_;refine zv 1 (bs 17 3) (Ext.refl _).drew ?_;refine zv 2 (bs 17 7) (Ext.refl _).drew ?_;refine zv 3 (bs 17 15) (Ext.refl _).drew ?_;refine zv 4 (bs 17 31) (Ext.refl _).drew ?_;refine zv 5 (bs 17 63) (Ext.refl _).drew ?_;refine zv 6 (bs 17 127) (Ext.refl _).drew ?_;refine zv 7 (bs 17 255) (Ext.refl _).drew ?_;refine md_range (i:=8) (listed':=(bs 17 511)) (by rfl) (by kernel_rfl) (by kernel_rfl) (by kernel_rfl) _ _ (by rfl) g (j*8) (enc y) _ (by intro _ _ _ h;exact h) (by rfl) (by rfl) (fun w1 hw1=>(HST.out.ext hw1).read Hy.out hk) Tryz.underlying94 (by rfl) (by rw[hk];kernel_rfl) (Ext.refl _).drew (by kernel_rfl) ?_;try simp only[Act.put,zA,zB,zC]
   refine zv 9 (bs 17 1023) (Ext.refl _).drew ?_;refine zv 10 (bs 17 2047) (Ext.refl _).drew ?_;refine zv 11 (bs 17 4095) (Ext.refl _).drew ?_;refine zv 12 (bs 17 8191) (Ext.refl _).drew ?_;refine md_range (i:=13) (listed':=(bs 17 16383)) (by rfl) (by kernel_rfl) (by kernel_rfl) (by kernel_rfl) _ _ (by rfl) g (p*8) (enc x) _ (by intro _ _ _ h;exact h) (by rfl) (by rfl) (fun w1 hw1=>(HST.out.ext hw1).read Hx.out hk) Tryz.underlying94 (by rfl) (by rw[hk];kernel_rfl) (Ext.refl _).drew (by kernel_rfl) ?_;try simp only[Act.put,zA,zB,zC]
   refine mC 14 (bs 17 32767) (HC.out _ ((HST.out.ext (Ext.refl _).drew).own) y x) ?_;rintro e w2 ⟨z,rfl,hz,hx2⟩;have HX2:=zH (show Ext wr w2 from(Ext.refl _).drew.trans hx2);clear hx2;refine⟨_,rfl,HX2.out,?_⟩;try simp only[Act.put,zA,zB,zC]
   by_cases hlt:lt y x=true
   ·have HLT:=zH hlt
    have hz2:z<0:=hz.2 hlt;have hz3:decide (z<0)=true:=by simpa using hz2
    clear hz;refine zv 15 (bs 17 65535) HX2.out ?_;refine zv 16 (bs 17 131071) HX2.out ?_;refine wpAnyH_done (by kernel_rfl) ?_ _;clear hlt hz2 hz3;have HST:=zH (HST.out.ext HX2.out);clear HX2;have hN2:row.length=N:=hlu;generalize w2=wr at*
    go_upto_region 6 with fail
    refine wp_region_held_drew (S:=fun x=>Own g wr x) (by kernel_rfl) (Own.refl _ _).drew (fun _=> ?_);refine zv 0 (bs 18 1) (Own.refl _ _).drew ?_;refine zv 1 (bs 18 3) (Own.refl _ _).drew ?_;refine zv 2 (bs 18 7) (Own.refl _ _).drew ?_;refine zv 3 (bs 18 15) (Own.refl _ _).drew ?_;refine zv 4 (bs 18 31) (Own.refl _ _).drew ?_;refine zv 5 (bs 18 63) (Own.refl _ _).drew ?_;refine zv 6 (bs 18 127) (Own.refl _ _).drew ?_;refine zv 7 (bs 18 255) (Own.refl _ _).drew ?_;refine zv 8 (bs 18 511) (Own.refl _ _).drew ?_;refine zv 10 (bs 18 1535) (Own.refl _ _).drew ?_;refine zv 11 (bs 18 3583) (Own.refl _ _).drew ?_;refine zv 12 (bs 18 7679) (Own.refl _ _).drew ?_;refine md_loads2 (i:=9) (j:=13) (li:=(bs 18 8191)) (lj:=(bs 18 15871)) (listed':=(bs 18 16383)) (by rfl) (by rfl) (by kernel_rfl) (by kernel_rfl) (by kernel_rfl) (by kernel_rfl) (by kernel_rfl) (by kernel_rfl) (by kernel_rfl) 94 _ _ (by rfl) (by rfl) (by rfl) (by rfl) g (p*8) (j*8) (enc x) (enc y) _ Tryz.underlying94 (by rfl) (by rfl) (by rfl) (by rfl) (by rfl) (HST.out.ext (Ext.refl _).drew |>.read Hx.out hk) (HST.out.ext (Ext.refl _).drew |>.read Hy.out hk) (by rw[hk];kernel_rfl) (by rw[hk];kernel_rfl) (Own.refl _ _).drew (by rfl) ?_;try simp only[Act.put,zA,zB,zC]
    refine zv 14 (bs 18 32767) (Own.refl _ _).drew ?_;have s1_:=(HST.out.ext (Ext.refl _).drew).put (i:=j) HLj.out hk x;have s2_:=s1_.put (i:=p) (by rw[List.length_set];exact HLp.out) hk y;refine md_rstore (i:=15) (listed':=(bs 18 65535)) (by rfl) (by kernel_rfl) (by rfl) 94 _ _ (by rfl) g (j*8) (enc x) (by rfl) (by rfl) (by rw[hk];exact(HST.out.ext (Ext.refl _).drew).there HLj.out hk) (by rw[hk];kernel_rfl) (h1 x) (Own.setCells_l _ _ (Own.refl _ _).drew) (by kernel_rfl) ?_
    (try simp only[Act.put])
    refine zv 16 (bs 18 131071) (Own.setCells_l _ _ (Own.refl _ _).drew) ?_;refine md_rstore (i:=17) (listed':=(bs 18 262143)) (by rfl) (by kernel_rfl) (by rfl) 94 _ _ (by rfl) g (p*8) (enc y) (by rfl) (by rfl) (by rw[hk];exact s1_.there (by rw[List.length_set];exact HLp.out) hk) (by rw[hk];kernel_rfl) (h1 y) (Own.setCells_l _ _ (Own.setCells_l _ _ (Own.refl _ _).drew)) (by kernel_rfl) ?_
    (try simp only[Act.put])
    refine wpAnyH_done (by kernel_rfl) ?_ _;have HS2:=zH s2_;clear s1_ s2_;generalize (World.setCells _ g (p*8) (enc y))=w3 at*
    go_wp2_with fail
    go_roundg q
    case measure=>have:=HQ.out.1;omega
    case rel=>exact⟨q,p,by have:=HQ.out;have:=HU.out;omega,by omega,by have:=HQ.out;have:=HJ.out;omega,rfl,fun z hz=>(HQX.out z hz).elim (fun h=>by rw[h];exact HLT.out) (HALL.out z),by rw[<-HSTEP.out,HE.out];exact HS2.out⟩
   have HLT:=zH (eq_false_of_ne_true hlt);have hz2:¬z<0:=fun h=>hlt (hz.1 h)
   have hz3:decide (z<0)=false:=by simpa using hz2
   clear hz;refine zv 15 (bs 17 65535) HX2.out ?_;refine zv 16 (bs 17 131071) HX2.out ?_;refine wpAnyH_done (by kernel_rfl) ?_ _;clear hlt hz2 hz3;have HR:=zH (show Sw w0 w2 g T enc rest (P++(Stb.stab lt (X.take (t+1))++(X.drop (t+1)++S)))by rw[HSN.out,HINS.out HLT.out];have h:=HST.out.ext HX2.out;rw[<-HROW.out]at h;simpa using h);go_wp2_with fail
   go_roundg (b+1-(i+1)+1)
   case measure=>omega
   case rel=>exact⟨t+1,i+1,by omega,Or.inl HTL.out,by have:=HI.out;omega,by omega,by go_num,HR.out⟩
  obtain rfl:u=0:=by omega
  have hja:¬(a:Int)<(j:Int):=by omega
  have hja2:decide ((a:Int)<(j:Int))=false:=by simpa using hja
  have HINS:=zH (Stb.ins_stop W (y:=y) HSRT.out HALL.out (Nat.zero_le _) (Or.inl rfl));go_upto_region 4 with fail
  refine wp_region_held_drew (S:=fun x=>Ext wr x) (by kernel_rfl) (Ext.refl _).drew (fun _=> ?_);refine zv 0 (bs 17 1) (Ext.refl _).drew ?_;refine zv 1 (bs 17 3) (Ext.refl _).drew ?_;refine zv 2 (bs 17 7) (Ext.refl _).drew ?_;refine zv 3 (bs 17 15) (Ext.refl _).drew ?_;refine zs 4 (bs 17 31) (Ext.refl _).drew ?_;refine zs 5 (bs 17 63) (Ext.refl _).drew ?_;refine zs 6 (bs 17 127) (Ext.refl _).drew ?_;refine zs 7 (bs 17 255) (Ext.refl _).drew ?_;refine zs 8 (bs 17 511) (Ext.refl _).drew ?_;refine zs 9 (bs 17 1023) (Ext.refl _).drew ?_;refine zs 10 (bs 17 2047) (Ext.refl _).drew ?_;refine zs 11 (bs 17 4095) (Ext.refl _).drew ?_;refine zs 12 (bs 17 8191) (Ext.refl _).drew ?_;refine zs 13 (bs 17 16383) (Ext.refl _).drew ?_;refine zs 14 (bs 17 32767) (Ext.refl _).drew ?_;refine zs 15 (bs 17 65535) (Ext.refl _).drew ?_;refine zv 16 (bs 17 131071) (Ext.refl _).drew ?_;refine wpAnyH_done (by kernel_rfl) ?_ _;have HR:=zH (show Sw w0 wr.drew g T enc rest (P++(Stb.stab lt (X.take (t+1))++(X.drop (t+1)++S)))by rw[HSN.out,HINS.out];have h:=HST.out.ext (Ext.refl _).drew;simpa using h);go_wp2_with fail
  go_roundg (b+1-(i+1)+1)
  case measure=>omega
  case rel=>exact⟨t+1,i+1,by omega,Or.inl HTL.out,by have:=HI.out;omega,by omega,by go_num,HR.out⟩
 have HST:=zH (show Sw w0 wr g T enc rest (P++(Stb.stab lt X++S))by rw[List.take_of_length_le (by omega),List.drop_of_length_le (by omega)]at hst;exact hst);have hge:¬(i:Int)<(b:Int):=by omega
 clear hst;go_wp2_with fail
 go_end0
 exact⟨rfl,HST.out⟩
theorem symA_any {α:Type}(enc:α->List Value)(hk:∀x,(enc x).length=8)(h1:∀x,∀v,v∈enc x->v.oneCell'=true)(lt:α->α->Bool)(W:Stb.Wk lt)(w0 w:World)(g cap a m b N:Nat)(T:TypeId)(rest:List Value)(P B S:List α)(x:α)(hc:(∀wr,Own g w0 wr->∀x y:α,Calls Tryz.prog 108 #[.agg (enc x).toArray,.agg (enc y).toArray] wr fun e w'=>∃z:Int,e= .returned (.int .i64 z)/\(z<0↔lt x y=true)/\Ext wr w'))(hst:Sw w0 w g T enc rest (P++(x::(B++S))))(ha:P.length=a)(hm:a+1=m)(hb:m+B.length=b)(hB:Stb.Srt lt B)(hN:(P++(x::(B++S))).length=N)(hsz:N<=100000):
  Calls Tryz.prog 177 #[.slice (some ⟨g,0,none⟩) N cap,.int .i64 a,.int .i64 m,.int .i64 b,.func (.func 108) #[] #[]] w fun e w'=>e= .returned (.tuple #[])/\Sw w0 w' g T enc rest (P++(Stb.mrg lt [x] B++S)):=by
 have hlen:P.length+(1+(B.length+S.length))=N:=by rw[<-hN];simp;omega
 have e1:(m:Int)-(a:Int)=1:=by omega
 have b1:a<=100000:=by omega
 have b2:m<=100000:=by omega
 have b3:b<=100000:=by omega
 have ba:(a:Int)<(N:Int):=by omega
 have wa_:IntKind.i64.wrap (a:Int)=(a:Int):=by rw[IntKind.wrap_i64];omega
 have gx0:(P++(x::(B++S)))[a]?=some x:=by rw[<-ha];simp
 have gz:∀t z,B[t]?=some z->(P++(x::(B++S)))[m+t]?=some z:=fun t z h=>by
  have h2:=get_mid (P++[x]) B S t (List.getElem?_eq_some_iff.1 h).1;rw[show(P++[x]).length+t=m+t by simp;omega,h]at h2;simpa using h2
 have HC:=zH hc;have HST0:=zH hst;have HGZ:=zH gz;have Hx:=zH gx0;have HF:=zH (And.intro ha (And.intro hm (And.intro hb hlen)));have HN:=zH hN;have HBS:=zH hB;have hbl:m+B.length=b:=hb;have hsl:b<=N:=by omega
 clear hst hc ha hm hb hN hlen gz gx0 hB;go_enter Tryz.func177,Tryz.ntmps177
 go_wp2_with fail
 go_loopg [10,11] B.length (fun c u v wr=>∃s e i j:Nat,s<=e/\e<=B.length/\c=e-s/\i=m+s/\j=m+e/\u= .int .i64 i/\v= .int .i64 j/\(s=0\/∃z,B[s-1]?=some z/\lt z x=true)/\(B.length<=e\/∃z,B[e]?=some z/\lt z x=false)/\Sw w0 wr g T enc rest (P++(x::(B++S))))
 case atStart=>exact⟨0,B.length,m,b,Nat.zero_le _,Nat.le_refl _,by omega,rfl,by omega,rfl,rfl,Or.inl rfl,Or.inl (Nat.le_refl _),HST0.out⟩
 clear HST0;obtain⟨s,e,i,j,hse,heB,rfl,hi,hj,rfl,rfl,h1s,h2e,hst⟩:=hrel;have HST:=zH hst;have HI:=zH (And.intro hi hj);have H1:=zH h1s;have H2:=zH h2e;have bi:i<=100000:=by omega
 have bj:j<=100000:=by omega
 clear hst h1s h2e;by_cases hlt0:s<e
 ·have hij:(i:Int)<(j:Int):=by omega
  obtain⟨ss,hss⟩:∃ss,ss=i+j:=⟨_,rfl⟩;obtain⟨h,hh⟩:∃h,h=ss/2:=⟨_,rfl⟩;have e3:(i:Int)+(j:Int)=(ss:Int):=by omega
  obtain⟨c,hcc⟩:∃c,h=m+c:=⟨h-m,by omega⟩;have hcb:s<=c/\c<e:=by omega
  have wu:IntKind.u64.wrap (ss:Int)=(ss:Int):=by rw[IntKind.wrap_u64];omega
  have ws:IntKind.i64.wrap (ss:Int)=(ss:Int):=by rw[IntKind.wrap_i64];omega
  have wh:IntKind.i64.wrap (h:Int)=(h:Int):=by rw[IntKind.wrap_i64];omega
  have wuh:IntKind.u64.wrap (h:Int)=(h:Int):=by rw[IntKind.wrap_u64];omega
  have e2:(ss:Int)/2=(h:Int):=by omega
  have bh:(h:Int)<(N:Int):=by omega
  obtain⟨z0,hz0⟩:∃z,B[c]?=some z:=⟨_,List.getElem?_eq_getElem (by omega)⟩;have Hz0:=zH (show(P++(x::(B++S)))[h]?=some z0 by rw[hcc];exact HGZ.out c z0 hz0);have HZB:=zH hz0;have HH:=zH (And.intro hcc hcb);clear hz0 hcc hcb hss hh hi hj;generalize hrow:P++(x::(B++S))=row at*
  have HROW:=zH hrow;clear hrow;go_upto_region 5 with fail
  refine wp_region_held_drew (S:=fun x=>Ext wr x) (by kernel_rfl) (Ext.refl _).drew (fun _=> ?_);refine zv 0 (bs 11 1) (Ext.refl _).drew ?_;refine zv 1 (bs 11 3) (Ext.refl _).drew ?_;refine zv 2 (bs 11 7) (Ext.refl _).drew ?_;refine zv 3 (bs 11 15) (Ext.refl _).drew ?_;refine md_range (i:=4) (listed':=(bs 11 31)) (by rfl) (by kernel_rfl) (by kernel_rfl) (by kernel_rfl) _ _ (by rfl) g (h*8) (enc z0) _ (by intro _ _ _ h;exact h) (by rfl) (by rfl) (fun w1 hw1=>(HST.out.ext hw1).read Hz0.out hk) Tryz.underlying94 (by rfl) (by rw[hk];kernel_rfl) (Ext.refl _).drew (by kernel_rfl) ?_;try simp only[Act.put,zA,zB,zC]
  refine zv 5 (bs 11 63) (Ext.refl _).drew ?_;refine zv 6 (bs 11 127) (Ext.refl _).drew ?_;refine zv 7 (bs 11 255) (Ext.refl _).drew ?_;refine md_range (i:=8) (listed':=(bs 11 511)) (by rfl) (by kernel_rfl) (by kernel_rfl) (by kernel_rfl) _ _ (by rfl) g (a*8) (enc x) _ (by intro _ _ _ h;exact h) (by rfl) (by rfl) (fun w1 hw1=>(HST.out.ext hw1).read Hx.out hk) Tryz.underlying94 (by rfl) (by rw[hk];kernel_rfl) (Ext.refl _).drew (by kernel_rfl) ?_;try simp only[Act.put,zA,zB,zC]
  refine mC 9 (bs 11 1023) (HC.out _ ((HST.out.ext (Ext.refl _).drew).own) z0 x) ?_;rintro e w2 ⟨z,rfl,hz,hx2⟩;have HX2:=zH (show Ext wr w2 from(Ext.refl _).drew.trans hx2);clear hx2;refine⟨_,rfl,HX2.out,?_⟩;try simp only[Act.put,zA,zB,zC]
  by_cases hlt:lt z0 x=true
  ·have HLT:=zH hlt
   have hz2:z<0:=hz.2 hlt;have hz3:decide (z<0)=true:=by simpa using hz2
   clear hz;refine zv 10 (bs 11 2047) HX2.out ?_;refine wpAnyH_done (by kernel_rfl) ?_ _;clear hlt hz2 hz3;have HST:=zH (HST.out.ext HX2.out);go_wp2_with fail
   go_roundg (e-(c+1))
   case measure=>have:=HH.out;omega
   case rel=>exact⟨c+1,e,h+1,j,by have:=HH.out;omega,heB,rfl,by have:=HH.out;omega,HI.out.2,by go_num,rfl,Or.inr ⟨z0,HZB.out,HLT.out⟩,H2.out,HST.out⟩
  have HLT:=zH (eq_false_of_ne_true hlt);have hz2:¬z<0:=fun h=>hlt (hz.1 h)
  have hz3:decide (z<0)=false:=by simpa using hz2
  clear hz;refine zv 10 (bs 11 2047) HX2.out ?_;refine wpAnyH_done (by kernel_rfl) ?_ _;clear hlt hz2 hz3;have HST:=zH (HST.out.ext HX2.out);go_wp2_with fail
  go_roundg (c-s)
  case measure=>have:=HH.out;omega
  case rel=>exact⟨s,c,i,h,by have:=HH.out;omega,by have:=HH.out;omega,rfl,HI.out.1,by have:=HH.out;omega,rfl,rfl,H1.out,Or.inr ⟨z0,HZB.out,HLT.out⟩,HST.out⟩
 obtain rfl:s=e:=by omega
 have hij:¬(i:Int)<(j:Int):=by omega
 have HM:=zH (Stb.one_left W HBS.out H1.out H2.out);obtain⟨im,him⟩:∃im,im+1=i:=⟨i-1,by have:=HF.out;omega⟩;have e4:(i:Int)-1=(im:Int):=by omega
 have wim:IntKind.i64.wrap (im:Int)=(im:Int):=by rw[IntKind.wrap_i64];omega
 have HIM:=zH him;clear hi hj him Hx;go_wp2_with fail
 go_loopg [13] s (fun c v wr=>∃t k:Nat,t<=s/\c=s-t/\k=a+t/\v= .int .i64 k/\Sw w0 wr g T enc rest (P++(B.take t++x::(B.drop t++S))))
 case atStart=>exact⟨0,a,Nat.zero_le _,rfl,rfl,rfl,by simpa using HST.out⟩
 clear HST;obtain⟨t,k0,hts,rfl,hk0,rfl,hst⟩:=hrel;by_cases hlt:t<s
 ·have hF:=HF.out
  have hI:=HI.out;have hIM:=HIM.out;have hki:(k0:Int)<(im:Int):=by omega
  obtain⟨k1,hk1⟩:∃k1,k1=k0+1:=⟨_,rfl⟩;have e5:(k0:Int)+1=(k1:Int):=by omega
  have wk:IntKind.i64.wrap (k1:Int)=(k1:Int):=by rw[IntKind.wrap_i64];omega
  have wk0:IntKind.i64.wrap (k0:Int)=(k0:Int):=by rw[IntKind.wrap_i64];omega
  have bk1:(k1:Int)<(N:Int):=by omega
  have bk0:(k0:Int)<(N:Int):=by omega
  have htB:t<B.length:=by omega
  have hsw:=swps_right P B S x t htB;rw[show P.length+t=k0 by omega,<-hk1]at hsw;have hrl:(P++(B.take t++x::(B.drop t++S))).length=N:=by simp;omega
  have gx:(P++(B.take t++x::(B.drop t++S)))[k0]?=some x:=by
   rw[List.getElem?_append_right (by omega),List.getElem?_append_right (by rw[List.length_take];omega),List.length_take,show k0-P.length-min t B.length=0 by omega];rfl
  obtain⟨z0,hz0⟩:∃z,(P++(B.take t++x::(B.drop t++S)))[k1]?=some z:=⟨_,List.getElem?_eq_getElem (by omega)⟩;have HE:=zH ((swp_eq gx hz0).symm.trans hsw);have Hx:=zH gx;have Hz0:=zH hz0;have HLk0:=zH (List.getElem?_eq_some_iff.1 gx).1;have HLk1:=zH (List.getElem?_eq_some_iff.1 hz0).1;have HST:=zH hst;generalize P++(B.take t++x::(B.drop t++S))=row at*
  have HK:=zH (And.intro hk0 hk1);clear gx hz0 hsw hst hF hI hIM hk0 hk1;go_upto_region 11 with fail
  refine wp_region_held_drew (S:=fun x=>Own g wr x) (by kernel_rfl) (Own.refl _ _).drew (fun _=> ?_);refine zv 0 (bs 18 1) (Own.refl _ _).drew ?_;refine zv 1 (bs 18 3) (Own.refl _ _).drew ?_;refine zv 2 (bs 18 7) (Own.refl _ _).drew ?_;refine zv 3 (bs 18 15) (Own.refl _ _).drew ?_;refine zv 4 (bs 18 31) (Own.refl _ _).drew ?_;refine zv 5 (bs 18 63) (Own.refl _ _).drew ?_;refine zv 6 (bs 18 127) (Own.refl _ _).drew ?_;refine zv 7 (bs 18 255) (Own.refl _ _).drew ?_;refine zv 8 (bs 18 511) (Own.refl _ _).drew ?_;refine zv 10 (bs 18 1535) (Own.refl _ _).drew ?_;refine zv 11 (bs 18 3583) (Own.refl _ _).drew ?_;refine zv 12 (bs 18 7679) (Own.refl _ _).drew ?_;refine md_loads2 (i:=9) (j:=13) (li:=(bs 18 8191)) (lj:=(bs 18 15871)) (listed':=(bs 18 16383)) (by rfl) (by rfl) (by kernel_rfl) (by kernel_rfl) (by kernel_rfl) (by kernel_rfl) (by kernel_rfl) (by kernel_rfl) (by kernel_rfl) 94 _ _ (by rfl) (by rfl) (by rfl) (by rfl) g (k1*8) (k0*8) (enc z0) (enc x) _ Tryz.underlying94 (by rfl) (by rfl) (by rfl) (by rfl) (by rfl) (HST.out.ext (Ext.refl _).drew |>.read Hz0.out hk) (HST.out.ext (Ext.refl _).drew |>.read Hx.out hk) (by rw[hk];kernel_rfl) (by rw[hk];kernel_rfl) (Own.refl _ _).drew (by rfl) ?_;try simp only[Act.put,zA,zB,zC]
  refine zv 14 (bs 18 32767) (Own.refl _ _).drew ?_;have s1_:=(HST.out.ext (Ext.refl _).drew).put (i:=k0) HLk0.out hk z0;have s2_:=s1_.put (i:=k1) (by rw[List.length_set];exact HLk1.out) hk x;refine md_rstore (i:=15) (listed':=(bs 18 65535)) (by rfl) (by kernel_rfl) (by rfl) 94 _ _ (by rfl) g (k0*8) (enc z0) (by rfl) (by rfl) (by rw[hk];exact(HST.out.ext (Ext.refl _).drew).there HLk0.out hk) (by rw[hk];kernel_rfl) (h1 z0) (Own.setCells_l _ _ (Own.refl _ _).drew) (by kernel_rfl) ?_
  (try simp only[Act.put])
  refine zv 16 (bs 18 131071) (Own.setCells_l _ _ (Own.refl _ _).drew) ?_;refine md_rstore (i:=17) (listed':=(bs 18 262143)) (by rfl) (by kernel_rfl) (by rfl) 94 _ _ (by rfl) g (k1*8) (enc x) (by rfl) (by rfl) (by rw[hk];exact s1_.there (by rw[List.length_set];exact HLk1.out) hk) (by rw[hk];kernel_rfl) (h1 x) (Own.setCells_l _ _ (Own.setCells_l _ _ (Own.refl _ _).drew)) (by kernel_rfl) ?_
  (try simp only[Act.put])
  refine wpAnyH_done (by kernel_rfl) ?_ _;have HS2:=zH s2_;clear s1_ s2_;generalize (World.setCells _ g (k1*8) (enc x))=w3 at*
  go_wp2_with fail
  go_roundg (s-(t+1))
  case measure=>omega
  case rel=>exact⟨t+1,k1,hlt,rfl,by have:=HK.out;omega,rfl,by rw[<-HE.out];exact HS2.out⟩
 obtain rfl:t=s:=by omega
 have HR:=zH (show Sw w0 wr g T enc rest (P++(Stb.mrg lt [x] B++S))by rw[HM.out];simpa using hst);have hki:¬(k0:Int)<(im:Int):=by have:=HF.out;have:=HI.out;have:=HIM.out;omega
 clear hst;go_wp2_with fail
 refine bodyPost_ret (results_none rfl _ _ _) rfl ?_;exact⟨rfl,HR.out⟩
theorem symB_any {α:Type}(enc:α->List Value)(hk:∀x,(enc x).length=8)(h1:∀x,∀v,v∈enc x->v.oneCell'=true)(lt:α->α->Bool)(W:Stb.Wk lt)(w0 w:World)(g cap a m b N:Nat)(T:TypeId)(rest:List Value)(P A S:List α)(y:α)(hc:(∀wr,Own g w0 wr->∀x y:α,Calls Tryz.prog 108 #[.agg (enc x).toArray,.agg (enc y).toArray] wr fun e w'=>∃z:Int,e= .returned (.int .i64 z)/\(z<0↔lt x y=true)/\Ext wr w'))(hst:Sw w0 w g T enc rest (P++(A++(y::S))))(ha:P.length=a)(hm:a+A.length=m)(hb:m+1=b)(hA1:A.length≠1)(hA:Stb.Srt lt A)(hN:(P++(A++(y::S))).length=N)(hsz:N<=100000):
  Calls Tryz.prog 177 #[.slice (some ⟨g,0,none⟩) N cap,.int .i64 a,.int .i64 m,.int .i64 b,.func (.func 108) #[] #[]] w fun e w'=>e= .returned (.tuple #[])/\Sw w0 w' g T enc rest (P++(Stb.mrg lt A [y]++S)):=by
 have hlen:P.length+(A.length+(1+S.length))=N:=by rw[<-hN];simp;omega
 obtain⟨d1,hd1⟩:∃d1,a+d1=m:=⟨A.length,hm⟩;have e0:(m:Int)-(a:Int)=(d1:Int):=by omega
 have e0b:((d1:Int)==1)=false:=by simp;omega
 have wd:IntKind.i64.wrap (d1:Int)=(d1:Int):=by rw[IntKind.wrap_i64];omega
 have e1:(b:Int)-(m:Int)=1:=by omega
 have b1:a<=100000:=by omega
 have b2:m<=100000:=by omega
 have b3:b<=100000:=by omega
 have ba:(m:Int)<(N:Int):=by omega
 have wa_:IntKind.i64.wrap (m:Int)=(m:Int):=by rw[IntKind.wrap_i64];omega
 have gy0:(P++(A++(y::S)))[m]?=some y:=by
  rw[List.getElem?_append_right (by omega),List.getElem?_append_right (by omega),show m-P.length-A.length=0 by omega];rfl
 have gz:∀t z,A[t]?=some z->(P++(A++(y::S)))[a+t]?=some z:=fun t z h=>by
  have h2:=get_mid P A (y::S) t (List.getElem?_eq_some_iff.1 h).1;rw[show P.length+t=a+t by omega,h]at h2;exact h2
 have HC:=zH hc;have HST0:=zH hst;have HGZ:=zH gz;have Hy:=zH gy0;have HF:=zH (And.intro ha (And.intro hm (And.intro hb hlen)));have HN:=zH hN;have HAS:=zH hA;have hbl:a+A.length=m:=hm;have hsl:m<N:=by omega
 clear hst hc ha hm hb hN hlen gz gy0 hA hd1;go_enter Tryz.func177,Tryz.ntmps177
 go_wp2_with fail
 go_loopg [14,15] A.length (fun c u v wr=>∃s e i j:Nat,s<=e/\e<=A.length/\c=e-s/\i=a+s/\j=a+e/\u= .int .i64 i/\v= .int .i64 j/\(s=0\/∃z,A[s-1]?=some z/\lt y z=false)/\(A.length<=e\/∃z,A[e]?=some z/\lt y z=true)/\Sw w0 wr g T enc rest (P++(A++(y::S))))
 case atStart=>exact⟨0,A.length,a,m,Nat.zero_le _,Nat.le_refl _,by omega,rfl,by omega,rfl,rfl,Or.inl rfl,Or.inl (Nat.le_refl _),HST0.out⟩
 clear HST0;obtain⟨s,e,i,j,hse,heB,rfl,hi,hj,rfl,rfl,h1s,h2e,hst⟩:=hrel;have HST:=zH hst;have HI:=zH (And.intro hi hj);have H1:=zH h1s;have H2:=zH h2e;have bi:i<=100000:=by omega
 have bj:j<=100000:=by omega
 clear hst h1s h2e;by_cases hlt0:s<e
 ·have hij:(i:Int)<(j:Int):=by omega
  obtain⟨ss,hss⟩:∃ss,ss=i+j:=⟨_,rfl⟩;obtain⟨h,hh⟩:∃h,h=ss/2:=⟨_,rfl⟩;have e3:(i:Int)+(j:Int)=(ss:Int):=by omega
  obtain⟨c,hcc⟩:∃c,h=a+c:=⟨h-a,by omega⟩;have hcb:s<=c/\c<e:=by omega
  have wu:IntKind.u64.wrap (ss:Int)=(ss:Int):=by rw[IntKind.wrap_u64];omega
  have ws:IntKind.i64.wrap (ss:Int)=(ss:Int):=by rw[IntKind.wrap_i64];omega
  have wh:IntKind.i64.wrap (h:Int)=(h:Int):=by rw[IntKind.wrap_i64];omega
  have wuh:IntKind.u64.wrap (h:Int)=(h:Int):=by rw[IntKind.wrap_u64];omega
  have e2:(ss:Int)/2=(h:Int):=by omega
  have bh:(h:Int)<(N:Int):=by omega
  obtain⟨z0,hz0⟩:∃z,A[c]?=some z:=⟨_,List.getElem?_eq_getElem (by omega)⟩;have Hz0:=zH (show(P++(A++(y::S)))[h]?=some z0 by rw[hcc];exact HGZ.out c z0 hz0);have HZB:=zH hz0;have HH:=zH (And.intro hcc hcb);clear hz0 hcc hcb hss hh hi hj;generalize hrow:P++(A++(y::S))=row at*
  clear hrow;go_upto_region 17 with fail
  refine wp_region_held_drew (S:=fun x=>Ext wr x) (by kernel_rfl) (Ext.refl _).drew (fun _=> ?_);refine zv 0 (bs 12 1) (Ext.refl _).drew ?_;refine zv 1 (bs 12 3) (Ext.refl _).drew ?_;refine zv 2 (bs 12 7) (Ext.refl _).drew ?_;refine zv 3 (bs 12 15) (Ext.refl _).drew ?_;refine md_range (i:=4) (listed':=(bs 12 31)) (by rfl) (by kernel_rfl) (by kernel_rfl) (by kernel_rfl) _ _ (by rfl) g (m*8) (enc y) _ (by intro _ _ _ h;exact h) (by rfl) (by rfl) (fun w1 hw1=>(HST.out.ext hw1).read Hy.out hk) Tryz.underlying94 (by rfl) (by rw[hk];kernel_rfl) (Ext.refl _).drew (by kernel_rfl) ?_;try simp only[Act.put,zA,zB,zC]
  refine zv 5 (bs 12 63) (Ext.refl _).drew ?_;refine zv 6 (bs 12 127) (Ext.refl _).drew ?_;refine zv 7 (bs 12 255) (Ext.refl _).drew ?_;refine md_range (i:=8) (listed':=(bs 12 511)) (by rfl) (by kernel_rfl) (by kernel_rfl) (by kernel_rfl) _ _ (by rfl) g (h*8) (enc z0) _ (by intro _ _ _ h;exact h) (by rfl) (by rfl) (fun w1 hw1=>(HST.out.ext hw1).read Hz0.out hk) Tryz.underlying94 (by rfl) (by rw[hk];kernel_rfl) (Ext.refl _).drew (by kernel_rfl) ?_;try simp only[Act.put,zA,zB,zC]
  refine mC 9 (bs 12 1023) (HC.out _ ((HST.out.ext (Ext.refl _).drew).own) y z0) ?_;rintro e w2 ⟨z,rfl,hz,hx2⟩;have HX2:=zH (show Ext wr w2 from(Ext.refl _).drew.trans hx2);clear hx2;refine⟨_,rfl,HX2.out,?_⟩;try simp only[Act.put,zA,zB,zC]
  by_cases hlt:lt y z0=true
  ·have HLT:=zH hlt
   have hz2:z<0:=hz.2 hlt;have hz3:decide (z<0)=true:=by simpa using hz2
   clear hz;refine zv 10 (bs 12 2047) HX2.out ?_;refine zv 11 (bs 12 4095) HX2.out ?_;refine wpAnyH_done (by kernel_rfl) ?_ _;clear hlt hz2 hz3;have HST:=zH (HST.out.ext HX2.out);go_wp2_with fail
   go_roundg (c-s)
   case measure=>have:=HH.out;omega
   case rel=>exact⟨s,c,i,h,by have:=HH.out;omega,by have:=HH.out;omega,rfl,HI.out.1,by have:=HH.out;omega,rfl,rfl,H1.out,Or.inr ⟨z0,HZB.out,HLT.out⟩,HST.out⟩
  have HLT:=zH (eq_false_of_ne_true hlt);have hz2:¬z<0:=fun h=>hlt (hz.1 h)
  have hz3:decide (z<0)=false:=by simpa using hz2
  clear hz;refine zv 10 (bs 12 2047) HX2.out ?_;refine zv 11 (bs 12 4095) HX2.out ?_;refine wpAnyH_done (by kernel_rfl) ?_ _;clear hlt hz2 hz3;have HST:=zH (HST.out.ext HX2.out);go_wp2_with fail
  go_roundg (e-(c+1))
  case measure=>have:=HH.out;omega
  case rel=>exact⟨c+1,e,h+1,j,by have:=HH.out;omega,heB,rfl,by have:=HH.out;omega,HI.out.2,by go_num,rfl,Or.inr ⟨z0,HZB.out,HLT.out⟩,H2.out,HST.out⟩
 obtain rfl:s=e:=by omega
 have hij:¬(i:Int)<(j:Int):=by omega
 have HM:=zH (Stb.one_right W HAS.out H1.out H2.out);clear hi hj Hy;go_wp2_with fail
 go_loopg [17] (A.length-s) (fun c v wr=>∃t k:Nat,s<=t/\t<=A.length/\c=t-s/\k=a+t/\v= .int .i64 k/\Sw w0 wr g T enc rest (P++(A.take t++y::(A.drop t++S))))
 case atStart=>exact⟨A.length,m,heB,Nat.le_refl _,by omega,by omega,rfl,by simpa using HST.out⟩
 clear HST;obtain⟨t,k0,hts,htA,rfl,hk0,rfl,hst⟩:=hrel;by_cases hlt:s<t
 ·have hF:=HF.out
  have hI:=HI.out;have hki:(i:Int)<(k0:Int):=by omega
  obtain⟨k1,hk1⟩:∃k1,k1+1=k0:=⟨k0-1,by omega⟩;have e5:(k0:Int)-1=(k1:Int):=by omega
  have wk:IntKind.i64.wrap (k1:Int)=(k1:Int):=by rw[IntKind.wrap_i64];omega
  have wk0:IntKind.i64.wrap (k0:Int)=(k0:Int):=by rw[IntKind.wrap_i64];omega
  have bk1:(k1:Int)<(N:Int):=by omega
  have bk0:(k0:Int)<(N:Int):=by omega
  obtain⟨q,hq⟩:∃q,q+1=t:=⟨t-1,by omega⟩;have hsw:=swps_left P A S y q (by omega);rw[show P.length+q=k1 by omega,hk1,hq]at hsw;have hrl:(P++(A.take t++y::(A.drop t++S))).length=N:=by simp;omega
  have gx:(P++(A.take t++y::(A.drop t++S)))[k0]?=some y:=by
   rw[List.getElem?_append_right (by omega),List.getElem?_append_right (by rw[List.length_take];omega),List.length_take,show k0-P.length-min t A.length=0 by omega];rfl
  obtain⟨z0,hz0⟩:∃z,(P++(A.take t++y::(A.drop t++S)))[k1]?=some z:=⟨_,List.getElem?_eq_getElem (by omega)⟩;have HE:=zH ((swp_eq gx hz0).symm.trans hsw);have Hy:=zH gx;have Hz0:=zH hz0;have HLk0:=zH (List.getElem?_eq_some_iff.1 gx).1;have HLk1:=zH (List.getElem?_eq_some_iff.1 hz0).1;have HST:=zH hst;generalize P++(A.take t++y::(A.drop t++S))=row at*
  have HK:=zH (And.intro hk0 (And.intro hk1 hq));clear gx hz0 hsw hst hF hI hk0 hk1 hq;go_upto_region 23 with fail
  refine wp_region_held_drew (S:=fun x=>Own g wr x) (by kernel_rfl) (Own.refl _ _).drew (fun _=> ?_);refine zv 0 (bs 18 1) (Own.refl _ _).drew ?_;refine zv 1 (bs 18 3) (Own.refl _ _).drew ?_;refine zv 2 (bs 18 7) (Own.refl _ _).drew ?_;refine zv 3 (bs 18 15) (Own.refl _ _).drew ?_;refine zv 4 (bs 18 31) (Own.refl _ _).drew ?_;refine zv 5 (bs 18 63) (Own.refl _ _).drew ?_;refine zv 6 (bs 18 127) (Own.refl _ _).drew ?_;refine zv 7 (bs 18 255) (Own.refl _ _).drew ?_;refine zv 8 (bs 18 511) (Own.refl _ _).drew ?_;refine zv 10 (bs 18 1535) (Own.refl _ _).drew ?_;refine zv 11 (bs 18 3583) (Own.refl _ _).drew ?_;refine zv 12 (bs 18 7679) (Own.refl _ _).drew ?_;refine md_loads2 (i:=9) (j:=13) (li:=(bs 18 8191)) (lj:=(bs 18 15871)) (listed':=(bs 18 16383)) (by rfl) (by rfl) (by kernel_rfl) (by kernel_rfl) (by kernel_rfl) (by kernel_rfl) (by kernel_rfl) (by kernel_rfl) (by kernel_rfl) 94 _ _ (by rfl) (by rfl) (by rfl) (by rfl) g (k1*8) (k0*8) (enc z0) (enc y) _ Tryz.underlying94 (by rfl) (by rfl) (by rfl) (by rfl) (by rfl) (HST.out.ext (Ext.refl _).drew |>.read Hz0.out hk) (HST.out.ext (Ext.refl _).drew |>.read Hy.out hk) (by rw[hk];kernel_rfl) (by rw[hk];kernel_rfl) (Own.refl _ _).drew (by rfl) ?_;try simp only[Act.put,zA,zB,zC]
  refine zv 14 (bs 18 32767) (Own.refl _ _).drew ?_;have s1_:=(HST.out.ext (Ext.refl _).drew).put (i:=k0) HLk0.out hk z0;have s2_:=s1_.put (i:=k1) (by rw[List.length_set];exact HLk1.out) hk y;refine md_rstore (i:=15) (listed':=(bs 18 65535)) (by rfl) (by kernel_rfl) (by rfl) 94 _ _ (by rfl) g (k0*8) (enc z0) (by rfl) (by rfl) (by rw[hk];exact(HST.out.ext (Ext.refl _).drew).there HLk0.out hk) (by rw[hk];kernel_rfl) (h1 z0) (Own.setCells_l _ _ (Own.refl _ _).drew) (by kernel_rfl) ?_
  (try simp only[Act.put])
  refine zv 16 (bs 18 131071) (Own.setCells_l _ _ (Own.refl _ _).drew) ?_;refine md_rstore (i:=17) (listed':=(bs 18 262143)) (by rfl) (by kernel_rfl) (by rfl) 94 _ _ (by rfl) g (k1*8) (enc y) (by rfl) (by rfl) (by rw[hk];exact s1_.there (by rw[List.length_set];exact HLk1.out) hk) (by rw[hk];kernel_rfl) (h1 y) (Own.setCells_l _ _ (Own.setCells_l _ _ (Own.refl _ _).drew)) (by kernel_rfl) ?_
  (try simp only[Act.put])
  refine wpAnyH_done (by kernel_rfl) ?_ _;have HS2:=zH s2_;clear s1_ s2_;generalize (World.setCells _ g (k1*8) (enc y))=w3 at*
  go_wp2_with fail
  go_roundg (q-s)
  case measure=>have:=HK.out;omega
  case rel=>exact⟨q,k1,by have:=HK.out;omega,by have:=HK.out;omega,rfl,by have:=HK.out;omega,rfl,by rw[<-HE.out];exact HS2.out⟩
 obtain rfl:t=s:=by omega
 have HR:=zH (show Sw w0 wr g T enc rest (P++(Stb.mrg lt A [y]++S))by rw[HM.out];simpa using hst);have hki:¬(i:Int)<(k0:Int):=by have:=HI.out;omega
 clear hst;go_wp2_with fail
 refine bodyPost_ret (results_none rfl _ _ _) rfl ?_;exact⟨rfl,HR.out⟩
theorem symC_any {α:Type}(enc:α->List Value)(hk:∀x,(enc x).length=8)(h1:∀x,∀v,v∈enc x->v.oneCell'=true)(lt:α->α->Bool)(W:Stb.Wk lt)(w0 w:World)(g cap a m b N:Nat)(T:TypeId)(rest:List Value)(P A B S:List α)(hc:(∀wr,Own g w0 wr->∀x y:α,Calls Tryz.prog 108 #[.agg (enc x).toArray,.agg (enc y).toArray] wr fun e w'=>∃z:Int,e= .returned (.int .i64 z)/\(z<0↔lt x y=true)/\Ext wr w'))(ih:(∀(P' A' B' S':List α) (a m b:Nat) (wr:World),A'≠ []->B'≠ []->A'.length+B'.length<A.length+B.length->Sw w0 wr g T enc rest (P'++(A'++(B'++S')))->P'.length=a->a+A'.length=m->m+B'.length=b->Stb.Srt lt A'->Stb.Srt lt B'->(P'++(A'++(B'++S'))).length=N->Calls Tryz.prog 177 #[.slice (some ⟨g,0,none⟩) N cap,.int .i64 a,.int .i64 m,.int .i64 b,.func (.func 108) #[] #[]] wr fun e w'=>e= .returned (.tuple #[])/\Sw w0 w' g T enc rest (P'++(Stb.mrg lt A' B'++S'))))(hst:Sw w0 w g T enc rest (P++(A++(B++S))))(ha:P.length=a)(hm:a+A.length=m)(hb:m+B.length=b)(hA0:A≠ [])(hB0:B≠ [])(hA1:A.length≠1)(hB1:B.length≠1)(hA:Stb.Srt lt A)(hB:Stb.Srt lt B)(hN:(P++(A++(B++S))).length=N)(hsz:N<=100000):
  Calls Tryz.prog 177 #[.slice (some ⟨g,0,none⟩) N cap,.int .i64 a,.int .i64 m,.int .i64 b,.func (.func 108) #[] #[]] w fun e w'=>e= .returned (.tuple #[])/\Sw w0 w' g T enc rest (P++(Stb.mrg lt A B++S)):=by
 have hlen:P.length+(A.length+(B.length+S.length))=N:=by rw[<-hN];simp
 have hAl:2<=A.length:=by have:A.length≠0:=fun h=>hA0 (List.eq_nil_of_length_eq_zero h);omega
 have hBl:2<=B.length:=by have:B.length≠0:=fun h=>hB0 (List.eq_nil_of_length_eq_zero h);omega
 have e0:(m:Int)-(a:Int)=(A.length:Int):=by omega
 have e1:(b:Int)-(m:Int)=(B.length:Int):=by omega
 have e0b:((A.length:Int)==1)=false:=by simp;omega
 have e1b:((B.length:Int)==1)=false:=by simp;omega
 have wA:IntKind.i64.wrap (A.length:Int)=(A.length:Int):=by rw[IntKind.wrap_i64];omega
 have wB:IntKind.i64.wrap (B.length:Int)=(B.length:Int):=by rw[IntKind.wrap_i64];omega
 have b1:a<=100000:=by omega
 have b2:m<=100000:=by omega
 have b3:b<=100000:=by omega
 obtain⟨ss,hss⟩:∃ss,ss=a+b:=⟨_,rfl⟩;obtain⟨mid,hmid⟩:∃mid,mid=ss/2:=⟨_,rfl⟩;obtain⟨M,hM⟩:∃M,a+M=mid:=⟨mid-a,by omega⟩;obtain⟨n,hn⟩:∃n,n=mid+m:=⟨_,rfl⟩;obtain⟨p,hp⟩:∃p,p+1=n:=⟨n-1,by omega⟩;have e3:(a:Int)+(b:Int)=(ss:Int):=by omega
 have wu:IntKind.u64.wrap (ss:Int)=(ss:Int):=by rw[IntKind.wrap_u64];omega
 have ws:IntKind.i64.wrap (ss:Int)=(ss:Int):=by rw[IntKind.wrap_i64];omega
 have wh:IntKind.i64.wrap (mid:Int)=(mid:Int):=by rw[IntKind.wrap_i64];omega
 have wuh:IntKind.u64.wrap (mid:Int)=(mid:Int):=by rw[IntKind.wrap_u64];omega
 have e2:(ss:Int)/2=(mid:Int):=by omega
 have e4:(mid:Int)+(m:Int)=(n:Int):=by omega
 have wn:IntKind.i64.wrap (n:Int)=(n:Int):=by rw[IntKind.wrap_i64];omega
 have e5:(n:Int)-1=(p:Int):=by omega
 have wp:IntKind.i64.wrap (p:Int)=(p:Int):=by rw[IntKind.wrap_i64];omega
 have HC:=zH hc;have HIH:=zH ih;have HST0:=zH hst;have HF:=zH (show SymF P.length A.length B.length S.length a m b N ss mid M n p from⟨ha,hm,hb,hlen,hAl,hBl,hss,hmid,hM,hn,hp⟩);have HN:=zH hN;have HS:=zH (And.intro hA hB);clear hst hc ih ha hm hb hN hlen hA hB hA0 hB0 hA1 hB1 hAl hBl hss hmid hM hn hp;go_enter Tryz.func177,Tryz.ntmps177
 go_upto_if 140 with fail
 go_cut [20,21] (fun u v wx=>∃lo hi st r0:Nat,st=a+lo/\r0=a+hi/\u= .int .i64 st/\v= .int .i64 r0/\lo<=hi/\hi<=A.length/\hi<=M/\M<=lo+B.length/\(lo=0\/lo+B.length<=M)/\(A.length<=hi\/M<=hi)/\wx=w)
 case first=>as_aux_lemma=>
  by_cases hmm:mid<m
  ·have h2:(mid:Int)<(m:Int):=by omega
   obtain⟨st,lo,k0,k9,k⟩:=sym_ar0 hsz HF.out hmm;have e6:(n:Int)-(b:Int)=(st:Int):=by omega
   have wst:IntKind.i64.wrap (st:Int)=(st:Int):=by rw[IntKind.wrap_i64];omega
   have HK:=zH k;clear k k0 hmm;go_wp2_with fail
   go_meet
   obtain⟨k1,k2,k3,k4,k5⟩:=HK.out;exact⟨lo,M,st,mid,k1,k3,rfl,rfl,k4,k5,Nat.le_refl _,Nat.le_of_eq k2.symm,Or.inr (Nat.le_of_eq k2),Or.inr (Nat.le_refl _),rfl⟩
  have h2:¬(mid:Int)<(m:Int):=by omega
  have HK:=zH (sym_ar1 HF.out hmm);clear hmm;go_wp2_with fail
  go_meet
  obtain⟨k1,k2,k3⟩:=HK.out;exact⟨0,A.length,a,m,rfl,k3,rfl,rfl,Nat.zero_le _,Nat.le_refl _,k1,by rw[Nat.zero_add];exact k2,Or.inl rfl,Or.inl (Nat.le_refl _),rfl⟩
 obtain⟨lo,hi,st,r0,hst,hr0,rfl,rfl,g1,g2,g3,g4,g5,g6,rfl⟩:=hcut;have HG:=zH (show SymG A.length B.length a M lo hi st r0 from⟨hst,hr0,g1,g2,g3,g4⟩);have HGO:=zH (And.intro g5 g6);clear hst hr0 g1 g2 g3 g4 g5 g6;go_wp2_with fail
 go_loopg [20,21] (hi-lo) (fun c u v wr=>∃s e i j:Nat,lo<=s/\s<=e/\e<=hi/\c=e-s/\i=a+s/\j=a+e/\u= .int .i64 i/\v= .int .i64 j/\(s=lo\/∃x y,A[s-1]?=some x/\B[M-s]?=some y/\lt y x=false)/\(e=hi\/∃x y,A[e]?=some x/\B[M-e-1]?=some y/\lt y x=true)/\Sw w0 wr g T enc rest (P++(A++(B++S))))
 case atStart=>exact⟨lo,hi,st,r0,Nat.le_refl _,HG.out.2.2.1,Nat.le_refl _,rfl,HG.out.1,HG.out.2.1,rfl,rfl,Or.inl rfl,Or.inl rfl,HST0.out⟩
 case round=>as_aux_lemma=>
  clear HST0;obtain⟨s,e,i,j,hls,hse,heh,rfl,hi_,hj_,rfl,rfl,h1s,h2e,hst⟩:=hrel;have HST:=zH hst;have HI:=zH (And.intro hi_ (And.intro hj_ (And.intro hls heh)));have H1:=zH h1s;have H2:=zH h2e;clear hst h1s h2e;by_cases hlt0:s<e
  ·obtain⟨sq,h,c,ph,⟨k1,k2,k3,k4,k5,k6,k7,k8,k9⟩,hcc,q1,q2,q3,q4⟩:=sym_ar hsz HF.out HG.out hls heh hi_ hj_ hlt0
   have hij:(i:Int)<(j:Int):=by omega
   have f3:(i:Int)+(j:Int)=(sq:Int):=by omega
   have fu:IntKind.u64.wrap (sq:Int)=(sq:Int):=by rw[IntKind.wrap_u64];omega
   have fs:IntKind.i64.wrap (sq:Int)=(sq:Int):=by rw[IntKind.wrap_i64];omega
   have fh:IntKind.i64.wrap (h:Int)=(h:Int):=by rw[IntKind.wrap_i64];omega
   have fuh:IntKind.u64.wrap (h:Int)=(h:Int):=by rw[IntKind.wrap_u64];omega
   have f2:(sq:Int)/2=(h:Int):=by omega
   have f4:(p:Int)-(h:Int)=(ph:Int):=by omega
   have fp:IntKind.i64.wrap (ph:Int)=(ph:Int):=by rw[IntKind.wrap_i64];omega
   have bh:(h:Int)<(N:Int):=by omega
   have bp:(ph:Int)<(N:Int):=by omega
   have bi:i<=100000:=k8;obtain⟨x0,hx0⟩:∃z,A[c]?=some z:=⟨_,List.getElem?_eq_getElem q1⟩;obtain⟨y0,hy0⟩:∃z,B[M-c-1]?=some z:=⟨_,List.getElem?_eq_getElem q2⟩;have Hx0:=zH (show(P++(A++(B++S)))[h]?=some x0 by
    have q:=get_mid P A (B++S) c q1;rw[q3,hx0]at q;exact q)
   have Hy0:=zH (show(P++(A++(B++S)))[ph]?=some y0 by
    have q:=get_mid (P++A) B S (M-c-1) q2;rw[List.length_append,q4,hy0]at q;simpa using q)
   have HXA:=zH hx0;have HYB:=zH hy0;have HH:=zH hcc;clear hx0 hy0 hcc hi_ hj_ k1 k2 k3 k4 q1 q2 q3 q4;generalize hrow:P++(A++(B++S))=row at*
   clear hrow;go_upto_region 35 with fail
   refine wp_region_held_drew (S:=fun x=>Ext wr x) (by kernel_rfl) (Ext.refl _).drew (fun _=> ?_);refine zv 0 (bs 14 1) (Ext.refl _).drew ?_;refine zv 1 (bs 14 3) (Ext.refl _).drew ?_;refine zv 2 (bs 14 7) (Ext.refl _).drew ?_;refine zv 3 (bs 14 15) (Ext.refl _).drew ?_;refine zv 4 (bs 14 31) (Ext.refl _).drew ?_;refine zv 5 (bs 14 63) (Ext.refl _).drew ?_;refine md_range (i:=6) (listed':=(bs 14 127)) (by rfl) (by kernel_rfl) (by kernel_rfl) (by kernel_rfl) _ _ (by rfl) g (ph*8) (enc y0) _ (by intro _ _ _ h;exact h) (by rfl) (by rfl) (fun w1 hw1=>(HST.out.ext hw1).read Hy0.out hk) Tryz.underlying94 (by rfl) (by rw[hk];kernel_rfl) (Ext.refl _).drew (by kernel_rfl) ?_;try simp only[Act.put,zA,zB,zC]
   refine zv 7 (bs 14 255) (Ext.refl _).drew ?_;refine zv 8 (bs 14 511) (Ext.refl _).drew ?_;refine zv 9 (bs 14 1023) (Ext.refl _).drew ?_;refine md_range (i:=10) (listed':=(bs 14 2047)) (by rfl) (by kernel_rfl) (by kernel_rfl) (by kernel_rfl) _ _ (by rfl) g (h*8) (enc x0) _ (by intro _ _ _ h;exact h) (by rfl) (by rfl) (fun w1 hw1=>(HST.out.ext hw1).read Hx0.out hk) Tryz.underlying94 (by rfl) (by rw[hk];kernel_rfl) (Ext.refl _).drew (by kernel_rfl) ?_;try simp only[Act.put,zA,zB,zC]
   refine mC 11 (bs 14 4095) (HC.out _ ((HST.out.ext (Ext.refl _).drew).own) y0 x0) ?_;rintro e w2 ⟨z,rfl,hz,hx2⟩;have HX2:=zH (show Ext wr w2 from(Ext.refl _).drew.trans hx2);clear hx2;refine⟨_,rfl,HX2.out,?_⟩;try simp only[Act.put,zA,zB,zC]
   by_cases hlt:lt y0 x0=true
   ·as_aux_lemma=>
    have HLT:=zH hlt;have hz2:z<0:=hz.2 hlt;have hz3:decide (z<0)=true:=by simpa using hz2
    clear hz;refine zv 12 (bs 14 8191) HX2.out ?_;refine zv 13 (bs 14 16383) HX2.out ?_;refine wpAnyH_done (by kernel_rfl) ?_ _;clear hlt hz2 hz3;have HST:=zH (HST.out.ext HX2.out);go_wp2_with fail
    go_roundg (c-s)
    case measure=>have:=HH.out;omega
    case rel=>exact⟨s,c,i,h,hls,by have:=HH.out;omega,by have:=HH.out;omega,rfl,HI.out.1,by have:=HH.out;omega,rfl,rfl,H1.out,Or.inr ⟨x0,y0,HXA.out,HYB.out,HLT.out⟩,HST.out⟩
   as_aux_lemma=>
   have HLT:=zH (eq_false_of_ne_true hlt);have hz2:¬z<0:=fun h=>hlt (hz.1 h)
   have hz3:decide (z<0)=false:=by simpa using hz2
   clear hz;refine zv 12 (bs 14 8191) HX2.out ?_;refine zv 13 (bs 14 16383) HX2.out ?_;refine wpAnyH_done (by kernel_rfl) ?_ _;clear hlt hz2 hz3;have HST:=zH (HST.out.ext HX2.out);go_wp2_with fail
   go_roundg (e-(c+1))
   case measure=>have:=HH.out;omega
   case rel=>exact⟨c+1,e,h+1,j,by have:=HH.out;omega,by have:=HH.out;omega,heh,rfl,by have:=HH.out;omega,HI.out.2.1,by go_num,rfl,Or.inr ⟨x0,y0,HXA.out,by rw[show M-(c+1)=M-c-1 by omega];exact HYB.out,HLT.out⟩,H2.out,HST.out⟩
  as_aux_lemma=>
  obtain rfl:s=e:=by omega
  have hij:¬(i:Int)<(j:Int):=by omega
  obtain⟨r,en,⟨k1,k2,k3,k4,k5⟩,klen,kiff,keq,klt1,klt2⟩:=sym_ar2 hsz HF.out HG.out hls heh hi_;have HM:=zH (Stb.sym_split (lt:=lt) (s:=s) (r:=r) W HS.out.1 HS.out.2 (by
   rcases H1.out with h|⟨x,y,q1,q2,q3⟩
   ·rcases HGO.out.1 with q|q
    ·exact Or.inl (by omega)
    exact Or.inr (Or.inl (by omega))
   ·exact Or.inr (Or.inr ⟨x,y,q1,by rw[show r=M-s by omega];exact q2,q3⟩)) (by
   rcases H2.out with h|⟨x,y,q1,q2,q3⟩
   ·rcases HGO.out.2 with q|q
    ·exact Or.inr (Or.inl (by omega))
    exact Or.inl (by omega)
   exact Or.inr (Or.inr ⟨x,y,q1,by rw[show r-1=M-s-1 by omega];exact q2,q3⟩)))
  have e6:(n:Int)-(i:Int)=(en:Int):=by omega
  have wen:IntKind.i64.wrap (en:Int)=(en:Int):=by rw[IntKind.wrap_i64];omega
  have hAs:A.take s++A.drop s=A:=List.take_append_drop s A;have hBs:B.take r++B.drop r=B:=List.take_append_drop r B;have la1:(A.take s).length=s:=by rw[List.length_take];exact Nat.min_eq_left k4
  have la2:(A.drop s).length=A.length-s:=List.length_drop;have lb1:(B.take r).length=r:=by rw[List.length_take];exact Nat.min_eq_left k3
  have lb2:(B.drop r).length=B.length-r:=List.length_drop;have HLL:=zH (And.intro la1 (And.intro la2 (And.intro lb1 lb2)));have HKL:=zH klen;have HKI:=zH kiff;have HKE:=zH keq;have HLT:=zH (And.intro klt1 klt2);have HST2:=zH (show Sw w0 wr g T enc rest ((P++A.take s)++(A.drop s++(B.take r++(B.drop r++S))))by
   have h:=HST.out;rw[<-hAs,<-hBs]at h;simpa only[List.append_assoc]using h)
  have HN2:=zH (show((P++A.take s)++(A.drop s++(B.take r++(B.drop r++S)))).length=N by simp only[List.length_append,la1,la2,lb1,lb2];omega);have HSA:=zH (And.intro (Stb.srt_take HS.out.1 s) (And.intro (Stb.srt_drop HS.out.1 s) (And.intro (Stb.srt_take HS.out.2 r) (Stb.srt_drop HS.out.2 r))));have HE1:=zH (Stb.mrg_take_nil (lt:=lt) (A:=A) (B:=B) (s:=s) (r:=r));have HE2:=zH (Stb.mrg_drop_nil (lt:=lt) (A:=A) (B:=B) (s:=s) (r:=r));clear HST hi_ hj_ hAs hBs la1 la2 lb1 lb2 H1 H2 klen kiff keq klt1 klt2 k1 k2 k3 k4 hls heh hse;generalize A.take s=A1 at*
  generalize A.drop s=A2 at*
  generalize B.take r=B1 at*
  generalize B.drop r=B2 at*
  go_upto_region 39 with fail
  go_cut [185] (fun u wx=>u= .bool (decide (s<A.length/\0<r))/\wx=wr)
  case first=>as_aux_lemma=>
   by_cases c:s<A.length
   ·have c2:(i:Int)<(m:Int):=Int.ofNat_lt.2 (HKI.out.1.2 c)
    by_cases d:0<r
    ·have c3:(m:Int)<(en:Int):=Int.ofNat_lt.2 (HKI.out.2.1.2 d)
     go_wp2_with fail
     go_meet
     exact⟨by simp[c,d],rfl⟩
    have c3:¬(m:Int)<(en:Int):=fun h=>d (HKI.out.2.1.1 (Int.ofNat_lt.1 h))
    go_wp2_with fail
    go_meet
    exact⟨by simp[d],rfl⟩
   have c2:¬(i:Int)<(m:Int):=fun h=>c (HKI.out.1.1 (Int.ofNat_lt.1 h))
   have c4:decide ((i:Int)<(m:Int))=false:=decide_eq_false c2;go_wp2_with fail
   go_meet
   exact⟨by simp[c],rfl⟩
  obtain⟨rfl,rfl⟩:=hcut;go_upto_if 185 with fail
  go_cut [] (fun wx=>Sw w0 wx g T enc rest (P++(A1++(B1++(A2++(B2++S))))))
  case first=>as_aux_lemma=>
   by_cases c1:s<A.length/\0<r
   ·have cb:decide (s<A.length/\0<r)=true:=decide_eq_true c1
    have HR:=zH (rotate_any enc hk h1 w0 wc g cap i m en N T rest (P++A1) A2 B1 (B2++S) (.func (.func 108) #[] #[]) HST2.out (by rw[List.length_append,HLL.out.1];exact HKE.out.1) (by rw[HLL.out.2.1];exact HKE.out.2.1) (by rw[HLL.out.2.2.1];exact HKE.out.2.2.1) (ne_of_len (by rw[HLL.out.2.1];omega)) (ne_of_len (by rw[HLL.out.2.2.1];exact c1.2)) HN2.out hsz);generalize decide (s<A.length/\0<r)=bb at*
    subst cb;go_wp2_with (go_at_call 195;refine HR.out.mono ?_;rintro e w2 ⟨rfl,hs2⟩)
    go_meet
    simpa only[List.append_assoc]using hs2
   have cb:decide (s<A.length/\0<r)=false:=decide_eq_false c1;have HE:=zH (show(P++A1)++(A2++(B1++(B2++S)))=P++(A1++(B1++(A2++(B2++S))))by
    by_cases c:s<A.length
    ·have:B1=[]:=List.eq_nil_of_length_eq_zero (by rw[HLL.out.2.2.1];omega)
     rw[this];simp
    have:A2=[]:=List.eq_nil_of_length_eq_zero (by rw[HLL.out.2.1];omega);rw[this];simp)
   generalize decide (s<A.length/\0<r)=bb at*
   subst cb;go_wp2_with fail
   go_meet
   rw[<-HE.out];exact HST2.out
  have HST3:=zH hcut;clear hcut HST2;go_upto_region 41 with fail
  go_cut [199] (fun u wx=>u= .bool (decide (0<s/\0<r))/\wx=wc)
  case first=>as_aux_lemma=>
   by_cases c:0<s
   ·have c2:(a:Int)<(i:Int):=Int.ofNat_lt.2 (HKI.out.2.2.1.2 c)
    by_cases d:0<r
    ·have c3:(i:Int)<(mid:Int):=Int.ofNat_lt.2 (HKI.out.2.2.2.1.2 d)
     go_wp2_with fail
     go_meet
     exact⟨by simp[c,d],rfl⟩
    have c3:¬(i:Int)<(mid:Int):=fun h=>d (HKI.out.2.2.2.1.1 (Int.ofNat_lt.1 h))
    go_wp2_with fail
    go_meet
    exact⟨by simp[d],rfl⟩
   have c2:¬(a:Int)<(i:Int):=fun h=>c (HKI.out.2.2.1.1 (Int.ofNat_lt.1 h))
   have c4:decide ((a:Int)<(i:Int))=false:=decide_eq_false c2;go_wp2_with fail
   go_meet
   exact⟨by simp[c],rfl⟩
  obtain⟨rfl,rfl⟩:=hcut;go_upto_if 199 with fail
  go_cut [] (fun wx=>Sw w0 wx g T enc rest (P++(Stb.mrg lt A1 B1++(A2++(B2++S)))))
  case first=>as_aux_lemma=>
   by_cases c1:0<s/\0<r
   ·have cb:decide (0<s/\0<r)=true:=decide_eq_true c1
    have HR:=zH (HIH.out P A1 B1 (A2++(B2++S)) a i mid wc (ne_of_len (by rw[HLL.out.1];exact c1.1)) (ne_of_len (by rw[HLL.out.2.2.1];exact c1.2)) (by rw[HLL.out.1,HLL.out.2.2.1];exact HLT.out.1) HST3.out HKE.out.2.2.2.2.2.2.2.2 (by rw[HLL.out.1];exact HKE.out.2.2.2.1) (by rw[HLL.out.2.2.1];exact HKE.out.2.2.2.2.1) HSA.out.1 HSA.out.2.2.1 (by simp only[List.length_append,HLL.out.1,HLL.out.2.1,HLL.out.2.2.1,HLL.out.2.2.2];exact HKL.out));generalize decide (0<s/\0<r)=bb at*
    subst cb;go_wp2_with (go_at_call 177;refine HR.out.mono ?_;rintro e w2 ⟨rfl,hs2⟩)
    go_meet
    exact hs2
   have cb:decide (0<s/\0<r)=false:=decide_eq_false c1;have HE:=zH (HE1.out c1);generalize decide (0<s/\0<r)=bb at*
   subst cb;go_wp2_with fail
   go_meet
   rw[HE.out];have h:=HST3.out;simpa only[List.append_assoc]using h
  have HST4:=zH hcut;clear hcut HST3;have HLM:=zH (Stb.mrg_len (lt:=lt) A1 B1);have HR0:=zH (show P++(Stb.mrg lt A1 B1++(Stb.mrg lt A2 B2++S))=P++(Stb.mrg lt A B++S)by rw[HM.out,List.append_assoc]);go_upto_region 43 with fail
  go_cut [213] (fun u wx=>u= .bool (decide (s<A.length/\r<B.length))/\wx=wc)
  case first=>as_aux_lemma=>
   by_cases c:s<A.length
   ·have c2:(mid:Int)<(en:Int):=Int.ofNat_lt.2 (HKI.out.2.2.2.2.1.2 c)
    by_cases d:r<B.length
    ·have c3:(en:Int)<(b:Int):=Int.ofNat_lt.2 (HKI.out.2.2.2.2.2.2 d)
     go_wp2_with fail
     go_meet
     exact⟨by simp[c,d],rfl⟩
    have c3:¬(en:Int)<(b:Int):=fun h=>d (HKI.out.2.2.2.2.2.1 (Int.ofNat_lt.1 h))
    go_wp2_with fail
    go_meet
    exact⟨by simp[d],rfl⟩
   have c2:¬(mid:Int)<(en:Int):=fun h=>c (HKI.out.2.2.2.2.1.1 (Int.ofNat_lt.1 h))
   have c4:decide ((mid:Int)<(en:Int))=false:=decide_eq_false c2;go_wp2_with fail
   go_meet
   exact⟨by simp[c],rfl⟩
  obtain⟨rfl,rfl⟩:=hcut;by_cases c1:s<A.length/\r<B.length
  ·have cb:decide (s<A.length/\r<B.length)=true:=decide_eq_true c1
   have HR:=zH (HIH.out (P++Stb.mrg lt A1 B1) A2 B2 S mid en b wc (ne_of_len (by rw[HLL.out.2.1];omega)) (ne_of_len (by rw[HLL.out.2.2.2];omega)) (by rw[HLL.out.2.1,HLL.out.2.2.2];exact HLT.out.2) (by rw[List.append_assoc];exact HST4.out) (by rw[List.length_append,HLM.out,HLL.out.1,HLL.out.2.2.1];exact HKE.out.2.2.2.2.2.2.2.1) (by rw[HLL.out.2.1];exact HKE.out.2.2.2.2.2.1) (by rw[HLL.out.2.2.2];exact HKE.out.2.2.2.2.2.2.1) HSA.out.2.1 HSA.out.2.2.2 (by have h:=HKL.out;simp only[List.length_append,HLM.out,HLL.out.1,HLL.out.2.1,HLL.out.2.2.1,HLL.out.2.2.2];omega));generalize decide (s<A.length/\r<B.length)=bb at*
   subst cb;go_wp2_with (go_at_call 177;refine HR.out.mono ?_;rintro e w2 ⟨rfl,hs2⟩)
   go_end0
   exact⟨rfl,by rw[<-HR0.out,<-List.append_assoc P];exact hs2⟩
  have cb:decide (s<A.length/\r<B.length)=false:=decide_eq_false c1;have HE:=zH (HE2.out c1);generalize decide (s<A.length/\r<B.length)=bb at*
  subst cb;go_wp2_with fail
  go_end0
  exact⟨rfl,by rw[<-HR0.out,HE.out,List.append_assoc];exact HST4.out⟩
theorem symMerge_any {α:Type}(enc:α->List Value)(hk:∀x,(enc x).length=8)(h1:∀x,∀v,v∈enc x->v.oneCell'=true)(lt:α->α->Bool)(W:Stb.Wk lt)(w0:World)(g cap N:Nat)(T:TypeId)(rest:List Value)(hc:(∀wr,Own g w0 wr->∀x y:α,Calls Tryz.prog 108 #[.agg (enc x).toArray,.agg (enc y).toArray] wr fun e w'=>∃z:Int,e= .returned (.int .i64 z)/\(z<0↔lt x y=true)/\Ext wr w'))(hsz:N<=100000):
  ∀(n:Nat) (P A B S:List α) (a m b:Nat) (wr:World),A≠ []->B≠ []->A.length+B.length<=n->Sw w0 wr g T enc rest (P++(A++(B++S)))->P.length=a->a+A.length=m->m+B.length=b->Stb.Srt lt A->Stb.Srt lt B->(P++(A++(B++S))).length=N->Calls Tryz.prog 177 #[.slice (some ⟨g,0,none⟩) N cap,.int .i64 a,.int .i64 m,.int .i64 b,.func (.func 108) #[] #[]] wr fun e w'=>e= .returned (.tuple #[])/\Sw w0 w' g T enc rest (P++(Stb.mrg lt A B++S)):=by
 intro n;induction n with
 |zero=>intro P A B S a m b wr hA hB hl;exact absurd (List.eq_nil_of_length_eq_zero (by omega)) hA
 |succ n ih=>
  intro P A B S a m b wr hA0 hB0 hl hst ha hm hb hA hB hN;match A,hA0 with
  | [x],_=>exact symA_any enc hk h1 lt W w0 wr g cap a m b N T rest P B S x hc hst ha hm hb hB hN hsz
  |x::x2::A,hA0=>
   match B,hB0 with
   | [y],_=>exact symB_any enc hk h1 lt W w0 wr g cap a m b N T rest P (x::x2::A) S y hc hst ha hm hb (by simp) hA hN hsz
   |y::y2::B,hB0=>
    exact symC_any enc hk h1 lt W w0 wr g cap a m b N T rest P (x::x2::A) (y::y2::B) S hc (fun P' A' B' S' a' m' b' w' q1 q2 q3 q4 q5 q6 q7 q8 q9 q10=>ih P' A' B' S' a' m' b' w' q1 q2 (by omega) q4 q5 q6 q7 q8 q9 q10) hst ha hm hb hA0 hB0 (by simp) (by simp) hA hB hN hsz
theorem stable_any {α:Type}(enc:α->List Value)(hk:∀x,(enc x).length=8)(h1:∀x,∀v,v∈enc x->v.oneCell'=true)(lt:α->α->Bool)(W:Stb.Wk lt)(w0 w:World)(g cap N:Nat)(T:TypeId)(rest:List Value)(xs:List α)(hc:(∀wr,Own g w0 wr->∀x y:α,Calls Tryz.prog 108 #[.agg (enc x).toArray,.agg (enc y).toArray] wr fun e w'=>∃z:Int,e= .returned (.int .i64 z)/\(z<0↔lt x y=true)/\Ext wr w'))(hst:Sw w0 w g T enc rest xs)(hN:xs.length=N)(hsz:N<=20000):
  Calls Tryz.prog 149 #[.slice (some ⟨g,0,none⟩) N cap,.int .i64 N,.func (.func 108) #[] #[]] w fun e w'=>e= .returned (.tuple #[])/\Sw w0 w' g T enc rest (Stb.stab lt xs):=by
 have HC:=zH hc;have HST0:=zH hst;have HN:=zH hN;clear hst hc hN;go_enter Tryz.func149,Tryz.ntmps149
 go_wp2_with fail
 go_loopg [7,8] (N+20) (fun c u v wr=>∃(a b:Nat) (row:List α),b=a+20/\a<=N/\c=N+20-a/\u= .int .i64 a/\v= .int .i64 b/\Stb.Fst lt 20 a xs row/\Sw w0 wr g T enc rest row)
 case atStart=>exact⟨0,20,xs,rfl,Nat.zero_le _,rfl,rfl,rfl,Stb.Fst.start 20 xs,HST0.out⟩
 clear HST0;obtain⟨a,b,row,hb,haN,rfl,rfl,rfl,hf,hst⟩:=hrel;have HST:=zH hst;have HF:=zH hf;clear hst hf;by_cases hlt:b<=N
 ·have hlt2:(b:Int)<=(N:Int):=by omega
  obtain⟨P,X,S,rfl,hP,hX,hF2⟩:=HF.out.cut (by rw[HN.out];omega);have hlen:=HF.out.len;have HB:=zH (insertion_any enc hk h1 lt W w0 wr g cap a b N T rest P X S HC.out HST.out hP (by omega) (by rw[hlen,HN.out]) (by omega));have HF2:=zH hF2;clear hP hX hF2 hlen HST;obtain⟨b2,hb2⟩:∃b2,b2=b+20:=⟨_,rfl⟩;have e1:(b:Int)+20=(b2:Int):=by omega
  have wb:IntKind.i64.wrap (b2:Int)=(b2:Int):=by rw[IntKind.wrap_i64];omega
  have HB2:=zH (And.intro hb hb2);clear hb hb2;go_wp2_with (go_at_call 176;refine HB.out.mono ?_;rintro e w2 ⟨rfl,hs2⟩)
  go_roundg (N+20-b)
  case measure=>have:=HB2.out;omega
  case rel=>exact⟨b,b2,_,HB2.out.2,hlt,rfl,rfl,rfl,by rw[HB2.out.1];exact HF2.out,hs2⟩
 have hlt2:¬(b:Int)<=(N:Int):=by omega
 obtain⟨P,X,rfl,hP,hX,hF2⟩:=HF.out.last (by rw[HN.out];omega);have hlen:=HF.out.len;have HB:=zH (insertion_any enc hk h1 lt W w0 wr g cap a N N T rest P X [] HC.out HST.out hP (by rw[hX,HN.out]) (by rw[hlen,HN.out]) (by omega));have HF2:=zH hF2;clear hP hX hF2 hlen HST hb;go_wp2_with (go_at_call 176;refine HB.out.mono ?_;rintro e w2 ⟨rfl,hs2⟩)
 have HS2:=zH hs2;clear hs2 HB HF;go_loopg [6] (2*N) (fun c v wr=>∃(s:Nat) (row:List α),20<=s/\s<=2*N+20/\c=2*N+20-s/\v= .int .i64 s/\Stb.Blks lt s xs row/\Sw w0 wr g T enc rest row)
 case atStart=>exact⟨20,_,Nat.le_refl _,by omega,by omega,rfl,HF2.out,HS2.out⟩
 clear HS2 HF2 hlt2 hlt;obtain⟨s,row,hs20,hs2N,rfl,rfl,hf,hst⟩:=hrel;have HST:=zH hst;have HF:=zH hf;clear hst hf;by_cases hlt:s<N
 ·have hlt2:(s:Int)<(N:Int):=by omega
  obtain⟨d,hd⟩:∃d,d=2*s:=⟨_,rfl⟩;have e1:2*(s:Int)=(d:Int):=by omega
  have e1b:(s:Int)*2=(d:Int):=by omega
  have wd:IntKind.i64.wrap (d:Int)=(d:Int):=by rw[IntKind.wrap_i64];omega
  have HD:=zH hd;clear hd;go_wp2_with fail
  go_loopg [7,8] (N+d) (fun c u v wr=>∃(a b:Nat) (row:List α),b=a+d/\a<=N/\c=N+d-a/\u= .int .i64 a/\v= .int .i64 b/\Stb.Half lt s a xs row/\Sw w0 wr g T enc rest row)
  case atStart=>exact⟨0,d,row,by omega,Nat.zero_le _,rfl,rfl,rfl,HF.out.half,HST.out⟩
  clear HST HF;obtain⟨a,b,row2,hb,haN,rfl,rfl,rfl,hf,hst⟩:=hrel;have HST:=zH hst;have HF:=zH hf;clear hst hf;by_cases hlb:b<=N
  ·have hlb2:(b:Int)<=(N:Int):=by omega
   obtain⟨P,A,B,S,rfl,hP,hA,hB,hsA,hsB,hF2⟩:=HF.out.cut W (by omega) (by rw[HN.out];have:=HD.out;omega);have hlen:=HF.out.len;obtain⟨m,hm⟩:∃m,m=a+s:=⟨_,rfl⟩;have e2:(a:Int)+(s:Int)=(m:Int):=by omega
   have wm:IntKind.i64.wrap (m:Int)=(m:Int):=by rw[IntKind.wrap_i64];omega
   have HB:=zH (symMerge_any enc hk h1 lt W w0 g cap N T rest HC.out (by omega) _ P A B S a m b wr (ne_of_len (by omega)) (ne_of_len (by omega)) (Nat.le_refl _) HST.out hP (by rw[hA,hm]) (by have:=HD.out;omega) hsA hsB (by rw[hlen,HN.out]));obtain⟨b2,hb2⟩:∃b2,b2=b+d:=⟨_,rfl⟩;have e3:(b:Int)+(d:Int)=(b2:Int):=by omega
   have wb:IntKind.i64.wrap (b2:Int)=(b2:Int):=by rw[IntKind.wrap_i64];omega
   have HB2:=zH (And.intro hb hb2);have HF2:=zH hF2;clear hP hA hB hsA hsB hF2 hlen HST hb hb2 hm;go_wp2_with (go_at_call 177;refine HB.out.mono ?_;rintro e w2 ⟨rfl,hs2⟩)
   go_roundg (N+d-b)
   case measure=>have:=HB2.out;omega
   case rel=>exact⟨b,b2,_,HB2.out.2,hlb,rfl,rfl,rfl,by rw[HB2.out.1,HD.out];exact HF2.out,hs2⟩
  have hlb2:¬(b:Int)<=(N:Int):=by omega
  obtain⟨m,hm⟩:∃m,m=a+s:=⟨_,rfl⟩;have e2:(a:Int)+(s:Int)=(m:Int):=by omega
  have wm:IntKind.i64.wrap (m:Int)=(m:Int):=by rw[IntKind.wrap_i64];omega
  by_cases hmN:m<N
  ·have hmN2:(m:Int)<(N:Int):=by omega
   obtain⟨P,A,B,rfl,hP,hA,hB,hsA,hsB,hF2⟩:=HF.out.last W (by rw[HN.out];have:=HD.out;omega) (by rw[HN.out];omega);have hlen:=HF.out.len;rw[HN.out]at hB;have HB:=zH (symMerge_any enc hk h1 lt W w0 g cap N T rest HC.out (by omega) _ P A B [] a m N wr (ne_of_len (by omega)) (ne_of_len (by omega)) (Nat.le_refl _) HST.out hP (by rw[hA,hm]) (by omega) hsA hsB (by rw[hlen,HN.out]));have HF2:=zH hF2;clear hP hA hB hsA hsB hF2 hlen HST hb hm;go_wp2_with (go_at_call 177;refine HB.out.mono ?_;rintro e w2 ⟨rfl,hs2⟩)
   go_roundg (2*N+20-d)
   case measure=>have:=HD.out;omega
   case rel=>exact⟨d,_,by have:=HD.out;omega,by have:=HD.out;omega,rfl,rfl,by rw[HD.out];exact HF2.out,hs2⟩
  have hmN2:¬(m:Int)<(N:Int):=by omega
  have HF2:=zH (HF.out.none (by rw[HN.out];have:=HD.out;omega) (by rw[HN.out];omega));clear hb hm;go_wp2_with fail
  go_roundg (2*N+20-d)
  case measure=>have:=HD.out;omega
  case rel=>exact⟨d,_,by have:=HD.out;omega,by have:=HD.out;omega,rfl,rfl,by rw[HD.out];exact HF2.out,HST.out⟩
 have hlt2:¬(s:Int)<(N:Int):=by omega
 have HR:=zH (HF.out.all (by rw[HN.out];omega));go_wp2_with fail
 go_end0
 exact⟨rfl,by rw[<-HR.out];exact HST.out⟩
theorem sortStable_any {α:Type}(enc:α->List Value)(hk:∀x,(enc x).length=8)(h1:∀x,∀v,v∈enc x->v.oneCell'=true)(lt:α->α->Bool)(W:Stb.Wk lt)(w0 w:World)(g cap N:Nat)(T:TypeId)(rest:List Value)(xs:List α)(hc:(∀wr,Own g w0 wr->∀x y:α,Calls Tryz.prog 108 #[.agg (enc x).toArray,.agg (enc y).toArray] wr fun e w'=>∃z:Int,e= .returned (.int .i64 z)/\(z<0↔lt x y=true)/\Ext wr w'))(hst:Sw w0 w g T enc rest xs)(hN:xs.length=N)(hsz:N<=20000):
  Calls Tryz.prog 107 #[.slice (some ⟨g,0,none⟩) N cap,.func (.func 108) #[] #[]] w fun e w'=>e= .returned (.tuple #[])/\Sw w0 w' g T enc rest (Stb.stab lt xs):=by
 have HB:=zH (stable_any enc hk h1 lt W w0 w g cap N T rest xs hc hst hN hsz);clear hc hst hN;go_enter Tryz.func107,Tryz.ntmps107
 go_wp2_with (go_at_call 149;refine HB.out.mono ?_;rintro e w2 ⟨rfl,hs2⟩)
 go_end0
 exact⟨rfl,hs2⟩
theorem insertion_none (v c:Value)(w:World):Calls Tryz.prog 176 #[v,.int .i64 0,.int .i64 0,c] w fun e w'=>e= .returned (.tuple #[])/\w=w':=by
  go_enter Tryz.func176,Tryz.ntmps176
  go_wp2_with fail
  refine wp_loop_rounds 1 ?_;rw[rounds_succ];go_wp2_with fail
  go_end0
  exact⟨rfl,rfl⟩
theorem stable_none (v c:Value)(w:World):Calls Tryz.prog 149 #[v,.int .i64 0,c] w fun e w'=>e= .returned (.tuple #[])/\w=w':=by
  go_enter Tryz.func149,Tryz.ntmps149
  go_wp2_with fail
  refine wp_loop_rounds 1 ?_;rw[rounds_succ];go_wp2_with (go_at_call 176;refine(insertion_none _ _ _).mono ?_;rintro e w2 ⟨rfl,rfl⟩)
  refine wp_loop_rounds 1 ?_;rw[rounds_succ];go_wp2_with fail
  go_end0
  exact⟨rfl,rfl⟩
theorem sortStable_none (A:Option Addr)(cap:Nat)(c:Value)(w:World):Calls Tryz.prog 107 #[.slice A 0 cap,c] w fun e w'=>e= .returned (.tuple #[])/\w=w':=by
  go_enter Tryz.func107,Tryz.ntmps107
  go_wp2_with (go_at_call 149;refine(stable_none _ _ _).mono ?_;rintro e w2 ⟨rfl,rfl⟩)
  go_end0
  exact⟨rfl,rfl⟩
end Go.Proofs.YtngikkggjidenabGreat.spn
namespace Go.Proofs.YtngikkggjidenabGreat
open Go.RowKit
abbrev QQ:=Rat×Rat
def some2 (ps:List QQ):List QQ:=ps.filter fun p=>decide (p.1<p.2)
def ltQ (a b:QQ):Bool:=decide (a.1<b.1)
def mstep (out:List QQ)(s:QQ):List QQ:=match out.getLast? with
  |none=>out++[s]
  |some l=>if l.2<s.1 then out++[s]else if l.2<s.2 then out.dropLast++[(l.1,s.2)]else out
def sortedV (ps:List QQ):List QQ:=Stb.stab ltQ (some2 ps)
def mergeV (ps:List QQ):List QQ:=(sortedV ps).foldl mstep []
theorem some2_succ {ps:List QQ}{k:Nat}{p:QQ}(h:ps[k]?=some p):some2 (ps.take (k+1))=if p.1<p.2 then some2 (ps.take k)++[p]else some2 (ps.take k):=by
  obtain⟨hk,rfl⟩:=List.getElem?_eq_some_iff.1 h;unfold some2;rw[List.take_succ_eq_append_getElem hk,List.filter_append];by_cases hp:ps[k].1<ps[k].2
  · rw[if_pos hp];simp[hp]
  rw[if_neg hp];simp[hp]
theorem mstep_fold {l:List QQ}{k:Nat}{p:QQ}(h:l[k]?=some p):(l.take (k+1)).foldl mstep []=mstep ((l.take k).foldl mstep []) p:=by
  obtain⟨hk,rfl⟩:=List.getElem?_eq_some_iff.1 h;rw[List.take_succ_eq_append_getElem hk,List.foldl_append];rfl
theorem mstep_len (out:List QQ)(s:QQ):(mstep out s).length<=out.length+1:=by
  unfold mstep;split
  · simp
  split
  · simp
  split
  · simp
    try omega
  omega
theorem fold_len (l:List QQ)(k:Nat):((l.take k).foldl mstep []).length<=k:=by
  induction k with
  |zero=>simp
  | succ k ih=>
    by_cases h:k<l.length
    · rw[mstep_fold (List.getElem?_eq_getElem h)]
      have:=mstep_len ((l.take k).foldl mstep []) l[k];omega
    rw[List.take_of_length_le (by omega)];rw[List.take_of_length_le (by omega)]at ih;omega
theorem ins_map {α β:Type}(f:α->β){lt:α->α->Bool}{lt':β->β->Bool}(h:∀x y,lt x y=lt' (f x) (f y))(l:List α)(y:α):(Stb.ins lt l y).map f=Stb.ins lt' (l.map f) (f y):=by
  induction l with
  |nil=>rfl
  | cons x l ih=>
    rw[Stb.ins,List.map_cons,Stb.ins,<-h];split
    · rfl
    rw[List.map_cons,ih]
theorem stab_map {α β:Type}(f:α->β){lt:α->α->Bool}{lt':β->β->Bool}(h:∀x y,lt x y=lt' (f x) (f y))(l:List α):(Stb.stab lt l).map f=Stb.stab lt' (l.map f):=by
  induction l using Stb.rev_rec with
  |nil=>rfl
  |snoc l y ih=>rw[Stb.stab_snoc,ins_map f h,ih,List.map_append];exact(Stb.stab_snoc _ _).symm
theorem wkQ {α:Type}(f:α->Rat):Stb.Wk (fun x y:α=>decide (f x<f y)):=by
  refine⟨fun x y h=> ?_,fun x y z h1 h2=> ?_⟩
  · rw[decide_eq_true_iff]at h
    rw[decide_eq_false_iff_not];intro h2;grind
  rw[decide_eq_false_iff_not]at h1 h2⊢;grind
theorem infoSp:(Tryz.prog.info? 94).map (fun i=>(i.zero,i.size,i.bytes))=some (some (.agg z8),8,128):=by kernel_rfl
theorem noUL_zsp:NoUL (Value.agg z8).cells.toList:=by intro x hx k;simp[Value.cells]at hx;rcases hx with rfl|rfl|rfl|rfl|rfl|rfl|rfl|rfl<;>simp
theorem new_cells (w:World)(cs:List Value)(t:TypeId):∀(j:Nat) (u:Value),cs[j]?=some u->(w.alloc (.cells cs.toArray t)).cell? ((⟨w.heap.size,0,none⟩:Addr).add j)=some u:=by
  intro j u hj;have e3:(⟨w.heap.size,0,none⟩:Addr).add j=⟨w.heap.size,j,none⟩:=by
    unfold Addr.add;by_cases hz:j=0
    · rw[if_pos hz,hz]
    rw[if_neg hz];simp
  rw[e3,(Blk.new w t cs.toArray).cell j,List.getElem?_toArray];exact hj
theorem SpR.snoc {L:Nat}{w w':World}{base g cap n:Nat}{v:Value}{es:List SpE}{e:SpE}(h:SpR L w base v es)(hn:es.length=n)(he:e.Ok L w)(h2:RowN w' base 94 8 (.slice (some ⟨g,0,none⟩) (n+1) cap) (n+1) (spCells es++e.cells))
    (h4:∀(r:RV) (q:Rat),r.Is w q->r.Is w' q):SpR L w' base (.slice (some ⟨g,0,none⟩) (n+1) cap) (es++[e]):=by
  subst hn;refine⟨by rw[spCells_snoc,List.length_append];exact h2,fun x hx=> ?_⟩;rcases List.mem_append.1 hx with hx|hx
  · exact(h.2 x hx).map h4
  simp at hx;rw[hx];exact he.map h4
theorem grown_of_ext {a b:World}(row:Option Nat)(h:Ext a b):a.grownBy b row:=⟨h.os,h.tape,h.output,h.size,fun i hi _=>h.block i hi⟩
theorem ext_grown {a b c:World}{row:Option Nat}(h:Ext a b)(k:b.grownBy c row):a.grownBy c row:=
  ⟨k.os.trans h.os,k.tape.trans h.tape,k.output.trans h.output,Nat.le_trans h.size k.size,fun i hi hn=>(k.block i (Nat.lt_of_lt_of_le hi h.size) hn).trans (h.block i hi)⟩
theorem sp_far {L:Nat}{w:World}{base X:Nat}{v:Value}{es:List SpE}(h:SpR L w base v es)(hX:w.heap.size<=X):v.ownBlock≠some X:=by
  intro e;rcases h.form with⟨rfl,_⟩|⟨g,cap,rest,rfl,_,hs,_⟩
  · simp[Value.ownBlock]at e
  simp[Value.ownBlock]at e;have:=hs.blk.lt;omega
theorem row_slice {w:World}{base:Nat}{e:TypeId}{size:Nat}{v:Value}{n:Nat}{xs:List Value}(h:RowN w base e size v n xs):∃A c,v= .slice A n c:=by
  obtain⟨_,⟨rfl,hz⟩|⟨gv,cap,rest,rfl,_⟩⟩:=h
  · exact⟨none,0,by rw[hz]⟩
  exact⟨_,cap,rfl⟩
def ltE (e f:SpE):Bool:=decide (e.p<f.p)
theorem noU_row {es:List SpE}{rest:List Value}(h:NoUL rest):NoU (spCells es++rest).toArray:=by
  refine noU_of _ fun v hv x=> ?_
  rcases List.mem_append.1 hv with hv|hv
  · exact noUL_sp es v hv x
  exact h v hv x
theorem flat_val {L:Nat}{w:World}:∀xs:List {e:SpE//e.Ok L w},xs.flatMap (fun x=>x.1.cells)=spCells (xs.map Subtype.val)
  | []=>rfl
  |x::xs=>by rw[List.flatMap_cons,flat_val xs];rfl
theorem sortSp_any (L:Nat)(v:Value)(es:List SpE)(base:Nat)(w:World)(h:SpR L w base v es)(hL:L<=60000)(hn:es.length<=20000):
  Calls Tryz.prog 107 #[v,.func (.func 108) #[] #[]] w fun e w'=>
   e= .returned (.tuple #[])/\SpR L w' base v (Stb.stab ltE es)/\w.grownBy w' v.ownBlock:=by
 rcases h.form with⟨rfl,rfl⟩|⟨g,cap,rest,rfl,hb,hs,hc1,hc2,hc3,hc4⟩
 ·refine(spn.sortStable_none none 0 _ w).mono ?_
  rintro e w' ⟨rfl,rfl⟩;exact⟨rfl,h,World.grownBy.refl _ _⟩
 have hxs:∃xs:List {e:SpE//e.Ok L w},xs.map Subtype.val=es:=by
  have h2:=h.2;clear h hs hc1 hc3 hn;induction es with
  |nil=>exact⟨[],rfl⟩
  |cons e es ih=>
   obtain⟨xs,hx⟩:=ih (fun f hf=>h2 f (by simp[hf]));exact⟨⟨e,h2 e (by simp)⟩::xs,by rw[List.map_cons,hx]⟩
 obtain⟨xs,rfl⟩:=hxs;have hnu:NoU (spCells (xs.map Subtype.val)++rest).toArray:=noU_row hc4;have hlen:xs.length=(xs.map Subtype.val).length:=by rw[List.length_map]
 refine(spn.sortStable_any (fun x: {e:SpE//e.Ok L w}=>x.1.cells) (fun _=>rfl) (fun x=>x.1.one) (fun x y=>decide (x.1.p<y.1.p)) (wkQ fun x: {e:SpE//e.Ok L w}=>x.1.p) w w g cap _ 94 rest xs (fun wr o x y=> ?_) ⟨by rw[flat_val];exact hs.blk,Own.refl _ _⟩ hlen hn).mono ?_
 ·have hx:x.1.Ok L wr:=x.2.map fun r q hr=>hr.own hs.blk hnu o
  have hy:y.1.Ok L wr:=y.2.map fun r q hr=>hr.own hs.blk hnu o
  refine(mergeCmp_any L _ _ _ _ _ _ wr hx.ptIn hy.ptIn (by omega)).mono ?_;rintro e w' ⟨rfl,hx2⟩;exact⟨_,rfl,by rw[decide_eq_true_iff];exact rcmp_lt,hx2⟩
 rintro e w' ⟨rfl,hs2⟩;have hm:(Stb.stab (fun x y: {e:SpE//e.Ok L w}=>decide (x.1.p<y.1.p)) xs).map Subtype.val=Stb.stab ltE (xs.map Subtype.val):=stab_map Subtype.val (lt':=ltE) (fun _ _=>rfl) xs;have hl2:(Stb.stab ltE (xs.map Subtype.val)).length=(xs.map Subtype.val).length:=Stb.stab_len _;refine⟨rfl,⟨⟨spCells_length _,Or.inr ⟨g,cap,rest,by rw[hl2],hb,?_,by rw[hl2];exact hc1,hc2,?_,?_⟩⟩,fun e he=> ?_⟩,?_⟩
 ·have h3:=hs2.blk
  rw[flat_val,hm]at h3;exact h3
 ·rw[spCells_length,hl2,<-spCells_length];exact hc3
 ·exact(noUL_sp _).app hc4
 ·rw[<-hm]at he
  obtain⟨x,_,rfl⟩:=List.mem_map.1 he;exact x.2.map fun r q hr=>hr.own hs.blk hnu hs2.own
 show w.grownBy w' (Value.ownBlock _);have:=hs2.own;simpa[Value.ownBlock,Own]using this
theorem half (e:SpE):e.cells=[.bool e.a.n,.slice e.a.p e.a.l e.a.c,.bool e.a.m,.slice e.a.p2 e.a.l2 e.a.c2]++[.bool e.b.n,.slice e.b.p e.b.l e.b.c,.bool e.b.m,.slice e.b.p2 e.b.l2 e.b.c2]:=rfl
theorem SpR.turn {L:Nat}{w:World}{base g cap n:Nat}{es:List SpE}{l e:SpE}(h:SpR L w base (.slice (some ⟨g,0,none⟩) (n+1) cap) (es++[l]))(hn:es.length=n)(he:e.Ok L w):
  w.there g (n*8+4) 4/\SpR L (w.setCells g (n*8+4) [.bool e.b.n,.slice e.b.p e.b.l e.b.c,.bool e.b.m,.slice e.b.p2 e.b.l2 e.b.c2]) base (.slice (some ⟨g,0,none⟩) (n+1) cap) (es++[⟨l.a,e.b,l.p,e.q⟩])/\
   Own g w (w.setCells g (n*8+4) [.bool e.b.n,.slice e.b.p e.b.l e.b.c,.bool e.b.m,.slice e.b.p2 e.b.l2 e.b.c2]):=by
 obtain⟨hl,⟨hv,_⟩|⟨g',cap',rest,hv,hb,hg,h3,h4,h5,h6⟩⟩:=h.1
 ·cases hv
 injection hv with e1 e2 e3
 injection e1 with e1
 injection e1 with e1
 subst e1 e3;have hcells:spCells (es++[l])++rest=(spCells es++[.bool l.a.n,.slice l.a.p l.a.l l.a.c,.bool l.a.m,.slice l.a.p2 l.a.l2 l.a.c2])++([.bool l.b.n,.slice l.b.p l.b.l l.b.c,.bool l.b.m,.slice l.b.p2 l.b.l2 l.b.c2]++rest):=by
  rw[spCells_snoc,half];simp
 have hlA:(spCells es++([.bool l.a.n,.slice l.a.p l.a.l l.a.c,.bool l.a.m,.slice l.a.p2 l.a.l2 l.a.c2]:List Value)).length=n*8+4:=by rw[List.length_append,spCells_length,hn];rfl
 have hnu:NoU (spCells (es++[l])++rest).toArray:=noU_row h6.right;have hg0:=hg;rw[hcells]at hg;have ht:=hg.therePart (n*8+4) 4 (by rw[List.length_append,hlA];simp);have hp:=hg.setMid [.bool e.b.n,.slice e.b.p e.b.l e.b.c,.bool e.b.m,.slice e.b.p2 e.b.l2 e.b.c2] (by rfl);rw[hlA]at hp;have ho:Own g w (w.setCells g (n*8+4) [.bool e.b.n,.slice e.b.p e.b.l e.b.c,.bool e.b.m,.slice e.b.p2 e.b.l2 e.b.c2]):=Own.setCells_l _ _ (Own.refl _ _);refine⟨ht,⟨⟨spCells_length _,Or.inr ⟨g,cap,rest,by rw[List.length_append,hn];rfl,hb,?_,by rw[List.length_append]at h3⊢;exact h3,h4,?_,(noUL_sp _).app h6.right⟩⟩,fun x hx=> ?_⟩,ho⟩
 ·have e5:spCells (es++[⟨l.a,e.b,l.p,e.q⟩])++rest=(spCells es++[.bool l.a.n,.slice l.a.p l.a.l l.a.c,.bool l.a.m,.slice l.a.p2 l.a.l2 l.a.c2])++([.bool e.b.n,.slice e.b.p e.b.l e.b.c,.bool e.b.m,.slice e.b.p2 e.b.l2 e.b.c2]++rest):=by
   rw[spCells_snoc,half];simp
  rw[e5];exact hp
 ·rw[spCells_length,List.length_append]at h5⊢;exact h5
 have hmap:∀x:SpE,x.Ok L w->x.Ok L (w.setCells g (n*8+4) [.bool e.b.n,.slice e.b.p e.b.l e.b.c,.bool e.b.m,.slice e.b.p2 e.b.l2 e.b.c2]):=fun x hx=>hx.map fun r q hr=>hr.own hg0 hnu ho
 rcases List.mem_append.1 hx with hx|hx
 ·exact hmap x (h.2 x (by simp[hx]))
 simp at hx;rw[hx];have hl1:=hmap l (h.2 l (by simp));have he1:=hmap e he;exact⟨hl1.1,he1.2.1,hl1.2.2.1,he1.2.2.2⟩
theorem SpR.grown {L:Nat}{w w':World}{base:Nat}{v:Value}{es:List SpE}{row:Option Nat}(h:SpR L w base v es)(hg:w.grownBy w' row)(hne:∀j,v.ownBlock=some j->row≠some j)(hm:∀(r:RV) (q:Rat),r.Is w q->r.Is w' q):SpR L w' base v es:=by
  refine⟨?_,fun e he=>(h.2 e he).map hm⟩;obtain⟨hl,⟨hv,hz⟩|⟨g,cap,rest,rfl,hb,hB,h3⟩⟩:=h.1
  · exact⟨hl,Or.inl ⟨hv,hz⟩⟩
  exact⟨hl,Or.inr ⟨g,cap,rest,rfl,hb,hB.grown hg (hne g (by simp[Value.ownBlock])),h3⟩⟩
theorem SpR.lt {L:Nat}{w:World}{base:Nat}{v:Value}{es:List SpE}(h:SpR L w base v es):∀j,v.ownBlock=some j->j<w.heap.size:=fun _ hj=>Nat.lt_of_not_le fun hn=>sp_far h hn hj
theorem SpR.rowNoU {L:Nat}{w:World}{base g n cap:Nat}{es:List SpE}(h:SpR L w base (.slice (some ⟨g,0,none⟩) n cap) es):∃cs:Array Value,Blk w g 94 cs/\NoU cs:=by
  obtain⟨hl,⟨hv,_⟩|⟨g',cap',rest,hv,hb,hB,h3,h4,h5,h6⟩⟩:=h.1
  · cases hv
  injection hv with e1 _ _
  injection e1 with e1
  injection e1 with e1
  subst e1;exact⟨_,hB,noU_row h6.right⟩
theorem mstep_nil (s:QQ):mstep [] s=[s]:=rfl
theorem mstep_app (os:List QQ)(l s:QQ):mstep (os++[l]) s=if l.2<s.1 then os++[l]++[s]else if l.2<s.2 then os++[(l.1,s.2)]else os++[l]:=by
  unfold mstep;rw[List.getLast?_concat];simp only[List.dropLast_concat]
theorem snoc_or {α:Type}(l:List α):l=[]\/∃l' x,l=l'++[x]:=by
  rcases List.eq_nil_or_concat l with h|⟨a,b,h⟩
  · exact Or.inl h
  exact Or.inr ⟨a,b,by simpa using h⟩
theorem SpR.readEnd {L:Nat}{w:World}{base g cap n:Nat}{es:List SpE}{l:SpE}(h:SpR L w base (.slice (some ⟨g,0,none⟩) (n+1) cap) (es++[l]))(hn:es.length=n):
  w.rangeAt g (n*8+4) [.bool l.b.n,.slice l.b.p l.b.l l.b.c,.bool l.b.m,.slice l.b.p2 l.b.l2 l.b.c2]:=by
 rcases h.form with⟨hv,_⟩|⟨g',cap',rest,hv,_,hs,_⟩
 ·cases hv
 injection hv with e1 _ _
 injection e1 with e1
 injection e1 with e1
 subst e1;have hr:=hs.read (i:=n) (x:=l) (by rw[List.getElem?_append_right (by omega),hn,Nat.sub_self];rfl) SpE.len;intro j u hj;have hr2:=hr (4+j) u (by
  rw[half,List.getElem?_append_right (by simp)];simpa using hj)
 rw[Nat.add_assoc];exact hr2
theorem NIn.ofb {L:Nat}{w:World}{e:SpE}(h:e.Ok L w):NIn L w ([.bool e.b.n,.slice e.b.p e.b.l e.b.c,.bool e.b.m,.slice e.b.p2 e.b.l2 e.b.c2]:List Value).toArray e.q:=⟨e.b,rfl,h.2.1.isIn h.2.2.2⟩
theorem SpR.set {L:Nat}{w:World}{base g cap n i:Nat}{es:List SpE}{e:SpE}(h:SpR L w base (.slice (some ⟨g,0,none⟩) n cap) es)(hi:i<es.length)(he:e.Ok L w):
  w.there g (i*8) 8/\SpR L (w.setCells g (i*8) e.cells) base (.slice (some ⟨g,0,none⟩) n cap) (es.set i e)/\Own g w (w.setCells g (i*8) e.cells):=by
 obtain⟨hl,⟨hv,_⟩|⟨g',cap',rest,hv,hb,hB,h3,h4,h5,h6⟩⟩:=h.1
 ·cases hv
 injection hv with e1 e2 e3
 injection e1 with e1
 injection e1 with e1
 subst e1 e3;have hs:Sw w w g 94 SpE.cells rest es:=Sw.refl hB;have hp:=hs.put hi SpE.len e;have ho:Own g w (w.setCells g (i*8) e.cells):=hp.own;have hnu:NoU (spCells es++rest).toArray:=noU_row h6.right;have hmap:∀x:SpE,x.Ok L w->x.Ok L (w.setCells g (i*8) e.cells):=fun x hx=>hx.map fun r q hr=>hr.own hB hnu ho
 refine⟨hs.there hi SpE.len,⟨⟨spCells_length _,Or.inr ⟨g,cap,rest,by rw[List.length_set,<-e2],hb,hp.blk,by rw[List.length_set];exact h3,h4,by rw[spCells_length,List.length_set,<-spCells_length];exact h5,(noUL_sp _).app h6.right⟩⟩,fun x hx=> ?_⟩,ho⟩;rcases List.mem_or_eq_of_mem_set hx with hx|rfl
 ·exact hmap x (h.2 x hx)
 exact hmap x he
theorem SpR.read {L:Nat}{w:World}{base g n cap i:Nat}{es:List SpE}{e:SpE}(h:SpR L w base (.slice (some ⟨g,0,none⟩) n cap) es)(he:es[i]?=some e):w.rangeAt g (i*8) e.cells:=by
  rcases h.form with⟨hv,_⟩|⟨g',cap',rest,hv,_,hs,_⟩
  · cases hv
  injection hv with e1 _ _
  injection e1 with e1
  injection e1 with e1
  subst e1;exact hs.read he SpE.len
theorem SpansV.at {L:Nat}{w:World}{v:Value}{ps:List QQ}(h:SpansV L w v ps){k:Nat}{p:QQ}(hp:ps[k]?=some p):
  ∃(g off cap:Nat) (e:SpE),v= .slice (some ⟨g,off,none⟩) ps.length cap/\w.rangeAt g (off+k*8) e.cells/\e.a.In L w p.1/\e.b.In L w p.2:=by
 obtain⟨A,cap,rfl,h2⟩:=h;obtain⟨g,off,rfl,h4⟩:=h2 (by have:=(List.getElem?_eq_some_iff.1 hp).1;omega);obtain⟨cs,h5,a,b,h6,h7,h8⟩:=h4 k p hp;have e:cs=SpE.cells ⟨a,b,p.1,p.2⟩:=by
  exact congrArg Array.toList h6
 exact⟨g,off,cap,⟨a,b,p.1,p.2⟩,rfl,by rw[<-e];exact h5,h7,h8⟩
theorem SpR.same {L:Nat}{w:World}{base g n cap n2 cap2:Nat}{es:List SpE}(h:SpR L w base (.slice (some ⟨g,0,none⟩) n cap) es)(hn:n=n2)(hc:cap=cap2):SpR L w base (.slice (some ⟨g,0,none⟩) n2 cap2) es:=by subst hn hc;exact h
theorem SpR.mono {L:Nat}{w:World}{base base':Nat}{v:Value}{es:List SpE}(h:SpR L w base v es)(hb:base'<=base):SpR L w base' v es:=by
  refine⟨?_,h.2⟩;obtain⟨hl,⟨hv,hz⟩|⟨g,cap,rest,rfl,h2,h3⟩⟩:=h.1
  · exact⟨hl,Or.inl ⟨hv,hz⟩⟩
  exact⟨hl,Or.inr ⟨g,cap,rest,rfl,Nat.le_trans hb h2,h3⟩⟩
theorem flat_snoc {α:Type}(f:α->List Value)(es:List α)(e:α):es.flatMap f++f e=(es++[e]).flatMap f:=by simp
theorem range_part {w:World}{g o:Nat}{cs:List Value}(h:w.rangeAt g o cs)(k n:Nat):w.rangeAt g (o+k) ((cs.drop k).take n):=by
  intro j v hv;have hj:j<n:=by
    have:=(List.getElem?_eq_some_iff.1 hv).1;rw[List.length_take]at this;omega
  rw[List.getElem?_take_of_lt hj,List.getElem?_drop]at hv;have:=h (k+j) v hv;rw[show o+(k+j)=o+k+j by omega]at this;exact this
theorem cell_of_range {w:World}{g o:Nat}{v:Value}{cs:List Value}(h:w.rangeAt g o (v::cs)):w.cell? ⟨g,o,none⟩=some v:=by
  have:=h 0 v rfl;simpa using this
theorem rcmp_eq_i {q r:Rat}:rcmp q r=0↔q=r:=rcmp_eq
theorem rl_i64 (k:Int)(h1: -9223372036854775808<=k)(h2:k<=9223372036854775807):Nm.rl (k:Rat)<=2:=by
  unfold Nm.rl;rw[Rat.num_intCast,Rat.den_intCast];have h1:Nm.nl k.natAbs<=2:=Nm.nl_le (by omega);have h2:Nm.nl 1<=1:=Nm.nl_le (by decide);omega
theorem Hp.add2 {w0 wb w:World}{m:List Ent}{X Y:Nat}{T U:TypeId}{zs us:List Value}(h:Hp w0 wb m)(x:Ext wb w)(B1:Blk w X T zs.toArray)(B2:Blk w Y U us.toArray)(z1:wb.heap.size<=X)(z2:wb.heap.size<=Y)(hne:X≠Y)(n1:NoUL zs)(n2:NoUL us):
  Hp w0 w (m++[.blk X T zs]++[.blk Y U us]):=by
 have h1:=h.addBlk x B1 z1 n1;refine h1.add ⟨Nat.le_trans h.ext.size z2,B2,n2⟩ (fun i f hf k hk e=> ?_);injection e with e
 rcases Nat.lt_trichotomy i m.length with hl|hl|hl
 ·rw[List.getElem?_append_left hl]at hf
  have:=h.lt hf hk;omega
 ·subst hl
  rw[List.getElem?_append_right (Nat.le_refl _)]at hf;simp at hf;subst hf;injection hk with hk
  omega
 rw[List.getElem?_append_right (Nat.le_of_lt hl),List.getElem?_eq_none (by simp;omega)]at hf;cases hf
theorem md_alloc2 {P:Program}{l:List Oper}{Q:Exit->Act->World->Prop}{md:Region.Mode}{S:World->Prop}{i j:Nat}{oi oj:Oper}{fuel:Nat}{listed li lj lij:Array Bool}{a:Act}{w w0:World}{m:List Ent}{T U:TypeId}{zs us:List Value}
  (hi:l[i]?=some oi)(hj:l[j]?=some oj)(hr:Region.ready md l.toArray listed=[i,j])(hli:listed.setIfInBounds i true=li)(hlj:listed.setIfInBounds j true=lj)(hri:Region.ready md l.toArray li=[j])(hrj:Region.ready md l.toArray lj=[i])
  (hlij:li.setIfInBounds j true=lij)(hlji:lj.setIfInBounds i true=lij)(hgi:oi.guard=none)(hgj:oj.guard=none)(hd:∀d,oj.dst=some d->oi.dst≠some d)
  (hvi:∀(ρ:Operand->Value) (x:World),(execOp ρ oi).run P x= .ok (.value (.pointer (some ⟨x.heap.size,0,none⟩))) (x.alloc (.cells zs.toArray T)))
  (hvj:∀(ρ:Operand->Value) (x:World),(execOp ρ oj).run P x= .ok (.value (.pointer (some ⟨x.heap.size,0,none⟩))) (x.alloc (.cells us.toArray U)))
  (hS:∀x y,S x->Ext x y->S y)(hSw:S w)(hH:Hp w0 w m)(hn1:NoUL zs)(hn2:NoUL us)
  (h:∀X Y w',Hp w0 w' (m++[.blk X T zs]++[.blk Y U us])->Ext w w'->w.heap.size<=X->w.heap.size<=Y->S w'->wpAnyH P md l.toArray Q S fuel lij ((a.put oi.dst (.pointer (some ⟨X,0,none⟩))).put oj.dst (.pointer (some ⟨Y,0,none⟩))) w'):
  wpAnyH P md l.toArray Q S (fuel+1+1) listed a w:=by
 have hwi:∀b:Act,Region.wanted oi (yielded l.toArray b.tmps)=true:=fun b=>by simp[Region.wanted,hgi]
 have hwj:∀b:Act,Region.wanted oj (yielded l.toArray b.tmps)=true:=fun b=>by simp[Region.wanted,hgj]
 have x1:Ext w (w.alloc (.cells zs.toArray T)):=(Ext.refl w).alloc _;have x2:Ext w (w.alloc (.cells us.toArray U)):=(Ext.refl w).alloc _;have y1:Ext (w.alloc (.cells zs.toArray T)) ((w.alloc (.cells zs.toArray T)).alloc (.cells us.toArray U)):=(Ext.refl _).alloc _;have y2:Ext (w.alloc (.cells us.toArray U)) ((w.alloc (.cells us.toArray U)).alloc (.cells zs.toArray T)):=(Ext.refl _).alloc _;refine md_two hi hj hr (hwi a) (hvi _ w) (hS _ _ hSw x1) hli (hwj a) (hvj _ w) (hS _ _ hSw x2) hlj ?_ ?_
 ·refine md_one hj hri (hwj _) (hvj _ _) (hS _ _ (hS _ _ hSw x1) y1) hlij ?_
  exact h _ _ _ (hH.add2 (x1.trans y1) ((Blk.new w T zs.toArray).ext y1) (Blk.new _ U us.toArray) (Nat.le_refl _) x1.size (by simp) hn1 hn2) (x1.trans y1) (Nat.le_refl _) x1.size (hS _ _ (hS _ _ hSw x1) y1)
 refine md_one hi hrj (hwi _) (hvi _ _) (hS _ _ (hS _ _ hSw x2) y2) hlji ?_;have h2:=h _ _ _ (hH.add2 (x2.trans y2) (Blk.new _ T zs.toArray) ((Blk.new w U us.toArray).ext y2) x2.size (Nat.le_refl _) (by simp) hn1 hn2) (x2.trans y2) x2.size (Nat.le_refl _) (hS _ _ (hS _ _ hSw x2) y2);rw[Act.put_comm a _ _ hd];exact h2
theorem elSpan:ElT Tryz.prog 72 94 8 128:=ElT.of (z:= .agg z8) Tryz.underlying72 (by kernel_rfl) rfl (by simp[NoUL,Value.cells]) (by decide)
theorem elRat:ElT Tryz.prog 76 33 4 64:=ElT.of (z:= .agg z4) Tryz.underlying76 (by kernel_rfl) rfl (by simp[NoUL,Value.cells]) (by decide)
theorem elMark:ElT Tryz.prog 95 98 5 72:=ElT.of (z:= .agg #[.bool false,.slice none 0 0,.bool false,.slice none 0 0,.int .i64 0]) Tryz.underlying95 (by kernel_rfl) rfl (by simp[NoUL,Value.cells]) (by decide)
theorem elPP:ElT Tryz.prog 102 109 4 32:=ElT.of (z:= .agg #[.int .i64 0,.int .i64 0,.int .i64 0,.int .i64 0]) Tryz.underlying102 (by kernel_rfl) rfl (by simp[NoUL,Value.cells]) (by decide)
abbrev rc (r:RV):List Value:=[.bool r.n,.slice r.p r.l r.c,.bool r.m,.slice r.p2 r.l2 r.c2]
abbrev rz:List Value:=[.bool false,.slice none 0 0,.bool false,.slice none 0 0]
abbrev ro {α:Type}(t:TypeId)(s:Nat)(A:Option Addr)(n c:Nat)(f:α->List Value)(es:List α):Ent:= .row t s (.slice A n c) n (List.flatMap f es)
def Hat (m:List Ent)(g:Nat)(cs:List Value):Prop:=∃(i:Nat) (t:TypeId),m[i]?=some (.blk g t cs)
def Stp (P:Program)(ops:Array Oper)(w0 w:World)(m:List Ent)(op:Oper)(a:Act)(_v:Value)(a':Act):Prop:=Hp w0 w m->∀(Q:Exit->Act->World->Prop) (rest:List Oper),wpList P ops Q rest a' w->wpList P ops Q (op::rest) a w
def SD (P:Program)(md:Region.Mode)(l:List Oper)(Q:Exit->Act->World->Prop)(w0 b:World)(m:List Ent)(i:Nat)(listed:Array Bool)(a:Act)(_v:Value)(a':Act):Prop:=Hp w0 b m->∀(fuel:Nat) (w:World),Ext b w->wpAnyH P md l.toArray Q (fun x=>Ext b x) fuel (listed.setIfInBounds i true) a' w->wpAnyH P md l.toArray Q (fun x=>Ext b x) (fuel+1) listed a w
section
variable {P:Program} {ops:Array Oper} {rest:List Oper} {op:Oper} {a:Act} {a':Act} {w:World} {Q:Exit->Act->World->Prop} {ty:TypeId} {x:Operand} {l:List Oper} {md:Region.Mode} {b:World} {oi:Oper} {fuel:Nat} {listed:Array Bool} {o:Oper} {t:TypeId} {t':TypeId} {y:Operand} {g:Nat} {w0:World} {m:List Ent} {m':List Ent} {cs:List Value} {v:Value} {o1:Oper} {a1:Act} {o2:Oper} {a2:Act} {o3:Oper} {a3:Act} {o4:Oper} {a4:Act} {o5:Oper} {a5:Act} {a6:Act} {a7:Act} {i:Nat}
theorem zd {d:TypeDesc}(g o:Nat)(cs:List Value)(hb:w.rangeAt g o cs)(hu:P.underlying ty=some d)(h:wpList P ops Q rest a' w)(hw:Region.wanted op (yielded ops a.tmps)=true:=by rfl)(ho:op.op= .load ty x:=by rfl)(hx:a.eval x= .pointer (some ⟨g,o,none⟩):=by rfl)(hd:d.isRow=true:=by rfl)(hz:(P.info? ty).map (·.size)=some cs.length:=by kernel_rfl)(ha:a.put op.dst (.agg cs.toArray)=a':=by simp only[Act.put,zA,zB,zC]<;>rfl):wpList P ops Q (op::rest) a w:=by subst ha;exact mv_ld hw ty x ho g o cs hx hb hu hd hz h
theorem ze (g o:Nat)(v:Value)(hb:w.rangeAt g o [v])(h:wpList P ops Q rest a' w)(hw:Region.wanted op (yielded ops a.tmps)=true:=by rfl)(hv:∀x:World,x.cell? ⟨g,o,none⟩=some v->(execOp a.eval op).run P x= .ok (.value v) x:=by intro x hq;(try simp only[Nat.mul_one]at hq);go_simp<;>with_reducible rfl)(ha:a.put op.dst v=a':=by simp only[Act.put,zA,zB,zC]<;>rfl):wpList P ops Q (op::rest) a w:=by subst ha;exact mv_ld1 hw (cell_of_range hb) hv h
theorem zg (i:Nat)(listed':Array Bool){d:TypeDesc}(g o:Nat)(cs:List Value)(hb:b.rangeAt g o cs)(hu:P.underlying ty=some d)(hS:Ext b w)(h:wpAnyH P md l.toArray Q (fun x=>Ext b x) fuel listed' a' w)(hi:l[i]?=some oi:=by rfl)(hs:Region.noSelect l.toArray=true:=by kernel_rfl)(hf:Region.free md l.toArray listed i=true:=by kernel_rfl)(hr:(Region.ready md l.toArray listed).contains i=true:=by kernel_rfl)(ho:oi.op= .load ty x:=by rfl)(hQ:∀c a w,Q (.panic c) (a.put oi.dst (.agg cs.toArray)) w->Q (.panic c) a w:=by intro _ _ _ h;exact h)(hw:Region.wanted oi (yielded l.toArray a.tmps)=true:=by rfl)(hx:a.eval x= .pointer (some ⟨g,o,none⟩):=by rfl)(hd:d.isRow=true:=by rfl)(hz:(P.info? ty).map (·.size)=some cs.length:=by kernel_rfl)(hl:listed.setIfInBounds i true=listed':=by kernel_rfl)(ha:a.put oi.dst (.agg cs.toArray)=a':=by simp only[Act.put,zA,zB,zC]<;>rfl):wpAnyH P md l.toArray Q (fun x=>Ext b x) (fuel+1) listed a w:=by subst ha;exact md_range hi hs hf hr ty x ho g o cs d hQ hw hx (fun x hx=>range_ext hb hx) hu hd hz hS hl h
theorem ez1 {ρ:Operand->Value}{A:Int}{B:Int}{E:Int}(h: -9223372036854775808<=E/\E<=9223372036854775807)(ho:o.op= .binOp .add t x y t':=by rfl)(hx:ρ x= .int .i64 A:=by rfl)(hy:ρ y= .int .i64 B:=by rfl)(hE:A+B=E:=by first|rfl|omega):(execOp ρ o).run P w= .ok (.value (.int .i64 E)) w:=ev_add ho hx hy hE h.1 h.2
theorem ez2 {ρ:Operand->Value}{A:Int}{B:Int}{E:Int}(h: -9223372036854775808<=E/\E<=9223372036854775807)(ho:o.op= .binOp .sub t x y t':=by rfl)(hx:ρ x= .int .i64 A:=by rfl)(hy:ρ y= .int .i64 B:=by rfl)(hE:A-B=E:=by first|rfl|omega):(execOp ρ o).run P w= .ok (.value (.int .i64 E)) w:=ev_sub ho hx hy hE h.1 h.2
theorem ez3 {ρ:Operand->Value}{A:Int}{B:Int}{E:Int}(h: -9223372036854775808<=E/\E<=9223372036854775807)(ho:o.op= .binOp .mul t x y t':=by rfl)(hx:ρ x= .int .i64 A:=by rfl)(hy:ρ y= .int .i64 B:=by rfl)(hE:A*B=E:=by first|rfl|omega):(execOp ρ o).run P w= .ok (.value (.int .i64 E)) w:=ev_mul ho hx hy hE h.1 h.2
theorem ezl {ρ:Operand->Value}{A:Int}{B:Int}{b:Bool}(ho:o.op= .binOp .lss t x y t':=by rfl)(hx:ρ x= .int .i64 A:=by rfl)(hy:ρ y= .int .i64 B:=by rfl)(e:decide (A<B)=b):(execOp ρ o).run P w= .ok (.value (.bool b)) w:=ev_lss ho hx hy e
theorem eze {ρ:Operand->Value}{A:Int}{B:Int}{b:Bool}(ho:o.op= .binOp .leq t x y t':=by rfl)(hx:ρ x= .int .i64 A:=by rfl)(hy:ρ y= .int .i64 B:=by rfl)(e:decide (A<=B)=b):(execOp ρ o).run P w= .ok (.value (.bool b)) w:=ev_leq ho hx hy e
theorem ezg {ρ:Operand->Value}{A:Int}{B:Int}{b:Bool}(ho:o.op= .binOp .gtr t x y t':=by rfl)(hx:ρ x= .int .i64 A:=by rfl)(hy:ρ y= .int .i64 B:=by rfl)(e:decide (B<A)=b):(execOp ρ o).run P w= .ok (.value (.bool b)) w:=ev_gtr ho hx hy e
theorem ezo {ρ:Operand->Value}{A:Int}{B:Int}{b:Bool}(ho:o.op= .binOp .geq t x y t':=by rfl)(hx:ρ x= .int .i64 A:=by rfl)(hy:ρ y= .int .i64 B:=by rfl)(e:decide (B<=A)=b):(execOp ρ o).run P w= .ok (.value (.bool b)) w:=ev_geq ho hx hy e
theorem ezq {ρ:Operand->Value}{A:Int}{B:Int}{b:Bool}(ho:o.op= .binOp .eql t x y t':=by rfl)(hx:ρ x= .int .i64 A:=by rfl)(hy:ρ y= .int .i64 B:=by rfl)(e:decide (A=B)=b):(execOp ρ o).run P w= .ok (.value (.bool b)) w:=ev_eql ho hx hy e
theorem ezn {ρ:Operand->Value}{A:Int}{B:Int}{b:Bool}(ho:o.op= .binOp .neq t x y t':=by rfl)(hx:ρ x= .int .i64 A:=by rfl)(hy:ρ y= .int .i64 B:=by rfl)(e:decide (A≠B)=b):(execOp ρ o).run P w= .ok (.value (.bool b)) w:=ev_neq ho hx hy e
theorem ezi {ρ:Operand->Value}{off:Nat}{n:Nat}{c:Nat}{k:Nat}{size:Nat}{off':Nat}{z:Int}{e:TypeId}(ht:P.underlying t=some (.slice e))(ho:o.op= .indexAddr t x y:=by rfl)(hs:(P.info? e).map (·.size)=some size:=by kernel_rfl)(hx:ρ x= .slice (some ⟨g,off,none⟩) n c:=by rfl)(hy:ρ y= .int .i64 z:=by rfl)(hz:z=(k:Int):=by omega)(l:k<n)(f:off'=off+k*size):(execOp ρ o).run P w= .ok (.value (.pointer (some ⟨g,off',none⟩))) w:=ev_index ho ht hs hx hy hz l f
theorem zy {id:Nat}(h:wpAnyH P .any ops Q (fun x=>Ext w x) ops.size (Array.replicate ops.size false) a w.drew)(hm:P.follows .mixedOrders=true:=by kernel_rfl):(Code.region id ops true).wp P Q a w:=wp_region_held_drew (S:=fun x=>Ext w x) hm (Ext.refl _).drew (fun _=>h)
theorem zn {d:Option Nat}{u:Value}(h:wpList P ops Q rest a' w)(ha:a.put d u=a':=by simp only[Act.put,zA,zB,zC]<;>rfl):∃v,Ending.returned u= .returned v/\wpList P ops Q rest (a.put d v) w:=⟨u,rfl,by rw[ha];exact h⟩
theorem zm {S:World->Prop}{lt:Array Bool}{d:Option Nat}{u:Value}(hS:S w)(h:wpAnyH P md l.toArray Q S fuel lt a' w)(ha:a.put d u=a':=by simp only[Act.put,zA,zB,zC]<;>rfl):∃v,Ending.returned u= .returned v/\S w/\wpAnyH P md l.toArray Q S fuel lt (a.put d v) w:=⟨u,rfl,hS,by rw[ha];exact h⟩
theorem zb:Ext w w.drew:=(Ext.refl _).drew
theorem zc {f:FuncId}{args:Array Value}{Φ:Ending->World->Prop}(hc:Calls P f args w Φ)(h:∀e w',Φ e w'->∃v,e= .returned v/\wpList P ops Q rest (a.put op.dst v) w')(hw:Region.wanted op (yielded ops a.tmps)=true:=by rfl)(hv:(execOp a.eval op).run P w= .ok (.enter f args) w:=by go_simp):wpList P ops Q (op::rest) a w:=mv_call hw hv hc h
theorem aA {m':Nat->List Ent}{a':Nat->Act}(T:TypeId)(zs:List Value)(H:Hp w0 w m)(h:∀X w',Hid (Hp w0 w' (m' X))->Ext w w'->w.heap.size<=X->wpList P ops Q rest (a' X) w')(hw:Region.wanted op (yielded ops a.tmps)=true:=by rfl)(hv:(execOp a.eval op).run P w= .ok (.value (.pointer (some ⟨w.heap.size,0,none⟩))) (w.alloc (.cells zs.toArray T)):=by (try simp only[rz,rc]);go_simp)(hn:NoUL zs:=by simp[NoUL,rz,rc])(hm:∀X,m++[.blk X T zs]=m' X:=by intro X;(try simp only[List.cons_append,List.nil_append]);rfl)(ha:∀X,a.put op.dst (.pointer (some ⟨X,0,none⟩))=a' X:=by intro X;(try simp only[Act.put,zA,zB,zC]);rfl):wpList P ops Q (op::rest) a w:=mv_alloc hw hv H hn fun X w' hh hx hg=>by rw[ha];exact h X w' (zH (hm X▸hh)) hx hg
theorem aA' {m':Nat->List Ent}{a':Nat->Act}(T:TypeId)(zs:List Value)(H:Hp w0 w m)(h:∀X w',Hid (Hp w0 w' (m' X))->Hid (Dig w w')->wpList P ops Q rest (a' X) w')(hw:Region.wanted op (yielded ops a.tmps)=true:=by rfl)(hv:(execOp a.eval op).run P w= .ok (.value (.pointer (some ⟨w.heap.size,0,none⟩))) (w.alloc (.cells zs.toArray T)):=by (try simp only[rz,rc]);go_simp)(hn:NoUL zs:=by simp[NoUL,rz,rc])(hm:∀X,m++[.blk X T zs]=m' X:=by intro X;(try simp only[List.cons_append,List.nil_append]);rfl)(ha:∀X,a.put op.dst (.pointer (some ⟨X,0,none⟩))=a' X:=by intro X;(try simp only[Act.put,zA,zB,zC]);rfl):wpList P ops Q (op::rest) a w:=mv_alloc hw hv H hn fun X w' hh hx _=>by rw[ha];exact h X w' (zH (hm X▸hh)) (zH (Dig.of_ext hx))
theorem aL {m':Nat->List Ent}{a':Nat->Act}(n:Nat)(T:TypeId)(zs:List Value)(H:Hp w0 w m)(h:∀X w',Hid (Hp w0 w' (m' X))->Ext w w'->w.heap.size<=X->wpList P ops Q rest (a' X) w')(hw:Region.wanted op (yielded ops a.tmps)=true:=by rfl)(hv:(execOp a.eval op).run P w= .ok (.value (.slice (some ⟨w.heap.size,0,none⟩) n n)) (w.alloc (.cells zs.toArray T)):=by (try simp only[rz,rc]);go_simp)(hn:NoUL zs:=by simp[NoUL,rz,rc])(hm:∀X,m++[.blk X T zs]=m' X:=by intro X;(try simp only[List.cons_append,List.nil_append]);rfl)(ha:∀X,a.put op.dst (.slice (some ⟨X,0,none⟩) n n)=a' X:=by intro X;(try simp only[Act.put,zA,zB,zC]);rfl):wpList P ops Q (op::rest) a w:=mv_lit hw hv H hn fun X w' hh hx hg=>by rw[ha];exact h X w' (zH (hm X▸hh)) hx hg
theorem aL' {m':Nat->List Ent}{a':Nat->Act}(n:Nat)(T:TypeId)(zs:List Value)(H:Hp w0 w m)(h:∀X w',Hid (Hp w0 w' (m' X))->Hid (Dig w w')->wpList P ops Q rest (a' X) w')(hw:Region.wanted op (yielded ops a.tmps)=true:=by rfl)(hv:(execOp a.eval op).run P w= .ok (.value (.slice (some ⟨w.heap.size,0,none⟩) n n)) (w.alloc (.cells zs.toArray T)):=by (try simp only[rz,rc]);go_simp)(hn:NoUL zs:=by simp[NoUL,rz,rc])(hm:∀X,m++[.blk X T zs]=m' X:=by intro X;(try simp only[List.cons_append,List.nil_append]);rfl)(ha:∀X,a.put op.dst (.slice (some ⟨X,0,none⟩) n n)=a' X:=by intro X;(try simp only[Act.put,zA,zB,zC]);rfl):wpList P ops Q (op::rest) a w:=mv_lit hw hv H hn fun X w' hh hx _=>by rw[ha];exact h X w' (zH (hm X▸hh)) (zH (Dig.of_ext hx))
theorem aS (ix:Nat)(vs:List Value)(H:Hp w0 w m)(h:∀w',Hid (Hp w0 w' m')->Dig w w'->Own g w w'->wpList P ops Q rest a' w')(hw:Region.wanted op (yielded ops a.tmps)=true:=by rfl)(ho:op.op= .store ty x y:=by rfl)(hi:m[ix]?=some (.blk g t cs):=by rfl)(hx:a.eval x= .pointer (some ⟨g,0,none⟩):=by rfl)(hy:a.eval y= .agg vs.toArray:=by rfl)(hl:cs.length=vs.length:=by rfl)(hz:(P.info? ty).map (·.size)=some vs.length:=by kernel_rfl)(h1:∀v,v∈vs->v.oneCell'=true:=by simp[Value.oneCell',rc,rz])(hn:NoUL vs:=by simp[NoUL,rz,rc])(hm:m.set ix (.blk g t (vs))=m':=by (try simp only[List.set_cons_succ,List.set_cons_zero]);rfl)(ha:a.put op.dst undef=a':=by (try simp only[Act.put]);rfl):wpList P ops Q (op::rest) a w:=mv_st hw ty x y ho H hi 0 vs hx hy (Nat.le_of_eq (by rw[Nat.zero_add];exact hl.symm)) hz h1 hn fun w' hh hd hq=>by rw[ha];exact h w' (zH (hm▸(show Hp _ _ _ from(by have e:cs.take 0++vs++cs.drop (0+vs.length)=vs:=(by rw[List.take_zero,List.nil_append,Nat.zero_add,List.drop_eq_nil_of_le (Nat.le_of_eq hl),List.append_nil]);rw[e]at hh;exact hh)))) hd hq
theorem aS' (ix:Nat)(vs:List Value)(H:Hp w0 w m)(h:∀w',Hid (Hp w0 w' m')->Hid (Dig w w')->wpList P ops Q rest a' w')(hw:Region.wanted op (yielded ops a.tmps)=true:=by rfl)(ho:op.op= .store ty x y:=by rfl)(hi:m[ix]?=some (.blk g t cs):=by rfl)(hx:a.eval x= .pointer (some ⟨g,0,none⟩):=by rfl)(hy:a.eval y= .agg vs.toArray:=by rfl)(hl:cs.length=vs.length:=by rfl)(hz:(P.info? ty).map (·.size)=some vs.length:=by kernel_rfl)(h1:∀v,v∈vs->v.oneCell'=true:=by simp[Value.oneCell',rc,rz])(hn:NoUL vs:=by simp[NoUL,rz,rc])(hm:m.set ix (.blk g t (vs))=m':=by (try simp only[List.set_cons_succ,List.set_cons_zero]);rfl)(ha:a.put op.dst undef=a':=by (try simp only[Act.put]);rfl):wpList P ops Q (op::rest) a w:=mv_st hw ty x y ho H hi 0 vs hx hy (Nat.le_of_eq (by rw[Nat.zero_add];exact hl.symm)) hz h1 hn fun w' hh hd hq=>by rw[ha];exact h w' (zH (hm▸(show Hp _ _ _ from(by have e:cs.take 0++vs++cs.drop (0+vs.length)=vs:=(by rw[List.take_zero,List.nil_append,Nat.zero_add,List.drop_eq_nil_of_le (Nat.le_of_eq hl),List.append_nil]);rw[e]at hh;exact hh)))) (zH hd)
theorem aU (ix:Nat)(v:Value)(H:Hp w0 w m)(h:∀w',Hid (Hp w0 w' m')->Dig w w'->Own g w w'->wpList P ops Q rest a' w')(hw:Region.wanted op (yielded ops a.tmps)=true:=by rfl)(ho:op.op= .store ty x y:=by rfl)(hi:m[ix]?=some (.blk g t cs):=by rfl)(hx:a.eval x= .pointer (some ⟨g,0,none⟩):=by rfl)(hy:a.eval y=v:=by rfl)(hl:cs.length=1:=by rfl)(hz:(P.info? ty).map (·.size)=some 1:=by kernel_rfl)(hc:v.cells=#[v]:=by simp[Value.cells])(h1:v.oneCell'=true:=by simp[Value.oneCell'])(hn:NoUL [v]:=by simp[NoUL,rz,rc])(hm:m.set ix (.blk g t ([v]))=m':=by (try simp only[List.set_cons_succ,List.set_cons_zero]);rfl)(ha:a.put op.dst undef=a':=by (try simp only[Act.put]);rfl):wpList P ops Q (op::rest) a w:=mv_st1 hw ty x y ho H hi 0 v hx hy (Nat.le_of_eq (by rw[Nat.zero_add];exact hl.symm)) hz hc h1 hn fun w' hh hd hq=>by rw[ha];exact h w' (zH (hm▸(show Hp _ _ _ from(by have e:cs.take 0++[v]++cs.drop (0+1)=[v]:=(by rw[List.take_zero,List.nil_append,Nat.zero_add,List.drop_eq_nil_of_le (Nat.le_of_eq hl),List.append_nil]);rw[e]at hh;exact hh)))) hd hq
theorem aU' (ix:Nat)(v:Value)(H:Hp w0 w m)(h:∀w',Hid (Hp w0 w' m')->Hid (Dig w w')->wpList P ops Q rest a' w')(hw:Region.wanted op (yielded ops a.tmps)=true:=by rfl)(ho:op.op= .store ty x y:=by rfl)(hi:m[ix]?=some (.blk g t cs):=by rfl)(hx:a.eval x= .pointer (some ⟨g,0,none⟩):=by rfl)(hy:a.eval y=v:=by rfl)(hl:cs.length=1:=by rfl)(hz:(P.info? ty).map (·.size)=some 1:=by kernel_rfl)(hc:v.cells=#[v]:=by simp[Value.cells])(h1:v.oneCell'=true:=by simp[Value.oneCell'])(hn:NoUL [v]:=by simp[NoUL,rz,rc])(hm:m.set ix (.blk g t ([v]))=m':=by (try simp only[List.set_cons_succ,List.set_cons_zero]);rfl)(ha:a.put op.dst undef=a':=by (try simp only[Act.put]);rfl):wpList P ops Q (op::rest) a w:=mv_st1 hw ty x y ho H hi 0 v hx hy (Nat.le_of_eq (by rw[Nat.zero_add];exact hl.symm)) hz hc h1 hn fun w' hh hd hq=>by rw[ha];exact h w' (zH (hm▸(show Hp _ _ _ from(by have e:cs.take 0++[v]++cs.drop (0+1)=[v]:=(by rw[List.take_zero,List.nil_append,Nat.zero_add,List.drop_eq_nil_of_le (Nat.le_of_eq hl),List.append_nil]);rw[e]at hh;exact hh)))) (zH hd)
theorem bS (ix:Nat)(i:Nat)(lt:Array Bool)(vs:List Value)(H:Hp w0 w m)(hS:Ext b w)(hG:b.heap.size<=g)(h:∀w',Hid (Hp w0 w' m')->Hid (Dig w w')->Hid (Ext b w')->wpAnyH P md l.toArray Q (fun x=>Ext b x) fuel lt a' w')(hli:l[i]?=some oi:=by rfl)(hr:Region.ready md l.toArray listed=[i]:=by kernel_rfl)(hw:Region.wanted oi (yielded l.toArray a.tmps)=true:=by rfl)(hlt:listed.setIfInBounds i true=lt:=by kernel_rfl)(ho:oi.op= .store ty x y:=by rfl)(hi:m[ix]?=some (.blk g t cs):=by rfl)(hx:a.eval x= .pointer (some ⟨g,0,none⟩):=by rfl)(hy:a.eval y= .agg vs.toArray:=by rfl)(hl:cs.length=vs.length:=by rfl)(hz:(P.info? ty).map (·.size)=some vs.length:=by kernel_rfl)(h1:∀v,v∈vs->v.oneCell'=true:=by simp[Value.oneCell',rc,rz])(hn:NoUL vs:=by simp[NoUL,rz,rc])(hm:m.set ix (.blk g t (vs))=m':=by (try simp only[List.set_cons_succ,List.set_cons_zero]);rfl)(ha:a.put oi.dst undef=a':=by (try simp only[Act.put]);rfl):wpAnyH P md l.toArray Q (fun x=>Ext b x) (fuel+1) listed a w:=md_st hli hr hw hlt ty x y ho H hi 0 vs hx hy (Nat.le_of_eq (by rw[Nat.zero_add];exact hl.symm)) hz h1 hn fun w' hh hd hq=>⟨Own.ext hq hS hG,by rw[ha];exact h w' (zH (hm▸(show Hp _ _ _ from(by have e:cs.take 0++vs++cs.drop (0+vs.length)=vs:=(by rw[List.take_zero,List.nil_append,Nat.zero_add,List.drop_eq_nil_of_le (Nat.le_of_eq hl),List.append_nil]);rw[e]at hh;exact hh)))) (zH hd) (zH (Own.ext hq hS hG))⟩
theorem Hat.h:Hat (.blk g t cs::m) g cs:=⟨0,t,rfl⟩
theorem Hat.tl {e:Ent}(h:Hat m g cs):Hat (e::m) g cs:=by obtain⟨i,t,h⟩:=h;exact⟨i+1,t,h⟩
theorem Sk (hn:Region.wanted op (yielded ops a.tmps)=false:=by rfl)(ha:a.put op.dst undef=a':=by (try simp only[Act.put,zA,zB,zC]);rfl):Stp P ops w0 w m op a undef a':=fun _ _ _ h=>by subst ha;exact mv_skip hn h
theorem Sq (hw:Region.wanted op (yielded ops a.tmps)=true:=by rfl)(hv:(execOp a.eval op).run P w= .ok (.value v) w:=by go_simp<;>with_reducible rfl)(ha:a.put op.dst v=a':=by (try simp only[Act.put,zA,zB,zC]);rfl):Stp P ops w0 w m op a v a':=fun _ _ _ h=>by subst ha;exact mv_val hw hv h
theorem Sd {o:Nat}(hw:Region.wanted op (yielded ops a.tmps)=true:=by rfl)(ho:op.op= .load ty x:=by rfl)(hx:a.eval x= .pointer (some ⟨g,o,none⟩):=by rfl)(hi:Hat m g cs:=by repeat (first|exact Hat.h|apply Hat.tl))(ho0:o=0:=by rfl)(hd:(P.underlying ty).map (·.isRow)=some true:=by decide+kernel)(hz:(P.info? ty).map (·.size)=some cs.length:=by kernel_rfl)(ha:a.put op.dst (.agg cs.toArray)=a':=by (try simp only[Act.put,zA,zB,zC]);rfl):Stp P ops w0 w m op a (.agg cs.toArray) a':=fun H _ _ h=>by
  subst ha;subst ho0;obtain⟨i,t,hi⟩:=hi;cases hu:P.underlying ty with
  |none=>rw[hu]at hd;cases hd
  |some d=>
  have hr:=H.range hi 0 cs.length;rw[List.drop_zero,List.take_length]at hr;exact mv_ld hw ty x ho g 0 cs hx hr hu (by rw[hu]at hd;exact Option.some.inj hd) hz h
theorem Se {o:Nat}(hw:Region.wanted op (yielded ops a.tmps)=true:=by rfl)(_ho:op.op= .load ty x:=by rfl)(_hx:a.eval x= .pointer (some ⟨g,o,none⟩):=by rfl)(hi:Hat m g cs:=by repeat (first|exact Hat.h|apply Hat.tl))(hc:cs[o]?=some v:=by rfl)(hv:∀x:World,x.cell? ⟨g,o,none⟩=some v->(execOp a.eval op).run P x= .ok (.value v) x:=by intro x hq;go_simp<;>with_reducible rfl)(ha:a.put op.dst v=a':=by (try simp only[Act.put,zA,zB,zC]);rfl):Stp P ops w0 w m op a v a':=fun H _ _ h=>by
  subst ha;obtain⟨i,t,hi⟩:=hi;exact mv_ld1 hw (H.cell hi o hc) hv h
theorem zI1 (H:Hp w0 w m)(v1:Value)(h:wpList P ops Q rest a1 w)(s1:Stp P ops w0 w m o1 a v1 a1:=by first|exact Sk|exact Sd|exact Se|exact Sq):wpList P ops Q (o1::rest) a w:=s1 H _ _ (h)
theorem zI2 (H:Hp w0 w m)(v1 v2:Value)(h:wpList P ops Q rest a2 w)(s1:Stp P ops w0 w m o1 a v1 a1:=by first|exact Sk|exact Sd|exact Se|exact Sq)(s2:Stp P ops w0 w m o2 a1 v2 a2:=by first|exact Sk|exact Sd|exact Se|exact Sq):wpList P ops Q (o1::o2::rest) a w:=s1 H _ _ (s2 H _ _ (h))
theorem zI3 (H:Hp w0 w m)(v1 v2 v3:Value)(h:wpList P ops Q rest a3 w)(s1:Stp P ops w0 w m o1 a v1 a1:=by first|exact Sk|exact Sd|exact Se|exact Sq)(s2:Stp P ops w0 w m o2 a1 v2 a2:=by first|exact Sk|exact Sd|exact Se|exact Sq)(s3:Stp P ops w0 w m o3 a2 v3 a3:=by first|exact Sk|exact Sd|exact Se|exact Sq):wpList P ops Q (o1::o2::o3::rest) a w:=s1 H _ _ (s2 H _ _ (s3 H _ _ (h)))
theorem zI4 (H:Hp w0 w m)(v1 v2 v3 v4:Value)(h:wpList P ops Q rest a4 w)(s1:Stp P ops w0 w m o1 a v1 a1:=by first|exact Sk|exact Sd|exact Se|exact Sq)(s2:Stp P ops w0 w m o2 a1 v2 a2:=by first|exact Sk|exact Sd|exact Se|exact Sq)(s3:Stp P ops w0 w m o3 a2 v3 a3:=by first|exact Sk|exact Sd|exact Se|exact Sq)(s4:Stp P ops w0 w m o4 a3 v4 a4:=by first|exact Sk|exact Sd|exact Se|exact Sq):wpList P ops Q (o1::o2::o3::o4::rest) a w:=s1 H _ _ (s2 H _ _ (s3 H _ _ (s4 H _ _ (h))))
theorem zI5 (H:Hp w0 w m)(v1 v2 v3 v4 v5:Value)(h:wpList P ops Q rest a5 w)(s1:Stp P ops w0 w m o1 a v1 a1:=by first|exact Sk|exact Sd|exact Se|exact Sq)(s2:Stp P ops w0 w m o2 a1 v2 a2:=by first|exact Sk|exact Sd|exact Se|exact Sq)(s3:Stp P ops w0 w m o3 a2 v3 a3:=by first|exact Sk|exact Sd|exact Se|exact Sq)(s4:Stp P ops w0 w m o4 a3 v4 a4:=by first|exact Sk|exact Sd|exact Se|exact Sq)(s5:Stp P ops w0 w m o5 a4 v5 a5:=by first|exact Sk|exact Sd|exact Se|exact Sq):wpList P ops Q (o1::o2::o3::o4::o5::rest) a w:=s1 H _ _ (s2 H _ _ (s3 H _ _ (s4 H _ _ (s5 H _ _ (h)))))
theorem zI6 {o6:Oper}(H:Hp w0 w m)(v1 v2 v3 v4 v5 v6:Value)(h:wpList P ops Q rest a6 w)(s1:Stp P ops w0 w m o1 a v1 a1:=by first|exact Sk|exact Sd|exact Se|exact Sq)(s2:Stp P ops w0 w m o2 a1 v2 a2:=by first|exact Sk|exact Sd|exact Se|exact Sq)(s3:Stp P ops w0 w m o3 a2 v3 a3:=by first|exact Sk|exact Sd|exact Se|exact Sq)(s4:Stp P ops w0 w m o4 a3 v4 a4:=by first|exact Sk|exact Sd|exact Se|exact Sq)(s5:Stp P ops w0 w m o5 a4 v5 a5:=by first|exact Sk|exact Sd|exact Se|exact Sq)(s6:Stp P ops w0 w m o6 a5 v6 a6:=by first|exact Sk|exact Sd|exact Se|exact Sq):wpList P ops Q (o1::o2::o3::o4::o5::o6::rest) a w:=s1 H _ _ (s2 H _ _ (s3 H _ _ (s4 H _ _ (s5 H _ _ (s6 H _ _ (h))))))
theorem zI7 {o6:Oper}{o7:Oper}(H:Hp w0 w m)(v1 v2 v3 v4 v5 v6 v7:Value)(h:wpList P ops Q rest a7 w)(s1:Stp P ops w0 w m o1 a v1 a1:=by first|exact Sk|exact Sd|exact Se|exact Sq)(s2:Stp P ops w0 w m o2 a1 v2 a2:=by first|exact Sk|exact Sd|exact Se|exact Sq)(s3:Stp P ops w0 w m o3 a2 v3 a3:=by first|exact Sk|exact Sd|exact Se|exact Sq)(s4:Stp P ops w0 w m o4 a3 v4 a4:=by first|exact Sk|exact Sd|exact Se|exact Sq)(s5:Stp P ops w0 w m o5 a4 v5 a5:=by first|exact Sk|exact Sd|exact Se|exact Sq)(s6:Stp P ops w0 w m o6 a5 v6 a6:=by first|exact Sk|exact Sd|exact Se|exact Sq)(s7:Stp P ops w0 w m o7 a6 v7 a7:=by first|exact Sk|exact Sd|exact Se|exact Sq):wpList P ops Q (o1::o2::o3::o4::o5::o6::o7::rest) a w:=s1 H _ _ (s2 H _ _ (s3 H _ _ (s4 H _ _ (s5 H _ _ (s6 H _ _ (s7 H _ _ (h)))))))
theorem zI8 {o6:Oper}{o7:Oper}{o8:Oper}{a8:Act}(H:Hp w0 w m)(v1 v2 v3 v4 v5 v6 v7 v8:Value)(h:wpList P ops Q rest a8 w)(s1:Stp P ops w0 w m o1 a v1 a1:=by first|exact Sk|exact Sd|exact Se|exact Sq)(s2:Stp P ops w0 w m o2 a1 v2 a2:=by first|exact Sk|exact Sd|exact Se|exact Sq)(s3:Stp P ops w0 w m o3 a2 v3 a3:=by first|exact Sk|exact Sd|exact Se|exact Sq)(s4:Stp P ops w0 w m o4 a3 v4 a4:=by first|exact Sk|exact Sd|exact Se|exact Sq)(s5:Stp P ops w0 w m o5 a4 v5 a5:=by first|exact Sk|exact Sd|exact Se|exact Sq)(s6:Stp P ops w0 w m o6 a5 v6 a6:=by first|exact Sk|exact Sd|exact Se|exact Sq)(s7:Stp P ops w0 w m o7 a6 v7 a7:=by first|exact Sk|exact Sd|exact Se|exact Sq)(s8:Stp P ops w0 w m o8 a7 v8 a8:=by first|exact Sk|exact Sd|exact Se|exact Sq):wpList P ops Q (o1::o2::o3::o4::o5::o6::o7::o8::rest) a w:=s1 H _ _ (s2 H _ _ (s3 H _ _ (s4 H _ _ (s5 H _ _ (s6 H _ _ (s7 H _ _ (s8 H _ _ (h))))))))
theorem aC {f:FuncId}{args:Array Value}(H:Hp w0 w m)(hc:Calls P f args w (fun e w'=>e= .returned v/\Ext w w'))(h:∀w',Hid (Hp w0 w' m)->Hid (Dig w w')->wpList P ops Q rest a' w')(hw:Region.wanted op (yielded ops a.tmps)=true:=by rfl)(hv:(execOp a.eval op).run P w= .ok (.enter f args) w:=by go_simp)(ha:a.put op.dst v=a':=by (try simp only[Act.put,zA,zB,zC]);rfl):wpList P ops Q (op::rest) a w:=mv_call hw hv hc fun e w' ⟨h1,hx⟩=>⟨v,h1,by rw[ha];exact h w' (zH (H.step hx)) (zH (Dig.of_ext hx))⟩
theorem hN (h:Hp w0 w m)(hm:m=m':=by (try simp only[List.cons_append,List.nil_append,List.set_cons_succ,List.set_cons_zero]);rfl):Hid (Hp w0 w m'):=zH (hm▸h)
theorem Tk (hi:l[i]?=some oi:=by rfl)(hs:Region.noSelect l.toArray=true:=by kernel_rfl)(hf:Region.free md l.toArray listed i=true:=by kernel_rfl)(hr:(Region.ready md l.toArray listed).contains i=true:=by kernel_rfl)(hn:Region.wanted oi (yielded l.toArray a.tmps)=false:=by rfl)(hQ:∀c a w,Q (.panic c) (a.put oi.dst undef) w->Q (.panic c) a w:=by intro _ _ _ h;exact h)(ha:a.put oi.dst undef=a':=by (try simp only[Act.put,zA,zB,zC]);rfl):SD P md l Q w0 b m i listed a undef a':=fun _ _ _ hS h=>by subst ha;exact md_skip hi hs hf hr hQ hn hS rfl h
theorem Tq (hi:l[i]?=some oi:=by rfl)(hs:Region.noSelect l.toArray=true:=by kernel_rfl)(hf:Region.free md l.toArray listed i=true:=by kernel_rfl)(hr:(Region.ready md l.toArray listed).contains i=true:=by kernel_rfl)(hw:Region.wanted oi (yielded l.toArray a.tmps)=true:=by rfl)(hv:∀w,Ext b w->(execOp a.eval oi).run P w= .ok (.value v) w:=by intro w hSw;go_simp<;>with_reducible rfl)(hQ:∀c a w,Q (.panic c) (a.put oi.dst v) w->Q (.panic c) a w:=by intro _ _ _ h;exact h)(ha:a.put oi.dst v=a':=by (try simp only[Act.put,zA,zB,zC]);rfl):SD P md l Q w0 b m i listed a v a':=fun _ _ _ hS h=>by subst ha;exact md_val hi hs hf hr hQ hw hv hS rfl h
theorem Td {o:Nat}(hi:l[i]?=some oi:=by rfl)(hs:Region.noSelect l.toArray=true:=by kernel_rfl)(hf:Region.free md l.toArray listed i=true:=by kernel_rfl)(hr:(Region.ready md l.toArray listed).contains i=true:=by kernel_rfl)(hw:Region.wanted oi (yielded l.toArray a.tmps)=true:=by rfl)(ho:oi.op= .load ty x:=by rfl)(hx:a.eval x= .pointer (some ⟨g,o,none⟩):=by rfl)(hi_:Hat m g cs:=by repeat (first|exact Hat.h|apply Hat.tl))(ho0:o=0:=by rfl)(hd:(P.underlying ty).map (·.isRow)=some true:=by decide+kernel)(hz:(P.info? ty).map (·.size)=some cs.length:=by kernel_rfl)(hQ:∀c a w,Q (.panic c) (a.put oi.dst (.agg cs.toArray)) w->Q (.panic c) a w:=by intro _ _ _ h;exact h)(ha:a.put oi.dst (.agg cs.toArray)=a':=by (try simp only[Act.put,zA,zB,zC]);rfl):SD P md l Q w0 b m i listed a (.agg cs.toArray) a':=fun H _ _ hS h=>by
  subst ha;subst ho0;obtain⟨j,t,hj⟩:=hi_;cases hu:P.underlying ty with
  |none=>rw[hu]at hd;cases hd
  |some d=>
  have hr2:=H.range hj 0 cs.length;rw[List.drop_zero,List.take_length]at hr2;exact md_range hi hs hf hr ty x ho g 0 cs d hQ hw hx (fun x hx=>range_ext hr2 hx) hu (by rw[hu]at hd;exact Option.some.inj hd) hz hS rfl h
theorem Te {o:Nat}(hi:l[i]?=some oi:=by rfl)(hs:Region.noSelect l.toArray=true:=by kernel_rfl)(hf:Region.free md l.toArray listed i=true:=by kernel_rfl)(hr:(Region.ready md l.toArray listed).contains i=true:=by kernel_rfl)(hw:Region.wanted oi (yielded l.toArray a.tmps)=true:=by rfl)(_ho:oi.op= .load ty x:=by rfl)(_hx:a.eval x= .pointer (some ⟨g,o,none⟩):=by rfl)(hi_:Hat m g cs:=by repeat (first|exact Hat.h|apply Hat.tl))(hc:cs[o]?=some v:=by rfl)(hv:∀x:World,x.cell? ⟨g,o,none⟩=some v->(execOp a.eval oi).run P x= .ok (.value v) x:=by intro x hq;go_simp<;>with_reducible rfl)(hQ:∀c a w,Q (.panic c) (a.put oi.dst v) w->Q (.panic c) a w:=by intro _ _ _ h;exact h)(ha:a.put oi.dst v=a':=by (try simp only[Act.put,zA,zB,zC]);rfl):SD P md l Q w0 b m i listed a v a':=fun H _ _ hS h=>by
  subst ha;obtain⟨j,t,hj⟩:=hi_;exact md_ld1 hi hs hf hr hQ hw (fun x hx=>Ext.get hx (H.cell hj o hc)) hv hS rfl h
theorem zJ1 (H:Hp w0 b m)(hS:Ext b w)(lt:Array Bool)(i1:Nat)(v1:Value)(h:wpAnyH P md l.toArray Q (fun x=>Ext b x) fuel lt a1 w)(s1:SD P md l Q w0 b m i1 listed a v1 a1:=by first|exact Tk|exact Td|exact Te|exact Tq)(hl:(listed.setIfInBounds i1 true)=lt:=by kernel_rfl):wpAnyH P md l.toArray Q (fun x=>Ext b x) (fuel+1) listed a w:=s1 H _ _ hS ((by rw[hl];exact h))
theorem zJ2 (H:Hp w0 b m)(hS:Ext b w)(lt:Array Bool)(i1 i2:Nat)(v1 v2:Value)(h:wpAnyH P md l.toArray Q (fun x=>Ext b x) fuel lt a2 w)(s1:SD P md l Q w0 b m i1 listed a v1 a1:=by first|exact Tk|exact Td|exact Te|exact Tq)(s2:SD P md l Q w0 b m i2 (listed.setIfInBounds i1 true) a1 v2 a2:=by first|exact Tk|exact Td|exact Te|exact Tq)(hl:((listed.setIfInBounds i1 true).setIfInBounds i2 true)=lt:=by kernel_rfl):wpAnyH P md l.toArray Q (fun x=>Ext b x) (fuel+1+1) listed a w:=s1 H _ _ hS (s2 H _ _ hS ((by rw[hl];exact h)))
theorem zJ3 (H:Hp w0 b m)(hS:Ext b w)(lt:Array Bool)(i1 i2 i3:Nat)(v1 v2 v3:Value)(h:wpAnyH P md l.toArray Q (fun x=>Ext b x) fuel lt a3 w)(s1:SD P md l Q w0 b m i1 listed a v1 a1:=by first|exact Tk|exact Td|exact Te|exact Tq)(s2:SD P md l Q w0 b m i2 (listed.setIfInBounds i1 true) a1 v2 a2:=by first|exact Tk|exact Td|exact Te|exact Tq)(s3:SD P md l Q w0 b m i3 ((listed.setIfInBounds i1 true).setIfInBounds i2 true) a2 v3 a3:=by first|exact Tk|exact Td|exact Te|exact Tq)(hl:(((listed.setIfInBounds i1 true).setIfInBounds i2 true).setIfInBounds i3 true)=lt:=by kernel_rfl):wpAnyH P md l.toArray Q (fun x=>Ext b x) (fuel+1+1+1) listed a w:=s1 H _ _ hS (s2 H _ _ hS (s3 H _ _ hS ((by rw[hl];exact h))))
theorem zJ4 (H:Hp w0 b m)(hS:Ext b w)(lt:Array Bool)(i1 i2 i3 i4:Nat)(v1 v2 v3 v4:Value)(h:wpAnyH P md l.toArray Q (fun x=>Ext b x) fuel lt a4 w)(s1:SD P md l Q w0 b m i1 listed a v1 a1:=by first|exact Tk|exact Td|exact Te|exact Tq)(s2:SD P md l Q w0 b m i2 (listed.setIfInBounds i1 true) a1 v2 a2:=by first|exact Tk|exact Td|exact Te|exact Tq)(s3:SD P md l Q w0 b m i3 ((listed.setIfInBounds i1 true).setIfInBounds i2 true) a2 v3 a3:=by first|exact Tk|exact Td|exact Te|exact Tq)(s4:SD P md l Q w0 b m i4 (((listed.setIfInBounds i1 true).setIfInBounds i2 true).setIfInBounds i3 true) a3 v4 a4:=by first|exact Tk|exact Td|exact Te|exact Tq)(hl:((((listed.setIfInBounds i1 true).setIfInBounds i2 true).setIfInBounds i3 true).setIfInBounds i4 true)=lt:=by kernel_rfl):wpAnyH P md l.toArray Q (fun x=>Ext b x) (fuel+1+1+1+1) listed a w:=s1 H _ _ hS (s2 H _ _ hS (s3 H _ _ hS (s4 H _ _ hS ((by rw[hl];exact h)))))
theorem zJ6 (H:Hp w0 b m)(hS:Ext b w)(lt:Array Bool)(i1 i2 i3 i4 i5 i6:Nat)(v1 v2 v3 v4 v5 v6:Value)(h:wpAnyH P md l.toArray Q (fun x=>Ext b x) fuel lt a6 w)(s1:SD P md l Q w0 b m i1 listed a v1 a1:=by first|exact Tk|exact Td|exact Te|exact Tq)(s2:SD P md l Q w0 b m i2 (listed.setIfInBounds i1 true) a1 v2 a2:=by first|exact Tk|exact Td|exact Te|exact Tq)(s3:SD P md l Q w0 b m i3 ((listed.setIfInBounds i1 true).setIfInBounds i2 true) a2 v3 a3:=by first|exact Tk|exact Td|exact Te|exact Tq)(s4:SD P md l Q w0 b m i4 (((listed.setIfInBounds i1 true).setIfInBounds i2 true).setIfInBounds i3 true) a3 v4 a4:=by first|exact Tk|exact Td|exact Te|exact Tq)(s5:SD P md l Q w0 b m i5 ((((listed.setIfInBounds i1 true).setIfInBounds i2 true).setIfInBounds i3 true).setIfInBounds i4 true) a4 v5 a5:=by first|exact Tk|exact Td|exact Te|exact Tq)(s6:SD P md l Q w0 b m i6 (((((listed.setIfInBounds i1 true).setIfInBounds i2 true).setIfInBounds i3 true).setIfInBounds i4 true).setIfInBounds i5 true) a5 v6 a6:=by first|exact Tk|exact Td|exact Te|exact Tq)(hl:((((((listed.setIfInBounds i1 true).setIfInBounds i2 true).setIfInBounds i3 true).setIfInBounds i4 true).setIfInBounds i5 true).setIfInBounds i6 true)=lt:=by kernel_rfl):wpAnyH P md l.toArray Q (fun x=>Ext b x) (fuel+1+1+1+1+1+1) listed a w:=s1 H _ _ hS (s2 H _ _ hS (s3 H _ _ hS (s4 H _ _ hS (s5 H _ _ hS (s6 H _ _ hS ((by rw[hl];exact h)))))))
theorem emH (p:Prop):Hid p\/Hid (¬p):=(Classical.em p).imp zH zH
theorem kR {α:Type}{a:α}{b:α}(h:a=b:=by kernel_rfl):a=b:=h
theorem rR {α:Type}{a:α}{b:α}(h:a=b:=by rfl):a=b:=h
theorem dC {p:Prop}(h:p:=by decide):p:=h
theorem wl {id:Nat}(h:wpList P l.toArray Q l a w):Code.wp P (Code.region id l.toArray false) Q a w:=wp_region_lit h
theorem tD {a:World}{c:World}(h:Hid (Dig a b))(k:Hid (Dig b c)):Hid (Dig a c):=zH (h.out.trans k.out)
end
end Go.Proofs.YtngikkggjidenabGreat
namespace Go.Proofs.YtngikkggjidenabGreat
open Go.RowKit Go.Deep
theorem grown_refl (w:World)(r:Option Nat):w.grownBy w r:=⟨rfl,rfl,rfl,Nat.le_refl _,fun _ _ _=>rfl⟩
theorem run_appendS {P:Program}{w:World}{base:Nat}{t ty e:TypeId}{size bytes:Nat}(el:ElT P t e size bytes){v:Value}{n:Nat}{xs:List Value}(hown:RowN w base e size v n xs)
    (A:Option Addr)(k c:Nat)(news:List Value)(hl:news.length=k*size)(hA:0<k->∃ad,A=some ad/\∀j u,news[j]?=some u->w.cell? (ad.add j)=some u)(h1:∀u∈news,u.oneCell'=true)(hnu:NoUL news)
    (h63:n+k<=maxLen)(hbytes:(n+k)*bytes<=140737488355328)(hbase:base<=w.heap.size):
    ∃ A' c' w',(Builtin.append_ #[t,t] ty #[v,.slice A k c]).run P w= .ok (.slice A' (n+k) c') w'/\RowN w' base e size (.slice A' (n+k) c') (n+k) (xs++news)/\w.grownBy w' v.ownBlock/\
      ∀g,(Value.slice A' (n+k) c').ownBlock=some g->v.ownBlock=some g\/w.heap.size<=g:=by
  obtain⟨ht,i,z,e1,e2,e3,e4,e5,e6,e7⟩:=el;by_cases hk:0<k
  · obtain⟨ad,rfl,hnews⟩:=hA hk
    obtain⟨v',w',hr,q2,q3,q4,g,cap,rfl,hf⟩:=run_append_rowN (P:=P) w base t ty e i z size bytes ht e1 e2 e3 e4 e5 e7 e6 v n xs hown ad k c news hl hnews h1 hnu hk h63 hbytes hbase
    exact ⟨_, _, w', hr, q2, q3, fun g' hg' => by obtain rfl:g=g':=by simpa[Value.ownBlock]using hg'
                                                  exact hf⟩
  obtain rfl:k=0:=by omega
  obtain rfl:news=[]:=List.eq_nil_of_length_eq_zero (by simpa using hl);have hs:Src P i.size t (.slice A 0 c) 0 [] w:=by
    cases A with
    |none=>exact Src.ofNil w ht c
    |some ad=>exact Src.ofSlice w ht ad 0 c [] (by simp) (by simp) (by simp)
  obtain⟨hx1,hx2⟩:=hown;rcases hx2 with⟨rfl,rfl⟩|⟨g,cap,rest,rfl,q1,q2,q3,q4,q5,q6⟩
  · refine⟨none,0,w,run_append_nothing w t t ty e i ht e1 none 0 0 (Nat.le_refl _) _ hs,⟨by simpa using hx1,.inl ⟨rfl,rfl⟩⟩,grown_refl _ _,fun g hg=> .inl hg⟩
  refine⟨some ⟨g,0,none⟩,cap,w,run_append_nothing w t t ty e i ht e1 (some ⟨g,0,none⟩) n cap q3 _ hs,⟨by simpa using hx1,.inr ⟨g,cap,rest,rfl,q1,by simpa using q2,q3,q4,by simpa using q5,by simpa using q6⟩⟩,grown_refl _ _,fun g hg=> .inl hg⟩
section
variable {P:Program} {w0 w:World} {m:List Ent} {ix:Nat} {a:Act} {Q:Exit->Act->World->Prop}
theorem mv_appS {rest:List Oper}{o:Oper}{ops:Array Oper}(hw:Region.wanted o (yielded ops a.tmps)=true)(s x:Operand)(t:TypeId)
  (ho:o.op= .call {callee:= .builtin .append,args:=#[s,x],argTypes:=#[t,t]}){e:TypeId}{size bytes:Nat}(el:ElT P t e size bytes){v:Value}{n:Nat}{xs:List Value}(hs:a.eval s=v)
  (hH:Hp w0 w m)(hi:m[ix]?=some (.row e size v n xs))(A:Option Addr)(k c:Nat)(news:List Value)(hx:a.eval x= .slice A k c)(hl:news.length=k*size)
  (hA:0<k->∃ad,A=some ad/\∀j u,news[j]?=some u->w.cell? (ad.add j)=some u)(h1:∀u∈news,u.oneCell'=true)(hnu:NoUL news)
  (h63:n+k<=maxLen)(hbytes:(n+k)*bytes<=140737488355328)
  (h:∀A' c' w',Hp w0 w' (m.set ix (.row e size (.slice A' (n+k) c') (n+k) (xs++news)))->Dig w w'->w.grownBy w' v.ownBlock->(∀g,(Value.slice A' (n+k) c').ownBlock=some g->v.ownBlock=some g\/w.heap.size<=g)->
   wpList P ops Q rest (a.put o.dst (.slice A' (n+k) c')) w'):wpList P ops Q (o::rest) a w:=by
 obtain⟨A',c',w',hr,h2,h3,h4⟩:=run_appendS (P:=P) (ty:=o.type) el (hH.row hi) A k c news hl hA h1 hnu h63 hbytes hH.ext.size;refine wpList_if hw ?_;unfold Oper.wp execOp;simp only[ho,resolve,invoke,builtin,Sem.run_bind,Sem.run_pure,Result.andThen_ok,List.map_toArray,List.map_cons,List.map_nil,hs,hx,hr];exact h A' c' w' (hH.turn hi (fun k hk=>hk) h3 h2 h4) (Dig.grown (hH.row hi) h3) h3 h4
end
def SpE.OkI (L:Nat)(w:World)(e:SpE):Prop:=e.a.In L w e.p/\e.b.In L w e.q
theorem SpE.Ok.i {L:Nat}{w:World}{e:SpE}(h:e.Ok L w):e.OkI L w:=⟨h.1.isIn h.2.2.1,h.2.1.isIn h.2.2.2⟩
theorem SpE.OkI.ext {L:Nat}{w w':World}{e:SpE}(h:e.OkI L w)(x:Ext w w'):e.OkI L w':=⟨h.1.ext x,h.2.ext x⟩
theorem choose_list {α:Type}[Inhabited α](n:Nat)(p:Nat->α->Prop)(h:∀i,i<n->∃x,p i x):∃l:List α,l.length=n/\∀i x,l[i]?=some x->p i x:=by
 induction n with
 |zero=>exact⟨[],rfl,fun i x hx=>by simp at hx⟩
 |succ n ih=>
  obtain⟨l,h1,h2⟩:=ih (fun i hi=>h i (by omega));obtain⟨x,hx⟩:=h n (by omega);refine⟨l++[x],by simp[h1],fun i y hy=> ?_⟩;by_cases hi:i<l.length
  ·rw[List.getElem?_append_left hi]at hy
   exact h2 i y hy
  rw[List.getElem?_append_right (by omega)]at hy;have:i-l.length=0:=by
   have:=(List.getElem?_eq_some_iff.1 hy).1;simp at this;omega
  rw[this]at hy;obtain rfl:x=y:=by simpa using hy
  obtain rfl:i=n:=by omega
  exact hx
instance:Inhabited SpE:=⟨⟨⟨false,none,0,0,false,none,0,0⟩,⟨false,none,0,0,false,none,0,0⟩,0,0⟩⟩
theorem SpansV.list {L:Nat}{w:World}{v:Value}{ps:List (Rat×Rat)}(h:SpansV L w v ps):
  ∃(A:Option Addr) (cap:Nat) (es:List SpE),v= .slice A es.length cap/\es.map SpE.vl=ps/\(0<es.length->∃ad,A=some ad/\∀j u,(es.flatMap SpE.cells)[j]?=some u->w.cell? (ad.add j)=some u)/\∀e,e∈es->e.OkI L w:=by
 obtain⟨A,cap,rfl,hA⟩:=h;by_cases h0:0<ps.length
 ·obtain⟨g,off,rfl,hp⟩:=hA h0
  obtain⟨es,hl,he⟩:=choose_list (α:=SpE) ps.length (fun i e=>ps[i]?=some e.vl/\w.rangeAt g (off+i*8) e.cells/\e.OkI L w) (fun i hi=>by
   obtain⟨cs,h1,a,b,h2,h3,h4⟩:=hp i ps[i] (List.getElem?_eq_getElem hi);refine⟨⟨a,b,ps[i].1,ps[i].2⟩,List.getElem?_eq_getElem hi,?_,h3,h4⟩;have e:cs=SpE.cells ⟨a,b,ps[i].1,ps[i].2⟩:=by
    have h5:=congrArg Array.toList h2;simpa[SpE.cells]using h5
   rw[<-e];exact h1)
  refine⟨_,cap,es,by rw[hl],?_,fun _=>⟨_,rfl,fun j u hj=> ?_⟩,fun e hm=> ?_⟩
  ·refine List.ext_getElem? fun i=> ?_
   rw[List.getElem?_map];by_cases hi:i<es.length
   ·rw[List.getElem?_eq_getElem hi]
    exact(he i _ (List.getElem?_eq_getElem hi)).1.symm
   rw[List.getElem?_eq_none (by omega),List.getElem?_eq_none (by omega)];rfl
  ·have hj2:j<es.length*8:=by
    have:=(List.getElem?_eq_some_iff.1 hj).1;rwa[flat_len SpE.len]at this
   have hi:j/8<es.length:=by omega
   have h1:=(he (j/8) _ (List.getElem?_eq_getElem hi)).2.1;have h2:(SpE.cells es[j/8])[j%8]?=some u:=by
    have hl8:j%8<(SpE.cells es[j/8]).length:=by show _<8;omega
    have h6:=flat_get SpE.len es (j/8) _ (List.getElem?_eq_getElem hi) (j%8) _ (List.getElem?_eq_getElem hl8);rw[show j/8*8+j%8=j by omega,hj]at h6;rw[List.getElem?_eq_getElem hl8];exact h6.symm
   have h3:=h1 (j%8) u h2;have e:(⟨g,off,none⟩:Addr).add j=⟨g,off+j/8*8+j%8,none⟩:=by
    unfold Addr.add;by_cases hz:j=0
    ·subst hz;simp
    rw[if_neg hz];congr 1;show off+j=_;omega
   rw[e];exact h3
  obtain⟨i,hi⟩:=List.mem_iff_getElem?.1 hm;exact(he i e hi).2.2
 have h1:ps=[]:=List.eq_nil_of_length_eq_zero (by omega);subst h1;exact⟨A,cap,[],rfl,rfl,fun h2=>absurd h2 (by simp),fun e he=>by simp at he⟩
theorem Ent.Holds.fr {b:Nat}{w w':World}{e:Ent}{G:Nat->Prop}(h:e.Holds b w)(x:Fr G w w')(hn:∀k,e.own=some k->¬G k):e.Holds b w':=by
 have hb:∀(g:Nat) (t:TypeId) (cs:Array Value),Blk w g t cs->¬G g->Blk w' g t cs:=by
  intro g t cs h1 h2;unfold Blk;rw[x.block g h1.lt h2];exact h1
 cases e with
 |blk g t cs=>exact⟨h.1,hb _ _ _ h.2.1 (hn g rfl),h.2.2⟩
 |row t size v n xs=>
  obtain⟨h1,h2|⟨g,cap,rest,rfl,a,h3,c⟩⟩:=h
  ·exact⟨h1,.inl h2⟩
  exact⟨h1,.inr ⟨g,cap,rest,rfl,a,hb _ _ _ h3 (hn g rfl),c⟩⟩
section
variable {w0 w w':World} {m:List Ent}
theorem two_get {e f:Ent}{i:Nat}{x:Ent}(h: [e,f][i]?=some x):(i=0/\x=e)\/(i=1/\x=f):=by
  match i,h with
  |0,h=>injection h with h;exact .inl ⟨rfl,h.symm⟩
  |1,h=>injection h with h;exact .inr ⟨rfl,h.symm⟩
  |k+2,h=>simp at h
theorem Hp.pick2 {ib ir:Nat}{e f:Ent}(h:Hp w0 w m)(hb:m[ib]?=some e)(hr:m[ir]?=some f)(hne:ib≠ir):Hp w0 w [e,f]:=by
  refine⟨h.ext,fun i x hx=> ?_,fun i j x y hx hy hij=> ?_⟩
  · rcases two_get hx with⟨_,rfl⟩|⟨_,rfl⟩
    · exact h.all _ _ hb
    exact h.all _ _ hr
  rcases two_get hx with⟨e1,rfl⟩|⟨e1,rfl⟩<;>rcases two_get hy with⟨e2,rfl⟩|⟨e2,rfl⟩
  · omega
  · exact h.apart _ _ _ _ hb hr hne
  · exact h.apart _ _ _ _ hr hb (Ne.symm hne)
  omega
theorem Hp.call2 {ib ir:Nat}{e f e' f':Ent}{G:Nat->Prop}(h:Hp w0 w m)(hb:m[ib]?=some e)(hr:m[ir]?=some f)(_hne:ib≠ir)(x:Fr G w w')(hG:∀k,G k->e.own=some k\/f.own=some k)(h2:Hp w0 w' [e',f'])
  (he:∀k,e'.own=some k->e.own=some k\/w.heap.size<=k)(hf:∀k,f'.own=some k->f.own=some k\/w.heap.size<=k):Hp w0 w' ((m.set ib e').set ir f'):=by
 have hbl:ib<m.length:=(List.getElem?_eq_some_iff.1 hb).1;have hrl:ir<m.length:=(List.getElem?_eq_some_iff.1 hr).1;have hget:∀(j:Nat) (y:Ent),((m.set ib e').set ir f')[j]?=some y->(j=ir/\y=f')\/(j=ib/\y=e')\/(j≠ir/\j≠ib/\m[j]?=some y):=by
  intro j y hj;rw[List.getElem?_set]at hj;by_cases h1:ir=j
  ·rw[if_pos h1,if_pos (by simpa using h1▸hrl)]at hj
   injection hj with hj
   exact .inl ⟨h1.symm,hj.symm⟩
  rw[if_neg h1,List.getElem?_set]at hj;by_cases h3:ib=j
  ·rw[if_pos h3,if_pos (by omega)]at hj
   injection hj with hj
   exact .inr (.inl ⟨h3.symm,hj.symm⟩)
  rw[if_neg h3]at hj;exact .inr (.inr ⟨fun q=>h1 q.symm,fun q=>h3 q.symm,hj⟩)
 have offG:∀(j:Nat) (y:Ent),j≠ir->j≠ib->m[j]?=some y->∀k,y.own=some k->¬G k:=by
  intro j y hj1 hj2 hy k hk hg;rcases hG k hg with h1|h1
  ·exact h.apart j ib y e hy hb hj2 k hk h1
  exact h.apart j ir y f hy hr hj1 k hk h1
 have offE:∀(j:Nat) (y:Ent),j≠ir->j≠ib->m[j]?=some y->∀k,y.own=some k->e'.own≠some k:=by
  intro j y hj1 hj2 hy k hk hq;rcases he k hq with h1|h1
  ·exact h.apart j ib y e hy hb hj2 k hk h1
  have:=h.lt hy hk;omega
 have offF:∀(j:Nat) (y:Ent),j≠ir->j≠ib->m[j]?=some y->∀k,y.own=some k->f'.own≠some k:=by
  intro j y hj1 hj2 hy k hk hq;rcases hf k hq with h1|h1
  ·exact h.apart j ir y f hy hr hj1 k hk h1
  have:=h.lt hy hk;omega
 refine⟨h2.ext,fun j y hj=> ?_,fun i j x y hi hj hij k hk=> ?_⟩
 ·rcases hget j y hj with⟨_,rfl⟩|⟨_,rfl⟩|⟨h3,h4,h5⟩
  ·exact h2.all 1 _ rfl
  ·exact h2.all 0 _ rfl
  exact(h.all j y h5).fr x (offG j y h3 h4 h5)
 rcases hget i x hi with⟨e1,rfl⟩|⟨e1,rfl⟩|⟨a1,a2,a3⟩<;>rcases hget j y hj with⟨e2,rfl⟩|⟨e2,rfl⟩|⟨b1,b2,b3⟩
 ·omega
 ·exact h2.apart 1 0 _ _ rfl rfl (by decide) k hk
 ·exact fun q=>offF j y b1 b2 b3 k q hk
 ·exact h2.apart 0 1 _ _ rfl rfl (by decide) k hk
 ·omega
 ·exact fun q=>offE j y b1 b2 b3 k q hk
 ·exact offF i x a1 a2 a3 k hk
 ·exact offE i x a1 a2 a3 k hk
 exact h.apart i j x y a3 b3 hij k hk
end
theorem RowN.cap {w:World}{base:Nat}{e:TypeId}{size:Nat}{A:Option Addr}{n c:Nat}{xs:List Value}(h:RowN w base e size (.slice A n c) n xs):n<=c:=by
  obtain⟨_,⟨hv,rfl⟩|⟨g,cap,rest,hv,_,_,h3,_⟩⟩:=h
  · exact Nat.zero_le _
  injection hv with e1 e2 e3
  omega
section
variable {P:Program} {w0 w:World} {m:List Ent} {ix:Nat} {a:Act} {Q:Exit->Act->World->Prop} {rest:List Oper} {op:Oper} {ops:Array Oper}
theorem mv_stElem {α:Type}{f:α->List Value}(hw:Region.wanted op (yielded ops a.tmps)=true)(ty:TypeId)(x y:Operand)(ho:op.op= .store ty x y){g n cap size:Nat}{t:TypeId}{es:List α}(hH:Hp w0 w m)(hi:m[ix]?=some (.row t size (.slice (some ⟨g,0,none⟩) n cap) n (es.flatMap f)))
  (hc:∀x,(f x).length=size)(k:Nat)(z:α)(hk:k<es.length)(vs:List Value)(hf:f z=vs)(o:Nat)(hko:o=k*size)(hx:a.eval x= .pointer (some ⟨g,o,none⟩))(hy:a.eval y= .agg vs.toArray)(hz:(P.info? ty).map (·.size)=some vs.length)(h1:∀v,v∈vs->v.oneCell'=true)(hn:NoUL vs)
  (h:∀w',Hp w0 w' (m.set ix (.row t size (.slice (some ⟨g,0,none⟩) n cap) n ((es.set k z).flatMap f)))->Dig w w'->Own g w w'->wpList P ops Q rest (a.put op.dst undef) w'):wpList P ops Q (op::rest) a w:=by
 subst hf;subst hko;refine mv_stRow hw ty x y ho hH hi (k*size) (f z) hx hy ?_ hz h1 hn (fun w' h2 h3 h4=>h w' ?_ h3 h4)
 ·rw[flat_length hc,hc]
  calc k*size+size=(k+1)*size:=by rw[Nat.add_mul];omega
   _<=es.length*size:=Nat.mul_le_mul_right _ hk
 rw[flat_set hc es k hk z]at h2;exact h2
end
theorem ev_neg {P:Program}{ρ:Operand->Value}{o:Oper}{w:World}{A E:Int}{t:TypeId}{x:Operand}(ho:o.op= .unOp .neg t x)(hx:ρ x= .int .i64 A)(hE: -A=E)(h1: -9223372036854775808<=E)(h2:E<=9223372036854775807):(execOp ρ o).run P w= .ok (.value (.int .i64 E)) w:=by
  have hw:IntKind.i64.wrap E=E:=by rw[IntKind.wrap_i64];omega
  unfold execOp;simp only[ho,hx];simp[go_sem,hw,hE]
end Go.Proofs.YtngikkggjidenabGreat
namespace Go.Proofs.YtngikkggjidenabGreat
open Go.RowKit
attribute [local go_sem ↓] Go.wp_at_zero Go.wp_at_succ run_max_ii run_min_ii
def lessB (a b:Int×Int):Bool:=decide (a.2<b.2)||(decide (a.2=b.2)&&decide (a.1<b.1))
def dv (a b:Int×Int):Int×Int:=(b.1-a.1,b.2-a.2)
def cr (u v:Int×Int):Int:=u.1*v.2-u.2*v.1
abbrev okP (p:Int×Int):Prop:=okPt p.1 p.2=true
theorem okP_out {p:Int×Int}(h:okP p):(-1048576<=p.1/\p.1<=1048576)/\(-1048576<=p.2/\p.2<=1048576):=by simpa[okP,okPt]using h
theorem mul_bd {a b:Int}(h1: -2097152<=a/\a<=2097152)(h2: -2097152<=b/\b<=2097152): -4398046511104<=a*b/\a*b<=4398046511104:=by
  have h:(a*b).natAbs<=2097152*2097152:=by rw[Int.natAbs_mul];exact Nat.mul_le_mul (by omega) (by omega)
  omega
theorem dv_bd {a b:Int×Int}(ha:okP a)(hb:okP b):(-2097152<=(dv a b).1/\(dv a b).1<=2097152)/\(-2097152<=(dv a b).2/\(dv a b).2<=2097152):=by
  have h1:=okP_out ha;have h2:=okP_out hb;unfold dv;dsimp only
  omega
theorem cr_bd {u v:Int×Int}(hu:(-2097152<=u.1/\u.1<=2097152)/\(-2097152<=u.2/\u.2<=2097152))(hv:(-2097152<=v.1/\v.1<=2097152)/\(-2097152<=v.2/\v.2<=2097152)): -8796093022208<=cr u v/\cr u v<=8796093022208:=by
  have h1:=mul_bd hu.1 hv.2;have h2:=mul_bd hu.2 hv.1;unfold cr;omega
theorem holdv_any (p:Int×Int)(w:World)(h:okP p):Calls Tryz.prog 55 #[.agg #[.int .i64 p.1,.int .i64 p.2]] w fun e w'=>e= .returned (.agg #[.int .i64 p.1,.int .i64 p.2])/\Ext w w':=by
  have hv2:=okP_out h;have c1:clampI p.1 (-1048576) 1048576=p.1:=by have h:=eq_clamp p.1;rw[decide_eq_true hv2.1]at h;simpa using h
  have c2:clampI p.2 (-1048576) 1048576=p.2:=by have h:=eq_clamp p.2;rw[decide_eq_true hv2.2]at h;simpa using h
  have k:=hold_any p.1 p.2 w;rw[c1,c2]at k;exact k
theorem ev_eqlpt {ρ:Operand->Value}{o:Oper}{w:World}{a b c d:Int}{bb:Bool}{t':TypeId}{x y:Operand}(ho:o.op= .binOp .eql 28 x y t')(hx:ρ x= .agg #[.int .i64 a,.int .i64 b])(hy:ρ y= .agg #[.int .i64 c,.int .i64 d])(h:(a==c&&b==d)=bb):
    (execOp ρ o).run Tryz.prog w= .ok (.value (.bool bb)) w:=by
  subst h;unfold execOp;simp only[ho,hx,hy];simp[go_sem,run_eql_point]
theorem pt_eq {a b:Int×Int}:(a.1==b.1&&a.2==b.2)=true↔a=b:=by
  rw[Bool.and_eq_true,beq_iff_eq,beq_iff_eq];exact⟨fun h=>Prod.ext h.1 h.2,fun h=>by rw[h];exact⟨rfl,rfl⟩⟩
def endL (a b:Int×Int):Int×Int:=if lessB b a=true then b else a
def endH (a b:Int×Int):Int×Int:=if lessB b a=true then a else b
def shL (a b c d:Int×Int):Int×Int:=if lessB (endL a b) (endL c d)=true then endL c d else endL a b
def shH (a b c d:Int×Int):Int×Int:=if lessB (endH c d) (endH a b)=true then endH c d else endH a b
def sharedV (a b c d:Int×Int):(Int×Int)×Int:=if lessB (shH a b c d) (shL a b c d)=true then((0,0),0)else if shL a b c d=shH a b c d then(shL a b c d,1)else((0,0),2)
theorem okL {a b:Int×Int}(ha:okP a)(hb:okP b):okP (endL a b):=by unfold endL;split<;>assumption
theorem okH {a b:Int×Int}(ha:okP a)(hb:okP b):okP (endH a b):=by unfold endH;split<;>assumption
theorem okSL {a b c d:Int×Int}(ha:okP a)(hb:okP b)(hc:okP c)(hd:okP d):okP (shL a b c d):=by unfold shL;split;exact okL hc hd;exact okL ha hb
theorem okSH {a b c d:Int×Int}(ha:okP a)(hb:okP b)(hc:okP c)(hd:okP d):okP (shH a b c d):=by unfold shH;split;exact okH hc hd;exact okH ha hb
theorem results_c1c1t1 {P:Program}{fn:Func}{i j k:Tmp}{t u:TypeId}(h:fn.results=#[.cell i t,.cell j u,.tmp k]){tmps:Array Value}{w:World}{p q:Addr}{v z x:Value}
    (hi:tmps.getD i undef= .pointer (some p))(hj:tmps.getD j undef= .pointer (some q))(h1:(Go.loadVar t p).run P w= .ok v w)(h2:(Go.loadVar u q).run P w= .ok z w)(hk:tmps.getD k undef=x):
    (results fn tmps).run P w= .ok (.tuple #[v,z,x]) w:=by
  simp only[Array.getD_eq_getD_getElem?]at hi hj hk;simp[results,h,hi,hj,hk,h1,h2,asAddr]
theorem vsub_any (p q:Int×Int)(w:World)(hp:okP p)(hq:okP q):
  Calls Tryz.prog 124 #[.agg #[.int .i64 p.1,.int .i64 p.2],.agg #[.int .i64 q.1,.int .i64 q.2]] w fun e w'=>e= .returned (.agg #[.int .i64 (dv q p).1,.int .i64 (dv q p).2])/\Ext w w':=by
 have op:=okP_out hp;have oq:=okP_out hq;go_enter Tryz.func124,Tryz.ntmps124
 have H0:=zH (Hp.start w);go_upto_region 0 with fail
 refine wl ?_;refine aA' 28 [.int .i64 p.1,.int .i64 p.2] H0.out ?_;intro X1 w2 H3 _;refine aA' 28 [.int .i64 q.1,.int .i64 q.2] H3.out ?_;intro X6 w7 H8 _;refine aA' 28 [.int .i64 0,.int .i64 0] H8.out ?_;intro X11 w12 H13 _;go_upto_region 1 with fail
 refine wp_region_held_drew (S:=fun x=>(fun x_=>Hp w x_ [.blk X1 28 [.int .i64 p.1,.int .i64 p.2],.blk X6 28 [.int .i64 q.1,.int .i64 q.2],.blk X11 28 [.int .i64 0,.int .i64 0]]) x) kR (H13.out.step zb) (fun _=> ?_);have H16:=zH (H13.out.step (Ext.refl w12).drew);refine mR 0 (bs 6 1) X1 (0) [.int .i64 p.1,.int .i64 p.2] (fun x hx=>hx.range (i:=0) rR 0 2) Tryz.underlying28 (H13.out.step zb) ?_;refine zr 2 (bs 6 5) X6 (0) [.int .i64 q.1,.int .i64 q.2] (fun x hx=>hx.range (i:=1) rR 0 2) Tryz.underlying28 (H13.out.step zb) ?_;refine mC 1 (bs 6 7) (holdv_any p _ hp) ?_;rintro e w18 ⟨rfl,hx⟩;have H19:=zH (H16.out.step hx);have S21:=zH (show(fun x_=>Hp w x_ [.blk X1 28 [.int .i64 p.1,.int .i64 p.2],.blk X6 28 [.int .i64 q.1,.int .i64 q.2],.blk X11 28 [.int .i64 0,.int .i64 0]]) w18 from(H13.out.step zb).step hx);clear hx;refine⟨_,rfl,S21.out,?_⟩;try simp only[Act.put,zA,zB,zC]
 refine mC 3 (bs 6 15) (holdv_any q _ hq) ?_;rintro e w22 ⟨rfl,hx⟩;have H23:=zH (H19.out.step hx);have S25:=zH (S21.out.step hx);clear hx;refine⟨_,rfl,S25.out,?_⟩;try simp only[Act.put,zA,zB,zC]
 refine md_st (i:=4) (listed':=(bs 6 31)) rR kR rR kR _ _ _ rR H23.out (ix:=0) rR 0 [.int .i64 p.1,.int .i64 p.2] rR rR (by simp) kR (by simp[Value.oneCell']) (by simp[NoUL]) ?_;intro w26 hh hd ho;have H27:=hN hh;have S29:=zH (show(fun x_=>Hp w x_ [.blk X1 28 [.int .i64 p.1,.int .i64 p.2],.blk X6 28 [.int .i64 q.1,.int .i64 q.2],.blk X11 28 [.int .i64 0,.int .i64 0]]) w26 from H27.out);clear hh hd ho;refine⟨S29.out,?_⟩
 (try simp only[Act.put])
 refine md_st (i:=5) (listed':=(bs 6 63)) rR kR rR kR _ _ _ rR H27.out (ix:=1) rR 0 [.int .i64 q.1,.int .i64 q.2] rR rR (by simp) kR (by simp[Value.oneCell']) (by simp[NoUL]) ?_;intro w30 hh hd ho;have H31:=hN hh;have S33:=zH (show(fun x_=>Hp w x_ [.blk X1 28 [.int .i64 p.1,.int .i64 p.2],.blk X6 28 [.int .i64 q.1,.int .i64 q.2],.blk X11 28 [.int .i64 0,.int .i64 0]]) w30 from H31.out);clear hh hd ho;refine⟨S33.out,?_⟩
 (try simp only[Act.put])
 refine wpAnyH_done kR ?_ _;go_upto_region 2 with fail
 refine wl ?_;refine zI4 H31.out _ _ _ _ ?_;refine zp (.int .i64 (p.1-q.1)) (by exact ez2 (by omega)) ?_;refine zI4 H31.out _ _ _ _ ?_;refine zp (.int .i64 (p.2-q.2)) (by exact ez2 (by omega)) ?_;refine zq (.agg #[.int .i64 (p.1-q.1),.int .i64 (p.2-q.2)]) ?_;refine aS' 2 [.int .i64 (p.1-q.1),.int .i64 (p.2-q.2)] H31.out ?_;intro w41 H42 _;go_wp2_with fail
 refine bodyPost_ret (v:= .agg #[.int .i64 (dv q p).1,.int .i64 (dv q p).2]) ?_ rfl ⟨rfl,H42.out.ext⟩;exact results_cell1 rfl rfl ((H42.out.blk (i:=2) rR).loadVar rfl rfl rR)
theorem vless_any (p q:Int×Int)(w:World)(hp:okP p)(hq:okP q):
  Calls Tryz.prog 162 #[.agg #[.int .i64 p.1,.int .i64 p.2],.agg #[.int .i64 q.1,.int .i64 q.2]] w fun e w'=>e= .returned (.bool (lessB p q))/\Ext w w':=by
 have op:=okP_out hp;have oq:=okP_out hq;go_enter Tryz.func162,Tryz.ntmps162
 have H0:=zH (Hp.start w);go_upto_region 0 with fail
 refine wl ?_;refine aA' 28 [.int .i64 p.1,.int .i64 p.2] H0.out ?_;intro X44 w45 H46 _;refine aA' 28 [.int .i64 q.1,.int .i64 q.2] H46.out ?_;intro X49 w50 H51 _;refine zq (.bool false) ?_;go_upto_region 1 with fail
 refine wp_region_held_drew (S:=fun x=>(fun x_=>Hp w x_ [.blk X44 28 [.int .i64 p.1,.int .i64 p.2],.blk X49 28 [.int .i64 q.1,.int .i64 q.2]]) x) kR (H51.out.step zb) (fun _=> ?_);have H55:=zH (H51.out.step (Ext.refl w50).drew);refine mR 0 (bs 6 1) X44 (0) [.int .i64 p.1,.int .i64 p.2] (fun x hx=>hx.range (i:=0) rR 0 2) Tryz.underlying28 (H51.out.step zb) ?_;refine zr 2 (bs 6 5) X49 (0) [.int .i64 q.1,.int .i64 q.2] (fun x hx=>hx.range (i:=1) rR 0 2) Tryz.underlying28 (H51.out.step zb) ?_;refine mC 1 (bs 6 7) (holdv_any p _ hp) ?_;rintro e w57 ⟨rfl,hx⟩;have H58:=zH (H55.out.step hx);have S60:=zH (show(fun x_=>Hp w x_ [.blk X44 28 [.int .i64 p.1,.int .i64 p.2],.blk X49 28 [.int .i64 q.1,.int .i64 q.2]]) w57 from(H51.out.step zb).step hx);clear hx;refine⟨_,rfl,S60.out,?_⟩;try simp only[Act.put,zA,zB,zC]
 refine mC 3 (bs 6 15) (holdv_any q _ hq) ?_;rintro e w61 ⟨rfl,hx⟩;have H62:=zH (H58.out.step hx);have S64:=zH (S60.out.step hx);clear hx;refine⟨_,rfl,S64.out,?_⟩;try simp only[Act.put,zA,zB,zC]
 refine md_st (i:=4) (listed':=(bs 6 31)) rR kR rR kR _ _ _ rR H62.out (ix:=0) rR 0 [.int .i64 p.1,.int .i64 p.2] rR rR (by simp) kR (by simp[Value.oneCell']) (by simp[NoUL]) ?_;intro w65 hh hd ho;have H66:=hN hh;have S68:=zH (show(fun x_=>Hp w x_ [.blk X44 28 [.int .i64 p.1,.int .i64 p.2],.blk X49 28 [.int .i64 q.1,.int .i64 q.2]]) w65 from H66.out);clear hh hd ho;refine⟨S68.out,?_⟩
 (try simp only[Act.put])
 refine md_st (i:=5) (listed':=(bs 6 63)) rR kR rR kR _ _ _ rR H66.out (ix:=1) rR 0 [.int .i64 q.1,.int .i64 q.2] rR rR (by simp) kR (by simp[Value.oneCell']) (by simp[NoUL]) ?_;intro w69 hh hd ho;have H70:=hN hh;have S72:=zH (show(fun x_=>Hp w x_ [.blk X44 28 [.int .i64 p.1,.int .i64 p.2],.blk X49 28 [.int .i64 q.1,.int .i64 q.2]]) w69 from H70.out);clear hh hd ho;refine⟨S72.out,?_⟩
 (try simp only[Act.put])
 refine wpAnyH_done kR ?_ _;rcases emH (p.2<q.2)with C1|C1
 ·go_upto_region 2 with fail
  refine wl ?_;refine zI4 H70.out _ _ _ _ ?_;refine zp (.bool true) (by exact ezl (e:=(dec_t C1.out))) ?_;refine zI8 (Hp.start _) (.bool true) _ _ _ _ _ _ _ ?_;refine zI7 (Hp.start _) _ _ _ _ _ (.bool true) (.bool true) ?_;go_wp2_with fail
  go_ret
  exact⟨by rw[show lessB p q=true from by unfold lessB;simp[C1.out]];rfl,H70.out.ext⟩
 rcases emH (p.2=q.2)with C2|C2
 ·rcases emH (p.1<q.1)with C3|C3
  ·go_upto_region 2 with fail
   refine wl ?_;refine zI4 H70.out _ _ _ _ ?_;refine zp (.bool false) (by exact ezl (e:=(dec_f C1.out))) ?_;refine zI5 H70.out (.bool false) _ _ _ _ ?_;refine zp (.bool true) (by exact ezq (e:=(dec_t C2.out))) ?_;refine zI5 H70.out (.bool true) _ _ _ _ ?_;refine zp (.bool true) (by exact ezl (e:=(dec_t C3.out))) ?_;refine zI3 (Hp.start _) (.bool true) (.bool true) (.bool true) ?_;go_wp2_with fail
   go_ret
   exact⟨by rw[show lessB p q=true from by unfold lessB;simp[C2.out,C3.out]];rfl,H70.out.ext⟩
  go_upto_region 2 with fail
  refine wl ?_;refine zI4 H70.out _ _ _ _ ?_;refine zp (.bool false) (by exact ezl (e:=(dec_f C1.out))) ?_;refine zI5 H70.out (.bool false) _ _ _ _ ?_;refine zp (.bool true) (by exact ezq (e:=(dec_t C2.out))) ?_;refine zI5 H70.out (.bool true) _ _ _ _ ?_;refine zp (.bool false) (by exact ezl (e:=(dec_f C3.out))) ?_;refine zI3 (Hp.start _) (.bool false) (.bool false) (.bool false) ?_;go_wp2_with fail
  go_ret
  exact⟨by rw[show lessB p q=false from by unfold lessB;simp[C2.out,C3.out]];rfl,H70.out.ext⟩
 go_upto_region 2 with fail
 refine wl ?_;refine zI4 H70.out _ _ _ _ ?_;refine zp (.bool false) (by exact ezl (e:=(dec_f C1.out))) ?_;refine zI5 H70.out (.bool false) _ _ _ _ ?_;refine zp (.bool false) (by exact ezq (e:=(dec_f C2.out))) ?_;refine zI8 (Hp.start _) (.bool false) _ _ _ _ _ (.bool false) (.bool false) ?_;refine zq (.bool false) ?_;go_wp2_with fail
 go_ret
 exact⟨by rw[show lessB p q=false from by unfold lessB;simp[C1.out,C2.out]];rfl,H70.out.ext⟩
theorem icross_any (u v:Int×Int)(w:World)(hu:(-2097152<=u.1/\u.1<=2097152)/\(-2097152<=u.2/\u.2<=2097152))(hv:(-2097152<=v.1/\v.1<=2097152)/\(-2097152<=v.2/\v.2<=2097152)):
  Calls Tryz.prog 125 #[.agg #[.int .i64 u.1,.int .i64 u.2],.agg #[.int .i64 v.1,.int .i64 v.2]] w fun e w'=>e= .returned (.int .i64 (cr u v))/\Ext w w':=by
 have m1:=mul_bd hu.1 hv.2;have m2:=mul_bd hu.2 hv.1;go_enter Tryz.func125,Tryz.ntmps125
 have H0:=zH (Hp.start w);go_upto_region 0 with fail
 refine wl ?_;refine aA' 28 [.int .i64 u.1,.int .i64 u.2] H0.out ?_;intro X121 w122 H123 _;refine aA' 28 [.int .i64 v.1,.int .i64 v.2] H123.out ?_;intro X126 w127 H128 _;refine zq (.int .i64 0) ?_;go_upto_region 1 with fail
 refine wl ?_;refine zI4 H128.out _ _ _ _ ?_;refine zp (.int .i64 (u.1*v.2)) (by exact ez3 (by omega)) ?_;refine zI4 H128.out _ _ _ _ ?_;refine zp (.int .i64 (u.2*v.1)) (by exact ez3 (by omega)) ?_;refine zp (.int .i64 ((u.1*v.2)-(u.2*v.1))) (by exact ez2 (by omega)) ?_;refine zq (.int .i64 ((u.1*v.2)-(u.2*v.1))) ?_;go_wp2_with fail
 go_ret
 exact⟨rfl,H128.out.ext⟩
theorem ends_any (a b:Int×Int)(w:World)(ha:okP a)(hb:okP b):
  Calls Tryz.prog 161 #[.agg #[.int .i64 a.1,.int .i64 a.2],.agg #[.int .i64 b.1,.int .i64 b.2]] w fun e w'=>e= .returned (.tuple #[.agg #[.int .i64 (endL a b).1,.int .i64 (endL a b).2],.agg #[.int .i64 (endH a b).1,.int .i64 (endH a b).2]])/\Ext w w':=by
 go_enter Tryz.func161,Tryz.ntmps161
 have H0:=zH (Hp.start w);go_upto_region 0 with fail
 refine wl ?_;refine aA' 28 [.int .i64 a.1,.int .i64 a.2] H0.out ?_;intro X140 w141 H142 _;refine aA' 28 [.int .i64 b.1,.int .i64 b.2] H142.out ?_;intro X145 w146 H147 _;refine aA' 28 [.int .i64 0,.int .i64 0] H147.out ?_;intro X150 w151 H152 _;refine aA' 28 [.int .i64 0,.int .i64 0] H152.out ?_;intro X155 w156 H157 _;rcases emH (lessB b a=true)with CL|CL
 ·go_upto_region 1 with fail
  refine wl ?_;refine zI2 H157.out _ _ ?_;refine zc (vless_any b a _ hb ha) ?_;rintro e w161 ⟨rfl,hx⟩;have H162:=zH (H157.out.step hx);clear hx;refine⟨.bool true,by rw[CL.out],?_⟩;try simp only[Act.put,zA,zB,zC]
  go_upto_region 2 with fail
  refine wp_region_held_drew (S:=fun x=>Fr (fun kz=>kz=X150\/kz=X155) w161 x) kR (Fr.of_ext zb) (fun _=> ?_);have H164:=zH (H162.out.step (Ext.refl w161).drew);refine mR 0 (bs 4 1) X145 (0) [.int .i64 b.1,.int .i64 b.2] (fun x hx=>Fr.range hx (show World.rangeAt w161 X145 (0) [.int .i64 b.1,.int .i64 b.2]from(H162.out.range (i:=1) rR 0 2)) (fun hk=>hk.elim (H162.out.offBlk (i:=1) (j:=2) rR rR dC rR) (H162.out.offBlk (i:=1) (j:=3) rR rR dC rR))) Tryz.underlying28 (Fr.of_ext zb) ?_;refine zr 1 (bs 4 3) X140 (0) [.int .i64 a.1,.int .i64 a.2] (fun x hx=>Fr.range hx (show World.rangeAt w161 X140 (0) [.int .i64 a.1,.int .i64 a.2]from(H162.out.range (i:=0) rR 0 2)) (fun hk=>hk.elim (H162.out.offBlk (i:=0) (j:=2) rR rR dC rR) (H162.out.offBlk (i:=0) (j:=3) rR rR dC rR))) Tryz.underlying28 (Fr.of_ext zb) ?_;refine md_st (i:=2) (listed':=(bs 4 7)) rR kR rR kR _ _ _ rR H164.out (ix:=2) rR 0 [.int .i64 b.1,.int .i64 b.2] rR rR (by simp) kR (by simp[Value.oneCell']) (by simp[NoUL]) ?_;intro w166 hh hd ho;have H167:=hN hh;have S169:=zH (show Fr (fun kz=>kz=X150\/kz=X155) w161 w166 from Fr.trans_new (Fr.of_ext zb) ho (fun j hj=> .inl (.inl (by injection hj with hj;exact hj.symm))));clear hh hd ho;refine⟨S169.out,?_⟩
  (try simp only[Act.put])
  refine md_st (i:=3) (listed':=(bs 4 15)) rR kR rR kR _ _ _ rR H167.out (ix:=3) rR 0 [.int .i64 a.1,.int .i64 a.2] rR rR (by simp) kR (by simp[Value.oneCell']) (by simp[NoUL]) ?_;intro w170 hh hd ho;have H171:=hN hh;have S173:=zH (Fr.trans_new S169.out ho (fun j hj=> .inl (.inr (by injection hj with hj;exact hj.symm))));clear hh hd ho;refine⟨S173.out,?_⟩
  (try simp only[Act.put])
  refine wpAnyH_done kR ?_ _;go_wp2_with fail
  refine bodyPost_ret (v:= .tuple #[.agg #[.int .i64 b.1,.int .i64 b.2],.agg #[.int .i64 a.1,.int .i64 a.2]]) ?_ rfl ⟨by unfold endL endH;rw[if_pos CL.out,if_pos CL.out],H171.out.ext⟩;exact results_cell2 rfl rfl rfl ((H171.out.blk (i:=2) rR).loadVar rfl rfl rR) ((H171.out.blk (i:=3) rR).loadVar rfl rfl rR)
 go_upto_region 1 with fail
 refine wl ?_;refine zI2 H157.out _ _ ?_;refine zc (vless_any b a _ hb ha) ?_;rintro e w174 ⟨rfl,hx⟩;have H175:=zH (H157.out.step hx);clear hx;refine⟨.bool false,by rw[Bool.eq_false_iff.2 CL.out],?_⟩;try simp only[Act.put,zA,zB,zC]
 go_upto_region 3 with fail
 refine wp_region_held_drew (S:=fun x=>Fr (fun kz=>kz=X150\/kz=X155) w174 x) kR (Fr.of_ext zb) (fun _=> ?_);have H177:=zH (H175.out.step (Ext.refl w174).drew);refine mR 0 (bs 4 1) X140 (0) [.int .i64 a.1,.int .i64 a.2] (fun x hx=>Fr.range hx (show World.rangeAt w174 X140 (0) [.int .i64 a.1,.int .i64 a.2]from(H175.out.range (i:=0) rR 0 2)) (fun hk=>hk.elim (H175.out.offBlk (i:=0) (j:=2) rR rR dC rR) (H175.out.offBlk (i:=0) (j:=3) rR rR dC rR))) Tryz.underlying28 (Fr.of_ext zb) ?_;refine zr 1 (bs 4 3) X145 (0) [.int .i64 b.1,.int .i64 b.2] (fun x hx=>Fr.range hx (show World.rangeAt w174 X145 (0) [.int .i64 b.1,.int .i64 b.2]from(H175.out.range (i:=1) rR 0 2)) (fun hk=>hk.elim (H175.out.offBlk (i:=1) (j:=2) rR rR dC rR) (H175.out.offBlk (i:=1) (j:=3) rR rR dC rR))) Tryz.underlying28 (Fr.of_ext zb) ?_;refine md_st (i:=2) (listed':=(bs 4 7)) rR kR rR kR _ _ _ rR H177.out (ix:=2) rR 0 [.int .i64 a.1,.int .i64 a.2] rR rR (by simp) kR (by simp[Value.oneCell']) (by simp[NoUL]) ?_;intro w179 hh hd ho;have H180:=hN hh;have S182:=zH (show Fr (fun kz=>kz=X150\/kz=X155) w174 w179 from Fr.trans_new (Fr.of_ext zb) ho (fun j hj=> .inl (.inl (by injection hj with hj;exact hj.symm))));clear hh hd ho;refine⟨S182.out,?_⟩
 (try simp only[Act.put])
 refine md_st (i:=3) (listed':=(bs 4 15)) rR kR rR kR _ _ _ rR H180.out (ix:=3) rR 0 [.int .i64 b.1,.int .i64 b.2] rR rR (by simp) kR (by simp[Value.oneCell']) (by simp[NoUL]) ?_;intro w183 hh hd ho;have H184:=hN hh;have S186:=zH (Fr.trans_new S182.out ho (fun j hj=> .inl (.inr (by injection hj with hj;exact hj.symm))));clear hh hd ho;refine⟨S186.out,?_⟩
 (try simp only[Act.put])
 refine wpAnyH_done kR ?_ _;go_wp2_with fail
 refine bodyPost_ret (v:= .tuple #[.agg #[.int .i64 a.1,.int .i64 a.2],.agg #[.int .i64 b.1,.int .i64 b.2]]) ?_ rfl ⟨by unfold endL endH;rw[if_neg CL.out,if_neg CL.out],H184.out.ext⟩;exact results_cell2 rfl rfl rfl ((H184.out.blk (i:=2) rR).loadVar rfl rfl rR) ((H184.out.blk (i:=3) rR).loadVar rfl rfl rR)
theorem shared_any (a b c d:Int×Int)(w:World)(ha:okP a)(hb:okP b)(hc:okP c)(hd:okP d):
  Calls Tryz.prog 126 #[.agg #[.int .i64 a.1,.int .i64 a.2],.agg #[.int .i64 b.1,.int .i64 b.2],.agg #[.int .i64 c.1,.int .i64 c.2],.agg #[.int .i64 d.1,.int .i64 d.2]] w fun e w'=>e= .returned (.tuple #[.agg #[.int .i64 (sharedV a b c d).1.1,.int .i64 (sharedV a b c d).1.2],.int .i64 (sharedV a b c d).2])/\Ext w w':=by
 go_enter Tryz.func126,Tryz.ntmps126
 have H0:=zH (Hp.start w);go_upto_region 0 with fail
 refine wl ?_;refine aA' 28 [.int .i64 a.1,.int .i64 a.2] H0.out ?_;intro X1 w2 H3 _;refine aA' 28 [.int .i64 b.1,.int .i64 b.2] H3.out ?_;intro X6 w7 H8 _;refine aA' 28 [.int .i64 c.1,.int .i64 c.2] H8.out ?_;intro X11 w12 H13 _;refine aA' 28 [.int .i64 d.1,.int .i64 d.2] H13.out ?_;intro X16 w17 H18 _;refine aA' 28 [.int .i64 0,.int .i64 0] H18.out ?_;intro X21 w22 H23 _;refine zq (.int .i64 0) ?_;go_upto_region 1 with fail
 refine wl ?_;refine zI2 H23.out _ _ ?_;refine aC H23.out (ends_any a b _ ha hb) ?_;intro w27 H28 _;refine zI3 (Hp.start _) _ _ _ ?_;refine aS' 0 [.int .i64 ((endL a b).1),.int .i64 ((endL a b).2)] H28.out ?_;intro w33 H34 _;refine aS' 1 [.int .i64 ((endH a b).1),.int .i64 ((endH a b).2)] H34.out ?_;intro w36 H37 _;go_upto_region 2 with fail
 refine wl ?_;refine zI2 H37.out _ _ ?_;refine aC H37.out (ends_any c d _ hc hd) ?_;intro w39 H40 _;refine zI3 (Hp.start _) _ _ _ ?_;refine aS' 2 [.int .i64 ((endL c d).1),.int .i64 ((endL c d).2)] H40.out ?_;intro w45 H46 _;refine aS' 3 [.int .i64 ((endH c d).1),.int .i64 ((endH c d).2)] H46.out ?_;intro w48 H49 _;go_upto_region 3 with fail
 refine wl ?_;refine zI2 H49.out _ _ ?_;refine aC H49.out (vless_any (endL a b) (endL c d) _ (okL ha hb) (okL hc hd)) ?_;intro w51 H52 _;go_upto_if 24 with fail
 go_cut [] (fun wx=>Hp w wx [.blk X1 28 [.int .i64 ((shL a b c d).1),.int .i64 ((shL a b c d).2)],.blk X6 28 [.int .i64 ((endH a b).1),.int .i64 ((endH a b).2)],.blk X11 28 [.int .i64 ((endL c d).1),.int .i64 ((endL c d).2)],.blk X16 28 [.int .i64 ((endH c d).1),.int .i64 ((endH c d).2)],.blk X21 28 [.int .i64 0,.int .i64 0]]/\Dig w51 wx)
 case first=>
  by_cases cj:lessB (endL a b) (endL c d)=true
  ·rw[cj]
   go_upto_region 4 with fail
   refine wl ?_;refine zI1 H52.out _ ?_;refine aS' 0 [.int .i64 ((endL c d).1),.int .i64 ((endL c d).2)] H52.out ?_;intro w54 H55 D55;go_wp2_with fail
   go_meet
   exact⟨(by rw[show shL a b c d=endL c d from if_pos cj];exact H55.out),D55.out⟩
  rw[Bool.eq_false_iff.2 cj];go_wp2_with fail
  go_meet
  exact⟨(by rw[show shL a b c d=endL a b from if_neg cj];exact H52.out),(Dig.refl _)⟩
 obtain⟨hh_,hd_⟩:=hcut;generalize wc=w57 at*
 have H59:=zH hh_;have D59:=zH hd_;clear hh_ hd_;go_upto_region 5 with fail
 refine wl ?_;refine zd X16 (0) [.int .i64 ((endH c d).1),.int .i64 ((endH c d).2)] (H59.out.range (i:=3) rR 0 2) Tryz.underlying28 ?_;refine zd X6 (0) [.int .i64 ((endH a b).1),.int .i64 ((endH a b).2)] (H59.out.range (i:=1) rR 0 2) Tryz.underlying28 ?_;refine aC H59.out (vless_any (endH c d) (endH a b) _ (okH hc hd) (okH ha hb)) ?_;intro w60 H61 _;go_upto_if 28 with fail
 go_cut [] (fun wx=>Hp w wx [.blk X1 28 [.int .i64 ((shL a b c d).1),.int .i64 ((shL a b c d).2)],.blk X6 28 [.int .i64 ((shH a b c d).1),.int .i64 ((shH a b c d).2)],.blk X11 28 [.int .i64 ((endL c d).1),.int .i64 ((endL c d).2)],.blk X16 28 [.int .i64 ((endH c d).1),.int .i64 ((endH c d).2)],.blk X21 28 [.int .i64 0,.int .i64 0]]/\Dig w60 wx)
 case first=>
  by_cases cj:lessB (endH c d) (endH a b)=true
  ·rw[cj]
   go_upto_region 6 with fail
   refine wl ?_;refine zd X16 (0) [.int .i64 ((endH c d).1),.int .i64 ((endH c d).2)] (H61.out.range (i:=3) rR 0 2) Tryz.underlying28 ?_;refine aS' 1 [.int .i64 ((endH c d).1),.int .i64 ((endH c d).2)] H61.out ?_;intro w63 H64 D64;go_wp2_with fail
   go_meet
   exact⟨(by rw[show shH a b c d=endH c d from if_pos cj];exact H64.out),D64.out⟩
  rw[Bool.eq_false_iff.2 cj];go_wp2_with fail
  go_meet
  exact⟨(by rw[show shH a b c d=endH a b from if_neg cj];exact H61.out),(Dig.refl _)⟩
 obtain⟨hh_,hd_⟩:=hcut;generalize wc=w66 at*
 have H68:=zH hh_;have D68:=zH hd_;clear hh_ hd_;rcases emH (lessB (shH a b c d) (shL a b c d)=true)with C3|C3
 ·go_upto_region 7 with fail
  refine wl ?_;refine zd X6 (0) [.int .i64 ((shH a b c d).1),.int .i64 ((shH a b c d).2)] (H68.out.range (i:=1) rR 0 2) Tryz.underlying28 ?_;refine zd X1 (0) [.int .i64 ((shL a b c d).1),.int .i64 ((shL a b c d).2)] (H68.out.range (i:=0) rR 0 2) Tryz.underlying28 ?_;refine zc (vless_any (shH a b c d) (shL a b c d) _ (okSH ha hb hc hd) (okSL ha hb hc hd)) ?_;rintro e w70 ⟨rfl,hx⟩;have H71:=zH (H68.out.step hx);clear hx;refine⟨.bool true,by rw[C3.out],?_⟩;try simp only[Act.put,zA,zB,zC]
  refine zq (.bool true) ?_;go_upto_region 8 with fail
  refine wl ?_;refine zI1 (Hp.start _) _ ?_;refine aS' 4 [.int .i64 0,.int .i64 0] H71.out ?_;intro w75 H76 _;refine zq (.int .i64 0) ?_;go_wp2_with fail
  refine bodyPost_ret (v:= .tuple #[.agg #[.int .i64 0,.int .i64 0],.int .i64 0]) ?_ rfl ⟨by rw[show sharedV a b c d=((0,0),0)from by unfold sharedV;exact if_pos C3.out],H76.out.ext⟩;exact results_c1t1 rfl rfl ((H76.out.blk (i:=4) rR).loadVar rfl rfl rR) rfl
 go_upto_region 7 with fail
 refine wl ?_;refine zd X6 (0) [.int .i64 ((shH a b c d).1),.int .i64 ((shH a b c d).2)] (H68.out.range (i:=1) rR 0 2) Tryz.underlying28 ?_;refine zd X1 (0) [.int .i64 ((shL a b c d).1),.int .i64 ((shL a b c d).2)] (H68.out.range (i:=0) rR 0 2) Tryz.underlying28 ?_;refine zc (vless_any (shH a b c d) (shL a b c d) _ (okSH ha hb hc hd) (okSL ha hb hc hd)) ?_;rintro e w79 ⟨rfl,hx⟩;have H80:=zH (H68.out.step hx);clear hx;refine⟨.bool false,by rw[Bool.eq_false_iff.2 C3.out],?_⟩;try simp only[Act.put,zA,zB,zC]
 refine zq (.bool false) ?_;rcases emH (shL a b c d=shH a b c d)with C4|C4
 ·go_upto_region 9 with fail
  refine wl ?_;refine zd X1 (0) [.int .i64 ((shL a b c d).1),.int .i64 ((shL a b c d).2)] (H80.out.range (i:=0) rR 0 2) Tryz.underlying28 ?_;refine zd X6 (0) [.int .i64 ((shH a b c d).1),.int .i64 ((shH a b c d).2)] (H80.out.range (i:=1) rR 0 2) Tryz.underlying28 ?_;refine zp (.bool true) (by exact ev_eqlpt rR rR rR (pt_eq.2 C4.out)) ?_;refine zq (.bool true) ?_;go_upto_region 10 with fail
  refine wl ?_;refine zd X1 (0) [.int .i64 ((shL a b c d).1),.int .i64 ((shL a b c d).2)] (H80.out.range (i:=0) rR 0 2) Tryz.underlying28 ?_;refine aS' 4 [.int .i64 ((shL a b c d).1),.int .i64 ((shL a b c d).2)] H80.out ?_;intro w86 H87 _;refine zq (.int .i64 1) ?_;go_wp2_with fail
  refine bodyPost_ret (v:= .tuple #[.agg #[.int .i64 (shL a b c d).1,.int .i64 (shL a b c d).2],.int .i64 1]) ?_ rfl ⟨by rw[show sharedV a b c d=(shL a b c d,1)from by unfold sharedV;rw[if_neg C3.out];exact if_pos C4.out],H87.out.ext⟩;exact results_c1t1 rfl rfl ((H87.out.blk (i:=4) rR).loadVar rfl rfl rR) rfl
 go_upto_region 9 with fail
 refine wl ?_;refine zd X1 (0) [.int .i64 ((shL a b c d).1),.int .i64 ((shL a b c d).2)] (H80.out.range (i:=0) rR 0 2) Tryz.underlying28 ?_;refine zd X6 (0) [.int .i64 ((shH a b c d).1),.int .i64 ((shH a b c d).2)] (H80.out.range (i:=1) rR 0 2) Tryz.underlying28 ?_;refine zp (.bool false) (by exact ev_eqlpt rR rR rR (Bool.eq_false_iff.2 (fun h_=>C4.out (pt_eq.1 h_)))) ?_;refine zq (.bool false) ?_;go_upto_region 11 with fail
 refine wl ?_;refine zI1 (Hp.start _) _ ?_;refine aS' 4 [.int .i64 0,.int .i64 0] H80.out ?_;intro w93 H94 _;refine zq (.int .i64 2) ?_;go_wp2_with fail
 refine bodyPost_ret (v:= .tuple #[.agg #[.int .i64 0,.int .i64 0],.int .i64 2]) ?_ rfl ⟨by rw[show sharedV a b c d=((0,0),2)from by unfold sharedV;rw[if_neg C3.out];exact if_neg C4.out],H94.out.ext⟩;exact results_c1t1 rfl rfl ((H94.out.blk (i:=4) rR).loadVar rfl rfl rR) rfl
end Go.Proofs.YtngikkggjidenabGreat
namespace Go.Proofs.YtngikkggjidenabGreat
open Go.RowKit
section
variable {P:Program} {l:List Oper} {Q:Exit->Act->World->Prop} {md:Region.Mode} {S:World->Prop} {j i:Nat} {dj:Option Tmp} {T:TypeId} {zs:List Value} {b w0:World} {m:List Ent} {fuel:Nat} {listed li lj lij:Array Bool} {a:Act} {w:World} {oi oj:Oper} {v:Value}
def Fl (P:Program)(md:Region.Mode)(l:List Oper)(Q:Exit->Act->World->Prop)(S:World->Prop)(j:Nat)(dj:Option Tmp)(T:TypeId)(zs:List Value)(b w0:World)(m:List Ent)(fuel:Nat)(listed:Array Bool)(a:Act)(w:World):Prop:=
  wpAnyH P md l.toArray Q S (fuel+1) listed a w/\
  ∀X y,Ext w y->Hp w0 y (m++[.blk X T zs])->S y->b.heap.size<=X->wpAnyH P md l.toArray Q S fuel (listed.setIfInBounds j true) (a.put dj (.pointer (some ⟨X,0,none⟩))) y
theorem Fl.go (h:Fl P md l Q S j dj T zs b w0 m fuel listed a w):wpAnyH P md l.toArray Q S (fuel+1) listed a w:=h.1
def offSlot (l:List Oper)(o:Oper)(dj:Option Tmp):Bool:=match dj with|none=>true|some d=> !(o.looksAt l.toArray).contains d&&o.dst != some d
theorem offSlot_spec {o:Oper}(h:offSlot l o dj=true):(∀d,dj=some d->d∉o.looksAt l.toArray)/\∀d,dj=some d->o.dst≠some d:=by
  cases dj with
  |none=>exact⟨fun d h=>(by cases h),fun d h=>(by cases h)⟩
  | some d=>
    unfold offSlot at h;simp at h;refine⟨fun d' e=> ?_,fun d' e=> ?_⟩
    · injection e with e;subst e;exact h.1
    injection e with e;subst e;exact h.2
theorem fl_call {f:FuncId}{args:Array Value}{Φ:World->Ending->World->Prop}(hi:l[i]?=some oi)(hj:l[j]?=some oj)(hs:Region.noSelect l.toArray=true)(hlj:listed.setIfInBounds j true=lj)
  (hr:((Region.ready md l.toArray listed).all fun k=>k==i||k==j)=true)(hne:(Region.ready md l.toArray listed).isEmpty=false)(hr2:Region.ready md l.toArray lj=[i])(hij:i≠j)(hoff:offSlot l oi dj=true)(hdj:oj.dst=dj)(hgj:oj.guard=none)
  (hvj:∀(ρ:Operand->Value) (x:World),(execOp ρ oj).run P x= .ok (.value (.pointer (some ⟨x.heap.size,0,none⟩))) (x.alloc (.cells zs.toArray T)))
  (hSx:∀x y,S x->Ext x y->S y)(hb:b.heap.size<=w.heap.size)(hH:Hp w0 w m)(hn:NoUL zs)(hSw:S w)
  (hw:Region.wanted oi (yielded l.toArray a.tmps)=true)(hv:∀x:World,(execOp a.eval oi).run P x= .ok (.enter f args) x)(hl:listed.setIfInBounds i true=li)
  (hc0:∀x,Ext w x->Calls P f args x (Φ x))(hE:∀x e x',Φ x e x'->Ext x x')
  (h0:∀x e x',Ext w x->Φ x e x'->∃v,e= .returned v/\Fl P md l Q S j dj T zs b w0 m fuel li (a.put oi.dst v) x'):Fl P md l Q S j dj T zs b w0 m (fuel+1) listed a w:=by
 have hc:∀x,Ext w x->Calls P f args x fun e x'=>Φ x e x'/\Ext x x':=fun x hx=>(hc0 x hx).mono fun e x' h1=>⟨h1,hE x e x' h1⟩
 have h:=fun(x:World) (e:Ending) (x':World) (h1:Ext w x) (h2:Φ x e x') (_:Ext x x')=>h0 x e x' h1 h2
 obtain⟨o1,o2⟩:=offSlot_spec hoff;have hsel:=fun cs b=>Region.noSelect_spec hs i oi cs b (by rw[List.getElem?_toArray];exact hi)
 have done:∀X y,Ext w y->Hp w0 y (m++[.blk X T zs])->S y->b.heap.size<=X->wpAnyH P md l.toArray Q S (fuel+1) (listed.setIfInBounds j true) (a.put dj (.pointer (some ⟨X,0,none⟩))) y:=by
  intro X y x hHy hSy hX;rw[hlj];refine md_call hi hr2 (by rw[wanted_put oi a dj _ o1];exact hw) (by rw[execOp_put oi hsel a dj _ o1];exact hv y) (hc y x) rfl ?_;rintro e y' ⟨h1,h2⟩;obtain⟨v,rfl,hf⟩:=h y e y' x h1 h2;refine⟨v,rfl,hSx _ _ hSy h2,?_⟩;have h3:=hf.2 X y' (Ext.refl _) (hHy.step h2) (hSx _ _ hSy h2) hX;rw[Act.put_comm a v _ (fun d e=>fun e2=>(o2 d e2) e)]at h3;rw[<-hlj,Array.setIfInBounds_comm _ _ (Ne.symm hij),hl];exact h3
 refine⟨?_,done⟩;have x1:Ext w (w.alloc (.cells zs.toArray T)):=(Ext.refl w).alloc _;refine wpAnyH_ready rfl (fun e=>by rw[e]at hne;cases hne) (fun k hk=> ?_);have hk2:=List.all_eq_true.1 hr k hk;simp only[Bool.or_eq_true,beq_iff_eq]at hk2;rcases hk2 with rfl|rfl
 ·refine wpOp_step (by rw[List.getElem?_toArray];exact hi) (fun K' hK=> ?_)
  rw[if_pos hw];refine wp_call_op (hv w) (hc w (Ext.refl w)) ?_;rintro e x' ⟨h1,h2⟩;obtain⟨v,rfl,hf⟩:=h w e x' (Ext.refl w) h1 h2;refine⟨v,rfl,hK _ _ ⟨hSx _ _ hSw h2,?_⟩⟩;rw[hl];exact hf.1
 refine wpOp_step (by rw[List.getElem?_toArray];exact hj) (fun K' hK=> ?_);rw[if_pos (by simp[Region.wanted,hgj])];unfold Oper.wp;rw[hvj];refine hK _ _ ⟨hSx _ _ hSw x1,?_⟩;rw[hdj];exact done _ _ x1 (hH.alloc T zs hn) (hSx _ _ hSw x1) hb
theorem fl_end (hj:l[j]?=some oj)(hr:Region.ready md l.toArray listed=[j])(hdj:oj.dst=dj)(hgj:oj.guard=none)
  (hvj:∀(ρ:Operand->Value) (x:World),(execOp ρ oj).run P x= .ok (.value (.pointer (some ⟨x.heap.size,0,none⟩))) (x.alloc (.cells zs.toArray T)))
  (hSx:∀x y,S x->Ext x y->S y)(hb:b.heap.size<=w.heap.size)(hH:Hp w0 w m)(hn:NoUL zs)(hSw:S w)(hl:listed.setIfInBounds j true=lj)
  (h:∀X y,Ext w y->Hp w0 y (m++[.blk X T zs])->S y->b.heap.size<=X->wpAnyH P md l.toArray Q S fuel lj (a.put dj (.pointer (some ⟨X,0,none⟩))) y):Fl P md l Q S j dj T zs b w0 m fuel listed a w:=by
 have x1:Ext w (w.alloc (.cells zs.toArray T)):=(Ext.refl w).alloc _;refine⟨md_one hj hr (by simp[Region.wanted,hgj]) (hvj _ w) (hSx _ _ hSw x1) hl ?_,fun X y x hHy hSy hX=>by rw[hl];exact h X y x hHy hSy hX⟩;rw[hdj];exact h _ _ x1 (hH.alloc T zs hn) (hSx _ _ hSw x1) hb
end
section
variable {P:Program} {l:List Oper} {S:World->Prop} {oi:Oper} {a:Act}
end
/-! A load of a variable that the region's last operation turns: it may come up anywhere among the calls. -/
section
variable {P:Program} {l:List Oper} {Q:Exit->Act->World->Prop} {md:Region.Mode} {S:World->Prop} {j i:Nat} {dj:Option Tmp} {u:Value} {b:World} {fuel:Nat} {listed li lj lij:Array Bool} {a:Act} {w:World} {oi oj:Oper} {v:Value}
def Fd (P:Program)(md:Region.Mode)(l:List Oper)(Q:Exit->Act->World->Prop)(S:World->Prop)(j:Nat)(dj:Option Tmp)(u:Value)(fuel:Nat)(listed:Array Bool)(a:Act)(w:World):Prop:=
  wpAnyH P md l.toArray Q S (fuel+1) listed a w/\wpAnyH P md l.toArray Q S fuel (listed.setIfInBounds j true) (a.put dj u) w
theorem Fd.go (h:Fd P md l Q S j dj u fuel listed a w):wpAnyH P md l.toArray Q S (fuel+1) listed a w:=h.1
theorem fd_call {f:FuncId}{args:Array Value}{Φ:Ending->World->Prop}(hi:l[i]?=some oi)(hj:l[j]?=some oj)(hs:Region.noSelect l.toArray=true)(hlj:listed.setIfInBounds j true=lj)
  (hr:((Region.ready md l.toArray listed).all fun k=>k==i||k==j)=true)(hne:(Region.ready md l.toArray listed).isEmpty=false)(hr2:Region.ready md l.toArray lj=[i])(hij:i≠j)(hoff:offSlot l oi dj=true)(hdj:oj.dst=dj)(hgj:oj.guard=none)
  (hSx:∀x,Ext b x->S x)(hb:Ext b w)(hvj:∀x,Ext b x->(execOp a.eval oj).run P x= .ok (.value u) x)
  (hw:Region.wanted oi (yielded l.toArray a.tmps)=true)(hv:(execOp a.eval oi).run P w= .ok (.enter f args) w)(hl:listed.setIfInBounds i true=li)
  (hc:Calls P f args w Φ)
  (h:∀e x',Φ e x'->∃v,e= .returned v/\Ext w x'/\Fd P md l Q S j dj u fuel li (a.put oi.dst v) x'):Fd P md l Q S j dj u (fuel+1) listed a w:=by
 obtain⟨o1,o2⟩:=offSlot_spec hoff;have hsel:=fun cs b=>Region.noSelect_spec hs i oi cs b (by rw[List.getElem?_toArray];exact hi)
 have done:wpAnyH P md l.toArray Q S (fuel+1) (listed.setIfInBounds j true) (a.put dj u) w:=by
  rw[hlj];refine md_call hi hr2 (by rw[wanted_put oi a dj _ o1];exact hw) (by rw[execOp_put oi hsel a dj _ o1];exact hv) hc rfl ?_;intro e y' h1;obtain⟨v,rfl,h2,hf⟩:=h e y' h1;refine⟨v,rfl,hSx _ (hb.trans h2),?_⟩;have h3:=hf.2;rw[Act.put_comm a v _ (fun d e=>fun e2=>(o2 d e2) e)]at h3;rw[<-hlj,Array.setIfInBounds_comm _ _ (Ne.symm hij),hl];exact h3
 refine⟨?_,done⟩;refine wpAnyH_ready rfl (fun e=>by rw[e]at hne;cases hne) (fun k hk=> ?_);have hk2:=List.all_eq_true.1 hr k hk;simp only[Bool.or_eq_true,beq_iff_eq]at hk2;rcases hk2 with rfl|rfl
 ·refine wpOp_step (by rw[List.getElem?_toArray];exact hi) (fun K' hK=> ?_)
  rw[if_pos hw];refine wp_call_op hv hc ?_;intro e x' h1;obtain⟨v,rfl,h2,hf⟩:=h e x' h1;refine⟨v,rfl,hK _ _ ⟨hSx _ (hb.trans h2),?_⟩⟩;rw[hl];exact hf.1
 refine wpOp_step (by rw[List.getElem?_toArray];exact hj) (fun K' hK=> ?_);rw[if_pos (by simp[Region.wanted,hgj])];unfold Oper.wp;rw[hvj w hb];refine hK _ _ ⟨hSx _ hb,?_⟩;rw[hdj];exact done
theorem fd_end (hj:l[j]?=some oj)(hr:Region.ready md l.toArray listed=[j])(hdj:oj.dst=dj)(hgj:oj.guard=none)(hS:S w)(hvj:(execOp a.eval oj).run P w= .ok (.value u) w)(hl:listed.setIfInBounds j true=lj)
    (h:wpAnyH P md l.toArray Q S fuel lj (a.put dj u) w):Fd P md l Q S j dj u fuel listed a w:=by
  refine⟨md_one hj hr (by simp[Region.wanted,hgj]) hvj hS hl ?_,by rw[hl];exact h⟩;rw[hdj];exact h
end
theorem ev_ld {P:Program}{ρ:Operand->Value}{o:Oper}{w:World}(ty:TypeId)(x:Operand)(ho:o.op= .load ty x)(g k:Nat)(cs:List Value){d:TypeDesc}(hx:ρ x= .pointer (some ⟨g,k,none⟩))(hb:w.rangeAt g k cs)
    (hu:P.underlying ty=some d)(hd:d.isRow=true)(hz:(P.info? ty).map (·.size)=some cs.length):(execOp ρ o).run P w= .ok (.value (.agg cs.toArray)) w:=by
  unfold execOp;simp only[ho,hx,Instr.loadAt,Instr.sureAddr,Sem.run_bind,Sem.run_pure,Result.andThen_ok,run_loadVar_mid w g k ty cs d hb hu hd hz]
/-! Two slices appended to in one statement. -/
section
variable {P:Program} {l:List Oper} {Q:Exit->Act->World->Prop} {md:Region.Mode} {S:World->Prop} {i j ix jx X:Nat} {oi oj:Oper} {fuel:Nat} {listed listed':Array Bool} {a:Act} {w w0:World} {m:List Ent}
end
section
variable {P:Program} {l:List Oper} {Q:Exit->Act->World->Prop} {md:Region.Mode} {S:World->Prop} {j i:Nat} {dj:Option Tmp} {T:TypeId} {zs:List Value} {b w0:World} {m:List Ent} {fuel:Nat} {listed li lj lij:Array Bool} {a:Act} {w:World} {oi oj:Oper} {v:Value}
theorem gL {f:FuncId}{args:Array Value}{Φ:World->Ending->World->Prop}(i:Nat)(lj li:Array Bool)(hb:b.heap.size<=w.heap.size)(hH:Hp w0 w m)(hSw:S w)(hc0:∀x,Ext w x->Calls P f args x (Φ x))(hE:∀x e x',Φ x e x'->Ext x x')(h0:∀x e x',Ext w x->Φ x e x'->∃v,e= .returned v/\Fl P md l Q S j dj T zs b w0 m fuel li (a.put oi.dst v) x')(hi:l[i]?=some oi:=by rfl)(hj:l[j]?=some oj:=by rfl)(hs:Region.noSelect l.toArray=true:=by kernel_rfl)(hlj:listed.setIfInBounds j true=lj:=by kernel_rfl)(hr:((Region.ready md l.toArray listed).all fun k=>k==i||k==j)=true:=by kernel_rfl)(hne:(Region.ready md l.toArray listed).isEmpty=false:=by kernel_rfl)(hr2:Region.ready md l.toArray lj=[i]:=by kernel_rfl)(hij:i≠j:=by decide)(hoff:offSlot l oi dj=true:=by kernel_rfl)(hdj:oj.dst=dj:=by rfl)(hgj:oj.guard=none:=by rfl)(hvj:∀(ρ:Operand->Value) (x:World),(execOp ρ oj).run P x= .ok (.value (.pointer (some ⟨x.heap.size,0,none⟩))) (x.alloc (.cells zs.toArray T)):=by intro r_ x_;go_simp)(hSx:∀x y,S x->Ext x y->S y:=by intro x y h1 h2;exact h1.trans h2)(hn:NoUL zs:=by simp[NoUL,rz,rc])(hw:Region.wanted oi (yielded l.toArray a.tmps)=true:=by rfl)(hv:∀x:World,(execOp a.eval oi).run P x= .ok (.enter f args) x:=by intro x_;go_simp)(hl:listed.setIfInBounds i true=li:=by kernel_rfl):Fl P md l Q S j dj T zs b w0 m (fuel+1) listed a w:=fl_call hi hj hs hlj hr hne hr2 hij hoff hdj hgj hvj hSx hb hH hn hSw hw hv hl hc0 hE h0
theorem gE (lj:Array Bool)(hb:b.heap.size<=w.heap.size)(hH:Hp w0 w m)(hSw:S w)(h:∀X y,Ext w y->Hp w0 y (m++[.blk X T zs])->S y->b.heap.size<=X->wpAnyH P md l.toArray Q S fuel lj (a.put dj (.pointer (some ⟨X,0,none⟩))) y)(hj:l[j]?=some oj:=by rfl)(hr:Region.ready md l.toArray listed=[j]:=by kernel_rfl)(hdj:oj.dst=dj:=by rfl)(hgj:oj.guard=none:=by rfl)(hvj:∀(ρ:Operand->Value) (x:World),(execOp ρ oj).run P x= .ok (.value (.pointer (some ⟨x.heap.size,0,none⟩))) (x.alloc (.cells zs.toArray T)):=by intro r_ x_;go_simp)(hSx:∀x y,S x->Ext x y->S y:=by intro x y h1 h2;exact h1.trans h2)(hn:NoUL zs:=by simp[NoUL,rz,rc])(hl:listed.setIfInBounds j true=lj:=by kernel_rfl):Fl P md l Q S j dj T zs b w0 m fuel listed a w:=fl_end hj hr hdj hgj hvj hSx hb hH hn hSw hl h
theorem gG {w':World}(j:Nat)(dj:Option Tmp)(T:TypeId)(zs:List Value)(b:World)(_H:Hp w0 w' m)(h:Fl P md l Q S j dj T zs b w0 m fuel listed a w):wpAnyH P md l.toArray Q S (fuel+1) listed a w:=h.1
end
end Go.Proofs.YtngikkggjidenabGreat
namespace Go.Proofs.YtngikkggjidenabGreat
open Go.RowKit
structure FJ where
  i:Nat
  d:Option Tmp
  T:TypeId
  zs:List Value
def lP:List FJ->List Bool->Array Bool->Array Bool
  |j::J,true::p,l=>lP J p (l.setIfInBounds j.i true)
  |_::J,false::p,l=>lP J p l
  | [],_,l=>l
  |_::_,[],l=>l
def aD:List FJ->List (Option Nat)->Act->Act
  |j::J,some X::D,a=>aD J D (a.put j.d (.pointer (some ⟨X,0,none⟩)))
  |_::J,none::D,a=>aD J D a
  | [],_,a=>a
  |_::_,[],a=>a
def cN:List (Option Nat)->Nat
  | []=>0
  |none::D=>cN D+1
  |some _::D=>cN D
def gD (b y:World):List FJ->List (Option Nat)->Prop
  |j::J,some X::D=>(Blk y X j.T j.zs.toArray/\b.heap.size<=X/\some X∉D)/\gD b y J D
  |_::J,none::D=>gD b y J D
  | [],_=>True
  |_::_,[]=>True
def pats:Nat->List (List Bool)
  |0=>[[]]
  |n+1=>(pats n).map (true:: ·)++(pats n).map (false:: ·)
theorem mem_pats:∀(p:List Bool),p∈pats p.length
  | []=>List.mem_singleton.2 rfl
  |true::p=>List.mem_append.2 (.inl (List.mem_map.2 ⟨p,mem_pats p,rfl⟩))
  |false::p=>List.mem_append.2 (.inr (List.mem_map.2 ⟨p,mem_pats p,rfl⟩))
def unm:List FJ->List Bool->List Nat
  |_::J,true::p=>unm J p
  |j::J,false::p=>j.i::unm J p
  | [],_=>[]
  |_::_,[]=>[]
def nd:List FJ->Bool
  | []=>true
  |j::J=>J.all (fun k=>k.i != j.i&&k.d != j.d)&&nd J
section
variable {P:Program} {l:List Oper} {Q:Exit->Act->World->Prop} {md:Region.Mode} {S:World->Prop} {b w:World} {J:List FJ} {i:Nat} {fuel:Nat} {listed li:Array Bool} {a:Act} {oi:Oper} {v:Value}
theorem lP_set:∀{J:List FJ} {p:List Bool} {L:Array Bool} {i:Nat},(∀j,j∈J->j.i≠i)->(lP J p L).setIfInBounds i true=lP J p (L.setIfInBounds i true)
  | [],p,L,i,_=>by cases p<;>rfl
  |j::J,[],L,i,_=>rfl
  | j::J,true::p,L,i,h=>by
    show(lP J p (L.setIfInBounds j.i true)).setIfInBounds i true=lP J p ((L.setIfInBounds i true).setIfInBounds j.i true);rw[lP_set fun k hk=>h k (List.mem_cons_of_mem _ hk),Array.setIfInBounds_comm _ _ (h j (List.mem_cons_self ..))]
  |j::J,false::p,L,i,h=>lP_set (J:=J) fun k hk=>h k (List.mem_cons_of_mem _ hk)
theorem aD_put:∀{J:List FJ} {D:List (Option Nat)} {a:Act} {d:Option Tmp} {v:Value},(∀j,j∈J->∀t,j.d=some t->d≠some t)->(aD J D a).put d v=aD J D (a.put d v)
  | [],D,a,d,v,_=>by cases D<;>rfl
  |j::J,[],a,d,v,_=>rfl
  | j::J,some X::D,a,d,v,h=>by
    show(aD J D (a.put j.d _)).put d v=aD J D ((a.put d v).put j.d _);rw[aD_put fun k hk=>h k (List.mem_cons_of_mem _ hk),Act.put_comm a _ _ (h j (List.mem_cons_self ..))]
  |j::J,none::D,a,d,v,h=>aD_put (J:=J) fun k hk=>h k (List.mem_cons_of_mem _ hk)
theorem lP_make:∀{J:List FJ} {D:List (Option Nat)} {L:Array Bool} {q:Nat} {j:FJ} {X:Nat},nd J=true->J[q]?=some j->D[q]?=some none->(lP J (D.map Option.isSome) L).setIfInBounds j.i true=lP J ((D.set q (some X)).map Option.isSome) L
 | [],D,L,q,j,X,_,h,_=>by simp at h
 |k::J,[],L,q,j,X,_,_,h=>by simp at h
 |k::J,x::D,L,0,j,X,hn,h,h2=>by
  have hk:k=j:=by simpa using h
  have hx:x=none:=by simpa using h2
  subst hk;subst hx;unfold nd at hn;rw[Bool.and_eq_true]at hn;show(lP J (D.map Option.isSome) L).setIfInBounds k.i true=lP J (D.map Option.isSome) (L.setIfInBounds k.i true);exact lP_set fun z hz=>by
   have:=List.all_eq_true.1 hn.1 z hz;simp at this;exact this.1
 |k::J,x::D,L,q+1,j,X,hn,h,h2=>by
  have h:J[q]?=some j:=by simpa using h
  have h2:D[q]?=some none:=by simpa using h2
  unfold nd at hn;rw[Bool.and_eq_true]at hn;cases x with
  |none=>exact lP_make (J:=J) (D:=D) hn.2 h h2
  |some Y=>exact lP_make (L:=L.setIfInBounds k.i true) hn.2 h h2
theorem aD_make:∀{J:List FJ} {D:List (Option Nat)} {a:Act} {q:Nat} {j:FJ} {X:Nat},nd J=true->J[q]?=some j->D[q]?=some none->(aD J D a).put j.d (.pointer (some ⟨X,0,none⟩))=aD J (D.set q (some X)) a
 | [],D,a,q,j,X,_,h,_=>by simp at h
 |k::J,[],a,q,j,X,_,_,h=>by simp at h
 |k::J,x::D,a,0,j,X,hn,h,h2=>by
  have hk:k=j:=by simpa using h
  have hx:x=none:=by simpa using h2
  subst hk;subst hx;unfold nd at hn;rw[Bool.and_eq_true]at hn;show(aD J D a).put k.d _=aD J D (a.put k.d _);exact aD_put fun z hz t ht e=>by
   have:=List.all_eq_true.1 hn.1 z hz;simp at this;exact this.2 (by rw[ht,e])
 |k::J,x::D,a,q+1,j,X,hn,h,h2=>by
  have h:J[q]?=some j:=by simpa using h
  have h2:D[q]?=some none:=by simpa using h2
  unfold nd at hn;rw[Bool.and_eq_true]at hn;cases x with
  |none=>exact aD_make (J:=J) (D:=D) hn.2 h h2
  |some Y=>exact aD_make (a:=a.put k.d _) hn.2 h h2
theorem cN_make:∀{D:List (Option Nat)} {q X:Nat},D[q]?=some none->cN (D.set q (some X))+1=cN D
  | [],q,X,h=>by simp at h
  | x::D,0,X,h=>by
    have hx:x=none:=by simpa using h
    subst hx;rfl
  | x::D,q+1,X,h=>by
    have h:D[q]?=some none:=by simpa using h
    have:=cN_make (X:=X) h;cases x<;>simp only[List.set_cons_succ,cN]<;>omega
theorem gD_ext {b y y':World}(x:Ext y y'):∀{J:List FJ} {D:List (Option Nat)},gD b y J D->gD b y' J D
  | [],D,_=>by cases D<;>trivial
  |j::J,[],_=>trivial
  |j::J,some X::D,h=>⟨⟨h.1.1.ext x,h.1.2⟩,gD_ext x h.2⟩
  |j::J,none::D,h=>gD_ext (J:=J) x h
theorem gD_lt {b y:World}:∀{J:List FJ} {D:List (Option Nat)} {X:Nat},D.length=J.length->gD b y J D->some X∈D->X<y.heap.size
  | [],D,X,hl,_,hX=>by
    have:D=[]:=List.eq_nil_of_length_eq_zero hl;rw[this]at hX;simp at hX
  |j::J,[],X,_,_,hX=>by simp at hX
  | j::J,some Y::D,X,hl,h,hX=>by
    rcases List.mem_cons.1 hX with e|hX
    · injection e with e;subst e;exact h.1.1.lt
    exact gD_lt (by simpa using hl) h.2 hX
  | j::J,none::D,X,hl,h,hX=>by
    rcases List.mem_cons.1 hX with e|hX
    · cases e
    exact gD_lt (J:=J) (by simpa using hl) h hX
theorem gD_make {b y:World}{j:FJ}{X:Nat}(hb:Blk y X j.T j.zs.toArray)(hX:b.heap.size<=X):∀{J:List FJ} {D:List (Option Nat)} {q:Nat},J[q]?=some j->D[q]?=some none->gD b y J D->(∀Y,some Y∈D->Y<X)->gD b y J (D.set q (some X))
 | [],D,q,h,_,_,_=>by simp at h
 |k::J,[],q,_,h,_,_=>by simp at h
 |k::J,x::D,0,h,h2,hg,hl=>by
  have hk:k=j:=by simpa using h
  have hx:x=none:=by simpa using h2
  subst hk;subst hx;exact⟨⟨hb,hX,fun e=>by have:=hl X (List.mem_cons_of_mem _ e);omega⟩,hg⟩
 |k::J,x::D,q+1,h,h2,hg,hl=>by
  have h:J[q]?=some j:=by simpa using h
  have h2:D[q]?=some none:=by simpa using h2
  cases x with
  |none=>exact gD_make (J:=J) hb hX h h2 hg fun Y hY=>hl Y (List.mem_cons_of_mem _ hY)
  |some Z=>
   refine⟨⟨hg.1.1,hg.1.2.1,fun e=> ?_⟩,gD_make hb hX h h2 hg.2 fun Y hY=>hl Y (List.mem_cons_of_mem _ hY)⟩;rcases List.mem_or_eq_of_mem_set e with e|e
   ·exact hg.1.2.2 e
   injection e with e
   have:=hl Z (List.mem_cons_self ..);omega
theorem unm_mem:∀{J:List FJ} {D:List (Option Nat)} {k:Nat},D.length=J.length->k∈unm J (D.map Option.isSome)->∃(q:Nat) (j:FJ),J[q]?=some j/\D[q]?=some none/\j.i=k
  | [],D,k,_,h=>by cases D<;>simp[unm]at h
  |j::J,[],k,hl,_=>by simp at hl
  | j::J,some X::D,k,hl,h=>by
    obtain⟨q,z,h1,h2,h3⟩:=unm_mem (J:=J) (D:=D) (by simpa using hl) h;exact⟨q+1,z,by simpa using h1,by simpa using h2,h3⟩
  | j::J,none::D,k,hl,h=>by
    rcases List.mem_cons.1 h with rfl|h
    · exact⟨0,j,rfl,rfl,rfl⟩
    obtain⟨q,z,h1,h2,h3⟩:=unm_mem (J:=J) (D:=D) (by simpa using hl) h;exact⟨q+1,z,by simpa using h1,by simpa using h2,h3⟩
def FOk (P:Program)(l:List Oper):List FJ->Prop
  | []=>True
  |j::J=>(∃oj,l[j.i]?=some oj/\oj.dst=j.d/\oj.guard=none/\NoUL j.zs/\∀(ρ:Operand->Value) (x:World),(execOp ρ oj).run P x= .ok (.value (.pointer (some ⟨x.heap.size,0,none⟩))) (x.alloc (.cells j.zs.toArray j.T)))/\FOk P l J
theorem FOk.get:∀{J:List FJ} {q:Nat} {j:FJ},FOk P l J->J[q]?=some j->∃oj,l[j.i]?=some oj/\oj.dst=j.d/\oj.guard=none/\NoUL j.zs/\∀(ρ:Operand->Value) (x:World),(execOp ρ oj).run P x= .ok (.value (.pointer (some ⟨x.heap.size,0,none⟩))) (x.alloc (.cells j.zs.toArray j.T))
  | [],q,j,_,h=>by simp at h
  | k::J,0,j,hk,h=>by
    have e:k=j:=by simpa using h
    subst e;exact hk.1
  |k::J,q+1,j,hk,h=>FOk.get hk.2 (by simpa using h)
def FN (P:Program)(md:Region.Mode)(l:List Oper)(Q:Exit->Act->World->Prop)(S:World->Prop)(J:List FJ)(b:World)(fuel:Nat)(listed:Array Bool)(a:Act)(w:World):Prop:=
  ∀(D:List (Option Nat)) (y:World),D.length=J.length->Ext w y->gD b y J D->S y->wpAnyH P md l.toArray Q S (fuel+cN D) (lP J (D.map Option.isSome) listed) (aD J D a) y
theorem FN.go2 {j1 j2:FJ}(h:FN P md l Q S [j1,j2] b fuel listed a w)(hS:S w):wpAnyH P md l.toArray Q S (fuel+2) listed a w:=h [none,none] w rfl (Ext.refl _) trivial hS
theorem FN.go3 {j1 j2 j3:FJ}(h:FN P md l Q S [j1,j2,j3] b fuel listed a w)(hS:S w):wpAnyH P md l.toArray Q S (fuel+3) listed a w:=h [none,none,none] w rfl (Ext.refl _) trivial hS
theorem off_eval (hs:Region.noSelect l.toArray=true)(hi:l[i]?=some oi):∀{J:List FJ} {D:List (Option Nat)} {a:Act},(J.all fun j=>offSlot l oi j.d)=true->execOp (aD J D a).eval oi=execOp a.eval oi/\Region.wanted oi (yielded l.toArray (aD J D a).tmps)=Region.wanted oi (yielded l.toArray a.tmps)
  | [],D,a,_=>by cases D<;>exact⟨rfl,rfl⟩
  |j::J,[],a,_=>⟨rfl,rfl⟩
  | j::J,some X::D,a,h=>by
    have hsel:=fun cs b=>Region.noSelect_spec hs i oi cs b (by rw[List.getElem?_toArray];exact hi)
    rw[List.all_cons,Bool.and_eq_true]at h;obtain⟨o1,_⟩:=offSlot_spec h.1;obtain⟨h1,h2⟩:=off_eval hs hi (D:=D) (a:=a.put j.d (.pointer (some ⟨X,0,none⟩))) h.2;exact⟨h1.trans (execOp_put oi hsel a j.d _ o1),h2.trans (wanted_put oi a j.d _ o1)⟩
  | j::J,none::D,a,h=>by
    rw[List.all_cons,Bool.and_eq_true]at h;exact off_eval hs hi (J:=J) h.2
theorem off_dst (h:(J.all fun j=>offSlot l oi j.d)=true):∀j,j∈J->∀t,j.d=some t->oi.dst≠some t:=fun j hj t ht=>(offSlot_spec (List.all_eq_true.1 h j hj)).2 t ht
theorem idx_ne (h:(J.all fun j=>j.i != i)=true):∀j,j∈J->j.i≠i:=fun j hj=>by simpa using List.all_eq_true.1 h j hj
theorem fn_call {f:FuncId}{args:Array Value}{Φ:World->Ending->World->Prop}(hi:l[i]?=some oi)(hs:Region.noSelect l.toArray=true)
  (hchk:((pats J.length).all fun p=> !(Region.ready md l.toArray (lP J p listed)).isEmpty&&(Region.ready md l.toArray (lP J p listed)).all fun k=>k==i||(unm J p).contains k)=true)
  (hne:(J.all fun j=>j.i != i)=true)(hoff:(J.all fun j=>offSlot l oi j.d)=true)(hnd:nd J=true)(hJ:FOk P l J)
  (hSx:∀x y,S x->Ext x y->S y)(hb:b.heap.size<=w.heap.size)
  (hw:Region.wanted oi (yielded l.toArray a.tmps)=true)(hv:∀x:World,(execOp a.eval oi).run P x= .ok (.enter f args) x)(hl:listed.setIfInBounds i true=li)
  (hc0:∀x,Ext w x->Calls P f args x (Φ x))(hE:∀x e x',Φ x e x'->Ext x x')
  (h0:∀x e x',Ext w x->Φ x e x'->∃v,e= .returned v/\FN P md l Q S J b fuel li (a.put oi.dst v) x'):FN P md l Q S J b (fuel+1) listed a w:=by
 have key:∀(n:Nat) (D:List (Option Nat)) (y:World),cN D=n->D.length=J.length->Ext w y->gD b y J D->S y->wpAnyH P md l.toArray Q S (fuel+1+cN D) (lP J (D.map Option.isSome) listed) (aD J D a) y:=by
  intro n;induction n using Nat.strongRecOn with
  |ind n ih=>
  intro D y hn hD x hg hSy;rw[show fuel+1+cN D=fuel+cN D+1 by omega];have hp:D.map Option.isSome∈pats J.length:=by have:=mem_pats (D.map Option.isSome);rwa[List.length_map,hD]at this
  have hc:=List.all_eq_true.1 hchk _ hp;rw[Bool.and_eq_true]at hc;obtain⟨e1,e2⟩:=off_eval hs hi (D:=D) (a:=a) hoff;refine wpAnyH_ready rfl (fun e=>by rw[e]at hc;exact absurd hc.1 dC) (fun k hk=> ?_);have hk2:=List.all_eq_true.1 hc.2 k hk;simp only[Bool.or_eq_true,beq_iff_eq,List.contains_iff_mem]at hk2;rcases hk2 with rfl|hk2
  ·refine wpOp_step (by rw[List.getElem?_toArray];exact hi) (fun K' hK=> ?_)
   rw[if_pos (by rw[e2];exact hw)];refine wp_call_op (by rw[e1];exact hv y) (hc0 y x) ?_;intro e x' h1;obtain⟨v,rfl,hf⟩:=h0 y e x' x h1;have hx:=hE _ _ _ h1;refine⟨v,rfl,hK _ _ ⟨hSx _ _ hSy hx,?_⟩⟩;rw[lP_set (idx_ne hne),aD_put (off_dst hoff),hl];exact hf D x' hD (Ext.refl _) (gD_ext hx hg) (hSx _ _ hSy hx)
  obtain⟨q,j,hjq,hDq,rfl⟩:=unm_mem hD hk2;obtain⟨oj,ho,hd,hgd,hnu,hvj⟩:=hJ.get hjq;have x1:Ext y (y.alloc (.cells j.zs.toArray j.T)):=(Ext.refl y).alloc _;refine wpOp_step (by rw[List.getElem?_toArray];exact ho) (fun K' hK=> ?_);rw[if_pos (by simp[Region.wanted,hgd])];unfold Oper.wp;rw[hvj];refine hK _ _ ⟨hSx _ _ hSy x1,?_⟩;rw[hd,lP_make (X:=y.heap.size) hnd hjq hDq,aD_make hnd hjq hDq];have hcn:=cN_make (X:=y.heap.size) hDq;have hlt:cN (D.set q (some y.heap.size))<n:=by omega
  have h3:=ih _ hlt (D.set q (some y.heap.size)) _ rfl (by rw[List.length_set];exact hD) (x.trans x1) (gD_make (Blk.new y _ _) (Nat.le_trans hb x.size) hjq hDq (gD_ext x1 hg) (fun Y hY=>gD_lt hD hg hY)) (hSx _ _ hSy x1);rw[show fuel+1+cN (D.set q (some y.heap.size))=fuel+cN D by omega]at h3;exact h3
 exact fun D y hD x hg hSy=>key _ D y rfl hD x hg hSy
theorem fn_end (hchk:((pats J.length).all fun p=>p.all id||(!(Region.ready md l.toArray (lP J p listed)).isEmpty&&(Region.ready md l.toArray (lP J p listed)).all fun k=>(unm J p).contains k))=true)
  (hnd:nd J=true)(hJ:FOk P l J)(hSx:∀x y,S x->Ext x y->S y)(hb:b.heap.size<=w.heap.size)
  (h:∀(D:List (Option Nat)) (y:World),D.length=J.length->cN D=0->Ext w y->gD b y J D->S y->wpAnyH P md l.toArray Q S fuel (lP J (D.map Option.isSome) listed) (aD J D a) y):FN P md l Q S J b fuel listed a w:=by
 have allsome:∀D:List (Option Nat),(D.map Option.isSome).all id=true->cN D=0:=by
  intro D;induction D with
  |nil=>intro _;rfl
  |cons x D ih=>
   intro hh;cases x with
   |none=>simp at hh
   |some X=>exact ih (by simpa using hh)
 have key:∀(n:Nat) (D:List (Option Nat)) (y:World),cN D=n->D.length=J.length->Ext w y->gD b y J D->S y->wpAnyH P md l.toArray Q S (fuel+cN D) (lP J (D.map Option.isSome) listed) (aD J D a) y:=by
  intro n;induction n using Nat.strongRecOn with
  |ind n ih=>
  intro D y hn hD x hg hSy;by_cases h0:cN D=0
  ·rw[h0]
   exact h D y hD h0 x hg hSy
  have hp:D.map Option.isSome∈pats J.length:=by have:=mem_pats (D.map Option.isSome);rwa[List.length_map,hD]at this
  have hc:=List.all_eq_true.1 hchk _ hp;rw[Bool.or_eq_true,Bool.and_eq_true]at hc;rcases hc with hc|hc
  ·exact absurd (allsome D hc) h0
  obtain⟨c,hcc⟩:∃c,cN D=c+1:=⟨cN D-1,by omega⟩;rw[hcc,show fuel+(c+1)=fuel+c+1 by omega];refine wpAnyH_ready rfl (fun e=>by rw[e]at hc;exact absurd hc.1 dC) (fun k hk=> ?_);have hk2:=List.all_eq_true.1 hc.2 k hk;rw[List.contains_iff_mem]at hk2;obtain⟨q,j,hjq,hDq,rfl⟩:=unm_mem hD hk2;obtain⟨oj,ho,hd,hgd,hnu,hvj⟩:=hJ.get hjq;have x1:Ext y (y.alloc (.cells j.zs.toArray j.T)):=(Ext.refl y).alloc _;refine wpOp_step (by rw[List.getElem?_toArray];exact ho) (fun K' hK=> ?_);rw[if_pos (by simp[Region.wanted,hgd])];unfold Oper.wp;rw[hvj];refine hK _ _ ⟨hSx _ _ hSy x1,?_⟩;rw[hd,lP_make (X:=y.heap.size) hnd hjq hDq,aD_make hnd hjq hDq];have hcn:=cN_make (X:=y.heap.size) hDq;have hlt:cN (D.set q (some y.heap.size))<n:=by omega
  have h3:=ih _ hlt (D.set q (some y.heap.size)) _ rfl (by rw[List.length_set];exact hD) (x.trans x1) (gD_make (Blk.new y _ _) (Nat.le_trans hb x.size) hjq hDq (gD_ext x1 hg) (fun Y hY=>gD_lt hD hg hY)) (hSx _ _ hSy x1);rw[show cN (D.set q (some y.heap.size))=c by omega]at h3;exact h3
 exact fun D y hD x hg hSy=>key _ D y rfl hD x hg hSy
theorem Hp.addFree {w0 w:World}{m:List Ent}{g:Nat}{t:TypeId}{cs:List Value}(h:Hp w0 w m)(hb:Blk w g t cs.toArray)(hf:∀(q k:Nat) (e:Ent),m[q]?=some e->e.own=some k->k≠g)(hg:w0.heap.size<=g)(hn:NoUL cs):Hp w0 w (m++[.blk g t cs]):=
  h.add ⟨hg,hb,hn⟩ (fun i f hf2 k hk e=>by
    injection e with e
    exact hf i k f hf2 hk e.symm)
theorem cN_two {D:List (Option Nat)}(hl:D.length=2)(h:cN D=0):∃X Y,D=[some X,some Y]:=by
  match D,hl,h with
  | [some X,some Y],_,_=>exact⟨X,Y,rfl⟩
  | [none,_],_,h=>simp[cN]at h
  | [some _,none],_,h=>simp[cN]at h
theorem cN_three {D:List (Option Nat)}(hl:D.length=3)(h:cN D=0):∃X Y Z,D=[some X,some Y,some Z]:=by
  match D,hl,h with
  | [some X,some Y,some Z],_,_=>exact⟨X,Y,Z,rfl⟩
  | [none,_,_],_,h=>simp[cN]at h
  | [some _,none,_],_,h=>simp[cN]at h
  | [some _,some _,none],_,h=>simp[cN]at h
theorem fn_end2 {j1 j2:FJ}{w0:World}{m:List Ent}{lt:Array Bool}(hchk:((pats 2).all fun p=>p.all id||(!(Region.ready md l.toArray (lP [j1,j2] p listed)).isEmpty&&(Region.ready md l.toArray (lP [j1,j2] p listed)).all fun k=>(unm [j1,j2] p).contains k))=true)
  (hnd:nd [j1,j2]=true)(hJ:FOk P l [j1,j2])(hSx:∀x y,S x->Ext x y->S y)(hb:b.heap.size<=w.heap.size)(hB:Hp w0 b m)(hH:Hp w0 w m)(hlt:lP [j1,j2] [true,true] listed=lt)
  (h:∀X Y y,Ext w y->Hp w0 y (m++[.blk X j1.T j1.zs]++[.blk Y j2.T j2.zs])->b.heap.size<=X->b.heap.size<=Y->S y->wpAnyH P md l.toArray Q S fuel lt ((a.put j1.d (.pointer (some ⟨X,0,none⟩))).put j2.d (.pointer (some ⟨Y,0,none⟩))) y):FN P md l Q S [j1,j2] b fuel listed a w:=by
 refine fn_end hchk hnd hJ hSx hb (fun D y hD hc x hg hSy=> ?_);obtain⟨X,Y,rfl⟩:=cN_two hD hc;obtain⟨⟨b1,z1,n1⟩,⟨b2,z2,_⟩,_⟩:=hg;have hlt':lP [j1,j2] (List.map Option.isSome [some X,some Y]) listed=lt:=hlt;rw[hlt'];have z0:=hB.ext.size;refine h X Y y x ?_ z1 z2 hSy;obtain⟨_,_,_,_,nu1,_⟩:=hJ.1;obtain⟨_,_,_,_,nu2,_⟩:=hJ.2.1;have h1:=(hH.step x).addFree b1 (fun q k e hq hk=>by have:=hB.lt hq hk;omega) (Nat.le_trans z0 z1) nu1;refine h1.addFree b2 (fun q k e hq hk=> ?_) (Nat.le_trans z0 z2) nu2;rcases List.mem_append.1 (List.mem_of_getElem? hq)with hm|hm
 ·obtain⟨q2,hq2⟩:=List.mem_iff_getElem?.1 hm
  have:=hB.lt hq2 hk;omega
 rw[List.mem_singleton]at hm;subst hm;injection hk with hk
 subst hk;intro e2;subst e2;exact n1 (List.mem_singleton.2 rfl)
theorem fn_end3 {j1 j2 j3:FJ}{w0:World}{m:List Ent}{lt:Array Bool}(hchk:((pats 3).all fun p=>p.all id||(!(Region.ready md l.toArray (lP [j1,j2,j3] p listed)).isEmpty&&(Region.ready md l.toArray (lP [j1,j2,j3] p listed)).all fun k=>(unm [j1,j2,j3] p).contains k))=true)
  (hnd:nd [j1,j2,j3]=true)(hJ:FOk P l [j1,j2,j3])(hSx:∀x y,S x->Ext x y->S y)(hb:b.heap.size<=w.heap.size)(hB:Hp w0 b m)(hH:Hp w0 w m)(hlt:lP [j1,j2,j3] [true,true,true] listed=lt)
  (h:∀X Y Z y,Ext w y->Hp w0 y (m++[.blk X j1.T j1.zs]++[.blk Y j2.T j2.zs]++[.blk Z j3.T j3.zs])->b.heap.size<=X->b.heap.size<=Y->b.heap.size<=Z->S y->wpAnyH P md l.toArray Q S fuel lt (((a.put j1.d (.pointer (some ⟨X,0,none⟩))).put j2.d (.pointer (some ⟨Y,0,none⟩))).put j3.d (.pointer (some ⟨Z,0,none⟩))) y):FN P md l Q S [j1,j2,j3] b fuel listed a w:=by
 refine fn_end hchk hnd hJ hSx hb (fun D y hD hc x hg hSy=> ?_);obtain⟨X,Y,Z,rfl⟩:=cN_three hD hc;obtain⟨⟨b1,z1,n1⟩,⟨b2,z2,n2⟩,⟨b3,z3,_⟩,_⟩:=hg;have hlt':lP [j1,j2,j3] (List.map Option.isSome [some X,some Y,some Z]) listed=lt:=hlt;rw[hlt'];have z0:=hB.ext.size;refine h X Y Z y x ?_ z1 z2 z3 hSy;obtain⟨_,_,_,_,nu1,_⟩:=hJ.1;obtain⟨_,_,_,_,nu2,_⟩:=hJ.2.1;obtain⟨_,_,_,_,nu3,_⟩:=hJ.2.2.1;have h1:=(hH.step x).addFree b1 (fun q k e hq hk=>by have:=hB.lt hq hk;omega) (Nat.le_trans z0 z1) nu1;have h2:Hp w0 y (m++[.blk X j1.T j1.zs]++[.blk Y j2.T j2.zs]):=by
  refine h1.addFree b2 (fun q k e hq hk=> ?_) (Nat.le_trans z0 z2) nu2;rcases List.mem_append.1 (List.mem_of_getElem? hq)with hm|hm
  ·obtain⟨q2,hq2⟩:=List.mem_iff_getElem?.1 hm
   have:=hB.lt hq2 hk;omega
  rw[List.mem_singleton]at hm;subst hm;injection hk with hk
  subst hk;intro e2;subst e2;exact n1 (by simp)
 refine h2.addFree b3 (fun q k e hq hk=> ?_) (Nat.le_trans z0 z3) nu3;rcases List.mem_append.1 (List.mem_of_getElem? hq)with hm|hm
 ·rcases List.mem_append.1 hm with hm|hm
  ·obtain⟨q2,hq2⟩:=List.mem_iff_getElem?.1 hm
   have:=hB.lt hq2 hk;omega
  rw[List.mem_singleton]at hm;subst hm;injection hk with hk
  subst hk;intro e2;subst e2;exact n1 (by simp)
 rw[List.mem_singleton]at hm;subst hm;injection hk with hk
 subst hk;intro e2;subst e2;exact n2 (by simp)
end
section
variable {P:Program} {l:List Oper} {Q:Exit->Act->World->Prop} {md:Region.Mode} {S:World->Prop} {b w:World} {J:List FJ} {i:Nat} {fuel:Nat} {listed li:Array Bool} {a:Act} {oi:Oper} {v:Value}
theorem gN {f:FuncId}{args:Array Value}{Φ:World->Ending->World->Prop}(i:Nat)(li:Array Bool)(hJ:FOk P l J)(hb:b.heap.size<=w.heap.size)(hc0:∀x,Ext w x->Calls P f args x (Φ x))(hE:∀x e x',Φ x e x'->Ext x x')(h0:∀x e x',Ext w x->Φ x e x'->∃v,e= .returned v/\FN P md l Q S J b fuel li (a.put oi.dst v) x')(hi:l[i]?=some oi:=by rfl)(hs:Region.noSelect l.toArray=true:=by kernel_rfl)(hchk:((pats J.length).all fun p=> !(Region.ready md l.toArray (lP J p listed)).isEmpty&&(Region.ready md l.toArray (lP J p listed)).all fun k=>k==i||(unm J p).contains k)=true:=by kernel_rfl)(hne:(J.all fun j=>j.i != i)=true:=by kernel_rfl)(hoff:(J.all fun j=>offSlot l oi j.d)=true:=by kernel_rfl)(hnd:nd J=true:=by kernel_rfl)(hSx:∀x y,S x->Ext x y->S y:=by intro x y h1 h2;exact h1.trans h2)(hw:Region.wanted oi (yielded l.toArray a.tmps)=true:=by rfl)(hv:∀x:World,(execOp a.eval oi).run P x= .ok (.enter f args) x:=by intro x_;go_simp)(hl:listed.setIfInBounds i true=li:=by kernel_rfl):FN P md l Q S J b (fuel+1) listed a w:=fn_call hi hs hchk hne hoff hnd hJ hSx hb hw hv hl hc0 hE h0
theorem fk {j:FJ}{oj:Oper}(t:FOk P l J)(h1:l[j.i]?=some oj:=by rfl)(h2:oj.dst=j.d:=by rfl)(h3:oj.guard=none:=by rfl)(h4:NoUL j.zs:=by simp[NoUL])(h5:∀(ρ:Operand->Value) (x:World),(execOp ρ oj).run P x= .ok (.value (.pointer (some ⟨x.heap.size,0,none⟩))) (x.alloc (.cells j.zs.toArray j.T)):=by intro r_ x_;go_simp):FOk P l (j::J):=⟨⟨oj,h1,h2,h3,h4,h5⟩,t⟩
theorem gE2 {j1 j2:FJ}{w0:World}{m:List Ent}(lt:Array Bool)(hJ:FOk P l [j1,j2])(hb:b.heap.size<=w.heap.size)(hB:Hp w0 b m)(hH:Hp w0 w m)(h:∀X Y y,Ext w y->Hp w0 y (m++[.blk X j1.T j1.zs]++[.blk Y j2.T j2.zs])->b.heap.size<=X->b.heap.size<=Y->S y->wpAnyH P md l.toArray Q S fuel lt ((a.put j1.d (.pointer (some ⟨X,0,none⟩))).put j2.d (.pointer (some ⟨Y,0,none⟩))) y)(hchk:((pats 2).all fun p=>p.all id||(!(Region.ready md l.toArray (lP [j1,j2] p listed)).isEmpty&&(Region.ready md l.toArray (lP [j1,j2] p listed)).all fun k=>(unm [j1,j2] p).contains k))=true:=by kernel_rfl)(hnd:nd [j1,j2]=true:=by kernel_rfl)(hSx:∀x y,S x->Ext x y->S y:=by intro x y h1 h2;exact h1.trans h2)(hlt:lP [j1,j2] [true,true] listed=lt:=by kernel_rfl):FN P md l Q S [j1,j2] b fuel listed a w:=fn_end2 hchk hnd hJ hSx hb hB hH hlt h
theorem gE3 {j1 j2 j3:FJ}{w0:World}{m:List Ent}(lt:Array Bool)(hJ:FOk P l [j1,j2,j3])(hb:b.heap.size<=w.heap.size)(hB:Hp w0 b m)(hH:Hp w0 w m)(h:∀X Y Z y,Ext w y->Hp w0 y (m++[.blk X j1.T j1.zs]++[.blk Y j2.T j2.zs]++[.blk Z j3.T j3.zs])->b.heap.size<=X->b.heap.size<=Y->b.heap.size<=Z->S y->wpAnyH P md l.toArray Q S fuel lt (((a.put j1.d (.pointer (some ⟨X,0,none⟩))).put j2.d (.pointer (some ⟨Y,0,none⟩))).put j3.d (.pointer (some ⟨Z,0,none⟩))) y)(hchk:((pats 3).all fun p=>p.all id||(!(Region.ready md l.toArray (lP [j1,j2,j3] p listed)).isEmpty&&(Region.ready md l.toArray (lP [j1,j2,j3] p listed)).all fun k=>(unm [j1,j2,j3] p).contains k))=true:=by kernel_rfl)(hnd:nd [j1,j2,j3]=true:=by kernel_rfl)(hSx:∀x y,S x->Ext x y->S y:=by intro x y h1 h2;exact h1.trans h2)(hlt:lP [j1,j2,j3] [true,true,true] listed=lt:=by kernel_rfl):FN P md l Q S [j1,j2,j3] b fuel listed a w:=fn_end3 hchk hnd hJ hSx hb hB hH hlt h
end
end Go.Proofs.YtngikkggjidenabGreat
namespace Go.Proofs.YtngikkggjidenabGreat
open Go.RowKit
attribute [local go_sem ↓] Go.wp_at_zero Go.wp_at_succ run_max_ii run_min_ii
end Go.Proofs.YtngikkggjidenabGreat
