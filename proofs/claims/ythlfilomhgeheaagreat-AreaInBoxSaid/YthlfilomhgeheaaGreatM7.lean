import Derived.Maps.Own
import Derived.Maps.OwnOps
import Derived.Deep.LoopGhost
import Derived.Deep.DeepCutAuto
import Derived.Test.YthlfilomhgeheaaGreatM6
set_option maxRecDepth 100000
set_option maxHeartbeats 4000000
namespace Go.Proofs.YthlfilomhgeheaaGreat
open Go.RowKit
open Go.Proofs.Tryz
section
attribute [local go_sem ↓] Go.wp_at_zero Go.wp_at_succ Aw Av
theorem Xz (L:Nat)(u:Value)(ps:List QQ)(w:World)(hu:Hh L w u ps)(h1L:1<=L)(hL:L<=60000)(hn:ps.length<=20000):
  Calls prog 158 #[u] w fun e w'=>∃v es,e= .returned v/\Gw L w' w.heap.size v es/\es.map Bu.vl=Di ps/\es.length<=ps.length/\Aa w w':=by
 have HU:=zH hu;have I2:=zH h1L;obtain⟨Au,cu,rfl,_⟩:=hu;obtain⟨i0,hi,G7,G6,G5⟩:=info_parts bI;have HI:=zH (And.intro hi (And.intro G7 (And.intro G6 G5)));clear hi G7 G6 G5;go_enter func158,ntmps158
 go_wp2_with fail;go_loopg [3,4] ps.length (fun c v i wr=>∃(k:Nat) (es:List Bu) (v2:Value),k<=ps.length/\c=ps.length-k/\i= iV k/\v2=v/\Gw L wr w.heap.size v2 es/\es.map Bu.vl=Di (ps.take k)/\es.length<=k/\Aa w wr)
 case atStart=>exact⟨0,[],_,uL _,rfl,rfl,rfl,⟨Bh.empty w w.heap.size 73 8 (Bp _),by simp⟩,rfl,Bp _,Ad.alloc _⟩
 obtain⟨k,es,v,hk,rfl,rfl,rfl,C5,H3,J2,hx⟩:=hrel;have A5:=zH C5;have A9:=zH (And.intro H3 J2);have HX:=zH hx;clear C5 H3 hx;by_cases hlt:k<ps.length
 ·have J0:(k:Int)<(ps.length:Int):=ω
  obtain⟨p,hp⟩:∃p,ps[k]?=some p:=⟨_,uB hlt⟩;obtain⟨g,E2,c9,f,I5,hr,H2,H1⟩:=(HU.1.ext HX.1).at hp;injection I5 with hv1 E7 hv3
  subst hv1;have F5:=zH (Xs hp);have F9:=zH (Ka (a:=(rc f.a)) (b:=(rc f.b)) hr);have F8:=zH (Kx (a:=(rc f.a)) (b:=(rc f.b)) (n:=4) hr rfl);have G1:=zH H2;have G0:=zH H1;have C4:=zH hlt;have A6:=zH (show v.ownBlock≠some g from fun h=>by have h1:=A5.1.1.block g h;obtain⟨g2,I4,c2,f2,E7,I8,_⟩:=HU.1.at hp;injection E7 with k1 _ _;injection k1 with k1;injection k1 with k1;have h2:=Yk (v:= .bool f2.a.n) (j:=0) I8 rfl;omega);clear hr H2 H1 hp hlt E7 hv3;go_upto_region 5 with fail
  refine wp_region_held_drew (S:=fun x=>Aa wr x) (by kernel_rfl) Ad.drew (fun _=> ?_);refine zv 0 (bs 12 1) (Aa.refl wr).drew ?_;refine zv 1 (bs 12 3) (Aa.refl wr).drew ?_;refine zv 2 (bs 12 7) (Aa.refl wr).drew ?_;refine mV 3 (bs 12 15) (Aa.refl wr).drew ?_;refine zr 4 (bs 12 31) g (E2+k*8) (rc f.a) (fun wX hwX=>Be F9.1 hwX) underlying31 (Aa.refl wr).drew ?_;refine zv 5 (bs 12 63) (Aa.refl wr).drew ?_;refine zv 6 (bs 12 127) (Aa.refl wr).drew ?_;refine zv 7 (bs 12 255) (Aa.refl wr).drew ?_;refine mV 8 (bs 12 511) (Aa.refl wr).drew ?_;refine zr 9 (bs 12 1023) g (E2+k*8+4) (rc f.b) (fun wX hwX=>Be F8.1 hwX) underlying31 (Aa.refl wr).drew ?_;refine mC 10 (bs 12 2047) (Dl L _ _ p.1 p.2 _ (Eg.ofa (G1.1.ext Ad.drew)) (Eg.ofb' (G0.1.ext Ad.drew)) hL) ?_;rintro e w5 ⟨rfl,hx⟩;have A0:=zH (show Aa wr w5 from((Aa.refl wr).drew).trans hx);clear hx;refine⟨_,rfl,A0.1,?_⟩;try simp only[ζ]
  have E4:=A0;have D9:=zH (Be F9.1 A0.1);have D8:=zH (Be F8.1 A0.1);have C2:=zH (G1.1.ext A0.1);have C1:=zH (G0.1.ext A0.1);have A7:=zH (HX.1.trans A0.1);have A3:=zH (A5.1.ext A0.1);clear F9 F8 G1 G0 HX A5;by_cases hpq:p.1<p.2
  ·have B5:decide (p.1<p.2)=true:=by simpa using hpq
   have A1:=F5.1;rw[if_pos hpq]at A1;have E6:=zH A1;clear A1;refine zv 11 (bs 12 4095) (show Aa wr w5 from E4.1) ?_;refine wpAnyH_done (by kernel_rfl) ?_ _;clear B5 hpq E4 A0;go_upto_region 6 with fail
   refine wp_region_held_drew (S:=fun x=>w5.grownBy x v.ownBlock) (by kernel_rfl) (Bg _ Ad.drew) (fun _=> ?_);refine zv 0 (bs 17 1) (Bg _ (Aa.refl w5).drew) ?_;refine zv 1 (bs 17 3) (Bg _ (Aa.refl w5).drew) ?_;refine zv 2 (bs 17 7) (Bg _ (Aa.refl w5).drew) ?_;refine zv 3 (bs 17 15) (Bg _ (Aa.refl w5).drew) ?_;refine mV 4 (bs 17 31) (Bg _ (Aa.refl w5).drew) ?_;refine zr 5 (bs 17 63) g (E2+k*8) (rc f.a) (fun x hx=>Pv D9.1 hx A6.1) underlying31 (Bg _ (Aa.refl w5).drew) ?_;refine zv 7 (bs 17 191) (Bg _ (Aa.refl w5).drew) ?_;refine zv 8 (bs 17 447) (Bg _ (Aa.refl w5).drew) ?_;refine zv 9 (bs 17 959) (Bg _ (Aa.refl w5).drew) ?_;refine mV 10 (bs 17 1983) (Bg _ (Aa.refl w5).drew) ?_;refine zr 11 (bs 17 4031) g (E2+k*8+4) (rc f.b) (fun x hx=>Pv D8.1 hx A6.1) underlying31 (Bg _ (Aa.refl w5).drew) ?_;refine mC 6 (bs 17 4095) (cU (Eg.ofa (C2.1.ext Ad.drew)) ω) ?_;rintro e w6 ⟨c1,rfl,J4,hx⟩;have A2:=zH (show Aa w5 w6 from((Aa.refl w5).drew).trans hx);obtain⟨ra,rfl,G9⟩:=J4;have I0:=zH G9;clear G9;clear hx;refine⟨_,rfl,(Bg _ A2.1),?_⟩;try simp only[ζ]
   refine mC 12 (bs 17 8191) (cU (Eg.ofb' (C1.1.ext A2.1)) ω) ?_;rintro e w7 ⟨c2,rfl,J3,hx⟩;have A4:=zH (show Aa w5 w7 from(A2.1).trans hx);obtain⟨rb,rfl,G8⟩:=J3;have H9:=zH G8;have D7:=zH (I0.1.ext hx);clear G8 I0;clear hx;refine⟨_,rfl,(Bg _ A4.1),?_⟩;try simp only[ζ]
   refine zv 13 (bs 17 16383) (Bg _ A4.1) ?_;have E3:=A3.1.ext A4.1;have J5:=(A7.1.trans A4.1).size;have J1:es.length<=20000:=by have:=A9.1.2;omega
   have H5:Bu.Ok L w7 ⟨ra,rb,p.1,p.2⟩:=⟨D7.1,H9.1,(Eg.ofa C2.1).rl I2.1,(Eg.ofb' C1.1).rl I2.1⟩;have I1:=zH H5;clear H5;have B6:Aa w7 (w7.alloc (.cells #[.bool ra.n,.slice ra.p ra.l ra.c,.bool ra.m,.slice ra.p2 ra.l2 ra.c2,.bool rb.n,.slice rb.p rb.l rb.c,.bool rb.m,.slice rb.p2 rb.l2 rb.c2] 73)):=Ad.alloc _;refine mU 14 (bs 17 32767) (v:= .slice (π w7.heap.size) 1 1) (w':=(w7.alloc (.cells #[.bool ra.n,.slice ra.p ra.l ra.c,.bool ra.m,.slice ra.p2 ra.l2 ra.c2,.bool rb.n,.slice rb.p rb.l rb.c,.bool rb.m,.slice rb.p2 rb.l2 rb.c2] 73))) (Bg _ ((A4.1).alloc _)) ?_;try simp only[ζ]
   refine Nc (j:=15) (listed':=(bs 17 65535)) (by rfl) (by kernel_rfl) (by rfl) _ _ 50 (by rfl) w.heap.size 73 i0 _ 8 128 underlying50 HI.1.1 HI.1.2.1 HI.1.2.2.1 HI.1.2.2.2 rfl (by decide) Jq _ es.length (Cs es) (by rfl) (E3.ext B6).1 ⟨w7.heap.size,0,none⟩ 1 1 [.bool ra.n,.slice ra.p ra.l ra.c,.bool ra.m,.slice ra.p2 ra.l2 ra.c2,.bool rb.n,.slice rb.p rb.l rb.c,.bool rb.m,.slice rb.p2 rb.l2 rb.c2] (by rfl) rfl (Ic _ [.bool ra.n,.slice ra.p ra.l ra.c,.bool ra.m,.slice ra.p2 ra.l2 ra.c2,.bool rb.n,.slice rb.p rb.l rb.c,.bool rb.m,.slice rb.p2 rb.l2 rb.c2] _) (by simp[Value.oneCell']) (Bu.noU ⟨ra,rb,p.1,p.2⟩) (by decide) (by unfold maxLen;omega) ω (by have:=B6.size;omega) (by kernel_rfl) ?_;intro gx cx w8 hf h2 h3 h4;have F4:=zH ((E3.ext B6).snoc (e:=⟨ra,rb,p.1,p.2⟩) rfl (I1.1.ext B6) h2 h4);have H6:=zH (((A7.1.trans A4.1).trans B6).grown h3 (fun j hj=>E3.1.block j hj));have F0:w5.grownBy w8 v.ownBlock:=Vb (A4.1.trans B6) h3;clear E3 J5 hf h2 h3 h4 B6;refine⟨F0,?_⟩;try simp only[ζ]
   refine zv 16 (bs 17 131071) F0 ?_;refine wpAnyH_done (by kernel_rfl) ?_ _;clear F0 D9 D8 C2 C1 A6 D7 H9 I1 A3 A7;have E0:=zH (show(Stb.ins Xd es ⟨ra,rb,p.1,p.2⟩).map Bu.vl=Di (ps.take (k+1))by rw[E6.1,Wm Bu.vl (lt:=Xd) (lt':=nO) (fun _ _=>rfl),A9.1.1];rfl);have D2:=zH (show Stb.Srt Xd es from pT (by rw[A9.1.1];exact aG _));have E5:=zH A9.1.2;generalize (⟨ra,rb,p.1,p.2⟩:Bu)=y at*
   obtain⟨n,E8⟩:∃n,es.length=n:=⟨_,rfl⟩;rw[E8]at F4 E5⊢;have HN:=zH E8;have I9:n<=20000:=by have:=E5.1;omega
   clear E8 E6 A9 F5;have wn:IntKind.i64.wrap (n:Int)=(n:Int):=by rw[IntKind.wrap_i64];omega
   have e1:((n+1:Nat):Int)-1=(n:Int):=ω;have e2:(n:Int)+1-1=(n:Int):=ω;go_wp2_with fail;go_loopg [5] n (fun c i wr=>∃u:Nat,u<=n/\c=0+u/\i= iV u/\(∀z,z∈es.drop u->Xd y z=true)/\Gw L wr w.heap.size (.slice (π gx) (n+1) cx) (es.take u++y::es.drop u)/\Aa w wr)
   case atStart=>exact⟨n,Bp _,ω,rfl,by intro z hz;rw[List.drop_of_length_le (by have:=HN.1;omega)]at hz;simp at hz,by rw[uI (by have:=HN.1;omega),List.drop_of_length_le (by have:=HN.1;omega)];exact F4.1,H6.1⟩
   clear F4 H6;obtain⟨u,hu,rfl,rfl,C8,C5,hx⟩:=hrel;have C3:=zH C8;have A5:=zH C5;have HX:=zH hx;have HU:=zH hu;have I6:u<=20000:=ω
   have wu:IntKind.i64.wrap (u:Int)=(u:Int):=by rw[IntKind.wrap_i64];omega
   have K1:(es.take u++y::es.drop u).length=n+1:=by have:=HN.1;simp;omega
   clear C8 C5 hx;by_cases hu0:0<u
   ·obtain⟨q,hq⟩:∃q,q+1=u:=⟨u-1,ω⟩
    have I7:(0:Int)<(u:Int):=ω;have e3:(u:Int)-1=(q:Int):=ω;have wq:IntKind.i64.wrap (q:Int)=(q:Int):=by rw[IntKind.wrap_i64];omega
    have C6:q<es.length:=by have:=HN.1;omega
    have D0:(es.take u++y::es.drop u)[q]?=some es[q]:=by
     rw[uP (by rw[uJ];omega),List.getElem?_take,if_pos ω];exact uB C6
    have C9:(es.take u++y::es.drop u)[u]?=some y:=by
     rw[uH (by rw[uJ];omega),uJ,show u-min u es.length=0 by omega];rfl
    have D1:=zH (show iE (es.take u++y::es.drop u) u q=es.take q++y::es.drop q by
     have h:=Ia [] es [] y q C6;simp only[uS,vB,List.length_nil,uF]at h;rw[hq]at h;exact h)
    have J8:=zH (show∀z,z∈es.drop q->z=es[q]\/z∈es.drop u by
     intro z hz;rw[List.drop_eq_getElem_cons C6,hq]at hz;simpa using hz)
    have C0:=zH (fun h=>Stb.ins_stop tP (y:=y) D2.1 C3.1 ω (Or.inr ⟨q,hq,C6,h⟩));have HE:=zH (Ho C9 D0);have B8:=zH (A5.1.2 es[q] (uD D0));have B7:=zH (A5.1.2 y (uD C9));have F7:=zH (A5.1.read D0);have F6:=zH (A5.1.read C9);have J9:=zH (List.getElem?_eq_some_iff.1 C9).1;have K0:=zH (List.getElem?_eq_some_iff.1 D0).1;have bu:(u:Int)<(n:Int)+1:=ω
    have bq:(q:Int)<(n:Int)+1:=ω;generalize es[q]=x at*;generalize hrow:es.take u++y::es.drop u=row at*;have J7:=zH hrow;have HQ:=zH hq;clear D0 C9 C6 hq hrow hu;go_upto_region 8 with fail
    refine wp_region_held_drew (S:=fun x=>Aa wr x) (by kernel_rfl) Ad.drew (fun _=> ?_);refine zv 0 (bs 16 1) (Aa.refl wr).drew ?_;refine zv 1 (bs 16 3) (Aa.refl wr).drew ?_;refine zv 2 (bs 16 7) (Aa.refl wr).drew ?_;refine zv 3 (bs 16 15) (Aa.refl wr).drew ?_;refine zv 4 (bs 16 31) (Aa.refl wr).drew ?_;refine zv 5 (bs 16 63) (Aa.refl wr).drew ?_;refine mV 6 (bs 16 127) (Aa.refl wr).drew ?_;refine zr 7 (bs 16 255) gx (u*8) (rc y.a) (fun wX hwX=>Be (Ka (a:=(rc y.a)) (b:=(rc y.b)) F6.1) hwX) underlying31 (Aa.refl wr).drew ?_;refine zv 8 (bs 16 511) (Aa.refl wr).drew ?_;refine zv 9 (bs 16 1023) (Aa.refl wr).drew ?_;refine zv 10 (bs 16 2047) (Aa.refl wr).drew ?_;refine zv 11 (bs 16 4095) (Aa.refl wr).drew ?_;refine mV 12 (bs 16 8191) (Aa.refl wr).drew ?_;refine zr 13 (bs 16 16383) gx (q*8) (rc x.a) (fun wX hwX=>Be (Ka (a:=(rc x.a)) (b:=(rc x.b)) F7.1) hwX) underlying31 (Aa.refl wr).drew ?_;refine mC 14 (bs 16 32767) (Dl L _ _ y.p x.p _ (Eg.ofa2 (B7.1.ext Ad.drew)) (Eg.ofa2 (B8.1.ext Ad.drew)) hL) ?_;rintro e w5 ⟨rfl,hx⟩;have A0:=zH (show Aa wr w5 from((Aa.refl wr).drew).trans hx);clear hx;refine⟨_,rfl,A0.1,?_⟩;try simp only[ζ]
    have F2:=zH (HX.1.trans A0.1);have A3:=zH (A5.1.ext A0.1);have D6:=zH (Be F7.1 A0.1);have D4:=zH (Be F6.1 A0.1);have B4:=zH (B8.1.ext A0.1);have B2:=zH (B7.1.ext A0.1);clear HX A5 F7 F6 B8 B7;by_cases hlt:y.p<x.p
    ·have B9:=zH (show Xd y x=true from decide_eq_true hlt)
     have B5:decide (y.p<x.p)=true:=by simpa using hlt
     refine zv 15 (bs 16 65535) A0.1 ?_;refine wpAnyH_done (by kernel_rfl) ?_ _;clear B5 hlt A0;go_upto_region 10 with fail;refine wp_region_lit ?_;apply qV (.slice (π gx) (n+1) cx);apply zq (iV u);apply zq (.pointer (some ⟨gx,u*8,none⟩));refine Bj (by rfl) (wp_load_mid _ _ (by rfl) gx (u*8) (by rfl) y.cells _ D4.1 underlying73 (by rfl) (by kernel_rfl) ?_);try simp only[ζ]
     have E1:=zH (fun X hX=>aF (X:=X) A3.1 hX);refine zp (w':=w5.alloc (.cells z8 73)) (.pointer (π w5.heap.size)) (by go_simp) ?_;refine pO (y.cells).toArray (Ak.new w5 _ _) (by simp[Bu.len]) (by rw[show((y.cells).toArray:Array Value).size=8 by simp[Bu.len]];kernel_rfl) (all_oneCell_toArray y.one) ?_
     (try simp only[Act.put])
     obtain⟨G4,G3⟩:=Of w5 73 z8 (y.cells).toArray (by simp[Bu.len]);generalize (w5.alloc (.cells z8 73)).setCells w5.heap.size 0 ((y.cells).toArray:Array Value).toList=w6 at*;have A6:=zH (E1.1 w5.heap.size (Bp _));generalize w5.heap.size=X6 at*;have A2:=zH G4;have G2:=zH G3;clear G4 G3;have H8:=zH (F2.1.trans A2.1);have A8:=zH (A3.1.ext A2.1);have D5:=zH (Be D6.1 A2.1);have B3:=zH (B4.1.ext A2.1);have B1:=zH (B2.1.ext A2.1);clear F2 D6 D4 B4 B2 A2;go_upto_region 11 with fail
     refine wp_region_lit ?_;apply qV (.slice (π gx) (n+1) cx);apply zq (iV u);apply qV (.slice (π gx) (n+1) cx);apply zq (iV u);apply qV (iV q);apply zq (.pointer (some ⟨gx,q*8,none⟩));refine Bj (by rfl) (wp_load_mid _ _ (by rfl) gx (q*8) (by rfl) x.cells _ D5.1 underlying73 (by rfl) (by kernel_rfl) ?_);try simp only[ζ]
     apply zq (.pointer (some ⟨gx,u*8,none⟩));obtain⟨t1,t2,t3⟩:=A8.1.set J9.1 B3.1;obtain⟨K3,H4,H0⟩:=A8.1.rowNoU;have E9:w.heap.size<=gx:=A8.1.1.block gx (by simp[Value.ownBlock]);have C7:X6≠gx:=fun h=>A6.1 (by rw[h];simp[Value.ownBlock])
     refine Bj (by rfl) (wp_store_mid 73 _ _ (by rfl) gx (u*8) x.cells.toArray (by rfl) (by rfl) t1 (by kernel_rfl) (all_oneCell_toArray x.one) ?_)
     (try simp only[Act.put])
     have D3:=zH t2;have H7:=zH (t3.ext H8.1 E9);have I3:=zH (G2.1.own t3 C7);have B0:=zH (B1.1.map fun r q h=>h.own H4 H0 t3);clear t1 t2 t3 H4 H0 H8 A8 D5 B3 B1;generalize World.setCells w6 gx (u*8) _=w7 at*
     go_upto_region 12 with fail;refine wp_region_lit ?_;apply qV (.slice (π gx) (n+1) cx);apply zq (iV u);apply zq (iV q);refine pL I3.1 underlying73 (by kernel_rfl) ?_;try simp only[ζ]
     apply zq (.pointer (some ⟨gx,q*8,none⟩));obtain⟨t1,t2,t3⟩:=D3.1.set (by rw[uM];exact K0.1) B0.1;refine Bj (by rfl) (wp_store_mid 73 _ _ (by rfl) gx (q*8) y.cells.toArray (by rfl) (by rfl) t1 (by kernel_rfl) (all_oneCell_toArray y.one) ?_)
     (try simp only[Act.put])
     have F3:=zH t2;have J6:=zH (t3.ext H7.1 E9);clear t1 t2 t3 H7 D3 I3 B0 E9 C7;generalize World.setCells w7 gx (q*8) _=w9 at*
     go_wp2_with fail;go_roundg q
     case measure=>have:=HQ.1;omega
     case rel=>exact⟨q,by have:=HQ.1;have:=HU.1;omega,ω,rfl,fun z hz=>(J8.1 z hz).elim (fun h=>by rw[h];exact B9.1) (C3.1 z),by rw[<-D1.1,HE.1];exact F3.1,J6.1⟩
    have B9:=zH (show Xd y x=false from decide_eq_false hlt);have B5:decide (y.p<x.p)=false:=by simpa using hlt
    refine zv 15 (bs 16 65535) A0.1 ?_;refine wpAnyH_done (by kernel_rfl) ?_ _;clear B5 hlt A0;have HR:=zH (show Gw L w5 w.heap.size (.slice (π gx) (n+1) cx) (Stb.ins Xd es y)by rw[C0.1 B9.1];exact A3.1);have F1:=F2;go_wp2_with fail
    go_roundg (ps.length-(k+1))
    case measure=>have:=C4.1;omega
    case rel=>exact⟨k+1,_,_,C4.1,rfl,by go_num,rfl,HR.1,E0.1,by rw[Stb.ins_len,HN.1];have:=E5.1;omega,F1.1⟩
   obtain rfl:u=0:=ω;have C0:=zH (Stb.ins_stop tP (y:=y) D2.1 C3.1 (uL _) (Or.inl rfl));go_upto_region 8 with fail;refine wp_region_held_drew (S:=fun x=>Aa wr x) (by kernel_rfl) Ad.drew (fun _=> ?_);refine zv 0 (bs 16 1) (Aa.refl wr).drew ?_;refine zv 1 (bs 16 3) (Aa.refl wr).drew ?_;refine zv 2 (bs 16 7) (Aa.refl wr).drew ?_;refine zs 3 (bs 16 15) (Aa.refl wr).drew ?_;refine zs 4 (bs 16 31) (Aa.refl wr).drew ?_;refine zs 5 (bs 16 63) (Aa.refl wr).drew ?_;refine zs 6 (bs 16 127) (Aa.refl wr).drew ?_;refine zs 7 (bs 16 255) (Aa.refl wr).drew ?_;refine zs 8 (bs 16 511) (Aa.refl wr).drew ?_;refine zs 9 (bs 16 1023) (Aa.refl wr).drew ?_;refine zs 10 (bs 16 2047) (Aa.refl wr).drew ?_;refine zs 11 (bs 16 4095) (Aa.refl wr).drew ?_;refine zs 12 (bs 16 8191) (Aa.refl wr).drew ?_;refine zs 13 (bs 16 16383) (Aa.refl wr).drew ?_;refine zs 14 (bs 16 32767) (Aa.refl wr).drew ?_;refine zv 15 (bs 16 65535) (Aa.refl wr).drew ?_;refine wpAnyH_done (by kernel_rfl) ?_ _;have HR:=zH (show Gw L wr.drew w.heap.size (.slice (π gx) (n+1) cx) (Stb.ins Xd es y)by rw[C0.1];exact A5.1.ext Ad.drew);have F1:=zH (HX.1.drew);go_wp2_with fail
   go_roundg (ps.length-(k+1))
   case measure=>have:=C4.1;omega
   case rel=>exact⟨k+1,_,_,C4.1,rfl,by go_num,rfl,HR.1,E0.1,by rw[Stb.ins_len,HN.1];have:=E5.1;omega,F1.1⟩
  have B5:decide (p.1<p.2)=false:=by simpa using hpq
  have A1:=F5.1;rw[if_neg hpq]at A1;have E6:=zH A1;clear A1;refine zv 11 (bs 12 4095) (show Aa wr w5 from E4.1) ?_;refine wpAnyH_done (by kernel_rfl) ?_ _;clear B5 hpq E4 A0;go_wp2_with fail
  go_roundg (ps.length-(k+1))
  case measure=>have:=C4.1;omega
  case rel=>exact⟨k+1,es,_,C4.1,rfl,by go_num,rfl,A3.1,by rw[E6.1];exact A9.1.1,by have:=A9.1.2;omega,A7.1⟩
 obtain rfl:k=ps.length:=ω;have K2:¬(ps.length:Int)<(ps.length:Int):=ω;have HR:=zH (show es.map Bu.vl=Di ps by have h:=A9.1.1;rwa[uI (Bp _)]at h);go_wp2_with fail;go_ret;exact⟨_,rfl,es,A5.1,HR.1,A9.1.2,HX.1⟩
theorem Rk (L:Nat)(u:Value)(ps:List QQ)(w:World)(hu:Hh L w u ps)(h1L:1<=L)(hL:L<=60000)(hn:ps.length<=20000):
  Calls prog 119 #[u] w fun e w'=>∃v es,e= .returned v/\Gw L w' w.heap.size v es/\es.map Bu.vl=Ee ps/\es.length<=ps.length/\Aa w w':=by
 have HC:=zH (Xz L u ps w hu h1L hL hn);obtain⟨i0,hi,E1,E0,D9⟩:=info_parts bI;have HI:=zH (And.intro hi (And.intro E1 (And.intro E0 D9)));clear hi E1 E0 D9 hu;go_enter func119,ntmps119
 go_upto_region 2 with(go_at_call 158;refine HC.1.mono ?_;rintro e ws ⟨vs,ss,rfl,A8,C0,E3,D6⟩)
 obtain⟨As,cs,rfl⟩:=Ls A8.1;have B6:=zH (fun j hj=>vF (A8.lt j hj) (Bp _));have B9:=zH (A8.ext ((Aa.refl ws).alloc (.cells #[] 73)));have E8:=zH (D6.alloc (.cells #[] 73));have A7:=zH (show Gw L (ws.alloc (.cells #[] 73)) ws.heap.size (.slice (π ws.heap.size) 0 0) []from⟨Bh.empty ws ws.heap.size 73 8 (Bp _),by simp⟩);have HB:=zH D6.size;have C3:=zH C0;have F8:ss.length<=20000:=ω
 have F5:=zH E3;clear A8 D6 C0 E3 HC;go_wp2_with fail;go_loopg [4,5] ss.length (fun c v i wr=>∃(k:Nat) (os:List Bu) (v2:Value),k<=ss.length/\c=ss.length-k/\i= iV k/\v2=v/\Gw L wr ws.heap.size v2 os/\os.map Bu.vl=((Di ps).take k).foldl Ek []/\os.length<=k/\Gw L wr w.heap.size (.slice As ss.length cs) ss/\Aa w wr/\ws.heap.size<=wr.heap.size)
 case atStart=>exact⟨0,[],_,uL _,rfl,rfl,rfl,A7.1,by simp,Bp _,B9.1,E8.1,by simp⟩
 clear B9 A7 E8;obtain⟨k,os,v,hk,rfl,rfl,rfl,D2,D1,D4,A8,hx,E2⟩:=hrel;by_cases hlt:k<ss.length
 ·have F2:(k:Int)<(ss.length:Int):=ω
  obtain⟨e,he⟩:∃e,ss[k]?=some e:=⟨_,uB hlt⟩;have B4:=zH (show((Di ps).take (k+1)).foldl Ek []=Ek (os.map Bu.vl) (e.p,e.q)by rw[D1,Na (p:=(e.p,e.q)) (by rw[<-C3.1,vH,he];rfl)]);have B2:=zH (A8.2 e (uD he));obtain⟨gs,rfl⟩:∃gs,As=some ⟨gs,0,none⟩:=by
   rcases A8.form with⟨hv,hn⟩|⟨g,cap,rest,hv,_⟩
   ·rw[hn]at hlt;simp at hlt
   injection hv with e1 _ _
   exact⟨g,e1⟩
  have C6:=zH (A8.read he);have A7:=zH D2;have B9:=zH A8;have B1:=zH D4;have HX:=zH hx;have B5:=zH hlt;have B8:=zH E2;clear D2 D1 A8 hx D4 he hlt E2;rcases cP os with rfl|⟨os,l,rfl⟩
  ·obtain⟨Ao,co,rfl⟩:=Ls A7.1.1
   have q1:(0:Int)-1= -1:=ω;go_upto_region 7 with fail;refine wp_region_held_drew (S:=fun x=>Aa wr x) (by kernel_rfl) Ad.drew (fun _=> ?_);refine zv 0 (bs 15 1) (Aa.refl wr).drew ?_;refine zv 1 (bs 15 3) (Aa.refl wr).drew ?_;refine zv 2 (bs 15 7) (Aa.refl wr).drew ?_;refine zs 3 (bs 15 15) (Aa.refl wr).drew ?_;refine zs 4 (bs 15 31) (Aa.refl wr).drew ?_;refine zs 5 (bs 15 63) (Aa.refl wr).drew ?_;refine zs 6 (bs 15 127) (Aa.refl wr).drew ?_;refine zs 7 (bs 15 255) (Aa.refl wr).drew ?_;refine zs 8 (bs 15 511) (Aa.refl wr).drew ?_;refine zs 9 (bs 15 1023) (Aa.refl wr).drew ?_;refine zs 10 (bs 15 2047) (Aa.refl wr).drew ?_;refine zs 11 (bs 15 4095) (Aa.refl wr).drew ?_;refine zs 12 (bs 15 8191) (Aa.refl wr).drew ?_;refine zs 13 (bs 15 16383) (Aa.refl wr).drew ?_;refine zv 14 (bs 15 32767) (Aa.refl wr).drew ?_;refine wpAnyH_done (by kernel_rfl) ?_ _;have A1:=zH (B4.1.trans (Un _));have F1:([]:List Bu).length<=20000:=by simp
   skip
   have A2:=zH (show Aa wr wr.drew from Ad.drew);have A0:=zH (A7.1.ext A2.1);have A6:=zH (B9.1.ext A2.1);have A5:=zH (B2.1.ext A2.1);have B0:=zH (Be C6.1 A2.1);have B7:=zH (HX.1.trans A2.1);go_upto_region 8 with fail
   refine wp_region_lit ?_;refine zp (w':=wr.drew) (.slice Ao 0 co) (by go_simp<;>with_reducible rfl) ?_;refine zp (w':=wr.drew) (.slice (π gs) ss.length cs) (by go_simp<;>with_reducible rfl) ?_;refine zp (w':=wr.drew) (iV k) (by go_simp<;>with_reducible rfl) ?_;refine zp (w':=wr.drew) (.pointer (some ⟨gs,k*8,none⟩)) (by go_simp<;>with_reducible rfl) ?_;refine Bj (by rfl) (wp_load_mid _ _ (by rfl) gs (k*8) (by rfl) [.bool e.a.n,.slice e.a.p e.a.l e.a.c,.bool e.a.m,.slice e.a.p2 e.a.l2 e.a.c2,.bool e.b.n,.slice e.b.p e.b.l e.b.c,.bool e.b.m,.slice e.b.p2 e.b.l2 e.b.c2] _ B0.1 underlying73 (by rfl) (by kernel_rfl) ?_);try simp only[ζ]
   have D5:=A0.1;have A4:Aa wr.drew (wr.drew.alloc (.cells #[.bool e.a.n,.slice e.a.p e.a.l e.a.c,.bool e.a.m,.slice e.a.p2 e.a.l2 e.a.c2,.bool e.b.n,.slice e.b.p e.b.l e.b.c,.bool e.b.m,.slice e.b.p2 e.b.l2 e.b.c2] 73)):=Ad.alloc _;refine zp (w':=(wr.drew.alloc (.cells #[.bool e.a.n,.slice e.a.p e.a.l e.a.c,.bool e.a.m,.slice e.a.p2 e.a.l2 e.a.c2,.bool e.b.n,.slice e.b.p e.b.l e.b.c,.bool e.b.m,.slice e.b.p2 e.b.l2 e.b.c2] 73))) (.slice (π wr.drew.heap.size) 1 1) (by go_simp) ?_;refine Bj (by rfl) (Dt _ _ 50 (by rfl) ws.heap.size 73 i0 _ 8 128 underlying50 HI.1.1 HI.1.2.1 HI.1.2.2.1 HI.1.2.2.2 rfl (by decide) Jq _ 0 (Cs ([]:List Bu)) (by rfl) (A0.1.ext A4).1 ⟨wr.drew.heap.size,0,none⟩ 1 1 e.cells (by rfl) rfl (Ic _ e.cells _) e.one e.noU (by decide) (by unfold maxLen;omega) ω (Ar B8.1 (Ar A2.1.size A4.size)) ?_);intro gx cx D3 hf h2 h3 h4;try simp only[ζ]
   have C5:=zH ((A0.1.ext A4).snoc (es:=([]:List Bu)) (e:=e) rfl (A5.1.ext A4) h2 h4);have C2:=zH ((B7.1.trans A4).grown h3 (fun j hj=>Ar HB.1 (A0.1.1.block j hj)));have A9:=zH ((A6.1.ext A4).grown h3 (fun j hj hj2=>by have h7:=A0.1.1.block j hj2;have h8:=B6.1 j hj;omega) h4);have C1:=zH (Ar B8.1 (Ar A2.1.size (Ar A4.size h3.size)));clear hf h2 h3 h4 A4 D5;refine zp (w':=D3) (.slice (π gx) (0+1) cx) (by go_simp) ?_;go_wp2_with fail
   go_roundg (ss.length-(k+1))
   case measure=>have:=B5.1;omega
   case rel=>exact⟨k+1,([]:List Bu)++[e],_,B5.1,rfl,by go_num,rfl,C5.1,by rw[A1.1];simp[Bu.vl],by have:=B1.1;simp at this⊢<;>omega,A9.1,C2.1,C1.1⟩
  have F0:∃g6 c6,v= .slice (π g6) (os.length+1) c6:=by
   rcases A7.1.form with⟨_,h⟩|⟨g6,c6,_,h,_⟩
   ·simp at h
   exact⟨g6,c6,by simpa using h⟩
  obtain⟨g6,c6,rfl⟩:=F0;obtain⟨m,hm⟩:∃m,os.length=m:=⟨_,rfl⟩;rw[hm]at A7⊢;have HM:=zH hm;have F9:m<=20000:=by have h:=B1.1;rw[uC,HM.1]at h;omega
  have F7:IntKind.i64.wrap (m:Int)=(m:Int):=by rw[IntKind.wrap_i64];omega
  have C8:=zH (A7.1.2 l (by simp));have E9:=zH (B4.1.trans (show Ek ((os++[l]).map Bu.vl) (e.p,e.q)=if l.q<e.p then os.map Bu.vl++[(l.p,l.q)]++[(e.p,e.q)]else if l.q<e.q then os.map Bu.vl++[(l.p,e.q)]else os.map Bu.vl++[(l.p,l.q)]by rw[vE];exact Uo _ _ _));have e1:((m+1:Nat):Int)-1=(m:Int):=ω
  have e2:(m:Int)+1-1=(m:Int):=ω;have e3:¬(m:Int)<0:=ω;have e5:(m:Int)<(m:Int)+1:=ω;have E7:=zH (A7.1.readEnd HM.1);clear hm;go_upto_region 7 with fail;refine wp_region_held_drew (S:=fun x=>Aa wr x) (by kernel_rfl) Ad.drew (fun _=> ?_);refine zv 0 (bs 15 1) (Aa.refl wr).drew ?_;refine zv 1 (bs 15 3) (Aa.refl wr).drew ?_;refine zv 2 (bs 15 7) (Aa.refl wr).drew ?_;refine zv 3 (bs 15 15) (Aa.refl wr).drew ?_;refine zv 4 (bs 15 31) (Aa.refl wr).drew ?_;refine zv 5 (bs 15 63) (Aa.refl wr).drew ?_;refine mV 6 (bs 15 127) (Aa.refl wr).drew ?_;refine zr 7 (bs 15 255) g6 (m*8+4) (rc l.b) (fun wX hwX=>Be E7.1 hwX) underlying31 (Aa.refl wr).drew ?_;refine zv 8 (bs 15 511) (Aa.refl wr).drew ?_;refine zv 9 (bs 15 1023) (Aa.refl wr).drew ?_;refine zv 10 (bs 15 2047) (Aa.refl wr).drew ?_;refine mV 11 (bs 15 4095) (Aa.refl wr).drew ?_;refine zr 12 (bs 15 8191) gs (k*8) (rc e.a) (fun wX hwX=>Be (Ka (a:=(rc e.a)) (b:=(rc e.b)) C6.1) hwX) underlying31 (Aa.refl wr).drew ?_;refine mC 13 (bs 15 16383) (Dl L _ _ l.q e.p _ (Eg.ofb (C8.1.ext Ad.drew)) (Eg.ofa2 (B2.1.ext Ad.drew)) hL) ?_;rintro e w9 ⟨rfl,hx⟩;have A3:=zH (show Aa wr w9 from((Aa.refl wr).drew).trans hx);clear hx;refine⟨_,rfl,A3.1,?_⟩;try simp only[ζ]
  by_cases c1:l.q<e.p
  ·have B3:decide (l.q<e.p)=true:=by simpa using c1
   refine zv 14 (bs 15 32767) A3.1 ?_;refine wpAnyH_done (by kernel_rfl) ?_ _;have A1:=zH (E9.1.trans (if_pos c1));clear c1 B3;have A2:=zH (show Aa wr w9 from A3.1);have A0:=zH (A7.1.ext A2.1);have A6:=zH (B9.1.ext A2.1);have A5:=zH (B2.1.ext A2.1);have B0:=zH (Be C6.1 A2.1);have B7:=zH (HX.1.trans A2.1);go_upto_region 8 with fail
   refine wp_region_lit ?_;apply qV (.slice (π g6) (m+1) c6);apply zq (.slice (π gs) ss.length cs);apply qV (iV k);apply zq (.pointer (some ⟨gs,k*8,none⟩));refine Bj (by rfl) (wp_load_mid _ _ (by rfl) gs (k*8) (by rfl) [.bool e.a.n,.slice e.a.p e.a.l e.a.c,.bool e.a.m,.slice e.a.p2 e.a.l2 e.a.c2,.bool e.b.n,.slice e.b.p e.b.l e.b.c,.bool e.b.m,.slice e.b.p2 e.b.l2 e.b.c2] _ B0.1 underlying73 (by rfl) (by kernel_rfl) ?_);try simp only[ζ]
   have D5:=A0.1;have A4:Aa w9 (w9.alloc (.cells #[.bool e.a.n,.slice e.a.p e.a.l e.a.c,.bool e.a.m,.slice e.a.p2 e.a.l2 e.a.c2,.bool e.b.n,.slice e.b.p e.b.l e.b.c,.bool e.b.m,.slice e.b.p2 e.b.l2 e.b.c2] 73)):=Ad.alloc _;refine zp (w':=(w9.alloc (.cells #[.bool e.a.n,.slice e.a.p e.a.l e.a.c,.bool e.a.m,.slice e.a.p2 e.a.l2 e.a.c2,.bool e.b.n,.slice e.b.p e.b.l e.b.c,.bool e.b.m,.slice e.b.p2 e.b.l2 e.b.c2] 73))) (.slice (π w9.heap.size) 1 1) (by go_simp) ?_;refine Bj (by rfl) (Dt _ _ 50 (by rfl) ws.heap.size 73 i0 _ 8 128 underlying50 HI.1.1 HI.1.2.1 HI.1.2.2.1 HI.1.2.2.2 rfl (by decide) Jq _ (m+1) (Cs (os++[l])) (by rfl) (by have h:=(A0.1.ext A4).1;rw[uC,HM.1]at h;exact h) ⟨w9.heap.size,0,none⟩ 1 1 e.cells (by rfl) rfl (Ic _ e.cells _) e.one e.noU (by decide) (by unfold maxLen;omega) ω (Ar B8.1 (Ar A2.1.size A4.size)) ?_);intro gx cx D3 hf h2 h3 h4;try simp only[ζ]
   have C5:=zH ((A0.1.ext A4).snoc (es:=(os++[l])) (e:=e) (by rw[uC,HM.1];rfl) (A5.1.ext A4) h2 h4);have C2:=zH ((B7.1.trans A4).grown h3 (fun j hj=>Ar HB.1 (A0.1.1.block j hj)));have A9:=zH ((A6.1.ext A4).grown h3 (fun j hj hj2=>by have h7:=A0.1.1.block j hj2;have h8:=B6.1 j hj;omega) h4);have C1:=zH (Ar B8.1 (Ar A2.1.size (Ar A4.size h3.size)));clear hf h2 h3 h4 A4 D5;refine zp (w':=D3) (.slice (π gx) ((m+1)+1) cx) (by go_simp) ?_;go_wp2_with fail
   go_roundg (ss.length-(k+1))
   case measure=>have:=B5.1;omega
   case rel=>exact⟨k+1,(os++[l])++[e],_,B5.1,rfl,by go_num,rfl,C5.1,by rw[A1.1];simp[Bu.vl],by have:=B1.1;simp at this⊢<;>omega,A9.1,C2.1,C1.1⟩
  have B3:decide (l.q<e.p)=false:=by simpa using c1
  refine zv 14 (bs 15 32767) A3.1 ?_;refine wpAnyH_done (by kernel_rfl) ?_ _;have C4:=zH (E9.1.trans (if_neg c1));clear c1 B3;go_upto_region 9 with fail
  have D7:=zH (Be E7.1 A3.1);have D8:=zH (Be C6.1 A3.1);have C7:=zH (C8.1.ext A3.1);have C9:=zH (B2.1.ext A3.1);refine wp_region_held_drew (S:=fun x=>Aa w9 x) (by kernel_rfl) Ad.drew (fun _=> ?_);refine zv 0 (bs 11 1) (Aa.refl w9).drew ?_;refine zv 1 (bs 11 3) (Aa.refl w9).drew ?_;refine zv 2 (bs 11 7) (Aa.refl w9).drew ?_;refine mV 3 (bs 11 15) (Aa.refl w9).drew ?_;refine zr 4 (bs 11 31) g6 (m*8+4) (rc l.b) (fun wX hwX=>Be D7.1 hwX) underlying31 (Aa.refl w9).drew ?_;refine zv 5 (bs 11 63) (Aa.refl w9).drew ?_;refine zv 6 (bs 11 127) (Aa.refl w9).drew ?_;refine zv 7 (bs 11 255) (Aa.refl w9).drew ?_;refine mV 8 (bs 11 511) (Aa.refl w9).drew ?_;refine zr 9 (bs 11 1023) gs (k*8+4) (rc e.b) (fun wX hwX=>Be (Kx (a:=(rc e.a)) (b:=(rc e.b)) (n:=4) D8.1 rfl) hwX) underlying31 (Aa.refl w9).drew ?_;refine mC 10 (bs 11 2047) (Dl L _ _ l.q e.q _ (Eg.ofb (C7.1.ext Ad.drew)) (Eg.ofb (C9.1.ext Ad.drew)) hL) ?_;rintro e wb ⟨rfl,hx⟩;have D0:=zH (show Aa w9 wb from((Aa.refl w9).drew).trans hx);clear hx;refine⟨_,rfl,D0.1,?_⟩;try simp only[ζ]
  refine wpAnyH_done (by kernel_rfl) ?_ _;have A2:=zH (show Aa wr wb from A3.1.trans D0.1);have A0:=zH (A7.1.ext A2.1);have A6:=zH (B9.1.ext A2.1);have A5:=zH (B2.1.ext A2.1);have B0:=zH (Be C6.1 A2.1);have B7:=zH (HX.1.trans A2.1);by_cases c2:l.q<e.q
  ·have B3:decide (l.q<e.q)=true:=by simpa using c2
   rw[B3];have A1:=zH (C4.1.trans (if_pos c2));clear c2;go_upto_region 10 with fail
   refine wp_region_lit ?_;apply qV (.slice (π g6) (m+1) c6);apply zq (iV m);apply qV (.slice (π gs) ss.length cs);apply zq (iV k);apply qV (.pointer (some ⟨gs,k*8,none⟩));apply zq (.pointer (some ⟨gs,k*8+4,none⟩));refine Bj (by rfl) (wp_load_mid _ _ (by rfl) gs (k*8+4) (by rfl) (rc e.b) _ (Kx (a:=(rc e.a)) (b:=(rc e.b)) (n:=4) B0.1 rfl) underlying31 (by rfl) (by kernel_rfl) ?_);try simp only[ζ]
   apply qV (.pointer (some ⟨g6,m*8,none⟩));apply zq (.pointer (some ⟨g6,m*8+4,none⟩));obtain⟨t1,t2,t3⟩:=A0.1.turn HM.1 A5.1;obtain⟨G0,E6,E4⟩:=A0.1.rowNoU;refine Bj (by rfl) (wp_store_mid 31 _ _ (by rfl) g6 (m*8+4) (rc e.b).toArray (by rfl) (by rfl) t1 (by kernel_rfl) (all_oneCell_toArray (by simp[Value.oneCell'])) ?_)
   (try simp only[Act.put])
   have C5:=zH t2;have E5:w.heap.size<=g6:=Ar HB.1 (A0.1.1.block g6 (by simp[Value.ownBlock]));have C2:=zH (t3.ext B7.1 E5);have A9:=zH (A6.1.grown (row:=some g6) t3 (fun j hj hj2=>by injection hj2 with hj2;have h7:=A0.1.1.block j (by simp[Value.ownBlock,hj2]);have h8:=B6.1 j hj;omega) (fun r q h=>h.own E6 E4 t3));have C1:=zH (Ar B8.1 (Ar A2.1.size t3.size));clear t1 t2 t3 E6 E4 E5 B3;generalize World.setCells wb g6 (m*8+4) _=wn at*
   go_wp2_with fail;go_roundg (ss.length-(k+1))
   case measure=>have:=B5.1;omega
   case rel=>exact⟨k+1,os++[⟨l.a,e.b,l.p,e.q⟩],_,B5.1,rfl,by go_num,rfl,C5.1,by rw[A1.1];simp[Bu.vl],by have:=B1.1;simp at this⊢<;>omega,A9.1,C2.1,C1.1⟩
  have B3:decide (l.q<e.q)=false:=by simpa using c2
  rw[B3];have A1:=zH (C4.1.trans (if_neg c2));clear c2;go_wp2_with fail
  go_roundg (ss.length-(k+1))
  case measure=>have:=B5.1;omega
  case rel=>exact⟨k+1,os++[l],_,B5.1,rfl,by go_num,rfl,A0.1,by rw[A1.1,vE];rfl,by have:=B1.1;omega,A6.1,B7.1,Ar B8.1 A2.1.size⟩
 obtain rfl:k=ss.length:=ω;have F3:¬(ss.length:Int)<(ss.length:Int):=ω;have HR:=zH (show os.map Bu.vl=Ee ps by rw[D1,uI (by rw[<-C3.1,uU];exact Bp _)];rfl);have A7:=zH (Gw.mono D2 HB.1);have F4:=zH hx;have F6:=zH (show os.length<=ps.length by have:=F5.1;omega);clear D2 D1 D4 A8 hx;go_wp2_with fail
 go_ret;exact⟨_,rfl,os,A7.1,HR.1,F6.1,F4.1⟩
end
section
theorem bD {P Q:Rat->Prop}{out:List QQ}{s:QQ}(h:∀p,p∈out->P p.1/\Q p.2)(hs:P s.1/\Q s.2):∀p,p∈Ek out s->P p.1/\Q p.2:=by
 have A0:∀p,p∈out++[s]->P p.1/\Q p.2:=fun p hp=>by
  rcases List.mem_append.1 hp with hp|hp
  ·exact h p hp
  rw[vG]at hp;subst hp;exact hs
 intro p hp;unfold Ek at hp;split at hp
 ·exact A0 p hp
 rename_i l h0;have e0:=dN h0;split at hp
 ·exact A0 p hp
 split at hp
 ·generalize out.dropLast=o at*
  subst e0;rcases List.mem_append.1 hp with hp|hp
  ·exact h p (List.mem_append.2 (Or.inl hp))
  rw[vG]at hp;subst hp;exact⟨(h l (by simp)).1,hs.2⟩
 exact h p hp
theorem gQ {P Q:Rat->Prop}(l:List QQ):∀(out:List QQ),(∀p,p∈out->P p.1/\Q p.2)->(∀p,p∈l->P p.1/\Q p.2)->∀p,p∈l.foldl Ek out->P p.1/\Q p.2:=by
  induction l with
  |nil=>intro out h _;exact h
  |cons s l ih=>intro out h k;rw[List.foldl_cons];exact ih _ (bD h (k s (vD ..))) fun p hp=>k p (uQ _ hp)
theorem Yz {P Q:Rat->Prop}{l:List QQ}(h:∀p,p∈l->P p.1/\Q p.2):∀p,p∈Ee l->P p.1/\Q p.2:=by
  unfold Ee;refine gQ _ [] (by simp) fun p hp=>h p ?_
  unfold Di at hp;exact(Uq.1 (Stb.mem_stab.1 hp)).1
end
section
attribute [local go_sem ↓] Go.wp_at_zero Go.wp_at_succ Aw Av
theorem Wi (L:Nat)(hL:L<=60000)(w:World)(e f:Cd)(he:e.Ok L w)(hf:f.Ok L w):
  Calls prog 89 #[.agg e.cells.toArray,.agg f.cells.toArray] w fun x w'=>∃z:Int,x= .returned (iV z)/\(z<0↔Qh e f=true)/\Aa w w':=by
 have RA:=zH he.1;have RB:=zH hf.1;have BA:=zH he.2.1;have BB:=zH hf.2.1;clear he hf;unfold Cd.cells;go_enter func89,ntmps89
 have H0:=zH (Hp.start w);go_upto_region 0 with fail;apply wl;apply Cl 77 [.bool e.a.n,.slice e.a.p e.a.l e.a.c,.bool e.a.m,.slice e.a.p2 e.a.l2 e.a.c2,iV e.up] H0.1;intro X1 w2 H3 _;apply Cl 77 [.bool f.a.n,.slice f.a.p f.a.l f.a.c,.bool f.a.m,.slice f.a.p2 f.a.l2 f.a.c2,iV f.up] H3.1;intro X6 w7 H8 _;apply zq (iV 0);go_upto_region 1 with fail;refine zy ?_;have A1:=zH (H8.1.step (Aa.refl w7).drew);refine Ta Ai zb (bs 13 1) 0 _ ?_;refine zg 1 (bs 13 3) X1 (0) (rc e.a) (H8.1.range (i:=0) rR 0 4) underlying31 zb ?_;refine Ta Ai zb (bs 13 7) 2 _ ?_;refine zg 3 (bs 13 15) X6 (0) (rc f.a) (H8.1.range (i:=1) rR 0 4) underlying31 zb ?_;refine oW H8.1 zb (bs 13 495) 5 6 7 8 _ _ _ _ ?_;refine mC 4 (bs 13 511) (Hv (L:=60000) (RV.Is.nin (RA.1.dig A1.1.dig0) (Ar BA.1 ω)) (RV.Is.nin (RB.1.dig A1.1.dig0) (Ar BB.1 ω)) ω) ?_;rintro e B4 ⟨rfl,hx⟩;have B0:=zH (A1.1.step hx);have A5:=zH (zb.trans hx);clear hx;apply zm A5.1;refine mC 9 (bs 13 1023) (Zq f.up e.up _) ?_;rintro e B3 ⟨rfl,hx⟩;have A9:=zH (B0.1.step hx);have A4:=zH (A5.1.trans hx);clear hx;apply zm A4.1;refine kF (T:=3) (zs:=[iV (Df e.q f.q),iV (Ni f.up e.up)]) (n:=2) (i:=10) (listed':=(bs 13 2047)) rR kR rR (by go_simp) kR A9.1 (by simp[Aq]) ?_;intro A7 B2 hh hx A6;have A0:=hN hh;have A3:=zH (A4.1.trans hx);clear hh hx A6;refine⟨A3.1,?_⟩;try simp only[ζ]
 refine mC 11 (bs 13 4095) (qJ A7 0 2 (Df e.q f.q) (Ni f.up e.up) _ (A0.1.cell (i:=2) rR 0 rR) (A0.1.cell (i:=2) rR 1 rR)) ?_;rintro e B1 ⟨rfl,hx⟩;have A8:=zH (A0.1.step hx);have A2:=zH (A3.1.trans hx);clear hx;apply zm A2.1;refine zx 12 (bs 13 8191) (iV (qK (Df e.q f.q) (Ni f.up e.up))) A2.1 ?_;refine wpAnyH_done kR ?_ _;go_wp2_with fail
 go_ret;exact⟨_,rfl,by show _↔Es e.q e.up f.q f.up=true;rw[<-qI,decide_eq_true_iff],A8.1.ext⟩
end
section
open Go.RowKit Go.Shelf
attribute [local go_sem] Oper.semAt_some
attribute [local go_sem ↓] Go.wp_at_zero Go.wp_at_succ Dy Dx Aw Av
def tU (L X3 Bo:Nat)(ry:RV)(y:Rat)(w W1:World)(pre:List Xg)(W:World):Prop:=
  ∃(A:Option Addr) (n c:Nat) (es:List Cd),Hp w W [.blk X3 31 (rc ry),.blk Bo 74 [.slice A n c],.row 77 5 (.slice A n c) n (List.flatMap Cd.cells es)]/\Af W1 W/\(∀k,Value.ownBlock (.slice A n c)=some k->W1.heap.size<=k)/\(∀e,e∈es->e.Ok (L+8) W)/\es.map Cd.vl=(pre.map Subtype.val).filterMap (Ef y)/\n=es.length/\n<=pre.length/\W1.heap.size<=W.heap.size
def tV (u:Value)(X3 Bo Bx:Nat)(ry:RV)(W1:World)(x:Xg)(a':Act)(W:World):Prop:=
  ∃ Xa Xb,Ak W Xa 24 ([iV x.1.1.1,iV x.1.1.2]:List Value).toArray/\Ak W Xb 24 ([iV x.1.2.1,iV x.1.2.2]:List Value).toArray/\Xa≠Xb/\W1.heap.size<=Xa/\W1.heap.size<=Xb/\
    a'={tmps:=#[u,(rg ry),undef,.pointer (π X3),.slice none 0 0,.pointer (π Bo),.pointer (π Xa),.pointer (π Xb),undef,undef,undef,undef,u,.func (.func 103) #[] #[.pointer (π Bx)],.agg #[iV x.1.1.1,iV x.1.1.2],.agg #[iV x.1.2.1,iV x.1.2.2],undef,undef,undef,undef,undef,undef,undef,undef,undef,undef,undef,undef,undef,undef,undef,undef,undef,undef,undef,undef,undef,undef,undef,undef,undef,undef,undef,undef,undef,undef,undef],defers:=[]}
theorem nL (L X3 Bo:Nat)(ry:RV)(y:Rat)(w W1:World)(hw:w.heap.size<=W1.heap.size):OwnFrom W1.heap.size (tU L X3 Bo ry y w W1):=by
  rintro s W W' row ⟨A,n,c,es,h1,h2,h3,h4,h5,h6,h7,h8⟩ hg hr;have d:Af W W':=Af.kept hg (fun k hk=>(hr k hk).2);exact⟨A,n,c,es,h1.kept hg (fun k hk=>⟨Ar hw (hr k hk).1,(hr k hk).2⟩),h2.trans d,h3,fun e he=>(h4 e he).dig d,h5,h6,h7,Ar h8 hg.size⟩
theorem nM (u:Value)(X3 Bo Bx:Nat)(ry:RV)(W1:World)(x:Xg)(a':Act):OwnFrom W1.heap.size (fun(_:Unit) W=>tV u X3 Bo Bx ry W1 x a' W):=by
  rintro _ W W' row ⟨Xa,Xb,h1,h2,h3⟩ hg hr;exact⟨Xa,Xb,h1.kept hg (fun k hk=>(hr k hk).2),h2.kept hg (fun k hk=>(hr k hk).2),h3⟩
theorem qT {L:Nat}{w w':World}{a:RV}{q:Rat}(h:a.In L w q)(x:Aa w w'):a.In L w' q:=h.ext x
theorem fZ (L:Nat)(u:Value)(rs:List Ba)(ry:RV)(y:Rat)(w:World)(hu:Cn w u rs)(hy:ry.In L w y)(h1L:1<=L)(hL:L<=2000)(hn:rs.length<=1048576)(hr:∀r,r∈rs->r.length<=1048576):
  Calls prog 49 #[u,(rg ry)] w fun e w'=>∃A n c es,e= .returned (.slice A n c)/\n=List.length es/\Bh w' w.heap.size 77 5 (.slice A n c) n (List.flatMap Cd.cells es)/\
   (∀e,e∈es->e.Ok (L+8) w')/\es.map Cd.vl=Fm y rs/\Aa w w':=by
 obtain⟨qs,E1⟩:∃qs,qs=if Hc rs=true then rs else[]:=⟨_,rfl⟩
 have L1:Hc qs=true:=by
  rw[E1];split
  ·assumption
  rfl
 have N4:qs.length<=1048576:=by
  rw[E1];split
  ·exact hn
  simp
 have P8:=zH (show Fm y rs=Stb.stab Xc (Sm y qs)by rw[E1];rfl);have L2:=(((Hp.start w).alloc 31 (rc ry) (by simp[Aq])).alloc 74 [.slice none 0 0] (by simp[Aq])).addNil 77 5;have G8:Aa w ((w.alloc (.cells #[.bool ry.n,.slice ry.p ry.l ry.c,.bool ry.m,.slice ry.p2 ry.l2 ry.c2] 31)).alloc (.cells #[.slice none 0 0] 74)):=((Aa.refl w).alloc _).alloc _;have HC:=zH (Ve u rs _ (hu.ext G8) hn hr);have HY:=zH (hy.ext G8);clear hu hy;have M7:=zH L2;clear L2;have S5:=zH G8;clear G8;refine(callsIn_wide (n:=4)).1 ?_;refine callsIn_of_wp_marks func49 rfl trivial ?_ rfl;simp only[ntmps49,List.size_toArray,uY,List.length_nil,Nat.reduceAdd,Nat.reduceSub,Array.replicate_succ,Array.replicate_zero,List.push_toArray,List.append_toArray,uS,uR];gi_wp2_with (refine⟨trivial,?_⟩;gi_at_call 59;refine(callsIn_wide.2 HC.1).mono ?_;rintro e W1 ⟨Bx,v,rfl,L6,S3,E5,hR,hx⟩)
 rw[<-E1]at hR;have M6:=zH (M7.1.step hx);have HR:=zH hR;have M5:=zH (qT HY.1 hx);have N8:w.heap.size+1<Bx:=by simp at L6;omega
 obtain⟨X3,I5⟩:∃X3,X3=w.heap.size:=⟨_,rfl⟩;obtain⟨Bo,I7⟩:∃Bo,Bo=w.heap.size+1:=⟨_,rfl⟩;have H2:=zH (show Hp w W1 [.blk X3 31 (rc ry),.blk Bo 74 [.slice none 0 0],.row 77 5 (.slice none 0 0) 0 (List.flatMap Cd.cells [])]from by rw[I5,I7];have h:=M6.1;simpa using h);have O0:X3<W1.heap.size:=H2.1.lt (i:=0) (by rfl) rfl;have O1:Bo<W1.heap.size:=H2.1.lt (i:=1) (by rfl) rfl;have P6:=zH (show Fz (fun k=>¬(k=Bo\/W1.heap.size<=k)) W1 v qs from HR.1.imp (fun k h=>by have h1:=h.1;simp at h1;omega));rw[<-I7,<-I5];clear M6 HR M7 HY E1 hx hR L6;have I2:Bx≠Bo:=ω
 clear I5 I7 N8;have H1:=zH (show w.heap.size<=W1.heap.size from by have:=H2.1.ext.size;exact this);have M4:=zH (show Nm.rl y<=L from by have h:=M5.1.rl;omega);refine Sj ω (fun k=>k=Bo\/W1.heap.size<=k) Bx v qs rR E5 (fun hk=>hk.elim I2 (fun h=>ω)) P6.1 N4 L1 (fun k h=> .inr h) (tU L X3 Bo ry y w W1) (nL L X3 Bo ry y w W1 H1.1) ⟨none,0,0,[],H2.1,Af.refl _,by simp[Value.ownBlock],by simp,rfl,rfl,Bp _,Bp _⟩ (tV u X3 Bo Bx ry W1) (nM u X3 Bo Bx ry W1) ?assign ?body ?done;case assign=>
  intro l pre x W K hi hK;obtain⟨A,n,c,es,hh,hd,A5,B3,B8,B4,C1,D4⟩:=hi;have B5:=zH D4;clear D4;have H0:=zH hh;have HK:=zH hK;have HF:=zH (And.intro A5 (And.intro B8 (And.intro B4 C1)));have B0:=zH B3;have HD:=zH hd;clear hh hK A5 B3 B8 B4 C1 hd;unfold Ij;simp only[zA,zB,zC];refine wpIn_seq ?_;refine Ac kR (fun⟨_,_,h⟩=>h) ?_;apply aA 24 [iV 0,iV 0] H0.1;intro I8 N0 Q6 hx A9;have M2:=zH (show W.heap.size<=I8 from Ar (Fr.of_ext (G:=fun kz=>False) (Aa.refl W)).size A9);have R0:=zH (Af.of_ext hx);have P3:=zH (show Fr (fun kz=>False) W N0 from(Fr.of_ext (G:=fun kz=>False) (Aa.refl W)).trans (Fr.of_ext hx));clear hx A9;apply aS 3 [iV x.1.1.1,iV x.1.1.2] Q6.1;intro S0 Q5 hd ho;have Q9:=zH (hd);have M3:=zH (P3.1.trans_new ho (fun j hj=> .inr (by injection hj with hj;rw[<-hj];exact M2.1)));clear hd ho;refine Ac kR (fun⟨_,_,h⟩=>h) ?_;apply aA 24 [iV 0,iV 0] Q5.1;intro O2 R9 Q4 hx A9;have M1:=zH (Ar M3.1.size A9);have Q8:=zH (Af.of_ext hx);have P2:=zH (M3.1.trans (Fr.of_ext hx));clear hx A9;apply aS 4 [iV x.1.2.1,iV x.1.2.2] Q4.1;intro R8 H3 hd ho;have Q7:=zH (hd);have J2:=zH (P2.1.trans_new ho (fun j hj=> .inr (by injection hj with hj;rw[<-hj];exact M1.1)));clear hd ho;have G3:=tD (tD (tD R0 Q9) Q8) Q7;refine HK.1 _ _ (KeepsFrom.of_fr J2.1 (fun _ h=>h.elim)) (J2.1.imp (fun _ h=>h.elim)) ⟨A,n,c,es,H3.1.take 3,HD.1.trans G3.1,HF.1.1,fun e he=>(B0.1 e he).dig G3.1,HF.1.2.1,HF.1.2.2.1,HF.1.2.2.2,Ar B5.1 J2.1.size⟩ ⟨I8,O2,H3.1.blk (i:=3) rR,H3.1.blk (i:=4) rR,?_,Ar B5.1 M2.1,Ar B5.1 M1.1,rfl⟩;exact fun e=>H3.1.apart 3 4 _ _ (by rfl) (by rfl) (by decide) I8 (by rfl) (by rw[e];rfl)
 case body=>
  intro l pre x a' W hi N9 N6;obtain⟨A,n,c,es,hh,hd,A5,B3,B8,B4,C1,D4⟩:=hi;have B5:=zH D4;clear D4;obtain⟨Xa,Xb,I4,I3,L3,L5,L4,rfl⟩:=N9;obtain⟨⟨⟨ax,ay⟩,⟨bx,bY⟩⟩,C0⟩:=x;dsimp only at I4 I3⊢
  have A2:=zH C0;have HD:=zH hd;have A7:=zH A5;have B0:=zH B3;have F5:=zH B8;have D5:=zH B4;have E3:n<4096:=ω
  have J8:=zH C1;have H0:=zH (show Hp w W [.blk X3 31 (rc ry),.blk Bo 74 [.slice A n c],ro 77 5 A n c Cd.cells es,.blk Xa 24 [iV ax,iV ay],.blk Xb 24 [iV bx,iV bY]]from hh.addTyp2 I4 I3 L3 (Ar H1.1 L5) (Ar H1.1 L4) (by simp[Aq]) (by simp[Aq]) (by simp[Dk.typ]));have G9:=zH (M5.1.dig hd);have E2: -1048576<=ay/\ay<=1048576/\ -1048576<=bY/\bY<=1048576:=by have h1:=C0.1;have h2:=C0.2;simp only[Co,vC,decide_eq_true_eq]at h1 h2;omega
  have A3:=zH E2;clear hh hd A5 B3 B8 B4 I4 I3 L3 E2 C1 L5 L4;refine wpIn_block ?_;refine wpIn_seq ?_;refine Kr (S:=fun x=>Aa W x) kR kR (fun⟨_,_,h⟩=>h) zb (fun _=> ?_);have Q3:=zH (H0.1.step (Aa.refl W).drew);have B2:=zH (Af.of_ext (w:=W) zb);have P1:=zH (show Fr (fun kz=>kz=Bo\/Value.ownBlock (.slice A n c)=some kz) W W.drew from(Fr.of_ext (G:=fun kz=>kz=Bo\/Value.ownBlock (.slice A n c)=some kz) (Aa.refl W)).trans (Fr.of_ext (Aa.refl W).drew));refine Ta Ai zb (bs 12 1) 0 _ ?_;refine Db (g:=Xa) (o:=1) (v:= iV ay) (i:=1) (listed':=(bs 12 3)) rR kR kR kR (by intro _ _ _ h;exact h) rR (fun x hx=>Aa.get hx (show World.cell? W ⟨Xa,1,none⟩=some (iV ay)from Az (H0.1.range (i:=3) rR 1 1))) (by intro x hq;go_simp<;>with_reducible rfl) zb kR ?_;refine Jl H0.1 zb (bs 12 43) 3 5 _ _ ?_;refine Db (g:=Xb) (o:=1) (v:= iV bY) (i:=6) (listed':=(bs 12 107)) rR kR kR kR (by intro _ _ _ h;exact h) rR (fun x hx=>Aa.get hx (show World.cell? W ⟨Xb,1,none⟩=some (iV bY)from Az (H0.1.range (i:=4) rR 1 1))) (by intro x hq;go_simp<;>with_reducible rfl) zb kR ?_;refine Ta H0.1 zb (bs 12 363) 8 _ ?_;refine mC 2 (bs 12 367) (Fc ay _ (by have A4:=A3.1;omega) (by have A4:=A3.1;omega)) ?_;rintro e M9 ⟨c_,rfl,C2,hx⟩;have Q2:=zH (Q3.1.step hx);have B1:=zH (show Af W.drew M9 from Af.of_ext hx);have P0:=zH (P1.1.trans (Fr.of_ext hx));have M0:=zH (zb.trans hx);obtain⟨S2,rfl,A8⟩:=C2;have O7:=zH A8;have R3:=zH (Bm ay (by have A4:=A3.1;omega) (by have A4:=A3.1;omega));clear A8 hx;apply zm M0.1;have K8:=tD B2 B1;refine mC 4 (bs 12 383) (Hv (L:=60000) (RV.Is.nin O7.1 (Ar R3.1 ω)) (RV.In.nin (RV.In.mono (G9.1.dig K8.1) ω)) ω) ?_;rintro e R7 ⟨rfl,hx⟩;have Q1:=zH (Q2.1.step hx);have B7:=zH (Af.of_ext hx);have O9:=zH (P0.1.trans (Fr.of_ext hx));have L9:=zH (M0.1.trans hx);clear hx;apply zm L9.1;refine mC 7 (bs 12 511) (Fc bY _ (by have A4:=A3.1;omega) (by have A4:=A3.1;omega)) ?_;rintro e R6 ⟨c_,rfl,C2,hx⟩;have Q0:=zH (Q1.1.step hx);have B6:=zH (Af.of_ext hx);have O8:=zH (O9.1.trans (Fr.of_ext hx));have L8:=zH (L9.1.trans hx);obtain⟨S1,rfl,A8⟩:=C2;have O6:=zH A8;have R2:=zH (Bm bY (by have A4:=A3.1;omega) (by have A4:=A3.1;omega));clear A8 hx;apply zm L8.1;have K7:=tD (tD (tD B2 B1) B7) B6;refine mC 9 (bs 12 1023) (Hv (L:=60000) (RV.Is.nin O6.1 (Ar R2.1 ω)) (RV.In.nin (RV.In.mono (G9.1.dig K7.1) ω)) ω) ?_;rintro e R5 ⟨rfl,hx⟩;have F8:=zH (Q0.1.step hx);have B9:=zH (Af.of_ext hx);have F0:=zH (O8.1.trans (Fr.of_ext hx));have L7:=zH (L8.1.trans hx);clear hx;apply zm L7.1;refine Jl Ai L7.1 (bs 12 4095) 10 11 (iV (Df (((ay):Int):Rat) y)) (iV (Df (((bY):Int):Rat) y)) ?_;refine wpAnyH_done kR ?_ _;rcases Cm ((((ay):Int):Rat)<y/\y<(((bY):Int):Rat))with CU|CU
  ·have F7:=zH (Zo (a:=(ax,ay)) (b:=(bx,bY)) CU.1)
   have A6:=zH (Nl (a:=ay) (b:=bY) (.inl CU.1));have D9:Df (((ay):Int):Rat) y= -1:=Qo CU.1.1;have D8:Df (((bY):Int):Rat) y=1:=Qn CU.1.2;rw[D9,D8];clear D9 D8;change Code.wpIn _ _ _ _ _ _ _;refine wpIn_seq ?_;refine wpIn_seq ?_;refine Ac kR (fun⟨_,_,h⟩=>h) ?_;refine Bw Ai (iV (-1)) _ ?_;apply zp (iV (-1)) (by exact oF (by have A4:=A3.1;omega));apply zp φ (by exact qW (e:=(Al (by have A4:=A3.1;omega))));change Code.wpIn _ _ _ _ _ _ _;refine wpIn_cond_false rR ?_;refine wpIn_skip ?_;change Code.wpIn _ _ _ _ _ _ _;refine wpIn_seq ?_;refine Ac kR (fun⟨_,_,h⟩=>h) ?_;refine Dh F8.1 _ _ _ ?_;have K6:=tD (tD (tD (tD B2 B1) B7) B6) B9;refine zc (cE L ax ay bx bY _ y _ (G9.1.dig K6.1) h1L ω A2.1.1 A2.1.2 A6.1.1 A6.1.2.1 A6.1.2.2) ?_;rintro e R4 ⟨c_,rfl,C2,hx⟩;have P9:=zH (F8.1.step hx);have M8:=zH (Af.of_ext hx);have F4:=zH (F0.1.trans (Fr.of_ext hx));obtain⟨A1,rfl,A8⟩:=C2;have O5:=zH A8;have R1:=zH (aQ A2.1.1 A2.1.2 M4.1);clear A8 hx;refine zn ?_;refine Dh Ai _ _ τ ?_;refine aA 31 rz P9.1 ?_;intro O4 N3 K5 hx A9;have J1:=zH (Ar F4.1.size A9);have D3:=zH (Af.of_ext hx);have J6:=zH (F4.1.trans (Fr.of_ext hx));clear hx A9;apply aS 5 (rc A1) K5.1;intro D7 G0 hd ho;have D2:=zH (hd);have F3:=zH (J6.1.trans_new ho (fun j hj=> .inr (by injection hj with hj;rw[<-hj];exact J1.1)));clear hd ho;apply zq τ;change Code.wpIn _ _ _ _ _ _ _;refine wpIn_seq ?_;refine Ac kR (fun⟨_,_,h⟩=>h) ?_;apply zq τ;change Code.wpIn _ _ _ _ _ _ _;refine wpIn_cond_true rR ?_;have F6:=zH E3;refine Ac kR (fun⟨_,_,h⟩=>h) ?_;refine Fp G0.1 _ _ _ _ ?_;refine zp (w':=(D7.alloc (.cells ([.bool A1.n,.slice A1.p A1.l A1.c,.bool A1.m,.slice A1.p2 A1.l2 A1.c2,iV 1]:List Value).toArray 77))) (.slice (π D7.heap.size) 1 1) (by go_simp) ?_;refine He rR _ _ _ rR kZ rR G0.1 (ix:=2) rR 1 1 [.bool A1.n,.slice A1.p A1.l A1.c,.bool A1.m,.slice A1.p2 A1.l2 A1.c2,iV 1] rR rfl (by simp[Value.oneCell']) (by simp[Aq]) dC (by unfold maxLen;exact(by have A4:=A3.1;have H8:=F6.1;omega)) (by have A4:=A3.1;have H8:=F6.1;omega) ?_;intro E7 E9 H7 hf hh hd hg;have G2:=zH hf;clear hf;rw[show List.flatMap Cd.cells es++[.bool A1.n,.slice A1.p A1.l A1.c,.bool A1.m,.slice A1.p2 A1.l2 A1.c2,iV 1]=_ from Do Cd.cells _ (⟨A1,(Hn ax ay bx bY y),1⟩:Cd)]at hh;have K4:=hN hh;have D1:=zH (hd);have J5:=zH (show Fr (fun kz=>kz=Bo\/Value.ownBlock (.slice A n c)=some kz) W H7 from(F3.1.trans (Fr.of_ext (Ad.alloc _))).trans_new hg (fun j hj=> .inl (.inr hj)));clear hh hd hg;try simp only[ζ]
   apply aU 1 (.slice (π E7) (n+1) E9) K4.1;intro H6 K3 hd ho;have D0:=zH (hd);have C4:=zH (J5.1.trans_new ho (fun j hj=> .inl (.inl (by injection hj with hj;exact hj.symm))));clear hd ho;have G6:=tD (tD (tD D3 D2) D1) D0;have C5:=zH (show Cd.Ok (L+8) H6 (⟨A1,(Hn ax ay bx bY y),1⟩:Cd)from⟨(O5.1.dig G6.1),R1.1,(show(-1:Int)<=1 by decide),(show(1:Int)<=1 by decide)⟩);exact⟨(KeepsFrom.of_fr C4.1 (fun k hk o ho=>hk.elim (fun e=>H0.1.cells (i:=1) (by rfl) (by rw[e];rfl) o ho) (fun e=>H0.1.cells (i:=2) (by rfl) (by exact e) o ho))),(C4.1.imp (fun k hk=>hk.imp id (fun e=>A7.1 k e))),_,_,_,_,K3.1.take 3,HD.1.trans (((((((((B2.1.trans B1.1).trans B7.1).trans B6.1).trans B9.1).trans M8.1).trans D3.1).trans D2.1).trans D1.1).trans D0.1),(fun k hk=>by (have I0:E7=k:=by simpa[Value.ownBlock]using hk);(subst I0);exact G2.1.elim (fun q=>A7.1 _ q) (fun q=>Ar B5.1 (Ar F3.1.size q))),(fun e he=>(List.mem_append.1 he).elim (fun he=>(B0.1 e he).dig (((((((((B2.1.trans B1.1).trans B7.1).trans B6.1).trans B9.1).trans M8.1).trans D3.1).trans D2.1).trans D1.1).trans D0.1)) (fun he=>by rw[List.mem_singleton.1 he];exact C5.1)),(by rw[vE,F5.1,vE,List.filterMap_append];simp[F7.1,Cd.vl]),(by rw[uC,<-D5.1];rfl),(by have h:=J8.1;simp;omega),Ar B5.1 C4.1.size⟩
  rcases Cm ((((bY):Int):Rat)<y/\y<(((ay):Int):Rat))with CD|CD
  ·have F7:=zH (Sn (a:=(ax,ay)) (b:=(bx,bY)) CD.1)
   have A6:=zH (Nl (a:=ay) (b:=bY) (.inr CD.1));have D9:Df (((ay):Int):Rat) y=1:=Qn CD.1.2;have D8:Df (((bY):Int):Rat) y= -1:=Qo CD.1.1;rw[D9,D8];clear D9 D8;change Code.wpIn _ _ _ _ _ _ _;refine wpIn_seq ?_;refine wpIn_seq ?_;refine Ac kR (fun⟨_,_,h⟩=>h) ?_;refine Bw Ai _ (iV (-1)) ?_;apply zp (iV (-1)) (by exact oF (by have A4:=A3.1;omega));apply zp φ (by exact qW (e:=(Al (by have A4:=A3.1;omega))));change Code.wpIn _ _ _ _ _ _ _;refine wpIn_cond_false rR ?_;refine wpIn_skip ?_;change Code.wpIn _ _ _ _ _ _ _;refine wpIn_seq ?_;refine Ac kR (fun⟨_,_,h⟩=>h) ?_;refine Dh F8.1 _ _ _ ?_;have G5:=tD (tD (tD (tD B2 B1) B7) B6) B9;refine zc (cE L ax ay bx bY _ y _ (G9.1.dig G5.1) h1L ω A2.1.1 A2.1.2 A6.1.1 A6.1.2.1 A6.1.2.2) ?_;rintro e N2 ⟨c_,rfl,C2,hx⟩;have K2:=zH (F8.1.step hx);have G7:=zH (Af.of_ext hx);have F2:=zH (F0.1.trans (Fr.of_ext hx));obtain⟨A0,rfl,A8⟩:=C2;have I9:=zH A8;have K9:=zH (aQ A2.1.1 A2.1.2 M4.1);clear A8 hx;refine zn ?_;refine Dh Ai _ _ τ ?_;refine aA 31 rz K2.1 ?_;intro O3 N1 K1 hx A9;have J0:=zH (Ar F2.1.size A9);have C9:=zH (Af.of_ext hx);have J4:=zH (F2.1.trans (Fr.of_ext hx));clear hx A9;apply aS 5 (rc A0) K1.1;intro D6 F9 hd ho;have C8:=zH (hd);have F1:=zH (J4.1.trans_new ho (fun j hj=> .inr (by injection hj with hj;rw[<-hj];exact J0.1)));clear hd ho;apply zq τ;change Code.wpIn _ _ _ _ _ _ _;refine wpIn_seq ?_;refine Ac kR (fun⟨_,_,h⟩=>h) ?_;apply zq τ;change Code.wpIn _ _ _ _ _ _ _;refine wpIn_cond_true rR ?_;have F6:=zH E3;refine Ac kR (fun⟨_,_,h⟩=>h) ?_;refine Fp F9.1 _ _ (iV (-1)) _ ?_;refine zp (w':=(D6.alloc (.cells ([.bool A0.n,.slice A0.p A0.l A0.c,.bool A0.m,.slice A0.p2 A0.l2 A0.c2,iV (-1)]:List Value).toArray 77))) (.slice (π D6.heap.size) 1 1) (by go_simp) ?_;refine He rR _ _ _ rR kZ rR F9.1 (ix:=2) rR 1 1 [.bool A0.n,.slice A0.p A0.l A0.c,.bool A0.m,.slice A0.p2 A0.l2 A0.c2,iV (-1)] rR rfl (by simp[Value.oneCell']) (by simp[Aq]) dC (by unfold maxLen;exact(by have A4:=A3.1;have H8:=F6.1;omega)) (by have A4:=A3.1;have H8:=F6.1;omega) ?_;intro E6 E8 H5 hf hh hd hg;have G1:=zH hf;clear hf;rw[show List.flatMap Cd.cells es++[.bool A0.n,.slice A0.p A0.l A0.c,.bool A0.m,.slice A0.p2 A0.l2 A0.c2,iV (-1)]=_ from Do Cd.cells _ (⟨A0,(Hn ax ay bx bY y),-1⟩:Cd)]at hh;have K0:=hN hh;have C7:=zH (hd);have J3:=zH (show Fr (fun kz=>kz=Bo\/Value.ownBlock (.slice A n c)=some kz) W H5 from(F1.1.trans (Fr.of_ext (Ad.alloc _))).trans_new hg (fun j hj=> .inl (.inr hj)));clear hh hd hg;try simp only[ζ]
   apply aU 1 (.slice (π E6) (n+1) E8) K0.1;intro H4 J9 hd ho;have C6:=zH (hd);have C3:=zH (J3.1.trans_new ho (fun j hj=> .inl (.inl (by injection hj with hj;exact hj.symm))));clear hd ho;have G4:=tD (tD (tD C9 C8) C7) C6;have C5:=zH (show Cd.Ok (L+8) H4 (⟨A0,(Hn ax ay bx bY y),-1⟩:Cd)from⟨(I9.1.dig G4.1),K9.1,(show(-1:Int)<= -1 by decide),(show(-1:Int)<=1 by decide)⟩);exact⟨(KeepsFrom.of_fr C3.1 (fun k hk o ho=>hk.elim (fun e=>H0.1.cells (i:=1) (by rfl) (by rw[e];rfl) o ho) (fun e=>H0.1.cells (i:=2) (by rfl) (by exact e) o ho))),(C3.1.imp (fun k hk=>hk.imp id (fun e=>A7.1 k e))),_,_,_,_,J9.1.take 3,HD.1.trans (((((((((B2.1.trans B1.1).trans B7.1).trans B6.1).trans B9.1).trans G7.1).trans C9.1).trans C8.1).trans C7.1).trans C6.1),(fun k hk=>by (have I0:E6=k:=by simpa[Value.ownBlock]using hk);(subst I0);exact G1.1.elim (fun q=>A7.1 _ q) (fun q=>Ar B5.1 (Ar F1.1.size q))),(fun e he=>(List.mem_append.1 he).elim (fun he=>(B0.1 e he).dig (((((((((B2.1.trans B1.1).trans B7.1).trans B6.1).trans B9.1).trans G7.1).trans C9.1).trans C8.1).trans C7.1).trans C6.1)) (fun he=>by rw[List.mem_singleton.1 he];exact C5.1)),(by rw[vE,F5.1,vE,List.filterMap_append];simp[F7.1,Cd.vl]),(by rw[uC,<-D5.1];rfl),(by have h:=J8.1;simp;omega),Ar B5.1 C3.1.size⟩
  have F7:=zH (Zp (a:=(ax,ay)) (b:=(bx,bY)) CU.1 CD.1);have J7:=zH (bT CU.1 CD.1);change Code.wpIn _ _ _ _ _ _ _;refine wpIn_seq ?_;refine wpIn_seq ?_;refine Ac kR (fun⟨_,_,h⟩=>h) ?_;refine Bw Ai (iV (Df (((ay):Int):Rat) y)) (iV (Df (((bY):Int):Rat) y)) ?_;apply zp (iV (Df (((ay):Int):Rat) y*Df (((bY):Int):Rat) y)) (by exact kV rR rR rR rfl (by have:=J7.1.1;omega) (by have:=J7.1.2;omega));apply zp τ (by exact qW (e:=(Ay J7.1.1)));change Code.wpIn _ _ _ _ _ _ _;refine wpIn_cond_true rR ?_;refine wpIn_exit ?_;exact⟨(KeepsFrom.of_fr F0.1 (fun k hk o ho=>hk.elim (fun e=>H0.1.cells (i:=1) (by rfl) (by rw[e];rfl) o ho) (fun e=>H0.1.cells (i:=2) (by rfl) (by exact e) o ho))),(F0.1.imp (fun k hk=>hk.imp id (fun e=>A7.1 k e))),A,n,c,es,F8.1.take 3,HD.1.trans ((((B2.1.trans B1.1).trans B7.1).trans B6.1).trans B9.1),A7.1,(fun e he=>(B0.1 e he).dig ((((B2.1.trans B1.1).trans B7.1).trans B6.1).trans B9.1)),(by rw[F5.1,vE,List.filterMap_append];simp[F7.1]),D5.1,(by have h:=J8.1;simp;omega),Ar B5.1 F0.1.size⟩
 rintro D xs W hD H9 ⟨A,n,c,es,hh,hd,A5,B3,B8,B4,C1,D4⟩ hK;have cB:W.cell? ⟨Bo,0,none⟩=some (.slice A n c):=hh.cell (i:=1) (by rfl) 0 (by rfl);have E0:=hh.row (i:=2) (by rfl);have N5:es.length<=20000:=by
  have h1:xs.length=(Ca qs).length:=by rw[<-H9,uU]
  have h2:=Ep qs;have h3:=Ey L1;omega
 have P5:=zH (aJ (L+8) (.slice A n c) es w.heap.size W (by rw[<-B4];exact E0) B3 (fun w e f he hf=>Wi (L+8) ω w e f he hf) N5);have HH:=zH hh;have F5:=zH B8;have D5:=zH B4;have P7:=zH B3;have P4:=zH H9;have HD:=zH hK;clear E0 hh B8 B4 B3 H9 hK A5 C1 hd;gi_wp2
 refine⟨trivial,?_⟩;gi_at_call 88
 refine(callsIn_wide.2 P5.1).mono ?_;rintro e Ws ⟨rfl,L0,I1⟩;have HS:=zH (HH.1.turn (i:=2) (e:= .row 77 5 (.slice A n c) n (List.flatMap Cd.cells es)) (e':= .row 77 5 (.slice A n c) n (List.flatMap Cd.cells (Stb.stab Qh es))) (by rfl) (fun k h=>h) I1 (by rw[<-D5.1]at L0;exact L0) (fun k hk=> .inl hk));have S4:Ws.cell? ⟨Bo,0,none⟩=some (.slice A n c):=HS.1.cell (i:=1) (by rfl) 0 (by rfl);gi_wp2
 have I6:Ws.heap[D]?=some (.deferred (some [])):=(I1.block D (Array.getElem?_eq_some_iff.1 HD.1).1 (fun e=>by
  have h1:=HH.1.cells (i:=2) (by rfl) (by exact e.symm) _ HD.1;cases h1)).trans HD.1
 refine⟨by simp,.inl ⟨_,_,rfl,run_takeDeferred I6,?_⟩⟩;have E4:=HS.1.kept (grownBy_putObj' Ws D (.deferred none)) (fun k hk=>by injection hk with hk;subst hk;exact⟨Ar H1.1 hD,_,I6,rfl⟩);have N7:Af W _:=((HH.1.growDig (i:=2) (by rfl) I1).trans (Af.kept (grownBy_putObj' Ws D (.deferred none)) (fun k hk=>by injection hk with hk;subst hk;exact⟨_,I6,rfl⟩)));refine⟨_,results_tmp rfl _ _ _,A,n,c,Stb.stab Qh es,rfl,by rw[Stb.stab_len];exact D5.1,E4.row (i:=2) rR,fun e he=>(P7.1 e ((Stb.mem_stab).1 he)).dig N7,?_,E4.ext⟩;rw[P8.1,No Cd.vl (lt:=Qh) (lt':=Xc) (fun _ _=>rfl),F5.1,P4.1];rfl
end
section
attribute [local go_sem ↓] Go.wp_at_zero Go.wp_at_succ Aw Av
def Cd.cx (e:Cd):List Value:=(rc e.a)
def Cd.cu (e:Cd):List Value:=[iV e.up]
theorem Cd.cx_len (e:Cd):e.cx.length=4:=rfl
theorem Cd.cu_len (e:Cd):e.cu.length=1:=rfl
theorem Rx (y:Rat)(rs:List Ba):(Fm y rs).length<=4096:=by
  unfold Fm;rw[Stb.stab_len];unfold Sm;refine Ar (List.length_filterMap_le _ _) (Ar (Ep _) ?_);split
  · rename_i h;exact Ey h
  decide
def Sz (L:Nat)(rs:List Ba)(y:Rat)(w:World)(e:Ending)(w':World):Prop:=
  ∃(A1:Option Addr) (c1:Nat) (A2:Option Addr) (c2:Nat) (n:Nat) (es:List Cd),e= .returned (.tuple #[.slice A1 n c1,.slice A2 n c2])/\n=List.length es/\Bh w' w.heap.size 31 4 (.slice A1 n c1) n (List.flatMap Cd.cx es)/\Bh w' w.heap.size 3 1 (.slice A2 n c2) n (List.flatMap Cd.cu es)/\
      (∀e,e∈es->e.Ok (L+8) w')/\es.map Cd.vl=Fm y rs/\Aa w w'
theorem To {α:Type}{l:List α}{k:Nat}{e:α}(h:l[k]?=some e):l.take (k+1)=l.take k++[e]:=by rw[List.take_add_one,h];rfl
end
section
def Nx (ms:List QI)(k:Nat):Int:=((ms.take k).map fun a=>a.2).sum
theorem Ui {ms:List QI}{k:Nat}{a:QI}(h:ms[k]?=some a):Nx ms (k+1)=Nx ms k+a.2:=by
  unfold Nx;rw[To h,vE,List.sum_append];simp
theorem Rh:∀(ms:List QI) (s:Int) (k:Nat) (a b:QI),ms[k]?=some a->ms[k+1]?=some b->(Mr s ms)[k]?=some ((a.1,b.1),s+Nx ms (k+1))
 | [],s,k,a,b,h,_=>by simp at h
 | [x],s,0,a,b,_,h=>by simp at h
 | [x],s,k+1,a,b,h,_=>by simp at h
 |x::y::t,s,0,a,b,h1,h2=>by
  simp at h1 h2;subst h1 h2;simp[Mr,Nx]
 |x::y::t,s,k+1,a,b,h1,h2=>by
  have ih:=Rh (y::t) (s+x.2) k a b (by simpa using h1) (by simpa using h2);show(Mr (s+x.2) (y::t))[k]?=_;rw[ih];have e:Nx (x::y::t) (k+1+1)=x.2+Nx (y::t) (k+1):=by unfold Nx;rw[List.take_succ_cons];simp
  rw[e];congr 2;omega
theorem Ih:∀(ms:List QI) (s:Int),(Mr s ms).length=ms.length-1
  | [],s=>rfl
  | [x],s=>rfl
  | x::y::t,s=>by
    have:=Ih (y::t) (s+x.2);simp[Mr,this]
theorem Nq {rule:Int}{l:List (QQ×Int)}{k:Nat}{r:QQ×Int}(h:l[k]?=some r):cS rule (l.take (k+1))=cS rule (l.take k)++(if Gf r.2 rule=true then[r.1]else[]):=by rw[To h,mE,mB]
theorem mD (rule:Int)(l:List (QQ×Int)):(cS rule l).length<=l.length:=by
  unfold cS;rw[uU];exact List.length_filter_le _ _
theorem Bu.Ok.dig {L:Nat}{w w':World}{e:Bu}(h:e.Ok L w)(d:Af w w'):e.Ok L w':=⟨h.1.dig d,h.2.1.dig d,h.2.2⟩
theorem Bh.base {w:World}{b b':Nat}{t:TypeId}{size:Nat}{v:Value}{n:Nat}{xs:List Value}(h:Bh w b t size v n xs)(hb:b'<=b):Bh w b' t size v n xs:=by
  obtain⟨h1,h2|⟨g,A0,rest,a,c,d⟩⟩:=h
  · exact⟨h1,.inl h2⟩
  exact⟨h1,.inr ⟨g,A0,rest,a,Ar hb c,d⟩⟩
theorem Gw.base {L:Nat}{w:World}{b b':Nat}{v:Value}{es:List Bu}(h:Gw L w b v es)(hb:b'<=b):Gw L w b' v es:=⟨h.1.base hb,h.2⟩
end
section
theorem Vu {a b:Int×Int}{rs:List Ba}{z:Rat}(h:z∈Ea a b rs):(a.2:Rat)<=z/\z<=(b.2:Rat):=by
  unfold Ea at h;split at h
  · rename_i k
    have A0:(a.2:Rat)<(b.2:Rat):=by exact_mod_cast k.2.2.2
    rcases Il.1 h with e|⟨_,e1,e2⟩
    · simp at e
      rcases e with rfl|rfl
      · exact⟨Rat.le_refl,Rat.le_of_lt A0⟩
      exact⟨Rat.le_of_lt A0,Rat.le_refl⟩
    exact⟨Rat.le_of_lt e1,Rat.le_of_lt e2⟩
  simp at h
theorem Ye (a b:Int×Int)(rs:List Ba):(Ea a b rs).Pairwise (· < ·):=by
  unfold Ea;split
  · rename_i k
    have A0:(a.2:Rat)<(b.2:Rat):=by exact_mod_cast k.2.2.2
    exact Ny (by simp[A0])
  simp
theorem mI {a b:Int×Int}{rs:List Ba}{z:Rat}(k:Tj a b rs)(h:z∈Kw a b rs)(h1:(a.2:Rat)<z)(h2:z<(b.2:Rat)):z∈Ea a b rs:=by
  unfold Ea;rw[if_pos k];exact Il.2 (.inr ⟨h,h1,h2⟩)
theorem gF {a b:Int×Int}{rs:List Ba}{y p q:Rat}{i:Nat}(k:Tj a b rs)(hy:y∈Kw a b rs)(hp:(Ea a b rs)[i]?=some p)(hq:(Ea a b rs)[i+1]?=some q):¬(p<y/\y<q):=by
 rintro⟨h1,h2⟩;have bp:=Vu (uD hp);have bq:=Vu (uD hq);have hm:=mI k hy (by grind) (by grind);obtain⟨j,hj⟩:=List.mem_iff_getElem?.1 hm;have hs:=List.pairwise_iff_getElem.1 (Ye a b rs);obtain⟨li,ei⟩:=List.getElem?_eq_some_iff.1 hp;obtain⟨lq,eq⟩:=List.getElem?_eq_some_iff.1 hq;obtain⟨lj,ej⟩:=List.getElem?_eq_some_iff.1 hj;rcases Nat.lt_trichotomy j i with h|h|h
 ·have:=hs j i lj li h;rw[ej,ei]at this;grind
 ·subst h;rw[ej]at ei;rw[ei]at h1;exact absurd h1 (Rat.lt_irrefl)
 rcases Nat.lt_trichotomy j (i+1)with h'|h'|h'
 ·omega
 ·subst h';rw[ej]at eq;rw[eq]at h2;exact absurd h2 (Rat.lt_irrefl)
 have:=hs (i+1) j lq lj h';rw[ej,eq]at this;grind
end
section
theorem Rw (y:Rat)(rs:List Ba):Fm y rs=Stb.stab Xc ((Ab rs).filterMap (Ef y)):=rfl
def tI (e:Dd)(y:Rat):Rat:=Hn e.1.1 e.1.2 e.2.1 e.2.2 y
theorem oN (e:Dd)(y:Rat):tI e y=pW e.1 e.2*y+((e.1.1:Rat)-(e.1.2:Rat)*pW e.1 e.2):=iI e.1 e.2 y
theorem Vf {rs:List Ba}{e:Dd}(h:e∈Ca rs):∃r,r∈rs/\e.1∈r/\e.2∈r:=by
  unfold Ca at h;obtain⟨r,hr,h⟩:=List.mem_flatMap.1 h;unfold Ed at h;obtain⟨i,_,h⟩:=List.mem_filterMap.1 h;unfold Lm at h;split at h
  · rename_i a b ha hb
    split at h
    · cases h
    injection h with h;subst h;exact⟨r,hr,uD ha,uD hb⟩
  cases h
section
variable {a b:Int×Int} {rs:List Ba} {p q:Rat} {i:Nat}
theorem gap (k:Tj a b rs)(hp:(Ea a b rs)[i]?=some p)(hq:(Ea a b rs)[i+1]?=some q){r:Rat}(h1:p<r)(h2:r<q):r∉Kw a b rs:=fun h=>gF k h hp hq ⟨h1,h2⟩
def Jb (rule:Int)(a b:Int×Int)(rs:List Ba)(y:Rat):Rat:=Fe (a.1:Rat) (b.1:Rat) (Jd rule (Fm y rs))
end
end
section
def Gj (rule:Int)(a b:Int×Int)(rs:List Ba):Rat:=if b.1<=a.1\/b.2<=a.2 then 0 else Ec (Jb rule a b rs) (Ea a b rs)
theorem cG {rule:Int}{a b:Int×Int}{rs:List Ba}(h:a.1<=b.1)(y:Rat):Jb rule a b rs y<=(b.1:Rat)-(a.1:Rat):=Wj _ (Kf _).1 (by exact_mod_cast h)
theorem cF {rule:Int}{a b:Int×Int}{rs:List Ba}(y:Rat):0<=Jb rule a b rs y:=nQ _ _ _
theorem Oa {rs:List Ba}{r:Ba}{p:Int×Int}(h:Hc rs=true)(hr:r∈rs)(hp:p∈r):Dv p:=by
  obtain⟨i,hi⟩:=List.mem_iff_getElem?.1 hr;obtain⟨k,hk⟩:=List.mem_iff_getElem?.1 hp;exact We h hi hk
def Kd (D:Nat)(q:Rat):Prop:=∃z:Int,q*((D:Int):Rat)=(z:Rat)
theorem Kd.add {D:Nat}{q r:Rat}(h:Kd D q)(k:Kd D r):Kd D (q+r):=by
  obtain⟨a,ha⟩:=h;obtain⟨b,hb⟩:=k;exact⟨a+b,by rw[Rat.intCast_add,<-ha,<-hb];grind⟩
theorem Kd.sub {D:Nat}{q r:Rat}(h:Kd D q)(k:Kd D r):Kd D (q-r):=by
  obtain⟨a,ha⟩:=h;obtain⟨b,hb⟩:=k;exact⟨a-b,by rw[Rat.intCast_sub,<-ha,<-hb];grind⟩
theorem Kd.mul {D E:Nat}{q r:Rat}(h:Kd D q)(k:Kd E r):Kd (D*E) (q*r):=by
  obtain⟨a,ha⟩:=h;obtain⟨b,hb⟩:=k;exact⟨a*b,by rw[uX,Rat.intCast_mul,Rat.intCast_mul,<-ha,<-hb];grind⟩
theorem Kd.int (D:Nat)(z:Int):Kd D (z:Rat):=⟨z*D,by rw[Rat.intCast_mul]⟩
theorem Kd.up {D E:Nat}{q:Rat}(h:Kd D q)(k:D∣E):Kd E q:=by
  obtain⟨m,rfl⟩:=k;obtain⟨a,ha⟩:=h;exact⟨a*m,by rw[uX,Rat.intCast_mul,Rat.intCast_mul,<-ha];grind⟩
theorem Kd.den (q:Rat):Kd q.den q:=⟨q.num,by
  have e:q=(q.num:Rat)/(((q.den:Nat):Int):Rat):=by rw[<-Rat.divInt_eq_div];exact(Rat.num_divInt_den q).symm
  have h:(((q.den:Nat):Int):Rat)≠0:=by exact_mod_cast q.den_nz
  have k:=Rat.inv_mul_cancel _ h;rw[Rat.div_def]at e;generalize (((q.den:Nat):Int):Rat)=u at*;generalize (q.num:Rat)=v at*;rw[e];grind⟩
theorem Kd.half {D:Nat}{q r:Rat}(h:Kd D q)(k:Kd D r):Kd (2*D) ((q+r)/2):=by
  obtain⟨a,ha⟩:=h;obtain⟨b,hb⟩:=k;refine⟨a+b,?_⟩;rw[uX,Rat.intCast_mul,Rat.intCast_add,<-ha,<-hb,Rat.div_def];have e:(2:Rat)⁻¹*(((2:Nat):Int):Rat)=1:=by decide+kernel
  generalize (2:Rat)⁻¹=i at*;generalize (((2:Nat):Int):Rat)=u at*;grind
theorem Kd.rl {D M:Nat}{q:Rat}(hD:0<D)(h:Kd D q)(h1: -((M:Int):Rat)<=q)(h2:q<=((M:Int):Rat)):Nm.rl q<=max (Nm.nl (M*D)) (max (Nm.nl D) 1):=by
 obtain⟨a,ha⟩:=h;have hd:(0:Rat)<((D:Int):Rat):=by exact_mod_cast hD
 have e:q=Rat.divInt a D:=by
  rw[Rat.divInt_eq_div,<-ha,Rat.div_def,Rat.mul_assoc,Rat.mul_inv_cancel _ (by grind),Rat.mul_one]
 rw[e];refine Ar (Nm.rl_divInt _ _) ?_;have k:a.natAbs<=M*D:=by
  have k1:(a:Rat)<=(((M*D:Nat):Int):Rat):=by
   rw[<-ha,uX,Rat.intCast_mul];exact Rat.mul_le_mul_of_nonneg_right h2 (by grind)
  have k2:(((-(M*D:Nat):Int)):Rat)<=(a:Rat):=by
   rw[<-ha,uX,Rat.intCast_neg,Rat.intCast_mul];have:=Rat.mul_le_mul_of_nonneg_right h1 (c:=((D:Int):Rat)) (by grind);grind
  have k3:a<=((M*D:Nat):Int):=by exact_mod_cast k1
  have k4: -((M*D:Nat):Int)<=a:=by exact_mod_cast k2
  omega
 have:=Nm.nl_mono k;have:Nm.nl (D:Int).natAbs=Nm.nl D:=by rw[vL]
 omega
def dn:List Rat->Nat
  | []=>1
  |x::l=>x.den*dn l
theorem bQ:∀l:List Rat,0<dn l
  | []=>Nat.one_pos
  |x::l=>Nat.mul_pos x.den_pos (bQ l)
theorem pI {q:Rat}:∀{l:List Rat},q∈l->Kd (dn l) q
  | x::l,h=>by
    rcases List.mem_cons.1 h with e|e
    · subst e;exact(Kd.den q).up ⟨dn l,rfl⟩
    exact(pI e).up ⟨x.den,vK _ _⟩
theorem pH {c:Nat}:∀{l:List Rat},(∀x,x∈l->Nm.rl x<=c)->Nm.nl (dn l)<=c*l.length+1
  | [],_=>Ar (Nm.nl_le (k:=1) (by decide)) (by simp)
  | x::l,h=>by
    have h1:=Nm.nl_mul x.den (dn l);have h2:=pH (l:=l) fun z hz=>h z (uQ _ hz)
    have h3:Nm.nl x.den<=c:=Ar (Nat.le_max_right _ _) (h x vD);show Nm.nl (x.den*dn l)<=_;rw[uY,uW];omega
def gV (e:Dd):Nat:=if e.2.2-e.1.2=0 then 1 else(e.2.2-e.1.2).natAbs
def Vg:List Dd->Nat
  | []=>1
  |e::l=>gV e*Vg l
theorem oO (e:Dd):0<gV e:=by unfold gV;split<;>omega
theorem Wp:∀l:List Dd,0<Vg l
  | []=>Nat.one_pos
  |e::l=>Nat.mul_pos (oO e) (Wp l)
theorem dZ {e:Dd}:∀{l:List Dd},e∈l->gV e∣Vg l
  | x::l,h=>by
    rcases List.mem_cons.1 h with e|e
    · subst e;exact⟨Vg l,rfl⟩
    obtain⟨m,hm⟩:=dZ e;exact⟨gV x*m,by show gV x*Vg l=_;rw[hm,Nat.mul_left_comm]⟩
theorem bP:∀{l:List Dd},(∀e,e∈l->Dv e.1/\Dv e.2)->Nm.nl (Vg l)<=l.length+1
  | [],_=>Nm.nl_le (by decide)
  | e::l,h=>by
    have h1:=Nm.nl_mul (gV e) (Vg l);have h2:=bP (l:=l) fun z hz=>h z (uQ _ hz)
    have h3:Nm.nl (gV e)<=1:=by
      obtain⟨a,b⟩:=h e vD;have a2:=Bd a;have b2:=Bd b;refine Nm.nl_le ?_;unfold gV;split<;>omega
    show Nm.nl (gV e*Vg l)<=_;rw[uY];omega
theorem iQ (e:Dd):Kd (gV e) (pW e.1 e.2):=by
 unfold pW gV;split
 ·rename_i h;rw[h];exact⟨0,by rw[show((1:Int):Rat)/((0:Int):Rat)=0 from by decide+kernel];grind⟩
 rename_i h;have hz:(((e.2.2-e.1.2:Int)):Rat)≠0:=by exact_mod_cast h
 rcases Int.natAbs_eq (e.2.2-e.1.2)with k|k
 ·refine⟨e.2.1-e.1.1,?_⟩
  rw[<-k,Rat.div_def];have:=Rat.inv_mul_cancel _ hz;generalize (((e.2.2-e.1.2:Int)):Rat)=u at*
  grind
 refine⟨-(e.2.1-e.1.1),?_⟩;rw[show(((e.2.2-e.1.2).natAbs:Int))= -(e.2.2-e.1.2)from ω,Rat.div_def,Rat.intCast_neg,Rat.intCast_neg];have:=Rat.inv_mul_cancel _ hz;generalize (((e.2.2-e.1.2:Int)):Rat)=u at*
 grind
theorem rK {e:Dd}{F:Nat}{y:Rat}(h:Kd F y):Kd (gV e*F) (tI e y):=by
  rw[oN];refine((iQ e).mul h).add (Kd.sub (Kd.int _ _) ?_);have:=(Kd.int 1 e.1.2).mul (iQ e);exact this.up ⟨F,by rw[Nat.one_mul]⟩
theorem gC {y:Rat}{rs:List Ba}{m:QI}(h:m∈Fm y rs):∃e,e∈Ab rs/\m.1=tI e y:=by
  rw[Rw,Stb.mem_stab]at h;obtain⟨e,he,h⟩:=List.mem_filterMap.1 h;refine⟨e,he,?_⟩;unfold Ef at h;split at h
  · injection h with h;rw[<-h];rfl
  split at h
  · injection h with h;rw[<-h];rfl
  cases h
theorem Xw {P:Rat->Prop}:∀{ms:List QI} {s:Int},(∀m,m∈ms->P m.1)->∀r,r∈Mr s ms->P r.1.1/\P r.1.2
  | [],_,_,_,h=>by simp[Mr]at h
  | [_],_,_,_,h=>by simp[Mr]at h
  | a::b::t,s,hp,r,h=>by
    rcases List.mem_cons.1 (show r∈((a.1,b.1),s+a.2)::Mr (s+a.2) (b::t)from h)with e|e
    · subst e;exact⟨hp a vD,hp b (uQ _ vD)⟩
    exact Xw (fun m hm=>hp m (uQ _ hm)) r e
theorem eL {P:Rat->Prop}{rule:Int}{ms:List QI}(h:∀m,m∈ms->P m.1):∀p,p∈Jd rule ms->P p.1/\P p.2:=by
  refine Yz fun p hp=> ?_
  unfold cS at hp;obtain⟨r,hr,rfl⟩:=List.mem_map.1 hp;exact Xw h r (List.mem_filter.1 hr).1
theorem nS {D:Nat}{f t:Rat}{p:QQ}(hf:Kd D f)(ht:Kd D t)(h1:Kd D p.1)(h2:Kd D p.2):Kd D (Ji f t p):=by
  unfold Ji;have k1:Kd D (if p.1<f then f else p.1):=by split<;>assumption
  have k2:Kd D (if t<p.2 then t else p.2):=by split<;>assumption
  generalize (if p.1<f then f else p.1)=u at*;generalize (if t<p.2 then t else p.2)=v at*;split
  · exact k2.sub k1
  exact Kd.int D 0
theorem dM {D:Nat}{f t:Rat}(hf:Kd D f)(ht:Kd D t):∀{l:List QQ},(∀p,p∈l->Kd D p.1/\Kd D p.2)->Kd D (Fe f t l)
  | [],_=>by rw[Lf];exact Kd.int D 0
  | p::l,h=>by
    rw[Hg];exact(nS hf ht (h p vD).1 (h p vD).2).add (dM hf ht fun z hz=>h z (uQ _ hz))
theorem cH {rule:Int}{a b:Int×Int}{rs:List Ba}{F:Nat}{y:Rat}(h:Kd F y):Kd (Vg (Ab rs)*F) (Jb rule a b rs y):=by
  refine dM (Kd.int _ _) (Kd.int _ _) (eL (P:=Kd (Vg (Ab rs)*F)) fun m hm=> ?_);obtain⟨e,he,hx⟩:=gC hm;rw[hx];exact(rK h).up (Nat.mul_dvd_mul_right (dZ he) F)
theorem bF (l:List QQ):(Ee l).length<=l.length:=by
  have h:=kP (Di l) (Di l).length;rw[vJ]at h;refine Ar h ?_;unfold Di;rw[Stb.stab_len];exact List.length_filter_le _ _
theorem eM (rule:Int)(ms:List QI):(Jd rule ms).length<=ms.length:=by
  refine Ar (bF _) (Ar (mD _ _) ?_);rw[Ih];omega
theorem fY (y:Rat)(rs:List Ba):(Fm y rs).length<=(Ab rs).length:=by
  rw[Rw,Stb.stab_len];exact List.length_filterMap_le _ _
theorem Pj (rs:List Ba):(Ab rs).length<=Gk rs:=by
  unfold Ab;split
  · exact Ep rs
  simp[Ca]
theorem Yp {y:Rat}:∀{l:List Rat},(Gz l y).length<=l.length+1
  | []=>by simp[Gz]
  | x::l=>by
    have:=Yp (y:=y) (l:=l);unfold Gz;split
    · simp;omega
    split<;>simp
theorem Yv {lo hi:Rat}:∀{all l:List Rat},(Jh lo hi l all).length<=l.length+all.length
  | [],l=>by simp[Jh]
  | x::all,l=>by
    show(Jh lo hi (if lo<x/\x<hi then Gz l x else l) all).length<=_;have h1:=Yv (lo:=lo) (hi:=hi) (all:=all) (l:=if lo<x/\x<hi then Gz l x else l);have h2:(if lo<x/\x<hi then Gz l x else l).length<=l.length+1:=by
      split
      · exact Yp
      omega
    rw[uY];omega
theorem Zg {α β:Type}{f:α->List β}(h:∀x,(f x).length<=1):∀l:List α,(l.flatMap f).length<=l.length
  | []=>by simp
  | x::l=>by
    have:=h x;have:=Zg h l;rw[List.flatMap_cons,uC,uY];omega
theorem Xj (e:Dd)(x:Int):(Mf e x).length<=1:=by unfold Mf;split<;>simp
theorem jB (o e:Dd):(Jy o e).length<=1:=by unfold Jy;split<;>simp
theorem Yf (a b:Int×Int)(N:Nat):∀(l p:List Dd),p.length+l.length<=N->(Jz a b p l).length<=l.length*(N+2)
  | [],p,_=>by simp[Jz]
  | x::l,p,h=>by
    have h1:=Yf a b N l (p++[x]) (by simp at h⊢;omega);have h2:=Zg (f:=fun o=>Jy x o) (fun o=>jB x o) p;have h3:=Xj x a.1;have h4:=Xj x b.1;show(Ht a b p x++Jz a b (p++[x]) l).length<=_;unfold Ht;simp only[uC,uY,vI,Nat.one_mul]at h⊢;omega
theorem Yd:∀rs:List Ba,(Mt rs).length=Gk rs
  | []=>rfl
  | r::rs=>by
    have:=Yd rs;have e:Gk (r::rs)=r.length+Gk rs:=by
      have:=cI [r] rs;simpa[Gk]using this
    rw[e,<-this];simp[Mt]
theorem jN {a b:Int×Int}{rs:List Ba}{N:Nat}(h:Gk rs<=N):(Ea a b rs).length<=2+N+N*(N+2):=by
  unfold Ea;split
  · rename_i k
    have h1:=Yv (lo:=(a.2:Rat)) (hi:=(b.2:Rat)) (all:=Kw a b rs) (l:=[(a.2:Rat),(b.2:Rat)]);have h2:=Yf a b N (Ca rs) [] (by have:=Ep rs;simp;omega);have h3:=Yd rs;have h4:=uZ (N+2) (Ar (Ep rs) h);unfold Kw at h1⊢;simp only[uC,uY,List.length_nil]at h1;omega
  simp
theorem eB {W:Rat->Rat}{D F C M:Nat}(hW:∀y,Kd (2*D) y->Kd F (W y))(h0:∀y,0<=W y/\W y<=((C:Int):Rat)):∀{l:List Rat},(∀x,x∈l->Kd D x/\ -((M:Int):Rat)<=x/\x<=((M:Int):Rat))->l.Pairwise (· < ·)->Kd (F*D) (Ec W l)/\0<=Ec W l/\Ec W l<=(((l.length*(C*(2*M)):Nat):Int):Rat)
 | [],_,_=>⟨Kd.int _ 0,by simp[Ec],by simp[Ec]⟩
 | [x],_,_=>⟨Kd.int _ 0,by simp[Ec],by show(0:Rat)<=_;exact_mod_cast Int.natCast_nonneg _⟩
 |x::y::l,h,hs=>by
  obtain⟨k1,k2,k3⟩:=eB hW h0 (l:=y::l) (fun z hz=>h z (uQ _ hz)) (List.pairwise_cons.1 hs).2;obtain⟨x1,x2,x3⟩:=h x vD;obtain⟨y1,y2,y3⟩:=h y (uQ _ vD);have A0:x<y:=(List.pairwise_cons.1 hs).1 y vD;obtain⟨w1,w2⟩:=h0 ((x+y)/2);have wk:=hW _ (x1.half y1);have hd:0<=y-x/\y-x<=(((2*M:Nat):Int):Rat):=by
   rw[uX,Rat.intCast_mul];have:(((2:Nat):Int):Rat)=2:=rfl;constructor<;>grind
  show Kd (F*D) (W ((x+y)/2)*(y-x)+Ec W (y::l))/\0<=W ((x+y)/2)*(y-x)+Ec W (y::l)/\W ((x+y)/2)*(y-x)+Ec W (y::l)<=_;refine⟨(wk.mul (y1.sub x1)).add k1,?_,?_⟩
  ·have:=Rat.mul_nonneg w1 hd.1
   grind
  have e1:W ((x+y)/2)*(y-x)<=((C:Int):Rat)*(((2*M:Nat):Int):Rat):=by
   have a1:=Rat.mul_le_mul_of_nonneg_right w2 hd.1;have a2:=Rat.mul_le_mul_of_nonneg_left hd.2 (show(0:Rat)<=((C:Int):Rat)from by exact_mod_cast Int.natCast_nonneg C);grind
  have e2:((((x::y::l).length*(C*(2*M)):Nat):Int):Rat)=((C:Int):Rat)*(((2*M:Nat):Int):Rat)+((((y::l).length*(C*(2*M)):Nat):Int):Rat):=by
   rw[<-Rat.intCast_mul,<-uX,<-Rat.intCast_add,<-Int.natCast_add];congr 2;rw[uY (a:=x),Nat.succ_mul,Nat.add_comm]
  rw[e2];grind
def part (rule:Int)(a b:Int×Int)(rs:List Ba)(k:Nat):Rat:=Ec (Jb rule a b rs) ((Ea a b rs).take (k+1))
theorem Uj (rule:Int)(a b:Int×Int)(rs:List Ba):part rule a b rs 0=0:=by
  unfold part;cases Ea a b rs with
  |nil=>rfl
  |cons x l=>rfl
theorem Vj (W:Rat->Rat):∀(l:List Rat) (k:Nat) (x y:Rat),l[k]?=some x->l[k+1]?=some y->Ec W (l.take (k+2))=Ec W (l.take (k+1))+W ((x+y)/2)*(y-x)
  | [],k,x,y,h,_=>by simp at h
  | [z],0,x,y,_,h=>by simp at h
  | [z],k+1,x,y,h,_=>by simp at h
  | a::b::l,0,x,y,h,h2=>by
    simp at h h2;subst h h2;show W ((a+b)/2)*(b-a)+Ec W [b]=Ec W [a]+_;show W ((a+b)/2)*(b-a)+0=0+_;grind
  | a::b::l,k+1,x,y,h,h2=>by
    have ih:=Vj W (b::l) k x y (by simpa using h) (by simpa using h2);show W ((a+b)/2)*(b-a)+Ec W (b::l.take (k+1))=W ((a+b)/2)*(b-a)+Ec W (b::l.take k)+_;rw[List.take_succ_cons,List.take_succ_cons]at ih;rw[ih];grind
theorem Uk {rule:Int}{a b:Int×Int}{rs:List Ba}{k:Nat}{x y:Rat}(h:(Ea a b rs)[k]?=some x)(h2:(Ea a b rs)[k+1]?=some y):part rule a b rs (k+1)=part rule a b rs k+Jb rule a b rs ((x+y)/2)*(y-x):=Vj _ _ _ _ _ h h2
theorem Yu {rule:Int}{a b:Int×Int}{rs:List Ba}{k:Nat}(h:(Ea a b rs).length<=k+1)(h1:a.1<b.1):part rule a b rs k=Gj rule a b rs:=by
  unfold part Gj;rw[uI h];split
  · rename_i c
    have:¬Tj a b rs:=fun k=>by have:=k.2.2.2;omega
    rw[show Ea a b rs=[]from if_neg this];rfl
  rfl
theorem cW {rule:Int}{a b:Int×Int}{rs:List Ba}(ha:Dv a)(hb:Dv b)(h1:a.1<=b.1)(ht:Gk rs<=24)(hh:∀x,x∈Ea a b rs->Nm.rl x<=24)(k:Nat):Nm.rl (part rule a b rs k)<=50000:=by
 have a2:=Bd ha;have b2:=Bd hb;by_cases c:Tj a b rs
 ·have hD:=pH hh
  have hc:=jN (a:=a) (b:=b) ht;have hE:Nm.nl (Vg (Ab rs))<=25:=by
   refine Ar (bP fun e he=> ?_) (by have:=Pj rs;omega);rw[Mb c.1]at he;obtain⟨r,hr,h3,h4⟩:=Vf he;exact⟨Oa c.1 hr h3,Oa c.1 hr h4⟩
  have hp:=eB (W:=Jb rule a b rs) (D:=dn (Ea a b rs)) (F:=Vg (Ab rs)*(2*dn (Ea a b rs))) (C:=2097152) (M:=1048576) (fun y hy=>cH hy)
   (fun y=>⟨cF y,Rat.le_trans (cG h1 y) (by rw[<-Rat.intCast_sub];exact Rat.intCast_le_intCast.2 ω)⟩) (l:=(Ea a b rs).take (k+1))
   (fun x hx=>⟨pI (List.mem_of_mem_take hx),by
    have h5:=Vu (List.mem_of_mem_take hx);have h6:(((-1048576:Int)):Rat)<=(a.2:Rat):=Rat.intCast_le_intCast.2 ω;have h7:(b.2:Rat)<=(((1048576:Nat):Int):Rat):=Rat.intCast_le_intCast.2 ω;exact⟨Rat.le_trans (by rw[<-Rat.intCast_neg];exact h6) h5.1,Rat.le_trans h5.2 h7⟩⟩)
   ((Ye a b rs).sublist (List.take_sublist _ _))
  have A0:0<Vg (Ab rs)*(2*dn (Ea a b rs))*dn (Ea a b rs):=Nat.mul_pos (Nat.mul_pos (Wp _) (Nat.mul_pos (by decide) (bQ _))) (bQ _);have hr:=Kd.rl (M:=((Ea a b rs).take (k+1)).length*(2097152*(2*1048576))) A0 hp.1 (Rat.le_trans (by
   have:(0:Rat)<=(((((Ea a b rs).take (k+1)).length*(2097152*(2*1048576)):Nat):Int):Rat):=by exact_mod_cast Int.natCast_nonneg _
   grind) hp.2.1) hp.2.2
  refine Ar hr ?_;have n1:=Nm.nl_mul (((Ea a b rs).take (k+1)).length*(2097152*(2*1048576))) (Vg (Ab rs)*(2*dn (Ea a b rs))*dn (Ea a b rs));have n2:=Nm.nl_mul (Vg (Ab rs)*(2*dn (Ea a b rs))) (dn (Ea a b rs));have n3:=Nm.nl_mul (Vg (Ab rs)) (2*dn (Ea a b rs));have n4:=Nm.nl_mul 2 (dn (Ea a b rs));have n5:Nm.nl 2<=1:=Nm.nl_le (by decide);have n6:Nm.nl (((Ea a b rs).take (k+1)).length*(2097152*(2*1048576)))<=2:=by
   refine Nm.nl_le ?_;have:((Ea a b rs).take (k+1)).length<=650:=by rw[uJ];omega
   have:=uZ (2097152*(2*1048576)) this;exact Nat.lt_of_le_of_lt this (by decide)
  omega
 unfold part;rw[show Ea a b rs=[]from if_neg c];exact Ar (show Nm.rl (0:Rat)<=1 from by decide+kernel) (by decide)
def Mg (rule:Int)(rs:List Ba):Int:=if Hc rs=true then(if rule=1\/rule=2 then 0 else 2)else 12
def Er (rule:Int)(a b:Int×Int)(rs:List Ba):Int:=if Hc rs=true then(if rule=1\/rule=2 then(if Co a.1 a.2=true/\Co b.1 b.2=true then 0 else 6)else 2)else 12
theorem Ph {rule:Int}{a b:Int×Int}{rs:List Ba}:Er rule a b rs=0↔Hc rs=true/\(rule=1\/rule=2)/\Co a.1 a.2=true/\Co b.1 b.2=true:=by
  unfold Er;by_cases h1:Hc rs=true<;>by_cases h2:rule=1\/rule=2<;>by_cases h3:Co a.1 a.2=true/\Co b.1 b.2=true<;>simp[h1,h2,h3]
def Nf (n:Int):Bool:=decide (n< -4096)||decide (4096<n)
def Bz (x y:Int):Int×Int:=if (Nf x||Nf y)=true then(1048577,0)else(x*256,y*256)
def jQ (x y:Int):Int×Int:=if Co (Bz x y).1 (Bz x y).2=true then Bz (x+1) (y+1)else Bz x y
theorem iJ {rule:Int}{a b:Int×Int}{rs:List Ba}{y:Rat}{c:Nat}(hok:Hc rs=true)(ha:Dv a)(hb:Dv b)(h1:a.1<=b.1)(ht:Gk rs<=24)(hy:Nm.rl y<=c):Nm.rl (Jb rule a b rs y)<=c+30:=by
 have a2:=Bd ha;have b2:=Bd hb;have hE:Nm.nl (Vg (Ab rs))<=25:=by
  refine Ar (bP fun e he=> ?_) (by have:=Pj rs;omega);rw[Mb hok]at he;obtain⟨r,hr,h3,h4⟩:=Vf he;exact⟨Oa hok hr h3,Oa hok hr h4⟩
 have hd:Nm.nl y.den<=c:=Ar (Nat.le_max_right _ _) hy;have k:=cH (rule:=rule) (a:=a) (b:=b) (rs:=rs) (Kd.den y);have A0:0<Vg (Ab rs)*y.den:=Nat.mul_pos (Wp _) y.den_pos;have hr:=Kd.rl (M:=2097152) A0 k (Rat.le_trans (by decide+kernel) (cF y)) (Rat.le_trans (cG h1 y) (by rw[<-Rat.intCast_sub];exact Rat.intCast_le_intCast.2 ω));refine Ar hr ?_;have n1:=Nm.nl_mul 2097152 (Vg (Ab rs)*y.den);have n2:=Nm.nl_mul (Vg (Ab rs)) y.den;have n3:Nm.nl 2097152<=1:=Nm.nl_le (by decide);omega
theorem jJ {p q:Rat}{c:Nat}(hp:Nm.rl p<=c)(hq:Nm.rl q<=c):Nm.rl ((p+q)/2)<=2*c+3:=by
  have h1:=Nm.rl_add p q;have h2:=Nm.rl_div (p+q) 2;have h3:Nm.rl (2:Rat)<=1:=by decide+kernel
  omega
theorem Ts (rule:Int)(y:Rat){rs:List Ba}(h:Gk rs<=24):(Jd rule (Fm y rs)).length<=24:=by
  have h1:=eM rule (Fm y rs);have h2:=fY y rs;have h3:=Pj rs;omega
theorem dL (rule:Int)(a b:Int×Int)(rs:List Ba)(y:Rat):Fe (((a.1:Int)):Rat) (((b.1:Int)):Rat) (Ee (Jd rule (Fm y rs)))=Jb rule a b rs y:=by
  unfold Jb Jd;rw[Yy]
end
section
attribute [local go_sem ↓] Go.wp_at_zero Go.wp_at_succ Aw Av
theorem Js (A:Option Addr)(cap:Nat)(rs:List Ba)(rule:Int)(k:Int)(w:World)(hu:Cn w (.slice A rs.length cap) rs)(hn:rs.length<=1048576)(hr:∀r,r∈rs->r.length<=1048576)(hk:Mg rule rs=k):
  Calls prog 18 #[.slice A rs.length cap,iV rule] w fun e w'=>e= .returned (iV k)/\Aa w w':=by
 subst hk;have HU:=zH hu;have HN:=zH hn;have A0:=zH hr;clear hu hr;go_enter func18,ntmps18
 have H0:=zH (Hp.start w);go_upto_region 0 with fail;apply wl;apply zq (iV 0);rcases Cm (Hc rs=true)with HV|HV
 ·go_upto_region 1 with fail
  apply wl;refine Ds Ai _ ?_;refine zc (Dq _ rs _ (HU.1.ext H0.1.ext) HN.1 A0.1) ?_;rintro e w4 ⟨rfl,hx⟩;have H5:=zH (H0.1.step hx);clear hx;refine⟨.bool true,by rw[HV.1],?_⟩;try simp only[ζ]
  refine Bw Ai φ φ ?_;rcases Cm (rule=1)with H1|H1
  ·go_upto_region 3 with fail
   apply wl;apply zq (iV rule);apply zp φ (by exact Kt (e:=(Al (fun h_=>h_ H1.1))));refine Ql Ai φ _ _ φ φ ?_;go_upto_region 5 with fail;apply wl;apply zq (iV 0);go_wp2_with fail;go_ret;exact⟨by rw[show Mg rule rs=0 from(if_pos HV.1).trans (if_pos (.inl H1.1))]<;>rfl,H5.1.ext⟩
  rcases Cm (rule=2)with H2|H2
  ·go_upto_region 3 with fail
   apply wl;apply zq (iV rule);apply zp τ (by exact Kt (e:=(Ay H1.1)));refine Bw Ai τ (iV rule) ?_;apply zp φ (by exact Kt (e:=(Al (fun h_=>h_ H2.1))));refine Bw Ai φ φ ?_;go_upto_region 5 with fail;apply wl;apply zq (iV 0);go_wp2_with fail;go_ret;exact⟨by rw[show Mg rule rs=0 from(if_pos HV.1).trans (if_pos (.inr H2.1))]<;>rfl,H5.1.ext⟩
  go_upto_region 3 with fail;apply wl;apply zq (iV rule);apply zp τ (by exact Kt (e:=(Ay H1.1)));refine Bw Ai τ (iV rule) ?_;apply zp τ (by exact Kt (e:=(Ay H2.1)));refine Bw Ai τ τ ?_;go_upto_region 4 with fail;apply wl;apply zq (iV 2);go_wp2_with fail;go_ret;exact⟨by rw[show Mg rule rs=2 from(if_pos HV.1).trans (if_neg (fun h_=>h_.elim H1.1 H2.1))]<;>rfl,H5.1.ext⟩
 go_upto_region 1 with fail;apply wl;refine Ds Ai _ ?_;refine zc (Dq _ rs _ (HU.1.ext H0.1.ext) HN.1 A0.1) ?_;rintro e A2 ⟨rfl,hx⟩;have A1:=zH (H0.1.step hx);clear hx;refine⟨.bool false,by rw[Bool.eq_false_iff.2 HV.1],?_⟩;try simp only[ζ]
 apply qV τ;apply zq τ;go_upto_region 2 with fail;apply wl;apply zq (iV 12);go_wp2_with fail;go_ret;exact⟨by rw[show Mg rule rs=12 from if_neg HV.1]<;>rfl,A1.1.ext⟩
end
section
open Go.RowKit Go.Maps
attribute [local go_sem ↓] Go.wp_at_zero Go.wp_at_succ
theorem rU {n:Int}(h: -9223372036854775808<=n/\n<=9223372036854775807):bits .and .i64 n (-1)=n:=by
  show IntKind.i64.wrap (((BitVec.ofInt 64 n&&& BitVec.ofInt 64 (-1)).toNat:Nat):Int)=n;rw[show BitVec.ofInt 64 (-1)=BitVec.allOnes 64 from by decide,BitVec.and_allOnes,IntKind.wrap_i64,BitVec.toNat_ofInt];omega
theorem sM (n:Int):bits .and .i64 n 1=n%2:=by
  show IntKind.i64.wrap (((BitVec.ofInt 64 n&&& BitVec.ofInt 64 1).toNat:Nat):Int)=n%2;rw[BitVec.toNat_and,show(BitVec.ofInt 64 1).toNat=1 from by decide,Nat.and_one_is_mod,IntKind.wrap_i64,BitVec.toNat_ofInt];omega
theorem sN (n:Int):bits .and .i64 n 0=0:=by
  show IntKind.i64.wrap (((BitVec.ofInt 64 n&&& BitVec.ofInt 64 0).toNat:Nat):Int)=0;rw[show BitVec.ofInt 64 0=0#64 from by decide,BitVec.and_zero,IntKind.wrap_i64];decide
section
variable {H:Type} {P:Program} {w:World} {ops:Array Oper} {rest:List Oper} {op:Oper} {a:Act} {Q:Exit->Act->World->Prop}
theorem Um (hw:Region.wanted op (yielded ops a.tmps)=true)(m x v:Operand)(t:TypeId)(hop:op.op= .insert t m x v)
  (k e:TypeId)(K:Keyed P k)(ht:P.underlying t=some (.map k e))(R:Value->Option (DataW H×List MemPlace))(b n:Nat)(D:DataW H)
  (hm:a.eval m= .map (some b))(hown:w.ownsMap P k R b n D)(hn:n<maxLen)(key val:Value)(kl:Lit)(hx:a.eval x=key)(hv:a.eval v=val)(hkey:keyOf P k key=some kl)
  (d:DataW H)(ps:List MemPlace)(hval:R val=some (d,ps))
  (h:∀w',w'.ownsMap P k R b (n+1) (D.put kl d)->w.grownBy w' (some b)->wpList P ops Q rest (a.put op.dst undef) w'):wpList P ops Q (op::rest) a w:=by
 obtain⟨w',A0,r1,r2⟩:=hown.update K ht hn hkey hval;refine Bj hw ?_;unfold Oper.wp execOp;simp only[hop];simp[hm,hx,hv,A0,Result.andThen];exact h _ r1 r2
theorem fU (hw:Region.wanted op (yielded ops a.tmps)=true)(m x:Operand)(t:TypeId)(hop:op.op=Op.lookup t m x false)
  (k e:TypeId)(q:IntKind)(K:Keyed P k)(ht:P.underlying t=some (.map k e))(he:P.underlying e=some (.int q))(hz:(zeroValue e).run P w= .ok (.int q 0) w)(b n:Nat)(D:DataW H)
  (hm:a.eval m= .map (some b))(hown:w.ownsMap P k (plainElem P e) b n D)(key:Value)(kl:Lit)(hx:a.eval x=key)(hkey:keyOf P k key=some kl)
  (h:∀c:Int,D.atKey kl (.lit (.int q 0))= .lit (.int q c)->wpList P ops Q rest (a.put op.dst (.int q c)) w):wpList P ops Q (op::rest) a w:=by
 obtain⟨c,A0,A1,_⟩:=hown.lookup_int K ht he hz hkey;refine Bj hw ?_;unfold Oper.wp execOp;simp only[hop];simp[hm,hx,A0,Result.andThen];exact h c A1
end
def Zv:DataW Unit:=((DataW.map []).put (.int .i64 1) (.lit (.int .i64 (-1)))).put (.int .i64 2) (.lit (.int .i64 1))
theorem lG:Zv= .map [(.int .i64 1,.lit (.int .i64 (-1))),(.int .i64 2,.lit (.int .i64 1))]:=by
  unfold Zv DataW.put;simp[DataW.insert,Lit.sameKey,Lit.before]
theorem lH (r c:Int)(h:Zv.atKey (.int .i64 r) (.lit (.int .i64 0))= .lit (.int .i64 c)):c=if r=1 then-1 else if r=2 then 1 else 0:=by
 rw[lG]at h;unfold DataW.atKey at h;by_cases h1:r=1
 ·subst h1
  rw[if_pos rfl];have h2:(DataW.lit (.int .i64 (-1)):DataW Unit)= .lit (.int .i64 c):=h;injection h2 with h2
  injection h2 with _ h2
  exact h2.symm
 by_cases h2:r=2
 ·subst h2
  rw[if_neg h1,if_pos rfl];have h2:(DataW.lit (.int .i64 1):DataW Unit)= .lit (.int .i64 c):=h;injection h2 with h2
  injection h2 with _ h2
  exact h2.symm
 have h3:¬(1=r):=fun k=>h1 k.symm
 have h4:¬(2=r):=fun k=>h2 k.symm
 simp[Lit.sameKey,h3,h4]at h;simp[h1,h2,h]
theorem Va (n rule:Int)(w:World)(hn: -9223372036854775808<=n/\n<=9223372036854775807)(hr: -9223372036854775808<=rule/\rule<=9223372036854775807):
  Calls prog 50 #[.int .i64 n,.int .i64 rule] w fun e w'=>e= .returned (.bool (Gf n rule))/\Aa w w':=by
 have K:Keyed prog 3:=int_keyed underlying3;have A1:∀z:Int,-9223372036854775808<=z/\z<=9223372036854775807->(Lit.int .i64 z).wf=true:=fun z h=>by
  have A2:IntKind.i64.min= -9223372036854775808:=rfl;have A3:IntKind.i64.max=9223372036854775807:=rfl;simp only[Lit.wf,vC,decide_eq_true_eq];omega
 have HK:=zH K;have HW:=zH A1;have HN:=zH hn;have A4:=zH hr;clear K A1 hn hr;go_enter func50,ntmps50
 go_upto_region 1 with fail;refine wp_region_lit ?_;refine zp (w':=w.alloc (.map #[] 0)) (.map (some w.heap.size)) (by have A5:= @run_makeMap prog;go_simp) ?_;refine Um (H:=Unit) (by rfl) _ _ _ _ (by rfl) 3 3 HK.1 underlying117 (plainElem prog 3) w.heap.size 0 (.map []) (by rfl) (World.ownsMap_made w _ _ _) (by unfold maxLen;decide) (.int .i64 1) (.int .i64 (-1)) (.int .i64 1) (by rfl) (by rfl) (keyOf_int_mk underlying3 (HW.1 1 (by decide))) (.lit (.int .i64 (-1))) [] (plainElem_int underlying3 (HW.1 (-1) (by decide))) ?_;intro w1 o1 g1
 (try simp only[Act.put])
 refine Um (H:=Unit) (by rfl) _ _ _ _ (by rfl) 3 3 HK.1 underlying117 (plainElem prog 3) w.heap.size 1 _ (by rfl) o1 (by unfold maxLen;decide) (.int .i64 2) (.int .i64 1) (.int .i64 2) (by rfl) (by rfl) (keyOf_int_mk underlying3 (HW.1 2 (by decide))) (.lit (.int .i64 1)) [] (plainElem_int underlying3 (HW.1 1 (by decide))) ?_;intro w2 o2 g2
 (try simp only[Act.put])
 have HX:=zH (show Aa w w2 from(((Aa.refl w).alloc (.map #[] 0)).grown g1 (fun k hk=>by injection hk with hk;omega)).grown g2 (fun k hk=>by injection hk with hk;omega));have HO:=zH (show w2.ownsMap prog 3 (plainElem prog 3) w.heap.size 2 Zv from o2);clear o1 g1 o2 g2;refine zp (w':=w2) (.map (some w.heap.size)) (by go_simp) ?_;refine zp (w':=w2) (.map (some w.heap.size)) (by go_simp) ?_;go_upto_region 2 with fail
 refine wp_region_lit ?_;refine zp (w':=w2) (.int .i64 n) (by go_simp) ?_;refine zp (w':=w2) (.map (some w.heap.size)) (by go_simp) ?_;refine zp (w':=w2) (.int .i64 rule) (by go_simp) ?_;refine fU (H:=Unit) (by rfl) _ _ _ (by rfl) 3 3 .i64 HK.1 underlying117 underlying3 (Tryz.zeroValue3 _) w.heap.size 2 Zv (by rfl) HO.1 (.int .i64 rule) (.int .i64 rule) (by rfl) (keyOf_int_mk underlying3 (HW.1 rule A4.1)) ?_;intro c hc;have A0:=lH rule c hc;have hb:(bits .and .i64 n c != 0)=Gf n rule:=by
  unfold Gf;by_cases h1:rule=1
  ·subst h1
   rw[A0,if_pos rfl,rU HN.1];by_cases h0:n=0<;>simp[h0]
  by_cases h2:rule=2
  ·subst h2
   rw[A0,if_neg h1,if_pos rfl,sM];by_cases h0:n%2=0<;>simp[h0]
  rw[A0,if_neg h1,if_neg h2,sN];simp[h1,h2]
 have HB:=zH hb;clear hc A0 hb;try simp only[ζ]
 go_wp2_with fail;go_ret;exact⟨by rw[<-HB.1];rfl,HX.1⟩
end
section
attribute [local go_sem ↓] Go.wp_at_zero Go.wp_at_succ Aw Av
theorem Up (L:Nat)(u:Value)(ps:List QQ)(w:World)(hu:Hh L w u ps)(h1L:1<=L)(hL:L<=60000)(hn:ps.length<=20000):
  Calls prog 48 #[u] w fun e w'=>∃v es,e= .returned v/\Gw L w' w.heap.size v es/\es.map Bu.vl=Ee ps/\es.length<=ps.length/\Aa w w':=by
 obtain⟨A,cu,rfl,hA⟩:=hu;obtain⟨i0,hi,I1,I0,B8⟩:=info_parts bI;have K0:=zH h1L;have HI:=zH (And.intro hi (And.intro I1 (And.intro I0 B8)));have HA:=zH (fun(w':World) (x:Aa w w') (k:Nat) (p:QQ) (hp:ps[k]?=some p)=>(show∃g D2,A=some ⟨g,D2,none⟩/\∃cs:List Value,w'.rangeAt g (D2+k*8) cs/\Mh L w' cs.toArray p.1 p.2 by
  obtain⟨g,D2,h1,h2⟩:=hA (by have:=(List.getElem?_eq_some_iff.1 hp).1;omega);obtain⟨cs,h3,h4⟩:=h2 k p hp;exact⟨g,D2,h1,cs,Be h3 x,h4.ext x⟩))
 clear hi I1 I0 B8 hA;go_enter func48,ntmps48;go_wp2_with fail;go_loopg [3,12] ps.length (fun c v i wr=>∃(k:Nat) (es:List Bu) (v2:Value),k<=ps.length/\c=ps.length-k/\i= iV k/\v2=v/\Gw L wr w.heap.size v2 es/\es.map Bu.vl=Kl (ps.take k)/\es.length<=k/\Aa w wr)
 case atStart=>exact⟨0,[],_,uL _,rfl,rfl,rfl,⟨Bh.nil _ _ _ _,by simp⟩,rfl,Bp _,Aa.refl _⟩
 obtain⟨k,es,v,hk,rfl,rfl,rfl,I3,J1,K7,hx⟩:=hrel;have E0:=zH I3;have C4:=zH (And.intro J1 K7);have HX:=zH hx;clear I3 J1 hx;by_cases hlt:k<ps.length
 ·have H1:(k:Int)<(ps.length:Int):=ω
  obtain⟨p,hp⟩:∃p,ps[k]?=some p:=⟨_,uB hlt⟩;obtain⟨g,D2,rfl,cs,hr,G3⟩:=HA.1 wr HX.1 k p hp;have J7:=zH (Rc hp);have J2:cs.length=8:=by have:=G3.size;simpa using this
  have D4:∀v,v∈cs->v.oneCell'=true:=by
   have h:=G3.one;rw[Array.all_eq_true_iff_forall_mem]at h;exact fun v hv=>h v (by simpa using hv)
  have HR:=zH hr;have G7:=zH G3;have D1:=zH J2;have B2:=zH hlt;have F9:=zH (fun X hX=>aF (X:=X) E0.1 hX);clear hr G3 hp hlt;go_upto_region 4 with fail
  refine wp_region_lit ?_;apply zq (.pointer (some ⟨g,D2+k*8,none⟩));refine Bj (by rfl) (wp_load_mid _ _ (by rfl) g (D2+k*8) (by rfl) cs _ HR.1 underlying73 (by rfl) (by rw[D1.1];kernel_rfl) ?_);try simp only[ζ]
  clear J2;refine zp (w':=wr.alloc (.cells z8 73)) (.pointer (π wr.heap.size)) (by go_simp) ?_;refine pO (cs).toArray (Ak.new wr _ _) (by simp[D1.1]) (by rw[show((cs).toArray:Array Value).size=8 by simp[D1.1]];kernel_rfl) (all_oneCell_toArray D4) ?_
  (try simp only[Act.put])
  obtain⟨E3,E2⟩:=Of wr 73 z8 (cs).toArray (by simp[D1.1]);generalize (wr.alloc (.cells z8 73)).setCells wr.heap.size 0 ((cs).toArray:Array Value).toList=w4 at*;have G0:=zH (F9.1 wr.heap.size (Bp _));generalize wr.heap.size=X4 at*;have B3:=zH E3;have C5:=zH E2;clear E3 E2;go_upto_region 5 with fail
  refine wp_region_lit ?_;apply zq (.pointer (π X4));refine pP 0 4 C5.1 underlying31 (by simp[D1.1]) ?_;try simp only[ζ]
  apply zq (.pointer (some ⟨X4,4,none⟩));refine pP 4 4 C5.1 underlying31 (by simp[D1.1]) ?_;try simp only[ζ]
  obtain⟨z,hz⟩:∃z,z=Df p.1 p.2:=⟨_,rfl⟩;have B0:z<0↔p.1<p.2:=by rw[hz];exact rcmp_lt
  refine Fv (by rfl) (by go_simp) (jR hz (G7.1.ext B3.1).c0 (G7.1.ext B3.1).c1 ω) ?_;rintro e w5 ⟨rfl,hx⟩;have B6:=zH (show Aa w4 w5 from((Aa.refl w4)).trans hx);clear hx;refine⟨_,rfl,?_⟩;try simp only[ζ]
  clear hz;have C1:=zH ((G7.1.ext B3.1).ext B6.1);have K1:=zH (C5.1.ext B6.1);have D5:=zH ((HX.1.trans B3.1).trans B6.1);have F5:=zH ((E0.1.ext B3.1).ext B6.1);clear B3 B6 C5 G7 HR E0;by_cases hpq:p.1<p.2
  ·have B8:z<0:=B0.2 hpq
   clear B0;apply zq τ;have A4:=J7.1;rw[if_pos hpq]at A4;have H8:=zH A4;clear A4;clear hpq B8;go_upto_region 6 with fail
   refine wp_region_held_drew (S:=fun x=>w5.grownBy x v.ownBlock) (by kernel_rfl) (Bg _ Ad.drew) (fun _=> ?_);refine zv 0 (bs 11 1) (Bg _ (Aa.refl w5).drew) ?_;refine mV 1 (bs 11 3) (Bg _ (Aa.refl w5).drew) ?_;refine mP 2 (bs 11 7) 0 4 (fun x hx=>K1.1.grown hx G0.1) underlying31 (by simp[D1.1]) (Bg _ (Aa.refl w5).drew) ?_;try simp only[ζ]
   refine mV 4 (bs 11 23) (Bg _ (Aa.refl w5).drew) ?_;refine mP 5 (bs 11 55) 4 4 (fun x hx=>K1.1.grown hx G0.1) underlying31 (by simp[D1.1]) (Bg _ (Aa.refl w5).drew) ?_;try simp only[ζ]
   refine mC 3 (bs 11 63) (pA (C1.1.ext Ad.drew).c0 ω) ?_;rintro e w6 ⟨c1,rfl,K9,hx⟩;have D8:=zH (show Aa w5 w6 from((Aa.refl w5).drew).trans hx);obtain⟨ra,rfl,I7⟩:=K9;have J9:=zH I7;clear I7;clear hx;refine⟨_,rfl,(Bg _ D8.1),?_⟩;try simp only[ζ]
   refine mC 6 (bs 11 127) (pA (C1.1.ext D8.1).c1 ω) ?_;rintro e w7 ⟨c2,rfl,K8,hx⟩;have A9:=zH (show Aa w5 w7 from(D8.1).trans hx);obtain⟨rb,rfl,I6⟩:=K8;have L4:=zH I6;have H5:=zH (J9.1.ext hx);clear I6 J9;clear hx;refine⟨_,rfl,(Bg _ A9.1),?_⟩;try simp only[ζ]
   refine zv 7 (bs 11 255) (Bg _ A9.1) ?_;have G2:=F5.1.ext A9.1;have E6:=(D5.1.trans A9.1).size;have K6:es.length<=20000:=by have:=C4.1.2;omega
   have J5:Bu.Ok L w7 ⟨ra,rb,p.1,p.2⟩:=⟨H5.1,L4.1,C1.1.c0.rl K0.1,C1.1.c1.rl K0.1⟩;have L5:=zH J5;clear J5;have A2:Aa w7 (w7.alloc (.cells #[.bool ra.n,.slice ra.p ra.l ra.c,.bool ra.m,.slice ra.p2 ra.l2 ra.c2,.bool rb.n,.slice rb.p rb.l rb.c,.bool rb.m,.slice rb.p2 rb.l2 rb.c2] 73)):=Ad.alloc _;refine mU 8 (bs 11 511) (v:= .slice (π w7.heap.size) 1 1) (w':=(w7.alloc (.cells #[.bool ra.n,.slice ra.p ra.l ra.c,.bool ra.m,.slice ra.p2 ra.l2 ra.c2,.bool rb.n,.slice rb.p rb.l rb.c,.bool rb.m,.slice rb.p2 rb.l2 rb.c2] 73))) (Bg _ ((A9.1).alloc _)) ?_;try simp only[ζ]
   refine Nc (j:=9) (listed':=(bs 11 1023)) (by rfl) (by kernel_rfl) (by rfl) _ _ 50 (by rfl) w.heap.size 73 i0 _ 8 128 underlying50 HI.1.1 HI.1.2.1 HI.1.2.2.1 HI.1.2.2.2 rfl (by decide) Jq _ es.length (Cs es) (by rfl) (G2.ext A2).1 ⟨w7.heap.size,0,none⟩ 1 1 [.bool ra.n,.slice ra.p ra.l ra.c,.bool ra.m,.slice ra.p2 ra.l2 ra.c2,.bool rb.n,.slice rb.p rb.l rb.c,.bool rb.m,.slice rb.p2 rb.l2 rb.c2] (by rfl) rfl (Ic _ [.bool ra.n,.slice ra.p ra.l ra.c,.bool ra.m,.slice ra.p2 ra.l2 ra.c2,.bool rb.n,.slice rb.p rb.l rb.c,.bool rb.m,.slice rb.p2 rb.l2 rb.c2] _) (by simp[Value.oneCell']) (Bu.noU ⟨ra,rb,p.1,p.2⟩) (by decide) (by unfold maxLen;omega) ω (by have:=A2.size;omega) (by kernel_rfl) ?_;intro gx cx w8 hf h2 h3 h4;have D7:=zH ((G2.ext A2).snoc (e:=⟨ra,rb,p.1,p.2⟩) rfl (L5.1.ext A2) h2 h4);have G6:=zH (((D5.1.trans A9.1).trans A2).grown h3 (fun j hj=>G2.1.block j hj));have H2:w5.grownBy w8 v.ownBlock:=Vb (A9.1.trans A2) h3;clear G2 E6 hf h2 h3 h4 A2;refine⟨H2,?_⟩;try simp only[ζ]
   refine zv 10 (bs 11 2047) H2 ?_;refine wpAnyH_done (by kernel_rfl) ?_ _;clear H2;go_wp2_with fail;go_roundg (ps.length-(k+1))
   case measure=>have:=B2.1;omega
   case rel=>exact⟨k+1,es++[⟨ra,rb,p.1,p.2⟩],_,B2.1,rfl,by go_num,rfl,D7.1,by rw[H8.1,vE,C4.1.1];rfl,by have:=C4.1.2;simp;omega,G6.1⟩
  have B8:¬z<0:=fun h=>hpq (B0.1 h)
  clear B0;apply zq φ;have A4:=J7.1;rw[if_neg hpq]at A4;have H8:=zH A4;clear A4 hpq B8;go_wp2_with fail
  go_roundg (ps.length-(k+1))
  case measure=>have:=B2.1;omega
  case rel=>exact⟨k+1,es,_,B2.1,rfl,by go_num,rfl,F5.1,by rw[H8.1];exact C4.1.1,by have:=C4.1.2;omega,D5.1⟩
 obtain rfl:k=ps.length:=ω;have M0:¬(ps.length:Int)<(ps.length:Int):=ω;have F4:=zH (aH L v es w.heap.size wr E0.1 hL (by have:=C4.1.2;omega));have E5:(Stb.stab Xd es).map Bu.vl=Di ps:=by
  have h:=C4.1.1;rw[uI (Bp _)]at h;rw[No Bu.vl (lt:=Xd) (lt':=nO) (fun _ _=>rfl),h];rfl
 have I4:(Stb.stab Xd es).length<=ps.length:=by rw[Stb.stab_len];exact C4.1.2
 have I2:∀j,v.ownBlock=some j->w.heap.size<=j:=E0.1.1.block;generalize Stb.stab Xd es=ss at*;go_upto_region 9 with(go_at_call 85;refine F4.1.mono ?_;rintro e ws ⟨rfl,C0,I9⟩)
 have J4:Aa w ws:=HX.1.grown I9 I2;obtain⟨As,cs,rfl⟩:=Ls C0.1;have B9:=zH C0;have L1:=zH J4;have F1:=zH E5;have L8:ss.length<=20000:=ω
 have D6:=zH B9.1.lt;have L3:=zH I4;clear C0 J4 E5 I9 F4 E0 C4 HX I4 I2;go_wp2_with fail
 go_loopg [6,37] ss.length (fun c v i wr=>∃(k:Nat) (os:List Bu) (v2:Value),k<=ss.length/\c=ss.length-k/\i= iV k/\v2=v/\Gw L wr w.heap.size v2 os/\os.map Bu.vl=((Di ps).take k).foldl Ek []/\os.length<=k/\Gw L wr w.heap.size (.slice As ss.length cs) ss/\(∀j,v2.ownBlock=some j->ws.heap.size<=j)/\Aa w wr/\ws.heap.size<=wr.heap.size)
 case atStart=>exact⟨0,[],_,uL _,rfl,rfl,rfl,⟨Bh.nil _ _ _ _,by simp⟩,by simp,Bp _,B9.1,by intro j hj;simp[Value.ownBlock]at hj,L1.1,Bp _⟩
 clear B9;obtain⟨k,os,v,hk,rfl,rfl,rfl,G5,G4,H0,C0,D3,hx,G9⟩:=hrel;by_cases hlt:k<ss.length
 ·have H1:(k:Int)<(ss.length:Int):=ω
  obtain⟨e,he⟩:∃e,ss[k]?=some e:=⟨_,uB hlt⟩;have C8:=zH (show((Di ps).take (k+1)).foldl Ek []=Ek (os.map Bu.vl) (e.p,e.q)by rw[G4,Na (p:=(e.p,e.q)) (by rw[<-F1.1,vH,he];rfl)]);have A7:=zH (C0.2 e (uD he));obtain⟨gs,E7,rs,K2,I5⟩:∃gs E7 rs,As=some ⟨gs,0,none⟩/\Sw wr wr gs 73 Bu.cells rs ss/\E7=cs:=by
   rcases C0.form with⟨hv,hn⟩|⟨g,cap,rest,hv,_,hs,_⟩
   ·rw[hn]at hlt;simp at hlt
   injection hv with e1 _ _
   exact⟨g,cs,rest,e1,hs,rfl⟩
  subst K2;have J8:=zH (I5.1.read he Bu.len);have A8:=zH G5;have B9:=zH C0;have A5:=zH (And.intro D3 (And.intro G9 H0));have HX:=zH hx;have B2:=zH hlt;clear G5 G4 C0 D3 hx G9 H0 I5 he hlt;go_upto_region 12 with fail
  refine wp_region_lit ?_;apply zq (.pointer (some ⟨gs,k*8,none⟩));refine Bj (by rfl) (wp_load_mid _ _ (by rfl) gs (k*8) (by rfl) e.cells _ J8.1 underlying73 (by rfl) (by kernel_rfl) ?_);try simp only[ζ]
  refine zp (w':=wr.alloc (.cells z8 73)) (.pointer (π wr.heap.size)) (by go_simp) ?_;refine pO (e.cells).toArray (Ak.new wr _ _) (by simp[Bu.len]) (by rw[show((e.cells).toArray:Array Value).size=8 by simp[Bu.len]];kernel_rfl) (all_oneCell_toArray e.one) ?_
  (try simp only[Act.put])
  obtain⟨E3,E2⟩:=Of wr 73 z8 (e.cells).toArray (by simp[Bu.len]);generalize (wr.alloc (.cells z8 73)).setCells wr.heap.size 0 ((e.cells).toArray:Array Value).toList=w8 at*;generalize wr.heap.size=X8 at*;have C3:=zH E3;have D9:=zH E2;clear E3 E2;have G6:=zH (HX.1.trans C3.1);have F6:=zH (A8.1.ext C3.1);have F3:=zH (B9.1.ext C3.1);have D0:=zH (A7.1.ext C3.1);have H4:=zH (vO D9.1.lt);clear J8 A8 B9 A7 HX;skip
  have A8:=F6;have B9:=F3;have A7:=D0;have HX:=G6;have G1:=D9;clear F6 F3 D0 G6 D9;rcases cP os with rfl|⟨os,l,rfl⟩
  ·obtain⟨Ao,co,rfl⟩:=Ls A8.1.1
   go_upto_region 14 with fail;refine wp_region_held_drew (S:=fun x=>Aa w8 x) (by kernel_rfl) Ad.drew (fun _=> ?_);refine zv 0 (bs 14 1) (Aa.refl w8).drew ?_;refine zv 1 (bs 14 3) (Aa.refl w8).drew ?_;refine zv 2 (bs 14 7) (Aa.refl w8).drew ?_;refine zs 3 (bs 14 15) (Aa.refl w8).drew ?_;refine zs 4 (bs 14 31) (Aa.refl w8).drew ?_;refine zs 5 (bs 14 63) (Aa.refl w8).drew ?_;refine zs 6 (bs 14 127) (Aa.refl w8).drew ?_;refine zs 7 (bs 14 255) (Aa.refl w8).drew ?_;refine zs 8 (bs 14 511) (Aa.refl w8).drew ?_;refine zs 9 (bs 14 1023) (Aa.refl w8).drew ?_;refine zs 10 (bs 14 2047) (Aa.refl w8).drew ?_;refine zs 11 (bs 14 4095) (Aa.refl w8).drew ?_;refine zs 12 (bs 14 8191) (Aa.refl w8).drew ?_;refine zv 13 (bs 14 16383) (Aa.refl w8).drew ?_;refine wpAnyH_done (by kernel_rfl) ?_ _;have A1:=zH (C8.1.trans (Un _));have K4:([]:List Bu).length<=20000:=by simp
   have B4:=zH (show Aa w8 w8.drew from Ad.drew);have A3:=zH (A8.1.ext B4.1);have B1:=zH (B9.1.ext B4.1);have A6:=zH (A7.1.ext B4.1);have B7:=zH (G1.1.ext B4.1);have C7:=zH (HX.1.trans B4.1);have C6:=zH (Ar H4.1 B4.1.size);go_upto_region 15 with fail
   refine wp_region_lit ?_;refine zp (w':=w8.drew) (.slice Ao 0 co) (by go_simp<;>with_reducible rfl) ?_;refine pL (cs:=#[.bool e.a.n,.slice e.a.p e.a.l e.a.c,.bool e.a.m,.slice e.a.p2 e.a.l2 e.a.c2,.bool e.b.n,.slice e.b.p e.b.l e.b.c,.bool e.b.m,.slice e.b.p2 e.b.l2 e.b.c2]) B7.1 underlying73 (by kernel_rfl) ?_;try simp only[ζ]
   have E6:=C7.1.size;have A2:Aa w8.drew (w8.drew.alloc (.cells #[.bool e.a.n,.slice e.a.p e.a.l e.a.c,.bool e.a.m,.slice e.a.p2 e.a.l2 e.a.c2,.bool e.b.n,.slice e.b.p e.b.l e.b.c,.bool e.b.m,.slice e.b.p2 e.b.l2 e.b.c2] 73)):=Ad.alloc _;refine zp (w':=(w8.drew.alloc (.cells #[.bool e.a.n,.slice e.a.p e.a.l e.a.c,.bool e.a.m,.slice e.a.p2 e.a.l2 e.a.c2,.bool e.b.n,.slice e.b.p e.b.l e.b.c,.bool e.b.m,.slice e.b.p2 e.b.l2 e.b.c2] 73))) (.slice (π w8.drew.heap.size) 1 1) (by go_simp) ?_;refine Bj (by rfl) (Dt _ _ 50 (by rfl) w.heap.size 73 i0 _ 8 128 underlying50 HI.1.1 HI.1.2.1 HI.1.2.2.1 HI.1.2.2.2 rfl (by decide) Jq _ 0 (Cs ([]:List Bu)) (by rfl) (A3.1.ext A2).1 ⟨w8.drew.heap.size,0,none⟩ 1 1 e.cells (by rfl) rfl (Ic _ e.cells _) e.one e.noU (by decide) (by unfold maxLen;omega) ω (by have:=A2.size;omega) ?_);intro gx cx E4 hf h2 h3 h4;try simp only[ζ]
   have D7:=zH ((A3.1.ext A2).snoc (es:=([]:List Bu)) (e:=e) rfl (A6.1.ext A2) h2 h4);have F0:=zH ((C7.1.trans A2).grown h3 (fun j hj=>A3.1.1.block j hj));have B5:=zH ((B1.1.ext A2).grown h3 (fun j hj hj2=>by have h7:=A5.1.1 j hj2;have h8:=D6.1 j hj;omega) h4);have H7:=zH (show ws.heap.size<=gx from hf.elim (fun hf=>A5.1.1 gx hf) (fun hf=>Ar (Ar A5.1.2.1 C6.1) (Ar A2.size hf)));have E9:=zH (show ws.heap.size<=E4.heap.size from Ar (Ar A5.1.2.1 C6.1) (Ar A2.size h3.size));clear hf h2 h3 h4 A2 E6;refine zp (w':=E4) (.slice (π gx) (0+1) cx) (by go_simp) ?_;go_wp2_with fail
   go_roundg (ss.length-(k+1))
   case measure=>have:=B2.1;omega
   case rel=>exact⟨k+1,([]:List Bu)++[e],_,B2.1,rfl,by go_num,rfl,D7.1,by rw[A1.1];simp[Bu.vl],by have:=A5.1.2.2;simp at this⊢<;>omega,B5.1,by intro j hj;simp[Value.ownBlock]at hj;rw[<-hj];exact H7.1,F0.1,E9.1⟩
  have K3:∃g6 c6,v= .slice (π g6) (os.length+1) c6:=by
   rcases A8.1.form with⟨_,h⟩|⟨g6,c6,_,h,_⟩
   ·simp at h
   exact⟨g6,c6,by simpa using h⟩
  obtain⟨g6,c6,rfl⟩:=K3;obtain⟨m,hm⟩:∃m,os.length=m:=⟨_,rfl⟩;rw[hm]at A8 A5⊢;have HM:=zH hm;have L9:m<=20000:=by have h:=A5.1.2.2;rw[uC,HM.1]at h;omega
  have L7:IntKind.i64.wrap (m:Int)=(m:Int):=by rw[IntKind.wrap_i64];omega
  have H6:=zH (A8.1.2 l (by simp));have J6:=zH (C8.1.trans (show Ek ((os++[l]).map Bu.vl) (e.p,e.q)=if l.q<e.p then os.map Bu.vl++[(l.p,l.q)]++[(e.p,e.q)]else if l.q<e.q then os.map Bu.vl++[(l.p,e.q)]else os.map Bu.vl++[(l.p,l.q)]by rw[vE];exact Uo _ _ _));have e1:((m+1:Nat):Int)-1=(m:Int):=ω
  have e2:(m:Int)+1-1=(m:Int):=ω;have e3:((m:Int)+1==0)=false:=by simp;omega
  have e4:(((m+1:Nat):Int)==0)=false:=by simp;omega
  have e5:(m:Int)<(m:Int)+1:=ω;have L0:=zH (A8.1.readEnd HM.1);clear hm;go_upto_region 14 with fail;have E8:=zH (A8.1.readEnd HM.1);have C9:=zH (A8.1.2 l (by simp));clear L0 H6;refine wp_region_held_drew (S:=fun x=>Aa w8 x) (by kernel_rfl) Ad.drew (fun _=> ?_);refine zv 0 (bs 14 1) (Aa.refl w8).drew ?_;refine zv 1 (bs 14 3) (Aa.refl w8).drew ?_;refine zv 2 (bs 14 7) (Aa.refl w8).drew ?_;refine zv 3 (bs 14 15) (Aa.refl w8).drew ?_;refine zv 4 (bs 14 31) (Aa.refl w8).drew ?_;refine zv 5 (bs 14 63) (Aa.refl w8).drew ?_;refine zv 6 (bs 14 127) (Aa.refl w8).drew ?_;refine mV 7 (bs 14 255) (Aa.refl w8).drew ?_;refine zr 8 (bs 14 511) g6 (m*8+4) (rc l.b) (fun x hx=>Be E8.1 hx) underlying31 (Aa.refl w8).drew ?_;refine mV 9 (bs 14 1023) (Aa.refl w8).drew ?_;refine mP 10 (bs 14 2047) 0 4 (fun x hx=>G1.1.ext hx) underlying31 (by simp[Bu.len]) (Aa.refl w8).drew ?_;try simp only[ζ]
  obtain⟨z,hz⟩:∃z,z=Df l.q e.p:=⟨_,rfl⟩;have B0:z<0↔l.q<e.p:=by rw[hz];exact rcmp_lt
  refine mC 11 (bs 14 4095) (jR (L:=L) hz (Eg.ofb (C9.1.ext Ad.drew)) (A7.1.ext Ad.drew).ptIn.c0 ω) ?_;rintro e w9 ⟨rfl,hx⟩;have A0:=zH (show Aa w8 w9 from((Aa.refl w8).drew).trans hx);clear hx;refine⟨_,rfl,A0.1,?_⟩;try simp only[ζ]
  clear hz;by_cases c1:l.q<e.p
  ·have B8:z<0:=B0.2 c1
   clear B0;refine zv 12 (bs 14 8191) A0.1 ?_;refine zv 13 (bs 14 16383) A0.1 ?_;refine wpAnyH_done (by kernel_rfl) ?_ _;have A1:=zH (J6.1.trans (if_pos c1));clear c1;have A3:=zH (A8.1.ext A0.1);have B1:=zH (B9.1.ext A0.1);have A6:=zH (A7.1.ext A0.1);have B7:=zH (G1.1.ext A0.1);have C7:=zH (HX.1.trans A0.1);have C6:=zH (Ar H4.1 A0.1.size);go_upto_region 15 with fail
   refine wp_region_lit ?_;apply zq (.slice (π g6) (m+1) c6);refine pL (cs:=#[.bool e.a.n,.slice e.a.p e.a.l e.a.c,.bool e.a.m,.slice e.a.p2 e.a.l2 e.a.c2,.bool e.b.n,.slice e.b.p e.b.l e.b.c,.bool e.b.m,.slice e.b.p2 e.b.l2 e.b.c2]) B7.1 underlying73 (by kernel_rfl) ?_;try simp only[ζ]
   have E6:=C7.1.size;have A2:Aa w9 (w9.alloc (.cells #[.bool e.a.n,.slice e.a.p e.a.l e.a.c,.bool e.a.m,.slice e.a.p2 e.a.l2 e.a.c2,.bool e.b.n,.slice e.b.p e.b.l e.b.c,.bool e.b.m,.slice e.b.p2 e.b.l2 e.b.c2] 73)):=Ad.alloc _;refine zp (w':=(w9.alloc (.cells #[.bool e.a.n,.slice e.a.p e.a.l e.a.c,.bool e.a.m,.slice e.a.p2 e.a.l2 e.a.c2,.bool e.b.n,.slice e.b.p e.b.l e.b.c,.bool e.b.m,.slice e.b.p2 e.b.l2 e.b.c2] 73))) (.slice (π w9.heap.size) 1 1) (by go_simp) ?_;refine Bj (by rfl) (Dt _ _ 50 (by rfl) w.heap.size 73 i0 _ 8 128 underlying50 HI.1.1 HI.1.2.1 HI.1.2.2.1 HI.1.2.2.2 rfl (by decide) Jq _ (m+1) (Cs (os++[l])) (by rfl) (by have h:=(A3.1.ext A2).1;rw[uC,HM.1]at h;exact h) ⟨w9.heap.size,0,none⟩ 1 1 e.cells (by rfl) rfl (Ic _ e.cells _) e.one e.noU (by decide) (by unfold maxLen;omega) ω (by have:=A2.size;omega) ?_);intro gx cx E4 hf h2 h3 h4;try simp only[ζ]
   have D7:=zH ((A3.1.ext A2).snoc (es:=(os++[l])) (e:=e) (by rw[uC,HM.1];rfl) (A6.1.ext A2) h2 h4);have F0:=zH ((C7.1.trans A2).grown h3 (fun j hj=>A3.1.1.block j hj));have B5:=zH ((B1.1.ext A2).grown h3 (fun j hj hj2=>by have h7:=A5.1.1 j hj2;have h8:=D6.1 j hj;omega) h4);have H7:=zH (show ws.heap.size<=gx from hf.elim (fun hf=>A5.1.1 gx hf) (fun hf=>Ar (Ar A5.1.2.1 C6.1) (Ar A2.size hf)));have E9:=zH (show ws.heap.size<=E4.heap.size from Ar (Ar A5.1.2.1 C6.1) (Ar A2.size h3.size));clear hf h2 h3 h4 A2 E6;refine zp (w':=E4) (.slice (π gx) ((m+1)+1) cx) (by go_simp) ?_;go_wp2_with fail
   go_roundg (ss.length-(k+1))
   case measure=>have:=B2.1;omega
   case rel=>exact⟨k+1,(os++[l])++[e],_,B2.1,rfl,by go_num,rfl,D7.1,by rw[A1.1];simp[Bu.vl],by have:=A5.1.2.2;simp at this⊢<;>omega,B5.1,by intro j hj;simp[Value.ownBlock]at hj;rw[<-hj];exact H7.1,F0.1,E9.1⟩
  have B8:¬z<0:=fun h=>c1 (B0.1 h)
  clear B0;refine zv 12 (bs 14 8191) A0.1 ?_;refine zv 13 (bs 14 16383) A0.1 ?_;refine wpAnyH_done (by kernel_rfl) ?_ _;have F2:=zH (J6.1.trans (if_neg c1));clear c1;go_upto_region 16 with fail
  have H3:=zH (Be E8.1 A0.1);have H9:=zH (G1.1.ext A0.1);have F7:=zH (C9.1.ext A0.1);have F8:=zH (A7.1.ext A0.1);refine wp_region_held_drew (S:=fun x=>Aa w9 x) (by kernel_rfl) Ad.drew (fun _=> ?_);refine zv 0 (bs 10 1) (Aa.refl w9).drew ?_;refine zv 1 (bs 10 3) (Aa.refl w9).drew ?_;refine zv 2 (bs 10 7) (Aa.refl w9).drew ?_;refine zv 3 (bs 10 15) (Aa.refl w9).drew ?_;refine mV 4 (bs 10 31) (Aa.refl w9).drew ?_;refine zr 5 (bs 10 63) g6 (m*8+4) (rc l.b) (fun x hx=>Be H3.1 hx) underlying31 (Aa.refl w9).drew ?_;refine mV 6 (bs 10 127) (Aa.refl w9).drew ?_;refine mP 7 (bs 10 255) 4 4 (fun x hx=>H9.1.ext hx) underlying31 (by simp[Bu.len]) (Aa.refl w9).drew ?_;try simp only[ζ]
  obtain⟨z2,G8⟩:∃z,z=Df l.q e.q:=⟨_,rfl⟩;have B0:z2<0↔l.q<e.q:=by rw[G8];exact rcmp_lt
  refine mC 8 (bs 10 511) (jR (L:=L) G8 (Eg.ofb (F7.1.ext Ad.drew)) (F8.1.ext Ad.drew).ptIn.c1 ω) ?_;rintro e wb ⟨rfl,hx⟩;have C2:=zH (show Aa w9 wb from((Aa.refl w9).drew).trans hx);clear hx;refine⟨_,rfl,C2.1,?_⟩;try simp only[ζ]
  clear G8;have E1:=zH (A0.1.trans C2.1);have A3:=zH (A8.1.ext E1.1);have B1:=zH (B9.1.ext E1.1);have A6:=zH (A7.1.ext E1.1);have B7:=zH (G1.1.ext E1.1);have C7:=zH (HX.1.trans E1.1);have C6:=zH (Ar H4.1 E1.1.size);by_cases c2:l.q<e.q
  ·have B8:z2<0:=B0.2 c2
   clear B0;refine zv 9 (bs 10 1023) C2.1 ?_;refine wpAnyH_done (by kernel_rfl) ?_ _;have A1:=zH (F2.1.trans (if_pos c2));clear c2;go_upto_region 17 with fail
   refine wp_region_lit ?_;apply qV (.slice (π g6) (m+1) c6);apply zq (iV ((m:Int)+1));apply qV (iV m);apply zq (.pointer (some ⟨X8,4,none⟩));refine Bj (by rfl) (wp_load_mid _ _ (by rfl) X8 (4) (by rfl) (rc e.b) _ (show World.rangeAt wb X8 4 (rc e.b)from B7.1.part 4 4) underlying31 (by rfl) (by kernel_rfl) ?_);try simp only[ζ]
   apply qV (.pointer (some ⟨g6,m*8,none⟩));apply zq (.pointer (some ⟨g6,m*8+4,none⟩));obtain⟨t1,t2,t3⟩:=A3.1.turn HM.1 A6.1;obtain⟨M1,J3,I8⟩:=A3.1.rowNoU;refine Bj (by rfl) (wp_store_mid 31 _ _ (by rfl) g6 (m*8+4) (rc e.b).toArray (by rfl) (by rfl) t1 (by kernel_rfl) (all_oneCell_toArray (by simp[Value.oneCell'])) ?_)
   (try simp only[Act.put])
   have D7:=zH t2;have J0:w.heap.size<=g6:=A3.1.1.block g6 (by simp[Value.ownBlock]);have F0:=zH (t3.ext C7.1 J0);have B5:=zH (B1.1.grown (row:=some g6) t3 (fun j hj hj2=>by injection hj2 with hj2;have h7:=A5.1.1 j (by simp[Value.ownBlock,hj2]);have h8:=D6.1 j hj;omega) (fun r q h=>h.own J3 I8 t3));have E9:=zH (Ar (Ar A5.1.2.1 C6.1) t3.size);clear t1 t2 t3 J3 I8 J0;generalize World.setCells wb g6 (m*8+4) _=wn at*
   go_wp2_with fail;go_roundg (ss.length-(k+1))
   case measure=>have:=B2.1;omega
   case rel=>exact⟨k+1,os++[⟨l.a,e.b,l.p,e.q⟩],_,B2.1,rfl,by go_num,rfl,D7.1,by rw[A1.1];simp[Bu.vl],by have:=A5.1.2.2;simp at this⊢<;>omega,B5.1,A5.1.1,F0.1,E9.1⟩
  have B8:¬z2<0:=fun h=>c2 (B0.1 h)
  clear B0;refine zv 9 (bs 10 1023) C2.1 ?_;refine wpAnyH_done (by kernel_rfl) ?_ _;have A1:=zH (F2.1.trans (if_neg c2));clear c2;go_wp2_with fail
  go_roundg (ss.length-(k+1))
  case measure=>have:=B2.1;omega
  case rel=>exact⟨k+1,os++[l],_,B2.1,rfl,by go_num,rfl,(by have h:=A3.1;exact h),by rw[A1.1,vE];rfl,by have:=A5.1.2.2;omega,B1.1,A5.1.1,C7.1,Ar A5.1.2.1 C6.1⟩
 obtain rfl:k=ss.length:=ω;have K5:¬(ss.length:Int)<(ss.length:Int):=ω;have HR:=zH (show os.map Bu.vl=Ee ps by rw[G4,uI (by rw[<-F1.1,uU];exact Bp _)];rfl);have A8:=zH G5;have L2:=zH hx;have L6:=zH (show os.length<=ps.length by have:=L3.1;omega);clear G5 G4 H0 C0 D3 hx G9;go_wp2_with fail
 go_ret;exact⟨_,rfl,os,A8.1,HR.1,L6.1,L2.1⟩
theorem eN (L:Nat)(u:Value)(rs:List Ba)(rule:Int)(ry:RV)(y:Rat)(w:World)(hu:Cn w u rs)(hy:ry.In L w y)(h1L:1<=L)(hL:L<=2000)(hn:rs.length<=1048576)(hr:∀r,r∈rs->r.length<=1048576)(hru: -9223372036854775808<=rule/\rule<=9223372036854775807):
  Calls prog 23 #[u,iV rule,(rg ry)] w fun e w'=>∃v es,e= .returned v/\Gw (L+8) w' w.heap.size v es/\es.map Bu.vl=Jd rule (Fm y rs)/\es.length<=4096/\Aa w w':=by
 have HU:=zH hu;have RY:=zH hy;have E4:=zH hru;clear hu hy hru;go_enter func23,ntmps23
 have H0:=zH (Hp.start w);go_upto_region 0 with fail;apply wl;apply Cl 31 (rc ry) H0.1;intro X1 w2 H3 _;refine Ds Ai _ ?_;go_upto_region 3 with fail;apply wl;refine Bw H3.1 (u) _ ?_;refine zc (fZ L u rs ry y _ (HU.1.ext H3.1.ext) (RY.1.dig H3.1.dig0) h1L ω hn hr) ?_;rintro e w8 ⟨Am,J2,cm,ms,rfl,rfl,A2,B5,A8,hx⟩;have B7:=zH A8;have E8:=zH B5;obtain⟨I6,G8,F9,E1⟩:=Bh.form A2;injection F9 with e1_ _ _
 subst e1_;have HA:=zH E1;clear A8 B5 E1;have H9:=zH (show Hp w w8 [.blk X1 31 (rc ry),ro 77 5 Am ms.length cm Cd.cells ms]from H3.1.addRow hx A2);clear A2;have G0:ms.length<=4096:=by have h:=Rx y rs;rw[<-B7.1,uU]at h;exact h
 clear hx;refine zn ?_;refine Ds Ai _ ?_;have F1:=zH (show Hp w w8 [.blk X1 31 (rc ry),ro 77 5 Am ms.length cm Cd.cells ms,ro 73 8 none 0 0 Bu.cells ([])]from H9.1.addNil 73 8);obtain⟨qs,C4⟩:∃qs,qs=ms.map Cd.vl:=⟨_,rfl⟩;have C7:=zH C4;have J5:qs.length=ms.length:=by rw[C4,uU]
 clear C4;go_wp2_with fail;go_loopg [7,8,17] (ms.length) (fun cq F8 F7 F6 wr=>∃(k:Nat) (m:Nat) (es:List Bu) (A1:Option Addr) (c1:Nat) (s:Int),cq=ms.length-k/\F8= .slice A1 m c1/\F7= iV s/\F6= iV (k:Int)/\(k<=ms.length)/\(Nx qs k=s)/\(-(k:Int)<=s/\s<=k)/\(m=es.length/\m<=k)/\(es.map Bu.vl=cS rule ((Mr 0 qs).take k))/\(∀e,e∈es->e.Ok (L+8) wr)/\Hp w wr [.blk X1 31 (rc ry),.row 77 5 (.slice Am ms.length cm) (ms.length) (List.flatMap Cd.cells ms),.row 73 8 (.slice A1 m c1) (m) (List.flatMap Bu.cells es)]/\Af w8 wr)
 case atStart=>exact⟨0,0,[],none,0,0,rfl,rfl,rfl,rfl,uL _,rfl,⟨by decide,by decide⟩,⟨rfl,Bp _⟩,rfl,(by simp),F1.1,Af.refl _⟩
 obtain⟨k,m,es,A1,c1,s,rfl,rfl,rfl,rfl,B4,A6,A5,B3,A0,A7,D9,E0⟩:=hrel;generalize wr=J1 at*;have HK:=zH B4;clear B4;have H6:=zH A6;clear A6;have H2:=zH A5;clear A5;have HM:=zH B3;clear B3;have A4:=zH A0;clear A0;have C1:=zH A7;clear A7;have B9:=zH D9;have D5:=zH E0;clear D9 E0 F1;rcases Cm (k<ms.length)with HLT|HLT
 ·have G6:=HLT.1
  have G5:(k:Int)<(ms.length:Int):=ω;obtain⟨gm,rfl⟩:=HA.1 ω;have J6:k<=4096:=ω
  have D7:m<=4096:=by have:=HM.1.2;omega
  have J4:=H2.1;obtain⟨e,A9⟩:∃e,ms[k]?=some e:=⟨_,uB G6⟩;have F0:=zH A9;have C8:=zH (E8.1 e (uD A9));have H1:=zH C8.1.1;have I5:=zH C8.1.2.1;clear A9;have J3:=C8.1.2.2;have C5:qs[k]?=some e.vl:=by rw[C7.1,vH,F0.1];rfl
  have C0:=zH (show Nx qs (k+1)=s+e.up from by rw[Ui C5,H6.1];rfl);have H5:=zH C5;clear C5;go_upto_region 6 with fail
  apply wl;apply zq (iV (k:Int));apply zp (.pointer (some ⟨gm,k*5,none⟩)) (by exact Eo (k:=k) underlying74 (l:=HLT.1) (f:=(uF _).symm));refine zd gm (k*5) [.bool e.a.n,.slice e.a.p e.a.l e.a.c,.bool e.a.m,.slice e.a.p2 e.a.l2 e.a.c2,iV e.up] (B9.1.elem (f:=Cd.cells) (i:=1) rR Cd.len F0.1) underlying77 ?_;apply Cl 77 [.bool false,.slice none 0 0,.bool false,.slice none 0 0,iV 0] B9.1;intro C6 J0 I2 B2;apply zq (iV (k:Int));apply Ck 3 [.bool e.a.n,.slice e.a.p e.a.l e.a.c,.bool e.a.m,.slice e.a.p2 e.a.l2 e.a.c2,iV e.up] I2.1;intro I9 C2 B1;go_upto_region 7 with fail;apply wl;refine Dh C2.1 (iV s) _ _ ?_;apply zp (iV (s+e.up)) (by exact Ie ω);apply zq (iV (s+e.up));rcases Cm (k+1<ms.length)with CK|CK
  ·have D8:=CK.1
   obtain⟨f,A9⟩:∃f,ms[k+1]?=some f:=⟨_,uB D8⟩;have E9:=zH A9;have E7:=zH (E8.1 f (uD A9));have G9:=zH E7.1.1;have I4:=zH E7.1.2.1;clear A9;have E6:=zH (Rh qs 0 k e.vl f.vl H5.1 (by rw[C7.1,vH,E9.1];rfl));have E5:=zH (show 0+Nx qs (k+1)=s+e.up by rw[C0.1];omega);rcases hcf:Gf (s+e.up) rule with _|_
   ·have CF:=zH hcf
    clear hcf;go_upto_region 8 with fail;apply wl;apply zq (iV (k:Int));apply zp (iV ((k+1:Nat):Int)) (by exact Ie ω);refine Bw Ai _ (iV ((ms.length:Nat):Int)) ?_;apply zp τ (by exact Dw (e:=(Ay ω)));refine Dh Ai τ (iV (s+e.up)) (iV rule) ?_;refine zc (Va (s+e.up) rule _ ⟨ω,ω⟩ E4.1) ?_;rintro e I8 ⟨rfl,hx⟩;have I1:=zH (C2.1.step hx);have F5:=zH (Af.of_ext hx);clear hx;refine⟨.bool false,by rw[CF.1],?_⟩;try simp only[ζ]
    apply zq φ;have D4:=tD (tD B2 B1) F5;have D3:=tD (tD (tD D5 B2) B1) F5;go_wp2_with fail
    go_roundg (ms.length-(k+1))
    case measure=>exact(by have D6:=HLT.1;omega)
    case rel=>exact⟨k+1,m,es,A1,c1,s+e.up,rfl,rfl,rfl,(by go_num),HLT.1,C0.1,⟨ω,ω⟩,⟨HM.1.1,by have:=HM.1.2;omega⟩,(by rw[A4.1,Nq E6.1,if_neg (by rw[E5.1,CF.1];decide),vB]),(fun g hg=>(C1.1 g hg).dig D4.1),I1.1.take 3,D3.1⟩
   have CF:=zH hcf;clear hcf;go_upto_region 8 with fail;apply wl;apply zq (iV (k:Int));apply zp (iV ((k+1:Nat):Int)) (by exact Ie ω);refine Bw Ai _ (iV ((ms.length:Nat):Int)) ?_;apply zp τ (by exact Dw (e:=(Ay ω)));refine Dh Ai τ (iV (s+e.up)) (iV rule) ?_;refine zc (Va (s+e.up) rule _ ⟨ω,ω⟩ E4.1) ?_;rintro e A3 ⟨rfl,hx⟩;have B8:=zH (C2.1.step hx);have F4:=zH (Af.of_ext hx);clear hx;refine⟨.bool true,by rw[CF.1],?_⟩;try simp only[ζ]
   apply zq τ;go_upto_region 9 with fail;refine wp_region_held_drew (S:=fun x=>Fr (fun kz=>Value.ownBlock (.slice A1 m c1)=some kz) A3 x) kR (Fr.of_ext zb) (fun _=> ?_);have I0:=zH (B8.1.step (Aa.refl A3).drew);have F3:=zH (Af.of_ext (w:=A3) zb);refine zx 0 (bs 13 1) (.slice A1 m c1) (Fr.of_ext zb) ?_;refine mX 1 (bs 13 3) (.pointer (π C6)) (Fr.of_ext zb) ?_;refine zr 2 (bs 13 7) C6 (0) (rc e.a) (fun x hx=>Fr.range hx (show World.rangeAt A3 C6 (0) (rc e.a)from(B8.1.range (i:=3) rR 0 4)) (B8.1.offRow (i:=3) (j:=2) rR rR dC rR)) underlying31 (Fr.of_ext zb) ?_;refine zx 3 (bs 13 15) (.slice (π gm) ms.length cm) (Fr.of_ext zb) ?_;refine zx 4 (bs 13 31) (iV (k:Int)) (Fr.of_ext zb) ?_;refine zu 5 (bs 13 63) (v:= iV ((k+1:Nat):Int)) (Fr.of_ext zb) ?_ (hv:=by intro w G7;exact Ie ω);refine zu 6 (bs 13 127) (v:= .pointer (some ⟨gm,(k+1)*5,none⟩)) (Fr.of_ext zb) ?_ (hv:=by intro w G7;exact Eo (k:=k+1) underlying74 (l:=CK.1) (f:=(uF _).symm));refine mX 7 (bs 13 255) (.pointer (some ⟨gm,(k+1)*5,none⟩)) (Fr.of_ext zb) ?_;refine zr 8 (bs 13 511) gm ((k+1)*5) (rc f.a) (fun x hx=>Fr.range hx (show World.rangeAt A3 gm ((k+1)*5) (rc f.a)from(Cx (B8.1.elem (f:=Cd.cells) (i:=1) rR Cd.len E9.1) 0 4)) (B8.1.offRow (i:=1) (j:=2) rR rR dC rR)) underlying31 (Fr.of_ext zb) ?_;refine zx 9 (bs 13 1023) (.agg #[.bool e.a.n,.slice e.a.p e.a.l e.a.c,.bool e.a.m,.slice e.a.p2 e.a.l2 e.a.c2,.bool f.a.n,.slice f.a.p f.a.l f.a.c,.bool f.a.m,.slice f.a.p2 f.a.l2 f.a.c2]) (Fr.of_ext zb) ?_;refine mU 10 (bs 13 2047) (v:= .slice (π A3.drew.heap.size) 1 1) (w':=(A3.drew.alloc (.cells ([.bool e.a.n,.slice e.a.p e.a.l e.a.c,.bool e.a.m,.slice e.a.p2 e.a.l2 e.a.c2,.bool f.a.n,.slice f.a.p f.a.l f.a.c,.bool f.a.m,.slice f.a.p2 f.a.l2 f.a.c2]:List Value).toArray 73))) ((Fr.of_ext zb).trans (Fr.of_ext ((Aa.refl A3.drew).alloc _))) ?_;try simp only[ζ]
   refine kG (j:=11) (listed':=(bs 13 4095)) rR kR rR _ _ _ rR kY rR I0.1 (ix:=2) rR 1 1 [.bool e.a.n,.slice e.a.p e.a.l e.a.c,.bool e.a.m,.slice e.a.p2 e.a.l2 e.a.c2,.bool f.a.n,.slice f.a.p f.a.l f.a.c,.bool f.a.m,.slice f.a.p2 f.a.l2 f.a.c2] rR rfl (by simp[Value.oneCell']) (by simp[Aq]) dC (by unfold maxLen;exact ω) ω kR ?_;intro E2 B6 C3 hf hh hd hg;have I3:=zH hf;clear hf;rw[show List.flatMap Bu.cells es++[.bool e.a.n,.slice e.a.p e.a.l e.a.c,.bool e.a.m,.slice e.a.p2 e.a.l2 e.a.c2,.bool f.a.n,.slice f.a.p f.a.l f.a.c,.bool f.a.m,.slice f.a.p2 f.a.l2 f.a.c2]=_ from Do Bu.cells _ (⟨e.a,f.a,e.q,f.q⟩:Bu)]at hh;have H8:=hN hh;have F2:=zH (show Af A3.drew C3 from hd);have E3:=zH (show Fr (fun kz=>Value.ownBlock (.slice A1 m c1)=some kz) A3 C3 from Fr.trans_new ((Fr.of_ext zb).trans (Fr.of_ext (Ad.alloc _))) hg (fun j hj=> .inl hj));clear hh hd hg;refine⟨E3.1,?_⟩;try simp only[ζ]
   refine zx 12 (bs 13 8191) (.slice (π E2) (m+1) B6) E3.1 ?_;refine wpAnyH_done kR ?_ _;have D2:=tD (tD (tD (tD B2 B1) F4) F3) F2;have B0:=tD (tD (tD (tD (tD D5 B2) B1) F4) F3) F2;have C9:=zH (show Bu.Ok (L+8) C3 (⟨e.a,f.a,e.q,f.q⟩:Bu)from⟨(H1.1.dig B0.1),(G9.1.dig B0.1),I5.1,I4.1⟩);go_wp2_with fail
   go_roundg (ms.length-(k+1))
   case measure=>exact(by have D6:=HLT.1;omega)
   case rel=>exact⟨k+1,m+1,es++[(⟨e.a,f.a,e.q,f.q⟩:Bu)],some ⟨E2,0,none⟩,B6,s+e.up,rfl,rfl,rfl,(by go_num),HLT.1,C0.1,⟨ω,ω⟩,⟨by rw[uC,<-HM.1.1];rfl,by have:=HM.1.2;omega⟩,(by rw[vE,A4.1,Nq E6.1,if_pos (by rw[E5.1];exact CF.1)];rfl),(fun g hg=>(List.mem_append.1 hg).elim (fun hg=>(C1.1 g hg).dig D2.1) (fun hg=>by rw[List.mem_singleton.1 hg];exact C9.1)),H8.1.take 3,B0.1⟩
  have D8:=CK.1;go_upto_region 8 with fail;apply wl;apply zq (iV (k:Int));apply zp (iV ((k+1:Nat):Int)) (by exact Ie ω);refine Bw Ai _ (iV ((ms.length:Nat):Int)) ?_;apply zp φ (by exact Dw (e:=(Al ω)));refine Ql Ai φ _ _ _ φ ?_;have D1:=tD B2 B1;have D0:=tD (tD D5 B2) B1;go_wp2_with fail
  go_roundg (ms.length-(k+1))
  case measure=>exact(by have D6:=HLT.1;omega)
  case rel=>exact⟨k+1,m,es,A1,c1,s+e.up,rfl,rfl,rfl,(by go_num),HLT.1,C0.1,⟨ω,ω⟩,⟨HM.1.1,by have:=HM.1.2;omega⟩,(by rw[A4.1,uI (show(Mr 0 qs).length<=k by rw[Ih];omega),uI (show(Mr 0 qs).length<=k+1 by rw[Ih];omega)]),(fun g hg=>(C1.1 g hg).dig D1.1),C2.1.take 3,D0.1⟩
 obtain rfl:k=ms.length:=by have:=HK.1;have:=HLT.1;omega
 have J7:¬(ms.length:Int)<(ms.length:Int):=ω;have H4:=zH (B9.1.row (i:=2) (by rfl));have D7:m<=4096:=by have:=HM.1.2;omega
 have G1:=HM.1.1;subst G1;go_upto_region 11 with fail;apply wl;refine Ds Ai _ ?_;refine zc (Up (L+8) _ (List.map Bu.vl es) _ (Gw.reads ⟨H4.1,C1.1⟩) ω ω (by rw[uU];omega)) ?_;rintro e I7 ⟨vm,em,rfl,G4,G3,G2,hx⟩;have H7:=zH (B9.1.step hx);clear hx;refine zn ?_;refine zq (vm) ?_;go_wp2_with fail
 go_ret;exact⟨_,rfl,em,Gw.base G4 B9.1.ext.size,by rw[G3,A4.1,uI (by rw[Ih];omega),C7.1,B7.1];rfl,Ar G2 (by rw[uU];exact D7),H7.1.ext⟩
theorem Uw {f t:Rat}{es:List Bu}{k:Nat}{e:Bu}(h:es[k]?=some e):Fe f t ((es.map Bu.vl).take (k+1))=Fe f t ((es.map Bu.vl).take k)+Ji f t (e.p,e.q):=by
  rw[List.take_add_one,vH,h];simp only[Option.map_some,Option.toList_some];rw[kL,Hg,Lf];show _+(Ji f t (e.p,e.q)+0)=_;grind
theorem Lx {f t p q a b:Rat}(ha:a=if p<f then f else p)(hb:b=if t<q then t else q):Ji f t (p,q)=if a<b then b-a else 0:=by subst ha hb;unfold Ji;grind
theorem Ya (L:Nat)(u:Value)(ps:List QQ)(rf rt:RV)(f t:Rat)(w:World)(hu:Hh L w u ps)(hf:rf.In L w f)(ht:rt.In L w t)(h1L:1<=L)(hL:L<=400)(hn:ps.length<=60):
  Calls prog 67 #[u,(rg rf),(rg rt)] w fun e w'=>∃r:RV,e= .returned (rg r)/\r.Is w' (Fe f t (Ee ps))/\Nm.rl (Fe f t (Ee ps))<=60000/\Aa w w':=by
 have HU:=zH hu;have RF:=zH hf;have RT:=zH ht;clear hu hf ht;go_enter func67,ntmps67
 have H0:=zH (Hp.start w);go_upto_region 0 with fail;apply wl;apply Cl 31 (rc rf) H0.1;intro X1 w2 H3 _;apply Cl 31 (rc rt) H3.1;intro X6 w7 H8 _;refine Cl 31 rz H8.1 ?_;intro E5 P1 N0 _;go_upto_region 1 with fail;apply wl;refine zc (Dj 0 _ ω ω) ?_;rintro e P0 ⟨c_,rfl,D0,hx⟩;have M9:=zH (N0.1.step hx);obtain⟨F3,rfl,B6⟩:=D0;have L9:=zH B6;have O1:=zH (Bm 0 ω ω);clear B6 hx;refine zn ?_;refine Cl 31 rz M9.1 ?_;intro A6 O9 M8 N8;apply Ck 3 (rc F3) M8.1;intro O8 K1 N7;go_upto_region 2 with fail
 apply wl;refine qV (u) ?_;refine zc (Rk L u ps _ (HU.1.ext K1.1.ext) h1L ω ω) ?_;rintro e I9 ⟨v_,es,rfl,A7,B5,C9,hx⟩;have G0:=zH B5;have M2:=zH C9;have M0:=zH A7.2;obtain⟨Am,cm,rfl,J4⟩:=Bh.form A7.1;have HA:=zH J4;clear B5 C9 J4;have K0:=zH (show Hp w I9 [.blk X1 31 (rc rf),.blk X6 31 (rc rt),.blk E5 31 rz,.blk A6 31 (rc F3),ro 73 8 Am es.length cm Bu.cells es]from K1.1.addRow hx A7.1);have N6:=zH (Af.of_ext hx);clear A7 hx;refine zn ?_;refine Ds Ai _ ?_;have L3:es.length<=60:=by have:=M2.1;omega
 have H6:=tD (tD N8 N7) N6;go_wp2_with fail;go_loopg [9] (es.length) (fun cq L0 wr=>∃(k:Nat) (rs:RV),cq=es.length-k/\L0= iV (k:Int)/\(k<=es.length)/\(rs.Is wr (Fe f t ((es.map Bu.vl).take k)))/\(Nm.rl (Fe f t ((es.map Bu.vl).take k))<=2+k*(2*L+2))/\Hp w wr [.blk X1 31 (rc rf),.blk X6 31 (rc rt),.blk E5 31 [.bool false,.slice none 0 0,.bool false,.slice none 0 0],.blk A6 31 (rc rs),.row 73 8 (.slice Am es.length cm) (es.length) (List.flatMap Bu.cells es)]/\Af I9 wr)
 case atStart=>exact⟨0,F3,rfl,rfl,uL _,(by have h:=(L9.1.dig H6.1);simpa[Fe]using h),(by have h:=O1.1;simpa[Fe]using h),K0.1,Af.refl _⟩
 obtain⟨k,rs,rfl,rfl,C7,C6,C8,B7,B8⟩:=hrel;generalize wr=E4 at*;have HK:=zH C7;clear C7;have RS:=zH C6;clear C6;have BS:=zH C8;clear C8;have D4:=zH B7;have N5:=zH B8;clear B7 B8 K0;rcases Cm (k<es.length)with HLT|HLT
 ·have J1:=HLT.1
  have L2:(k:Int)<(es.length:Int):=ω;obtain⟨gm,rfl⟩:=HA.1 ω;have P4:k*(2*L+2)<=60*802:=Nat.mul_le_mul ω ω;have L4:(k+1)*(2*L+2)=k*(2*L+2)+(2*L+2):=by rw[vI,Nat.one_mul]
  generalize hkq:(k+1)*(2*L+2)=KQ at*;generalize hkq2:k*(2*L+2)=KP at*;obtain⟨e,F4⟩:∃e,es[k]?=some e:=⟨_,uB J1⟩;have G1:=zH F4;have E7:=zH (M0.1 e (uD F4));have J6:=zH E7.1.1;have J5:=zH E7.1.2.1;have I6:=zH E7.1.2.2.1;have I5:=zH E7.1.2.2.2;clear F4;have E6:=zH (Uw (f:=f) (t:=t) G1.1);have J9:=zH hkq;have M1:=zH hkq2;clear hkq hkq2 J1;go_upto_region 6 with fail
  refine zy ?_;have M7:=zH (D4.1.step (Aa.refl E4).drew);have I2:=zH (Af.of_ext (w:=E4) zb);refine Jl Ai zb (bs 14 3) 0 1 _ (iV (k:Int)) ?_;refine zu 2 (bs 14 7) (v:= .pointer (some ⟨gm,k*8,none⟩)) zb ?_ (hv:=by intro w L5;exact Eo (k:=k) underlying50 (l:=HLT.1) (f:=(uF _).symm));refine Ta Ai zb (bs 14 15) 3 _ ?_;refine zg 4 (bs 14 31) gm (k*8) (rc e.a) (Cx (D4.1.elem (f:=Bu.cells) (i:=4) rR Bu.len G1.1) 0 4) underlying31 zb ?_;refine Jl Ai zb (bs 14 127) 5 6 _ (iV (k:Int)) ?_;refine zu 7 (bs 14 255) (v:= .pointer (some ⟨gm,k*8,none⟩)) zb ?_ (hv:=by intro w L5;exact Eo (k:=k) underlying50 (l:=HLT.1) (f:=(uF _).symm));refine mX 8 (bs 14 511) (.pointer (some ⟨gm,k*8+4,none⟩)) zb ?_;refine zg 9 (bs 14 1023) gm (k*8+4) (rc e.b) (Cx (D4.1.elem (f:=Bu.cells) (i:=4) rR Bu.len G1.1) 4 4) underlying31 zb ?_;refine Lw (i:=10) (j:=11) (T:=31) (U:=31) (zs:=[.bool false,.slice none 0 0,.bool false,.slice none 0 0]) (us:=[.bool false,.slice none 0 0,.bool false,.slice none 0 0]) (li:=(bs 14 2047)) (lj:=(bs 14 3071)) (lij:=(bs 14 4095)) rR rR kR kR kR kR kR kR kR rR rR dC (by intro r_ x_;go_simp) (by intro r_ x_;go_simp) (fun x y h1 h2=>h1.trans h2) zb M7.1 (by simp[Aq]) (by simp[Aq]) ?_;intro C3 B9 I8 hh hx J3 J2 hs;have M6:=hN hh;have I1:=zH (show Af E4.drew I8 from Af.of_ext hx);have L7:=zH (show Aa E4 I8 from hs);have N2:=zH (Ar zb.size J3);have N1:=zH (Ar zb.size J2);clear hh hx J3 J2 hs;try simp only[ζ]
  refine bS 5 12 (bs 14 8191) (rc e.a) M6.1 L7.1 N2.1 ?_;intro O7 M5 I0 L6;refine bS 6 13 (bs 14 16383) (rc e.b) M5.1 L6.1 N1.1 ?_;intro O6 G6 H9 P5;refine wpAnyH_done kR ?_ _;go_upto_region 7 with fail;apply wl;refine Bw G6.1 _ _ ?_;have C1:=tD (tD (tD (tD N5 I2) I1) I0) H9;refine aC G6.1 (Dl 60000 _ _ e.p f _ (RV.Is.nin (J6.1.dig C1.1) (Ar I6.1 ω)) (RV.In.nin (RV.In.mono (RF.1.dig G6.1.dig0) ω)) ω) ?_;intro K5 G5 F1;go_upto_if 33 with fail
  go_cut [] (fun wx=>∃(A0:RV) (A4:Rat),(A4=if e.p<f then f else e.p)/\(A0.In L wx A4)/\(Nm.rl A4<=L)/\Hp w wx [.blk X1 31 (rc rf),.blk X6 31 (rc rt),.blk E5 31 [.bool false,.slice none 0 0,.bool false,.slice none 0 0],.blk A6 31 (rc rs),.row 73 8 (.slice (π gm) es.length cm) (es.length) (List.flatMap Bu.cells es),.blk C3 31 (rc A0),.blk B9 31 (rc e.b)]/\Af K5 wx)
  case first=>
   by_cases cj:e.p<f
   ·rw[Ay cj]
    go_upto_region 8 with fail;apply wl;refine Ds G5.1 _ ?_;apply Ck 5 (rc rf) G5.1;intro O5 G4 N4;go_wp2_with fail;go_meet
    exact⟨rf,f,(if_pos cj).symm,(RF.1.dig G4.1.dig0),(show Nm.rl f<=L from by have h:=(RF.1.dig G4.1.dig0).rl;omega),G4.1,N4.1⟩
   rw[Al cj];have H5:=tD C1 F1;go_wp2_with fail
   go_meet
   exact⟨e.a,e.p,(if_neg cj).symm,(RV.Is.isIn (J6.1.dig H5.1) I6.1),I6.1,G5.1,(Af.refl _)⟩
  obtain⟨A0,A4,B1,A9,B3,B7,B8⟩:=hcut;generalize wc=O4 at*;have J7:=zH B1;clear B1;have F7:=zH A9;clear A9;have N9:=zH B3;clear B3;have E8:=zH B7;have H7:=zH B8;clear B7 B8;go_upto_region 9 with fail
  apply wl;refine zd X6 (0) (rc rt) (E8.1.range (i:=1) rR 0 4) underlying31 ?_;refine zd B9 (0) (rc e.b) (E8.1.range (i:=6) rR 0 4) underlying31 ?_;have A8:=tD (tD C1 F1) H7;refine aC E8.1 (Dl 60000 _ _ t e.q _ (RV.In.nin (RV.In.mono (RT.1.dig E8.1.dig0) ω)) (RV.Is.nin (J5.1.dig A8.1) (Ar I5.1 ω)) ω) ?_;intro K4 G3 C2;go_upto_if 37 with fail
  go_cut [] (fun wx=>∃(A1:RV) (A5:Rat),(A5=if t<e.q then t else e.q)/\(A1.In L wx A5)/\(Nm.rl A5<=L)/\Hp w wx [.blk X1 31 (rc rf),.blk X6 31 (rc rt),.blk E5 31 [.bool false,.slice none 0 0,.bool false,.slice none 0 0],.blk A6 31 (rc rs),.row 73 8 (.slice (π gm) es.length cm) (es.length) (List.flatMap Bu.cells es),.blk C3 31 (rc A0),.blk B9 31 (rc A1)]/\Af K4 wx)
  case first=>
   by_cases cj:t<e.q
   ·rw[Ay cj]
    go_upto_region 10 with fail;apply wl;refine zd X6 (0) (rc rt) (G3.1.range (i:=1) rR 0 4) underlying31 ?_;apply Ck 6 (rc rt) G3.1;intro O3 G2 N3;go_wp2_with fail;go_meet
    exact⟨rt,t,(if_pos cj).symm,(RT.1.dig G2.1.dig0),(show Nm.rl t<=L from by have h:=(RT.1.dig G2.1.dig0).rl;omega),G2.1,N3.1⟩
   rw[Al cj];have H4:=tD A8 C2;go_wp2_with fail
   go_meet
   exact⟨e.b,e.q,(if_neg cj).symm,(RV.Is.isIn (J5.1.dig H4.1) I5.1),I5.1,G3.1,(Af.refl _)⟩
  obtain⟨A1,A5,B2,B0,B4,B7,B8⟩:=hcut;generalize wc=O2 at*;have J8:=zH B2;clear B2;have F8:=zH B0;clear B0;have O0:=zH B4;clear B4;have C4:=zH B7;have C5:=zH B8;clear B7 B8;rcases Cm (A4<A5)with CL|CL
  ·go_upto_region 11 with fail
   apply wl;refine zd C3 (0) (rc A0) (C4.1.range (i:=5) rR 0 4) underlying31 ?_;refine zd B9 (0) (rc A1) (C4.1.range (i:=6) rR 0 4) underlying31 ?_;have D6:=tD C2 C5;refine zc (Dl 60000 _ _ A4 A5 _ (RV.In.nin (RV.In.mono (F7.1.dig D6.1) ω)) (RV.In.nin (RV.In.mono F8.1 ω)) ω) ?_;rintro e A3 ⟨rfl,hx⟩;have C0:=zH (C4.1.step hx);have F0:=zH (Af.of_ext hx);clear hx;refine⟨.bool true,by rw[Ay CL.1],?_⟩;try simp only[ζ]
   go_upto_region 12 with fail;refine wp_region_held_drew (S:=fun x=>Fr (fun kz=>kz=A6) A3 x) kR (Fr.of_ext zb) (fun _=> ?_);have M4:=zH (C0.1.step (Aa.refl A3).drew);have E9:=zH (Af.of_ext (w:=A3) zb);refine mR 1 (bs 6 2) B9 (0) (rc A1) (fun x hx=>Fr.range hx (show World.rangeAt A3 B9 (0) (rc A1)from(C0.1.range (i:=6) rR 0 4)) (C0.1.offBlk (i:=6) (j:=3) rR rR dC rR)) underlying31 (Fr.of_ext zb) ?_;refine zr 2 (bs 6 6) C3 (0) (rc A0) (fun x hx=>Fr.range hx (show World.rangeAt A3 C3 (0) (rc A0)from(C0.1.range (i:=5) rR 0 4)) (C0.1.offBlk (i:=5) (j:=3) rR rR dC rR)) underlying31 (Fr.of_ext zb) ?_;refine Fd.go (j:=0) (dj:=some 42) (u:= (rg rs)) ?_;have H2:=tD F0 E9;have H1:=tD (tD D6 F0) E9;refine Kh (b:=A3) (i:=3) (lj:=(bs 6 7)) (li:=(bs 6 14)) rR rR kR kR kR kR kR dC kR rR rR (fun x_ h_=>Fr.of_ext h_) (Aa.refl A3).drew (fun x_ h_=>Kn _ _ rR A6 (0) (rc rs) rR (Be (show World.rangeAt A3 A6 (0) (rc rs)from C0.1.range (i:=3) rR 0 4) h_) underlying31 rR kR) rR (by go_simp) kR (aY (L:=60000) (RV.In.nin (RV.In.mono (F8.1.dig H2.1) ω)) (RV.In.nin (RV.In.mono (F7.1.dig H1.1) ω)) ω) ?_;rintro e F2 ⟨c_,rfl,D0,hx⟩;have M3:=zH (M4.1.step hx);have K2:=zH (show Af A3.drew F2 from Af.of_ext hx);have F5:=zH (show Aa A3 F2 from(Aa.refl A3).drew.trans hx);have D2:=zH (show Fr (fun kz=>kz=A6) A3 F2 from(Fr.of_ext zb).trans (Fr.of_ext hx));obtain⟨P2,rfl,B6⟩:=D0;have L8:=zH B6;clear B6;have K3:=zH (show Nm.rl (A5-A4)<=L+L+1 from by have h1:=O0.1;have h2:=N9.1;have h3:=Nm.rl_sub A5 A4;omega);have J0:=hx;clear hx;refine⟨_,rfl,J0,?_⟩;try simp only[ζ]
   clear J0;refine Sf rR kR rR rR D2.1 (Kn _ _ rR A6 (0) (rc rs) rR (Be (show World.rangeAt A3 A6 (0) (rc rs)from C0.1.range (i:=3) rR 0 4) F5.1) underlying31 rR kR) (show _=(bs 6 15)by kernel_rfl) ?_;try simp only[ζ]
   have E1:=tD (tD (tD (tD (tD (tD (tD (tD (tD (tD I2 I1) I0) H9) F1) H7) C2) C5) F0) E9) K2;refine mC 4 (bs 6 31) (Mu (L:=60000) (RV.Is.nin (RS.1.dig E1.1) (Ar BS.1 ω)) (RV.Is.nin L8.1 (Ar K3.1 ω)) ω) ?_;rintro e K9 ⟨c_,rfl,D0,hx⟩;have G9:=zH (M3.1.step hx);have I4:=zH (Af.of_ext hx);have D1:=zH (D2.1.trans (Fr.of_ext hx));obtain⟨A2,rfl,B6⟩:=D0;have F9:=zH B6;clear B6;have I7:=zH (show Nm.rl ((Fe f t ((es.map Bu.vl).take k))+(A5-A4))<=(2+KP)+(L+L+1)+1 from by have h1:=BS.1;have h2:=K3.1;have h3:=Nm.rl_add (Fe f t ((es.map Bu.vl).take k)) (A5-A4);omega);clear hx;apply zm D1.1;refine Dz (i:=5) (listed':=(bs 6 63)) rR kR rR kR _ _ _ rR G9.1 (ix:=3) rR 0 (rc A2) rR rR (by simp) kR (by simp[Value.oneCell']) (by simp[Aq]) ?_;intro K8 hh hd ho;have G8:=hN hh;have E3:=zH (hd);have F6:=zH (Fr.trans_new D1.1 ho (fun j hj=> .inl (by simpa using hj.symm)));clear hh hd ho;refine⟨F6.1,?_⟩
   (try simp only[Act.put])
   refine wpAnyH_done kR ?_ _;have D3:=zH ((Lx (p:=e.p) (q:=e.q) (a:=A4) (b:=A5) J7.1 J8.1).trans (if_pos CL.1));have E0:=tD (tD (tD (tD (tD (tD (tD A8 C2) C5) F0) E9) K2) I4) E3;go_wp2_with fail
   go_roundg (es.length-(k+1))
   case measure=>exact(by have L1:=HLT.1;omega)
   case rel=>exact⟨k+1,A2,rfl,(by go_num),HLT.1,(by rw[E6.1,D3.1];exact(F9.1.dig E3.1)),(by rw[E6.1,D3.1,J9.1];exact Ar I7.1 ω),G8.1.take 5,E0.1⟩
  go_upto_region 11 with fail;apply wl;refine zd C3 (0) (rc A0) (C4.1.range (i:=5) rR 0 4) underlying31 ?_;refine zd B9 (0) (rc A1) (C4.1.range (i:=6) rR 0 4) underlying31 ?_;have D9:=tD C2 C5;refine zc (Dl 60000 _ _ A4 A5 _ (RV.In.nin (RV.In.mono (F7.1.dig D9.1) ω)) (RV.In.nin (RV.In.mono F8.1 ω)) ω) ?_;rintro e K7 ⟨rfl,hx⟩;have G7:=zH (C4.1.step hx);have E2:=zH (Af.of_ext hx);clear hx;refine⟨.bool false,by rw[Al CL.1],?_⟩;try simp only[ζ]
  have D3:=zH ((Lx (p:=e.p) (q:=e.q) (a:=A4) (b:=A5) J7.1 J8.1).trans (if_neg CL.1));have D8:=tD (tD (tD (tD (tD (tD (tD (tD I2 I1) I0) H9) F1) H7) C2) C5) E2;have D7:=tD (tD (tD A8 C2) C5) E2;go_wp2_with fail
  go_roundg (es.length-(k+1))
  case measure=>exact(by have L1:=HLT.1;omega)
  case rel=>exact⟨k+1,rs,rfl,(by go_num),HLT.1,(by rw[E6.1,D3.1,Rat.add_zero];exact(RS.1.dig D8.1)),(by rw[E6.1,D3.1,J9.1,Rat.add_zero];exact Ar BS.1 (by have:=M1.1;omega)),G7.1.take 5,D7.1⟩
 obtain rfl:k=es.length:=by have:=HK.1;have:=HLT.1;omega
 have P3:¬(es.length:Int)<(es.length:Int):=ω;have HR:=zH (show Fe f t ((es.map Bu.vl).take es.length)=Fe f t (Ee ps)by rw[uI (by simp),G0.1]);go_upto_region 13 with fail;apply wl;refine zd A6 (0) (rc rs) (D4.1.range (i:=3) rR 0 4) underlying31 ?_;apply Ck 2 (rc rs) D4.1;intro K6 D5 I3;go_wp2_with fail;refine bodyPost_ret (v:= (rg rs)) ?_ rfl ⟨rs,rfl,by rw[<-HR.1];exact(RS.1.dig I3.1),by rw[<-HR.1];exact Ar BS.1 (by have:=Nat.mul_le_mul (show es.length<=60 by omega) (show 2*L+2<=802 by omega);omega),D5.1.ext⟩;exact By rfl rfl ((D5.1.blk (i:=2) rR).loadVar rfl rfl rR)
theorem Zb (L:Nat)(u:Value)(ps:List QQ)(rf rt:RV)(f t:Rat)(w:World)(hu:Hh L w u ps)(hf:rf.In L w f)(ht:rt.In L w t)(h1L:1<=L)(hL:L<=20000)(hn:ps.length<=1200)(hLn:ps.length*(2*L+2)<=50400):
  Calls prog 22 #[u,(rg rf),(rg rt)] w fun e w'=>∃r:RV,e= .returned (rg r)/\r.Is w' (Fe f t (Ee ps))/\Nm.rl (Fe f t (Ee ps))<=60000/\Aa w w':=by
 have HU:=zH hu;have RF:=zH hf;have RT:=zH ht;clear hu hf ht;go_enter func22,ntmps22
 have H0:=zH (Hp.start w);go_upto_region 0 with fail;apply wl;apply Cl 31 (rc rf) H0.1;intro E6 N8 K1 _;apply Cl 31 (rc rt) K1.1;intro E5 N7 K0 _;refine Cl 31 rz K0.1 ?_;intro E4 N6 J9 _;go_upto_region 1 with fail;apply wl;refine zc (Fc 0 _ ω ω) ?_;rintro e N5 ⟨c_,rfl,B6,hx⟩;have J8:=zH (J9.1.step hx);obtain⟨D0,rfl,B0⟩:=B6;have I7:=zH B0;have L1:=zH (Bm 0 ω ω);clear B0 hx;refine zn ?_;refine Cl 31 rz J8.1 ?_;intro A4 N4 J7 K9;apply Ck 3 (rc D0) J7.1;intro N3 F7 K8;go_upto_region 2 with fail
 apply wl;refine Ds Ai _ ?_;go_upto_region 3 with fail;apply wl;refine qV (u) ?_;refine zc (Up L u ps _ (HU.1.ext F7.1.ext) h1L ω ω) ?_;rintro e D8 ⟨v_,es,rfl,B8,C5,E2,hx⟩;have I8:=zH C5;have O9:=zH E2;have O7:=zH B8.2;obtain⟨Am,cm,rfl,L8⟩:=Bh.form B8.1;have HA:=zH L8;clear C5 E2 L8;have F6:=zH (show Hp w D8 [.blk E6 31 (rc rf),.blk E5 31 (rc rt),.blk E4 31 rz,.blk A4 31 (rc D0),ro 73 8 Am es.length cm Bu.cells es]from F7.1.addRow hx B8.1);have K7:=zH (Af.of_ext hx);clear B8 hx;refine zn ?_;refine Bw Ai (iV ((es.length:Nat):Int)) _ ?_;have O2:es.length<=ps.length:=by have:=O9.1;omega
 have G6:=tD (tD K9 K8) K7;go_wp2_with fail;go_loopg [17] (es.length) (fun cq H8 wr=>∃(k:Nat) (rs:RV),cq=es.length-k/\H8= iV (k:Int)/\(k<=es.length)/\(rs.Is wr (Fe f t ((es.map Bu.vl).take k)))/\(Nm.rl (Fe f t ((es.map Bu.vl).take k))<=2+k*(2*L+2))/\Hp w wr [.blk E6 31 (rc rf),.blk E5 31 (rc rt),.blk E4 31 [.bool false,.slice none 0 0,.bool false,.slice none 0 0],.blk A4 31 (rc rs),.row 73 8 (.slice Am es.length cm) (es.length) (List.flatMap Bu.cells es)]/\Af D8 wr)
 case atStart=>exact⟨0,D0,rfl,rfl,uL _,(by have h:=(I7.1.dig G6.1);simpa[Fe]using h),(by have h:=L1.1;simpa[Fe]using h),F6.1,Af.refl _⟩
 obtain⟨k,rs,rfl,rfl,E0,D9,E1,L4,L7⟩:=hrel;generalize wr=N2 at*;have HK:=zH E0;clear E0;have RS:=zH D9;clear D9;have BS:=zH E1;clear E1;have C2:=zH L4;have K6:=zH L7;clear L4 L7 F6;rcases Cm (k<es.length)with HLT|HLT
 ·have L3:=HLT.1
  have O1:(k:Int)<(es.length:Int):=ω;obtain⟨gm,rfl⟩:=HA.1 ω;have P1:k*(2*L+2)<=50400:=Ar (uZ _ (show k<=ps.length by omega)) hLn;have O3:(k+1)*(2*L+2)=k*(2*L+2)+(2*L+2):=by rw[vI,Nat.one_mul]
  generalize hkq:(k+1)*(2*L+2)=KQ at*;generalize hkq2:k*(2*L+2)=KP at*;obtain⟨e,H9⟩:∃e,es[k]?=some e:=⟨_,uB L3⟩;have M0:=zH H9;have H5:=zH (O7.1 e (uD H9));have O6:=zH H5.1.1;have O5:=zH H5.1.2.1;have M2:=zH H5.1.2.2.1;have M1:=zH H5.1.2.2.2;clear H9;have H4:=zH (Uw (f:=f) (t:=t) M0.1);have L9:=zH hkq;have O8:=zH hkq2;clear hkq hkq2 L3;go_upto_region 5 with fail
  apply wl;apply zp (.pointer (some ⟨gm,k*8,none⟩)) (by exact Eo (k:=k) underlying50 (l:=HLT.1) (f:=(uF _).symm));refine zd gm (k*8) [.bool e.a.n,.slice e.a.p e.a.l e.a.c,.bool e.a.m,.slice e.a.p2 e.a.l2 e.a.c2,.bool e.b.n,.slice e.b.p e.b.l e.b.c,.bool e.b.m,.slice e.b.p2 e.b.l2 e.b.c2] (C2.1.elem (f:=Bu.cells) (i:=4) rR Bu.len M0.1) underlying73 ?_;apply Cl 73 [.bool false,.slice none 0 0,.bool false,.slice none 0 0,.bool false,.slice none 0 0,.bool false,.slice none 0 0] C2.1;intro E3 N1 J6 D7;apply Ck 5 [.bool e.a.n,.slice e.a.p e.a.l e.a.c,.bool e.a.m,.slice e.a.p2 e.a.l2 e.a.c2,.bool e.b.n,.slice e.b.p e.b.l e.b.c,.bool e.b.m,.slice e.b.p2 e.b.l2 e.b.c2] J6.1;intro A8 B1 D6;go_upto_region 6 with fail;refine zy ?_;have F5:=zH (B1.1.step (Aa.refl A8).drew);have D5:=zH (Af.of_ext (w:=A8) zb);refine Jl Ai zb (bs 14 3) 0 1 _ _ ?_;refine zg 2 (bs 14 7) E3 (0) (rc e.a) (B1.1.range (i:=5) rR 0 4) underlying31 zb ?_;refine Qk B1.1 zb (bs 14 111) 3 5 6 _ _ _ ?_;refine zg 7 (bs 14 239) E3 (4) (rc e.b) (B1.1.range (i:=5) rR 4 4) underlying31 zb ?_;refine Ta B1.1 zb (bs 14 495) 8 _ ?_;refine FN.go2 (j1:=⟨10,some 11,31,[.bool false,.slice none 0 0,.bool false,.slice none 0 0]⟩) (j2:=⟨11,some 12,31,[.bool false,.slice none 0 0,.bool false,.slice none 0 0]⟩) (b:=A8) ?_ zb;have C8:=tD (tD (tD K6 D7) D6) D5;refine gN 4 (bs 14 511) (fk (fk trivial)) zb.size (fun xq B5=>gH 60000 _ _ e.p f _ (RV.Is.nin (O6.1.dig (C8.1.trans (Af.of_ext B5))) (Ar M2.1 ω)) (RV.In.nin (RV.In.mono (RF.1.dig (F5.1.dig0.trans (Af.of_ext B5))) ω)) ω) (by rintro x_ e M3 ⟨c_,rfl,B6,hx⟩;exact hx) ?_;rintro xq e H7 B5 ⟨c_,rfl,B6,hx⟩;replace hx:=B5.trans hx;clear B5;have D3:=zH (F5.1.step hx);have D4:=zH (show Af A8.drew H7 from Af.of_ext hx);have E9:=zH (zb.trans hx);obtain⟨A1,rfl,B0⟩:=B6;have C0:=zH B0;have H3:=zH (show Nm.rl (if e.p<f then f else e.p)<=L from by have h1:=M2.1;have h2:=(show Nm.rl f<=L from by have h:=(RF.1.dig D3.1.dig0).rl;omega);split<;>omega);clear B0;generalize hq_:(if e.p<f then f else e.p)=B4 at C0 H3⊢
  have F1:=zH hq_;clear hq_ hx;refine⟨_,rfl,?_⟩;try simp only[ζ]
  have B7:=tD C8 D4;refine gN 9 (bs 14 1023) (fk (fk trivial)) E9.1.size (fun xq B5=>bH 60000 _ _ e.q t _ (RV.Is.nin (O5.1.dig (B7.1.trans (Af.of_ext B5))) (Ar M1.1 ω)) (RV.In.nin (RV.In.mono (RT.1.dig (D3.1.dig0.trans (Af.of_ext B5))) ω)) ω) (by rintro x_ e M3 ⟨c_,rfl,B6,hx⟩;exact hx) ?_;rintro xq e N0 B5 ⟨c_,rfl,B6,hx⟩;replace hx:=B5.trans hx;clear B5;have F4:=zH (D3.1.step hx);have B2:=zH (Af.of_ext hx);have I4:=zH (E9.1.trans hx);obtain⟨A0,rfl,B0⟩:=B6;have B9:=zH B0;have H2:=zH (show Nm.rl (if t<e.q then t else e.q)<=L from by have h1:=M1.1;have h2:=(show Nm.rl t<=L from by have h:=(RT.1.dig F4.1.dig0).rl;omega);split<;>omega);clear B0;generalize hq_:(if t<e.q then t else e.q)=B3 at B9 H2⊢
  have F0:=zH hq_;clear hq_ hx;refine⟨_,rfl,?_⟩;try simp only[ζ]
  refine nW (bs 14 4095) (fk (fk trivial)) I4.1.size B1.1 F4.1 ?_;intro D2 D1 H6 hx hh L6 L5 hs;have J5:=hN hh;have A7:=zH (Af.of_ext hx);have I3:=zH (show Aa A8 H6 from hs);have K3:=zH (show A8.heap.size<=D2 from L6);have K2:=zH (show A8.heap.size<=D1 from L5);clear hh hx hs L6 L5;try simp only[ζ]
  refine bS 6 12 (bs 14 8191) (rc A1) J5.1 I3.1 K3.1 ?_;intro M9 J4 A6 I2;refine bS 7 13 (bs 14 16383) (rc A0) J4.1 I2.1 K2.1 ?_;intro M8 C1 A5 O4;refine wpAnyH_done kR ?_ _;rcases Cm (B4<B3)with CL|CL
  ·go_upto_region 7 with fail
   apply wl;refine Bw C1.1 _ _ ?_;have C7:=tD (tD (tD B2 A7) A6) A5;have C6:=tD (tD A7 A6) A5;refine aC C1.1 (Hv (L:=60000) (RV.In.nin (RV.In.mono (C0.1.dig C7.1) ω)) (RV.In.nin (RV.In.mono (B9.1.dig C6.1) ω)) ω) ?_;intro A2 A9 C4;apply zp τ (by exact Dw (e:=(Ay (rcmp_lt.2 CL.1))));go_upto_region 8 with fail
   refine wp_region_held_drew (S:=fun x=>Fr (fun kz=>kz=A4) A2 x) kR (Fr.of_ext zb) (fun _=> ?_);have J3:=zH (A9.1.step (Aa.refl A2).drew);have C3:=zH (Af.of_ext (w:=A2) zb);refine mR 1 (bs 6 2) D1 (0) (rc A0) (fun x hx=>Fr.range hx (show World.rangeAt A2 D1 (0) (rc A0)from(A9.1.range (i:=7) rR 0 4)) (A9.1.offBlk (i:=7) (j:=3) rR rR dC rR)) underlying31 (Fr.of_ext zb) ?_;refine zr 2 (bs 6 6) D2 (0) (rc A1) (fun x hx=>Fr.range hx (show World.rangeAt A2 D2 (0) (rc A1)from(A9.1.range (i:=6) rR 0 4)) (A9.1.offBlk (i:=6) (j:=3) rR rR dC rR)) underlying31 (Fr.of_ext zb) ?_;refine Fd.go (j:=0) (dj:=some 35) (u:= (rg rs)) ?_;have G5:=tD (tD C6 C4) C3;have G4:=tD (tD C7 C4) C3;refine Kh (b:=A2) (i:=3) (lj:=(bs 6 7)) (li:=(bs 6 14)) rR rR kR kR kR kR kR dC kR rR rR (fun x_ h_=>Fr.of_ext h_) (Aa.refl A2).drew (fun x_ h_=>Kn _ _ rR A4 (0) (rc rs) rR (Be (show World.rangeAt A2 A4 (0) (rc rs)from A9.1.range (i:=3) rR 0 4) h_) underlying31 rR kR) rR (by go_simp) kR (qF (L:=60000) (RV.In.nin (RV.In.mono (B9.1.dig G5.1) ω)) (RV.In.nin (RV.In.mono (C0.1.dig G4.1) ω)) ω) ?_;rintro e C9 ⟨c_,rfl,B6,hx⟩;have J2:=zH (J3.1.step hx);have G9:=zH (show Af A2.drew C9 from Af.of_ext hx);have I0:=zH (show Aa A2 C9 from(Aa.refl A2).drew.trans hx);have E8:=zH (show Fr (fun kz=>kz=A4) A2 C9 from(Fr.of_ext zb).trans (Fr.of_ext hx));obtain⟨N9,rfl,B0⟩:=B6;have I6:=zH B0;clear B0;have H1:=zH (show Nm.rl (B3-B4)<=L+L+1 from by have h1:=H2.1;have h2:=H3.1;have h3:=Nm.rl_sub B3 B4;omega);have L2:=hx;clear hx;refine⟨_,rfl,L2,?_⟩;try simp only[ζ]
   clear L2;refine Sf rR kR rR rR E8.1 (Kn _ _ rR A4 (0) (rc rs) rR (Be (show World.rangeAt A2 A4 (0) (rc rs)from A9.1.range (i:=3) rR 0 4) I0.1) underlying31 rR kR) (show _=(bs 6 15)by kernel_rfl) ?_;try simp only[ζ]
   have G3:=tD (tD (tD (tD (tD (tD (tD (tD (tD (tD D7 D6) D5) D4) B2) A7) A6) A5) C4) C3) G9;refine mC 4 (bs 6 31) (qH (L:=60000) (RV.Is.nin (RS.1.dig G3.1) (Ar BS.1 ω)) (RV.Is.nin I6.1 (Ar H1.1 ω)) ω) ?_;rintro e M7 ⟨c_,rfl,B6,hx⟩;have J1:=zH (J2.1.step hx);have K5:=zH (Af.of_ext hx);have E7:=zH (E8.1.trans (Fr.of_ext hx));obtain⟨A3,rfl,B0⟩:=B6;have I5:=zH B0;clear B0;have L0:=zH (show Nm.rl ((Fe f t ((es.map Bu.vl).take k))+(B3-B4))<=(2+KP)+(L+L+1)+1 from by have h1:=BS.1;have h2:=H1.1;have h3:=Nm.rl_add (Fe f t ((es.map Bu.vl).take k)) (B3-B4);omega);clear hx;apply zm E7.1;refine Dz (i:=5) (listed':=(bs 6 63)) rR kR rR kR _ _ _ rR J1.1 (ix:=3) rR 0 (rc A3) rR rR (by simp) kR (by simp[Value.oneCell']) (by simp[Aq]) ?_;intro M6 hh hd ho;have J0:=hN hh;have G8:=zH (hd);have I1:=zH (Fr.trans_new E7.1 ho (fun j hj=> .inl (by simpa using hj.symm)));clear hh hd ho;refine⟨I1.1,?_⟩
   (try simp only[Act.put])
   refine wpAnyH_done kR ?_ _;have F2:=zH ((Lx (p:=e.p) (q:=e.q) (f:=f) (t:=t) F1.1.symm F0.1.symm).trans (if_pos CL.1));have G2:=tD (tD (tD (tD (tD (tD (tD (tD (tD B7 B2) A7) A6) A5) C4) C3) G9) K5) G8;go_wp2_with fail
   go_roundg (es.length-(k+1))
   case measure=>exact(by have O0:=HLT.1;omega)
   case rel=>exact⟨k+1,A3,rfl,(by go_num),HLT.1,(by rw[H4.1,F2.1];exact(I5.1.dig G8.1)),(by rw[H4.1,F2.1,L9.1];exact Ar L0.1 ω),J0.1.take 5,G2.1⟩
  go_upto_region 7 with fail;apply wl;refine Bw C1.1 _ _ ?_;have G1:=tD (tD (tD B2 A7) A6) A5;have G0:=tD (tD A7 A6) A5;refine aC C1.1 (Hv (L:=60000) (RV.In.nin (RV.In.mono (C0.1.dig G1.1) ω)) (RV.In.nin (RV.In.mono (B9.1.dig G0.1) ω)) ω) ?_;intro M5 I9 G7;apply zp φ (by exact Dw (e:=(Al (fun hh=>CL.1 (rcmp_lt.1 hh)))));have F2:=zH ((Lx (p:=e.p) (q:=e.q) (f:=f) (t:=t) F1.1.symm F0.1.symm).trans (if_neg CL.1));have F9:=tD (tD (tD (tD (tD (tD (tD (tD D7 D6) D5) D4) B2) A7) A6) A5) G7;have F8:=tD (tD (tD (tD (tD B7 B2) A7) A6) A5) G7;go_wp2_with fail
  go_roundg (es.length-(k+1))
  case measure=>exact(by have O0:=HLT.1;omega)
  case rel=>exact⟨k+1,rs,rfl,(by go_num),HLT.1,(by rw[H4.1,F2.1,Rat.add_zero];exact(RS.1.dig F9.1)),(by rw[H4.1,F2.1,L9.1,Rat.add_zero];exact Ar BS.1 (by have:=O8.1;omega)),I9.1.take 5,F8.1⟩
 obtain rfl:k=es.length:=by have:=HK.1;have:=HLT.1;omega
 have P0:¬(es.length:Int)<(es.length:Int):=ω;have HR:=zH (show Fe f t ((es.map Bu.vl).take es.length)=Fe f t (Ee ps)by rw[uI (by simp),I8.1]);go_upto_region 10 with fail;apply wl;refine zd A4 (0) (rc rs) (C2.1.range (i:=3) rR 0 4) underlying31 ?_;apply Ck 2 (rc rs) C2.1;intro M4 F3 K4;go_wp2_with fail;refine bodyPost_ret (v:= (rg rs)) ?_ rfl ⟨rs,rfl,by rw[<-HR.1];exact(RS.1.dig K4.1),by rw[<-HR.1];exact Ar BS.1 (by have:=Ar (uZ (2*L+2) (show es.length<=ps.length by omega)) hLn;omega),F3.1.ext⟩;exact By rfl rfl ((F3.1.blk (i:=2) rR).loadVar rfl rfl rR)
theorem qO (q r:Rat):(q+r)/2=Rat.divInt (q.num*r.den+r.num*q.den) ((q.den:Int)*r.den+(q.den:Int)*r.den):=by
 rw[Nm.add_eq,Rat.divInt_eq_div,Rat.divInt_eq_div,Rat.intCast_add (((q.den:Nat):Int)*r.den)];have hd:((((q.den:Nat):Int)*((r.den:Nat):Int):Int):Rat)≠0:=by
  have h:=Int.mul_ne_zero (a:=(q.den:Int)) (b:=(r.den:Int)) (by have:=q.den_nz;omega) (by have:=r.den_nz;omega);exact_mod_cast h
 generalize (((((q.den:Nat):Int)*((r.den:Nat):Int):Int)):Rat)=D at*;generalize ((q.num*r.den+r.num*q.den:Int):Rat)=A at*;rw[Rat.div_def,Rat.div_def,Rat.div_def];have h1:=Rat.inv_mul_cancel D hd;have h2:(2:Rat)⁻¹+(2:Rat)⁻¹=1:=by decide+kernel
 have h3:=Rat.inv_mul_cancel (D+D) (by grind);generalize D⁻¹=i at*;generalize (2:Rat)⁻¹=h at*;generalize (D+D)⁻¹=j at*;grind
theorem jI (n m n' m':Bool)(u v u' v':Value)(L:Nat)(q r:Rat)(w:World)(h:Dp L w n u m v q)(h':Dp L w n' u' m' v' r)(hL:L<=70000):
  Calls prog 24 #[.agg #[.bool n,u,.bool m,v],.agg #[.bool n',u',.bool m',v']] w (Fo ((q+r)/2) w):=by
 have A0:=Oe (L:=L+1) (q:=q) (r:=r) (by have:=h.rl;omega) (by have:=h'.rl;omega);obtain⟨p1,l1,c1,p2,l2,c2,rfl,rfl⟩:=h.form;obtain⟨p3,l3,c3,p4,l4,c4,rfl,rfl⟩:=h'.form;have hE:Aa w (((w.alloc (.cells #[.bool n,.slice p1 l1 c1,.bool m,.slice p2 l2 c2] 31)).alloc (.cells #[.bool n',.slice p3 l3 c3,.bool m',.slice p4 l4 c4] 31)).alloc (.cells z4 31)):=((Ad.alloc _).alloc _).alloc _;have HC:=zH (Mc n m n' m' _ _ _ _ L q r _ (h.ext hE) (h'.ext hE) hL);have HI:=zH (fun W n1 v1 n2 v2 (x:Bq W n1 v1 (q.num*r.den)) (y:Bq W n2 v2 (r.num*q.den))=>Oi n1 n2 v1 v2 (2*(L+1)) _ _ W (x.isIn A0.1) (y.isIn A0.2.1) ω);have HJ:=zH (fun W n1 v1 n2 v2 (x:Bq W n1 v1 ((q.den:Int)*r.den)) (y:Bq W n2 v2 ((q.den:Int)*r.den))=>Oi n1 n2 v1 v2 (2*(L+1)) _ _ W (x.isIn A0.2.2) (y.isIn A0.2.2) ω);have A3:=Ke _ _ _ A0.1 A0.2.1;have A5:=Ke _ _ _ A0.2.2 A0.2.2;have B2:(q.den:Int)*r.den+(q.den:Int)*r.den≠0:=by have h_:=Int.mul_ne_zero (a:=(q.den:Int)) (b:=(r.den:Int)) (by have:=q.den_nz;omega) (by have:=r.den_nz;omega);omega
 have B3:=zH (fun W n1 v1 n2 v2 (x:Bq W n1 v1 (q.num*r.den+r.num*q.den)) (y:Bq W n2 v2 ((q.den:Int)*r.den+(q.den:Int)*r.den))=>(show Calls prog 52 #[.agg #[.bool n1,v1],.agg #[.bool n2,v2]] W (Fo ((q+r)/2) W)by
  rw[qO];exact Im n1 n2 v1 v2 (2*(L+1)+1) _ _ W (x.isIn A3) (y.isIn A5) ω B2))
 have HG:=zH (Gs ((w.alloc (.cells #[.bool n,.slice p1 l1 c1,.bool m,.slice p2 l2 c2] 31)).alloc (.cells #[.bool n',.slice p3 l3 c3,.bool m',.slice p4 l4 c4] 31)));have B6:=zH (fun w1 n1 t1 n2 t2 u0 u1 u2 u3=>Dn (w:=(w.alloc (.cells #[.bool n,.slice p1 l1 c1,.bool m,.slice p2 l2 c2] 31)).alloc (.cells #[.bool n',.slice p3 l3 c3,.bool m',.slice p4 l4 c4] 31)) (w1:=w1) (n:=n1) (u:=t1) (m:=n2) (v:=t2) (q:=(q+r)/2) (u0:=u0) (u1:=u1) (u2:=u2) (u3:=u3));have HE:=zH hE;clear h h' hE A0 A3 A5 B2;go_enter func24,ntmps24
 go_wp2_with fail;refine HC.1.mono ?_;rintro e w1 ⟨n1,v1,n2,v2,n3,v3,rfl,i1,i2,i3,he⟩;obtain⟨f1,f2,f3,rfl⟩:=i1.form;obtain⟨f4,f5,f6,rfl⟩:=i2.form;obtain⟨f7,f8,f9,rfl⟩:=i3.form;have I1:=zH i1;have I2:=zH i2;have I3:=zH i3;clear i1 i2 i3;go_wp2_with fail
 have A9:=he.size;simp only[uG]at A9;obtain⟨wm,A1⟩:∃wm,wm=((w1.alloc (.cells #[.bool n1,.slice f1 f2 f3] 29)).alloc (.cells #[.bool n2,.slice f4 f5 f6] 29)).alloc (.cells #[.bool n3,.slice f7 f8 f9] 29):=⟨_,rfl⟩;rw[<-A1];have A2:Aa w1 wm:=by rw[A1];exact((Ad.alloc _).alloc _).alloc _
 have m0:Ak wm w1.heap.size 29 #[.bool n1,.slice f1 f2 f3]:=by rw[A1];exact((Ak.new w1 _ _).alloc _).alloc _
 have m1:Ak wm (w1.heap.size+1) 29 #[.bool n2,.slice f4 f5 f6]:=by rw[A1];exact(Ak.new_at _ _ (by simp) _ _).alloc _
 have m2:Ak wm (w1.heap.size+1+1) 29 #[.bool n3,.slice f7 f8 f9]:=by rw[A1];exact Ak.new_at _ _ (by simp) _ _
 have h1:=fun W (x:Aa wm W)=>HI.1 W _ _ _ _ (I1.1.ext (A2.trans x)) (I2.1.ext (A2.trans x))
 have h2:=fun W b t b' t' (y:Bq W b t (q.num*r.den+r.num*q.den)) (z:Bq W b' t' ((q.den:Int)*r.den+(q.den:Int)*r.den))=>B3.1 W _ _ _ _ y z
 have h3:=fun W (x:Aa wm W)=>HJ.1 W _ _ _ _ (I3.1.ext (A2.trans x)) (I3.1.ext (A2.trans x))
 have H3:=zH h3;have H1:=zH h1;have H2:=zH h2;have B4:=zH (he.trans A2);have gl:∀w',Aj (w.heap.size+1+1) wm w'->w'.cell? ⟨w1.heap.size,0,none⟩=some (.bool n1)/\w'.cell? ⟨w1.heap.size,1,none⟩=some (.slice f1 f2 f3)/\w'.cell? ⟨w1.heap.size+1,0,none⟩=some (.bool n2)/\w'.cell? ⟨w1.heap.size+1,1,none⟩=some (.slice f4 f5 f6)/\w'.cell? ⟨w1.heap.size+1+1,0,none⟩=some (.bool n3)/\w'.cell? ⟨w1.heap.size+1+1,1,none⟩=some (.slice f7 f8 f9):=fun w' x=>
  ⟨(m0.own x ω).cell 0,(m0.own x ω).cell 1,(m1.own x ω).cell 0,(m1.own x ω).cell 1,(m2.own x ω).cell 0,(m2.own x ω).cell 1⟩
 clear A1 A2 m0 m1 m2 h1 h2 h3 A9 HI HJ B3 I1 I2 I3;go_region_held3 (fun w'=>Aj (w.heap.size+1+1) wm w') (first|(with_reducible assumption)|(with_reducible exact Aj.drew (Aj.refl _ _))|(with_reducible (apply Aj.of_ext;assumption))|(with_reducible (refine Aj.set_at (Aj.set_at (Aj.set_at (Aj.set_at ?_ _ _ _) _ _ _) _ _ _) _ _ _;first|assumption|(apply Aj.of_ext;assumption))))
  (first|(go_at_call 53;((with_reducible refine(H1.1 _ (by first|assumption|exact Aa.drew Ad)).mono ?_));rintro e wx ⟨k1,r1,rfl,B1,A7⟩;obtain⟨g1,g2,g3,rfl⟩:=B1.form;have hx:Aa wm wx:=Aa.trans (by first|assumption|exact Aa.drew Ad) A7)|(go_at_call 53;((with_reducible refine(H3.1 _ (by first|assumption|exact Aa.drew Ad)).mono ?_));rintro e wz ⟨k2,r2,rfl,B0,A4⟩;obtain⟨g4,g5,g6,rfl⟩:=B0.form;have B5:Aa wm wz:=Aa.trans hx A4)|(go_at_call 52;((with_reducible refine(H2.1 _ _ _ _ _ (B1.ext A4) B0).mono ?_));rintro e wy ⟨b1,t1,b2,t2,rfl,hc,A6⟩;obtain⟨x1,y1,z1,x2,y2,z2,rfl,rfl⟩:=hc.form;have A8:Aa wm wy:=Aa.trans B5 A6;have gk:=HG.1 _ (B4.1.trans A8);simp only[uG]at gk))
 go_wp2_with fail;have st:=B6.1 _ _ _ _ _ (.bool b1) (.slice x1 y1 z1) (.bool b2) (.slice x2 y2 z2) (B4.1.trans A8) hc;simp only[uG]at st;refine bodyPost_ret (v:= .agg #[.bool b1,.slice x1 y1 z1,.bool b2,.slice x2 y2 z2]) ?_ rfl ⟨_,_,_,_,rfl,st.1,((Ad.alloc _).alloc _).trans st.2⟩;simp[results,results24,go_sem, *]
theorem tF {L:Nat}{w:World}{cs ct:Array Value}{q r:Rat}(hp:Eg L w cs q)(hq:Eg L w ct r)(hL:L<=70000):
    Calls prog 24 #[.agg cs,.agg ct] w fun e w'=>∃c,e= .returned (.agg c)/\Nk w' c ((q+r)/2)/\Aa w w':=by
  obtain⟨a,rfl,h1⟩:=hp;obtain⟨b,rfl,h2⟩:=hq;refine(jI _ _ _ _ _ _ _ _ L q r w h1 h2 hL).mono fun e w' h=> ?_
  obtain⟨c,rfl,h3,h4⟩:=Fo.v h;exact⟨_,rfl,⟨c,rfl,h3⟩,h4⟩
theorem Hp.pickL {w0 w:World}{m:List Dk}(h:Hp w0 w m)(is:List Nat)(hn:is.Nodup)(es:List Dk)(he:is.map (fun i=>m[i]?)=es.map some):Hp w0 w es:=by
 have A0:∀(k:Nat) (e:Dk),es[k]?=some e->∃i,is[k]?=some i/\m[i]?=some e:=by
  intro k e hk;have h1:=congrArg (fun l=>l[k]?) he;simp only[vH,hk,Option.map_some]at h1;cases h2:is[k]?with
  |none=>rw[h2]at h1;simp at h1
  |some i=>rw[h2]at h1;simp at h1;exact⟨i,rfl,h1⟩
 refine⟨h.ext,fun k e hk=> ?_,fun i j e f hi hj hij=> ?_⟩
 ·obtain⟨i,_,h2⟩:=A0 k e hk
  exact h.all i e h2
 obtain⟨a,ha,h2⟩:=A0 i e hi;obtain⟨b,hb,h3⟩:=A0 j f hj;refine h.apart a b e f h2 h3 fun hab=>hij ?_
 subst hab;exact(List.getElem?_inj (List.getElem?_eq_some_iff.1 ha).1 hn).1 (ha.trans hb.symm)
theorem Hp.callO {w0 w w':World}{m:List Dk}{ir:Nat}{f f':Dk}{G:Nat->Prop}(h:Hp w0 w m)(hr:m[ir]?=some f)(x:Fr G w w')(hG:∀k,G k->f.own=some k)(h2:Hp w0 w' [f'])
  (hf:f'.own=f.own):Hp w0 w' (m.set ir f'):=by
 have A2:ir<m.length:=(List.getElem?_eq_some_iff.1 hr).1;have A0:∀(j:Nat) (y:Dk),(m.set ir f')[j]?=some y->(j=ir/\y=f')\/(j≠ir/\m[j]?=some y):=by
  intro j y hj;rw[List.getElem?_set]at hj;by_cases h1:ir=j
  ·rw[if_pos h1,if_pos (h1▸A2)]at hj
   injection hj with hj
   exact .inl ⟨h1.symm,hj.symm⟩
  rw[if_neg h1]at hj;exact .inr ⟨fun e=>h1 e.symm,hj⟩
 have A1:∀(j:Nat) (y:Dk),j≠ir->m[j]?=some y->y.Holds w0.heap.size w':=by
  intro j y hj hy;have hd:=h.apart j ir y f hy hr hj;exact Dk.Holds.fr (h.all j y hy) x (fun k hk hg=>hd k hk (hG k hg))
 refine⟨h2.ext,fun j y hj=> ?_,fun i j e g hi hj hij k hk hk2=> ?_⟩
 ·rcases A0 j y hj with⟨_,rfl⟩|⟨h1,h3⟩
  ·exact h2.all 0 _ rfl
  exact A1 j y h1 h3
 rcases A0 i e hi with⟨e1,rfl⟩|⟨e1,e3⟩<;>rcases A0 j g hj with⟨d1,rfl⟩|⟨d1,d3⟩
 ·omega
 ·exact h.apart ir j f g hr d3 (Ne.symm d1) k (hf▸hk) hk2
 ·exact h.apart i ir e f e3 hr e1 k hk (hf▸hk2)
 exact h.apart i j e g e3 d3 hij k hk hk2
theorem kK (u:Value)(rule:Int)(a b:Int×Int)(rs:List Ba)(es:List Bu)(y:Rat)(rf rt:RV)(w:World)(hu:Hh 60 w u (es.map Bu.vl))(he:es.map Bu.vl=Jd rule (Fm y rs))(hf:rf.In 60 w (((a.1:Int)):Rat))(ht:rt.In 60 w (((b.1:Int)):Rat))
  (hok:Hc rs=true)(ha:Dv a)(hb:Dv b)(h1:a.1<=b.1)(hs:Gk rs<=24)(hy:Nm.rl y<=52):
  Calls prog 22 #[u,(rg rf),(rg rt)] w fun e w'=>∃r:RV,e= .returned (rg r)/\r.Is w' (Jb rule a b rs y)/\Nm.rl (Jb rule a b rs y)<=90/\Aa w w':=by
 have hl:(es.map Bu.vl).length<=24:=by rw[he];exact Ts rule y hs
 refine(Zb 60 u _ rf rt _ _ w hu hf ht dC dC ω ω).mono ?_;rintro e w' ⟨r,rfl,h2,_,hx⟩;rw[he,dL]at h2;exact⟨r,rfl,h2,Ar (iJ hok ha hb h1 hs hy) (by decide),hx⟩
theorem Bh.capA {w:World}{b n c size:Nat}{T:TypeId}{A:Option Addr}{xs:List Value}(h:Bh w b T size (.slice A n c) n xs):n<=9223372036854775807:=by
  obtain⟨_,⟨_,h2⟩|⟨g,c',r,_,_,_,h3,h4,_⟩⟩:=h
  · omega
  unfold maxLen at h4;omega
def oU (_Bl _Br _Bf _Bt Bs:Nat)(_A:Option Addr)(_n _cap:Nat)(_rule:Int)(_rf _rt:RV)(q:Rat)(w0 w w':World):Prop:=
  ∃rvz:RV,rvz.Is w' q/\Nm.rl q<=60000/\Hp w0 w' [.blk Bs 31 (rc rvz)]/\Af w w'/\Fr (fun kz=>kz=Bs) w w'
theorem lJ (A:Option Addr)(cap:Nat)(rs:List Ba)(rule:Int)(a b:Int×Int)(lo hi q:Rat)(rl_ rh rf rt rq:RV)(Bl Br Bf Bt Bs:Nat)(w0 w:World)(hh:Hp w0 w [.blk Bl 22 [.slice A rs.length cap],.blk Br 3 [iV rule],.blk Bf 31 (rc rf),.blk Bt 31 (rc rt),.blk Bs 31 (rc rq)])
  (hu:Cn w0 (.slice A rs.length cap) rs)(hn:rs.length<=1048576)(hr:∀r,r∈rs->r.length<=1048576)(hru: -9223372036854775808<=rule/\rule<=9223372036854775807)(hok:Hc rs=true)(ha:Dv a)(hb:Dv b)(h1:a.1<=b.1)(hs:Gk rs<=24)
  (hlo:rl_.Is w lo)(hlol:Nm.rl lo<=24)(hhi:rh.Is w hi)(hhil:Nm.rl hi<=24)(hf:rf.Is w (((a.1:Int)):Rat))(ht:rt.Is w (((b.1:Int)):Rat))(hq:rq.Is w q)(hql:Nm.rl q<=50000):
  Calls prog 21 #[(rg rl_),(rg rh),.pointer (π Bl),.pointer (π Br),.pointer (π Bf),.pointer (π Bt),.pointer (π Bs)] w fun e w'=>
   e= .returned (.tuple #[])/\oU Bl Br Bf Bt Bs A rs.length cap rule rf rt (q+Jb rule a b rs ((lo+hi)/2)*(hi-lo)) w0 w w':=by
 have H0:=zH hh;have HU:=zH hu;have HN:=zH hn;have H7:=zH hr;clear hu hr;have H6:=zH hru;have C5:=zH hok;have C4:=zH ha;have C3:=zH hb;have C2:=zH hs;have RL:=zH hlo;have BL:=zH hlol;have RH:=zH hhi;have BH:=zH hhil;have RF:=zH hf;have RT:=zH ht;have RQ:=zH hq;have BQ:=zH hql;have BF:=zH (Bm a.1 (by have:=Bd C4.1;omega) (by have:=Bd C4.1;omega));have BT:=zH (Bm b.1 (by have:=Bd C3.1;omega) (by have:=Bd C3.1;omega));clear hh hru hok ha hb hs hlo hlol hhi hhil hf ht hq hql;go_enter func21,ntmps21
 go_upto_region 0 with fail;apply wl;apply aA 31 (rc rl_) H0.1;intro X1 w2 H4 hx B2;have D4:=zH (Af.of_ext hx);have K6:=zH (show Fr (fun kz=>kz=Bs) w w2 from(Fr.of_ext (G:=fun kz=>kz=Bs) (Aa.refl w)).trans (Fr.of_ext hx));clear hx B2;apply aA 31 (rc rh) H4.1;intro X8 w9 B6 hx B2;have J1:=zH (Af.of_ext hx);have D6:=zH (K6.1.trans (Fr.of_ext hx));clear hx B2;go_upto_region 1 with fail
 refine zy ?_;have C7:=zH (B6.1.step (Aa.refl w9).drew);have J0:=zH (Af.of_ext (w:=w9) zb);have H5:=zH (D6.1.trans (Fr.of_ext (Aa.refl w9).drew));refine Ta B6.1 zb (bs 11 1) 0 _ ?_;refine Db (g:=Br) (o:=0) (v:= iV rule) (i:=1) (listed':=(bs 11 3)) rR kR kR kR (by intro _ _ _ h;exact h) rR (fun x hx=>Aa.get hx (show World.cell? w9 ⟨Br,0,none⟩=some (iV rule)from Az (B6.1.range (i:=1) rR 0 1))) (by intro x hq;go_simp<;>with_reducible rfl) zb kR ?_;refine oW B6.1 zb (bs 11 207) 2 3 6 7 _ _ _ _ ?_;refine gG 9 (some 9) 31 rz w9 C7.1 ?_;have B1:=tD (tD D4 J1) J0;refine gL 4 (bs 11 719) (bs 11 223) zb.size C7.1 zb (fun xq A2=>tF (L:=60000) (RV.Is.nin (RL.1.dig (B1.1.trans (Af.of_ext A2))) (Ar BL.1 ω)) (RV.Is.nin (RH.1.dig (B1.1.trans (Af.of_ext A2))) (Ar BH.1 ω)) ω) (by rintro x_ e D0 ⟨c_,rfl,A6,hx⟩;exact hx) ?_;rintro xq e F0 A2 ⟨c_,rfl,A6,hx⟩;replace hx:=A2.trans hx;clear A2;have C6:=zH (C7.1.step hx);have I9:=zH (show Af w9.drew F0 from Af.of_ext hx);have H3:=zH (H5.1.trans (Fr.of_ext hx));have C1:=zH (zb.trans hx);obtain⟨F1,rfl,A3⟩:=A6;have G1:=zH A3;clear A3;have E7:=zH (show Nm.rl ((lo+hi)/2)<=2*24+3 from jJ BL.1 BH.1);clear hx;refine⟨_,rfl,?_⟩;try simp only[ζ]
 refine gL 5 (bs 11 735) (bs 11 255) C1.1.size C6.1 C1.1 (fun xq A2=>eN 52 (.slice A rs.length cap) rs rule F1 ((lo+hi)/2) _ (HU.1.ext (C6.1.step A2).ext) (RV.Is.isIn (G1.1.dig (Af.of_ext A2)) (Ar E7.1 dC)) dC dC HN.1 H7.1 H6.1) (by rintro x_ e D0 ⟨vs,es,rfl,A8,A7,B4,hx⟩;exact hx) ?_;rintro xq e J6 A2 ⟨vs,es,rfl,A8,A7,B4,hx⟩;replace hx:=A2.trans hx;clear A2;have D7:=zH (C6.1.step hx);have I8:=zH (Af.of_ext hx);have H2:=zH (H3.1.trans (Fr.of_ext hx));have C0:=zH (C1.1.trans hx);have SV:=zH (Gw.reads A8);have VL:=zH A7;clear A8 A7 B4 hx;refine⟨_,rfl,?_⟩;try simp only[ζ]
 have B0:=tD (tD B1 I9) I8;refine gL 8 (bs 11 767) (bs 11 511) C0.1.size D7.1 C0.1 (fun xq A2=>kK (vs) rule a b rs es ((lo+hi)/2) rf rt _ (SV.1.ext A2) VL.1 (RV.Is.isIn (RF.1.dig (B0.1.trans (Af.of_ext A2))) (Ar BF.1 dC)) (RV.Is.isIn (RT.1.dig (B0.1.trans (Af.of_ext A2))) (Ar BT.1 dC)) C5.1 C4.1 C3.1 h1 C2.1 (Ar E7.1 dC)) (by rintro x_ e D0 ⟨A0,rfl,A3,B8,hx⟩;exact hx) ?_;rintro xq e J5 A2 ⟨A0,rfl,A3,B8,hx⟩;replace hx:=A2.trans hx;clear A2;have I4:=zH (D7.1.step hx);have I7:=zH (Af.of_ext hx);have H1:=zH (H2.1.trans (Fr.of_ext hx));have D5:=zH (C0.1.trans hx);have G0:=zH A3;have E6:=zH B8;clear A3 B8 hx;refine⟨_,rfl,?_⟩;try simp only[ζ]
 refine gE (bs 11 1023) D5.1.size I4.1 D5.1 ?_;intro B9 E9 hx hh hs B2;have I3:=hN hh;have E3:=zH (Af.of_ext hx);have G9:=zH (H1.1.trans (Fr.of_ext hx));have F6:=zH (show Aa w9 E9 from hs);have D8:=zH (show w9.heap.size<=B9 from B2);have G2:=zH (Ar D6.1.size D8.1);clear hh hx B2 hs;try simp only[ζ]
 refine Dz (i:=10) (listed':=(bs 11 2047)) rR kR rR kR _ _ _ rR I3.1 (ix:=7) rR 0 (rc A0) rR rR (by simp) kR (by simp[Value.oneCell']) (by simp[Aq]) ?_;intro A1 hh hd ho;have A4:=hN hh;have E2:=zH (hd);have G8:=zH (G9.1.trans_new ho (fun j hj=> .inr (by injection hj with hj;rw[<-hj];exact G2.1)));have F5:=zH (Aj.ext ho F6.1 D8.1);clear hh hd ho;refine⟨F5.1,?_⟩
 (try simp only[Act.put])
 refine wpAnyH_done kR ?_ _;go_upto_region 2 with fail;refine wp_region_held_drew (S:=fun x=>Fr (fun kz=>kz=Bs) A1 x) kR (Fr.of_ext zb) (fun _=> ?_);have I2:=zH (A4.1.step (Aa.refl A1).drew);have E1:=zH (Af.of_ext (w:=A1) zb);have G7:=zH (G8.1.trans (Fr.of_ext (Aa.refl A1).drew));refine mR 1 (bs 8 2) B9 (0) (rc A0) (fun x hx=>Fr.range hx (show World.rangeAt A1 B9 (0) (rc A0)from(A4.1.range (i:=7) rR 0 4)) (A4.1.offBlk (i:=7) (j:=4) rR rR dC rR)) underlying31 (Fr.of_ext zb) ?_;refine mR 2 (bs 8 6) X8 (0) (rc rh) (fun x hx=>Fr.range hx (show World.rangeAt A1 X8 (0) (rc rh)from(A4.1.range (i:=6) rR 0 4)) (A4.1.offBlk (i:=6) (j:=4) rR rR dC rR)) underlying31 (Fr.of_ext zb) ?_;refine zr 3 (bs 8 14) X1 (0) (rc rl_) (fun x hx=>Fr.range hx (show World.rangeAt A1 X1 (0) (rc rl_)from(A4.1.range (i:=5) rR 0 4)) (A4.1.offBlk (i:=5) (j:=4) rR rR dC rR)) underlying31 (Fr.of_ext zb) ?_;refine Fd.go (j:=0) (dj:=some 19) (u:= (rg rq)) ?_;have A9:=tD (tD (tD (tD B0 I7) E3) E2) E1;refine Kh (b:=A1) (i:=4) (lj:=(bs 8 15)) (li:=(bs 8 30)) rR rR kR kR kR kR kR dC kR rR rR (fun x_ h_=>Fr.of_ext h_) (Aa.refl A1).drew (fun x_ h_=>Kn _ _ rR Bs (0) (rc rq) rR (Be (show World.rangeAt A1 Bs (0) (rc rq)from A4.1.range (i:=4) rR 0 4) h_) underlying31 rR kR) rR (by go_simp) kR (qF (L:=60000) (RV.Is.nin (RH.1.dig A9.1) (Ar BH.1 ω)) (RV.Is.nin (RL.1.dig A9.1) (Ar BL.1 ω)) ω) ?_;rintro e B7 ⟨c_,rfl,A6,hx⟩;have I1:=zH (I2.1.step hx);have E0:=zH (show Af A1.drew B7 from Af.of_ext hx);have G6:=zH (G7.1.trans (Fr.of_ext hx));have D1:=zH (show Aa A1 B7 from(Aa.refl A1).drew.trans hx);have F4:=zH (show Fr (fun kz=>kz=Bs) A1 B7 from(Fr.of_ext zb).trans (Fr.of_ext hx));obtain⟨J8,rfl,A3⟩:=A6;have F9:=zH A3;clear A3;have E5:=zH (show Nm.rl (hi-lo)<=24+24+1 from by have h1:=BH.1;have h2:=BL.1;have h3:=Nm.rl_sub hi lo;omega);have B3:=hx;clear hx;refine⟨_,rfl,B3,?_⟩;try simp only[ζ]
 clear B3;have C9:=tD (tD (tD E3 E2) E1) E0;refine Kh (b:=A1) (i:=5) (lj:=(bs 8 31)) (li:=(bs 8 62)) rR rR kR kR kR kR kR dC kR rR rR (fun x_ h_=>Fr.of_ext h_) D1.1 (fun x_ h_=>Kn _ _ rR Bs (0) (rc rq) rR (Be (show World.rangeAt A1 Bs (0) (rc rq)from A4.1.range (i:=4) rR 0 4) h_) underlying31 rR kR) rR (by go_simp) kR (qG (L:=60000) (RV.Is.nin (G0.1.dig C9.1) (Ar E6.1 ω)) (RV.Is.nin F9.1 (Ar E5.1 ω)) ω) ?_;rintro e E8 ⟨c_,rfl,A6,hx⟩;have I0:=zH (I1.1.step hx);have I6:=zH (Af.of_ext hx);have G5:=zH (G6.1.trans (Fr.of_ext hx));have F2:=zH (show Aa A1 E8 from D1.1.trans hx);have D3:=zH (F4.1.trans (Fr.of_ext hx));obtain⟨J7,rfl,A3⟩:=A6;have F8:=zH A3;clear A3;have E4:=zH (show Nm.rl ((Jb rule a b rs ((lo+hi)/2))*(hi-lo))<=90+(24+24+1)from by have h1:=E6.1;have h2:=E5.1;have h3:=Nm.rl_mul (Jb rule a b rs ((lo+hi)/2)) (hi-lo);omega);have B3:=hx;clear hx;refine⟨_,rfl,B3,?_⟩;try simp only[ζ]
 clear B3;refine Sf rR kR rR rR D3.1 (Kn _ _ rR Bs (0) (rc rq) rR (Be (show World.rangeAt A1 Bs (0) (rc rq)from A4.1.range (i:=4) rR 0 4) F2.1) underlying31 rR kR) (show _=(bs 8 63)by kernel_rfl) ?_;try simp only[ζ]
 have B5:=tD (tD A9 E0) I6;refine mC 6 (bs 8 127) (qH (L:=60000) (RV.Is.nin (RQ.1.dig B5.1) (Ar BQ.1 ω)) (RV.Is.nin F8.1 (Ar E4.1 ω)) ω) ?_;rintro e J4 ⟨c_,rfl,A6,hx⟩;have H9:=zH (I0.1.step hx);have I5:=zH (Af.of_ext hx);have G4:=zH (G5.1.trans (Fr.of_ext hx));have D2:=zH (D3.1.trans (Fr.of_ext hx));obtain⟨A5,rfl,A3⟩:=A6;have F7:=zH A3;clear A3;have J2:=zH (show Nm.rl (q+((Jb rule a b rs ((lo+hi)/2))*(hi-lo)))<=50000+(90+(24+24+1))+1 from by have h1:=BQ.1;have h2:=E4.1;have h3:=Nm.rl_add q ((Jb rule a b rs ((lo+hi)/2))*(hi-lo));omega);clear hx;apply zm D2.1;refine Dz (i:=7) (listed':=(bs 8 255)) rR kR rR kR _ _ _ rR H9.1 (ix:=4) rR 0 (rc A5) rR rR (by simp) kR (by simp[Value.oneCell']) (by simp[Aq]) ?_;intro J3 hh hd ho;have H8:=hN hh;have D9:=zH (hd);have G3:=zH (G4.1.trans_new ho (fun j hj=> .inl (by injection hj with hj;exact hj.symm)));have F3:=zH (Fr.trans_new D2.1 ho (fun j hj=> .inl (by simpa using hj.symm)));clear hh hd ho;refine⟨F3.1,?_⟩
 (try simp only[Act.put])
 refine wpAnyH_done kR ?_ _;go_wp2_with fail;first|refine bodyPost_end (v:= .tuple #[]) (results_none rfl _ _ _) rfl ?_|refine bodyPost_ret (v:= .tuple #[]) (results_none rfl _ _ _) rfl ?_
 have C8:=tD (tD B5 I5) D9;exact⟨rfl,A5,(F7.1.dig D9.1),Ar J2.1 (by decide),H8.1.pickL [4] (by decide) _ (by rfl),C8.1,G3.1⟩
end
end Go.Proofs.YthlfilomhgeheaaGreat
