import Derived.Shelf.Spec.SlicesGrow
import Derived.Test.YtlipfipniibpoacGreatM6
set_option maxRecDepth 100000
set_option maxHeartbeats 4000000
namespace Go.Proofs.YtlipfipniibpoacGreat
open Go.RowKit
section
attribute [local go_sem ↓] Go.wp_at_zero Go.wp_at_succ Aj Ai
theorem Vt (L:Nat)(u:Value)(ps:List QQ)(w:World)(hu:Nh L w u ps)(h1L:1<=L)(hL:L<=60000)(hn:ps.length<20):
  Calls Tryz.prog 148 #[u] w fun e w'=>∃v es,e= .returned v/\La L w' w.heap.size v es/\es.map Df.vl=Fm ps/\es.length<=ps.length/\Aa w w':=by
 obtain⟨A,cu,rfl,hA⟩:=hu;obtain⟨i0,hi,I1,I0,B8⟩:=info_parts vY;have K1:=zH h1L;have HI:=zH (And.intro hi (And.intro I1 (And.intro I0 B8)));have HA:=zH (fun(w':World) (x:Aa w w') (k:Nat) (p:QQ) (hp:ps[k]?=some p)=>(show∃g D2,A=some ⟨g,D2,none⟩/\∃cs:List Value,w'.rangeAt g (D2+k*8) cs/\Mj L w' cs.toArray p.1 p.2 by
  obtain⟨g,D2,h1,h2⟩:=hA (by have:=(List.getElem?_eq_some_iff.1 hp).1;omega);obtain⟨cs,h3,h4⟩:=h2 k p hp;exact⟨g,D2,h1,cs,Bu h3 x,h4.ext x⟩))
 clear hi I1 I0 B8 hA;go_enter Tryz.func148,Tryz.ntmps148
 go_wp2_with fail
 go_loopg [3,12] ps.length (fun c v i wr=>∃(k:Nat) (es:List Df) (v2:Value),k<=ps.length/\c=ps.length-k/\i= iV k/\v2=v/\La L wr w.heap.size v2 es/\es.map Df.vl=Kw (ps.take k)/\es.length<=k/\Aa w wr)
 case atStart=>exact⟨0,[],_,eQQ _,rfl,rfl,rfl,⟨Be.nil _ _ _ _,by simp⟩,rfl,Cj _,Aa.refl _⟩
 obtain⟨k,es,v,hk,rfl,rfl,rfl,I4,J2,K8,hx⟩:=hrel;have E0:=zH I4;have C4:=zH (And.intro J2 K8);have HX:=zH hx;clear I4 J2 hx;by_cases hlt:k<ps.length
 ·have H1:(k:Int)<(ps.length:Int):=by omega
  obtain⟨p,hp⟩:∃p,ps[k]?=some p:=⟨_,aQQ hlt⟩;obtain⟨g,D2,rfl,cs,hr,G3⟩:=HA.1 wr HX.1 k p hp;have J8:=zH (dI hp);have J3:cs.length=8:=by have:=G3.size;simpa using this
  have D4:∀v,v∈cs->v.oneCell'=true:=by
   have h:=G3.one;rw[Array.all_eq_true_iff_forall_mem]at h;exact fun v hv=>h v (by simpa using hv)
  have HR:=zH hr;have G7:=zH G3;have D1:=zH J3;have B2:=zH hlt;have F9:=zH (fun X hX=>lV (X:=X) E0.1 hX);clear hr G3 hp hlt;go_upto_region 4 with fail
  refine wp_region_lit ?_;refine zq (.pointer (some ⟨g,D2+k*8,none⟩)) ?_;refine Ci (by rfl) (wp_load_mid _ _ (by rfl) g (D2+k*8) (by rfl) cs _ HR.1 Tryz.underlying159 (by rfl) (by rw[D1.1];kernel_rfl) ?_);try simp only[Act.put,zA,zB,zC]
  clear J3;refine zp (w':=wr.alloc (.cells z8 159)) (.pointer (some ⟨wr.heap.size,0,none⟩)) (by go_simp) ?_;refine pO (cs).toArray (Ad.new wr _ _) (by simp[D1.1]) (by rw[show((cs).toArray:Array Value).size=8 by simp[D1.1]];kernel_rfl) (all_oneCell_toArray D4) ?_
  (try simp only[Act.put])
  obtain⟨E3,E2⟩:=Rh wr 159 z8 (cs).toArray (by simp[D1.1]);generalize (wr.alloc (.cells z8 159)).setCells wr.heap.size 0 ((cs).toArray:Array Value).toList=w4 at*
  have G0:=zH (F9.1 wr.heap.size (Cj _));generalize wr.heap.size=X4 at*
  have B3:=zH E3;have C5:=zH E2;clear E3 E2;go_upto_region 5 with fail
  refine wp_region_lit ?_;refine zq (.pointer (some ⟨X4,0,none⟩)) ?_;refine pP 0 4 C5.1 Tryz.underlying33 (by simp[D1.1]) ?_;try simp only[Act.put,zA,zB,zC]
  refine zq (.pointer (some ⟨X4,4,none⟩)) ?_;refine pP 4 4 C5.1 Tryz.underlying33 (by simp[D1.1]) ?_;try simp only[Act.put,zA,zB,zC]
  obtain⟨z,hz⟩:∃z,z=Db p.1 p.2:=⟨_,rfl⟩;have B0:z<0↔p.1<p.2:=by rw[hz];exact rcmp_lt
  refine Gh (by rfl) (by go_simp) (aQ hz (G7.1.ext B3.1).c0 (G7.1.ext B3.1).c1 (by omega)) ?_;rintro e w5 ⟨rfl,hx⟩;have B6:=zH (show Aa w4 w5 from((Aa.refl w4)).trans hx);clear hx;refine⟨_,rfl,?_⟩;try simp only[Act.put,zA,zB,zC]
  clear hz;have C1:=zH ((G7.1.ext B3.1).ext B6.1);have K2:=zH (C5.1.ext B6.1);have D5:=zH ((HX.1.trans B3.1).trans B6.1);have F5:=zH ((E0.1.ext B3.1).ext B6.1);clear B3 B6 C5 G7 HR E0;by_cases hpq:p.1<p.2
  ·have B8:z<0:=B0.2 hpq
   clear B0;refine zq (.bool true) ?_;have A4:=J8.1;rw[if_pos hpq]at A4;have H8:=zH A4;clear A4;clear hpq B8;go_upto_region 6 with fail
   refine wp_region_held_drew (S:=fun x=>w5.grownBy x v.ownBlock) (by kernel_rfl) (Cq _ Al.drew) (fun _=> ?_);refine zv 0 (bs 11 1) (Cq _ (Aa.refl w5).drew) ?_;refine mV 1 (bs 11 3) (Cq _ (Aa.refl w5).drew) ?_;refine mP 2 (bs 11 7) 0 4 (fun x hx=>K2.1.grown hx G0.1) Tryz.underlying33 (by simp[D1.1]) (Cq _ (Aa.refl w5).drew) ?_;try simp only[Act.put,zA,zB,zC]
   refine mV 4 (bs 11 23) (Cq _ (Aa.refl w5).drew) ?_;refine mP 5 (bs 11 55) 4 4 (fun x hx=>K2.1.grown hx G0.1) Tryz.underlying33 (by simp[D1.1]) (Cq _ (Aa.refl w5).drew) ?_;try simp only[Act.put,zA,zB,zC]
   refine mC 3 (bs 11 63) (nT (C1.1.ext Al.drew).c0 (by omega)) ?_;rintro e w6 ⟨c1,rfl,L0,hx⟩;have D8:=zH (show Aa w5 w6 from((Aa.refl w5).drew).trans hx);obtain⟨ra,rfl,I8⟩:=L0;have K0:=zH I8;clear I8;clear hx;refine⟨_,rfl,(Cq _ D8.1),?_⟩;try simp only[Act.put,zA,zB,zC]
   refine mC 6 (bs 11 127) (nT (C1.1.ext D8.1).c1 (by omega)) ?_;rintro e w7 ⟨c2,rfl,K9,hx⟩;have A9:=zH (show Aa w5 w7 from(D8.1).trans hx);obtain⟨rb,rfl,I7⟩:=K9;have L5:=zH I7;have H5:=zH (K0.1.ext hx);clear I7 K0;clear hx;refine⟨_,rfl,(Cq _ A9.1),?_⟩;try simp only[Act.put,zA,zB,zC]
   refine zv 7 (bs 11 255) (Cq _ A9.1) ?_;have G2:=F5.1.ext A9.1;have E6:=(D5.1.trans A9.1).size;have K7:es.length<=20000:=by have:=C4.1.2;omega
   have J6:Df.Ok L w7 ⟨ra,rb,p.1,p.2⟩:=⟨H5.1,L5.1,C1.1.c0.rl K1.1,C1.1.c1.rl K1.1⟩;have L6:=zH J6;clear J6;have A2:Aa w7 (w7.alloc (.cells #[.bool ra.n,.slice ra.p ra.l ra.c,.bool ra.m,.slice ra.p2 ra.l2 ra.c2,.bool rb.n,.slice rb.p rb.l rb.c,.bool rb.m,.slice rb.p2 rb.l2 rb.c2] 159)):=Al.alloc _;refine mU 8 (bs 11 511) (v:= .slice (some ⟨w7.heap.size,0,none⟩) 1 1) (w':=(w7.alloc (.cells #[.bool ra.n,.slice ra.p ra.l ra.c,.bool ra.m,.slice ra.p2 ra.l2 ra.c2,.bool rb.n,.slice rb.p rb.l rb.c,.bool rb.m,.slice rb.p2 rb.l2 rb.c2] 159))) (Cq _ ((A9.1).alloc _)) ?_;try simp only[Act.put,zA,zB,zC]
   refine Tm (j:=9) (listed':=(bs 11 1023)) (by rfl) (by kernel_rfl) (by rfl) _ _ 134 (by rfl) w.heap.size 159 i0 _ 8 128 Tryz.underlying134 HI.1.1 HI.1.2.1 HI.1.2.2.1 HI.1.2.2.2 rfl (by decide) Ta _ es.length (Dp es) (by rfl) (G2.ext A2).1 ⟨w7.heap.size,0,none⟩ 1 1 [.bool ra.n,.slice ra.p ra.l ra.c,.bool ra.m,.slice ra.p2 ra.l2 ra.c2,.bool rb.n,.slice rb.p rb.l rb.c,.bool rb.m,.slice rb.p2 rb.l2 rb.c2] (by rfl) rfl (Pp _ [.bool ra.n,.slice ra.p ra.l ra.c,.bool ra.m,.slice ra.p2 ra.l2 ra.c2,.bool rb.n,.slice rb.p rb.l rb.c,.bool rb.m,.slice rb.p2 rb.l2 rb.c2] _) (by simp[Value.oneCell']) (Df.noU ⟨ra,rb,p.1,p.2⟩) (by decide) (by unfold maxLen;omega) (by omega) (by have:=A2.size;omega) (by kernel_rfl) ?_;intro gx cx w8 hf h2 h3 h4;have D7:=zH ((G2.ext A2).snoc (e:=⟨ra,rb,p.1,p.2⟩) rfl (L6.1.ext A2) h2 h4);have G6:=zH (((D5.1.trans A9.1).trans A2).grown h3 (fun j hj=>G2.1.block j hj));have H2:w5.grownBy w8 v.ownBlock:=kO (A9.1.trans A2) h3;clear G2 E6 hf h2 h3 h4 A2;refine⟨H2,?_⟩;try simp only[Act.put,zA,zB,zC]
   refine zv 10 (bs 11 2047) H2 ?_;refine wpAnyH_done (by kernel_rfl) ?_ _;clear H2;go_wp2_with fail
   go_roundg (ps.length-(k+1))
   case measure=>have:=B2.1;omega
   case rel=>exact⟨k+1,es++[⟨ra,rb,p.1,p.2⟩],_,B2.1,rfl,by go_num,rfl,D7.1,by rw[H8.1,jXX,C4.1.1];rfl,by have:=C4.1.2;simp;omega,G6.1⟩
  have B8:¬z<0:=fun h=>hpq (B0.1 h)
  clear B0;refine zq (.bool false) ?_;have A4:=J8.1;rw[if_neg hpq]at A4;have H8:=zH A4;clear A4 hpq B8;go_wp2_with fail
  go_roundg (ps.length-(k+1))
  case measure=>have:=B2.1;omega
  case rel=>exact⟨k+1,es,_,B2.1,rfl,by go_num,rfl,F5.1,by rw[H8.1];exact C4.1.1,by have:=C4.1.2;omega,D5.1⟩
 obtain rfl:k=ps.length:=by omega
 have M1:¬(ps.length:Int)<(ps.length:Int):=by omega
 have F4:=zH (dG L v es w.heap.size wr E0.1 hL (by have:=C4.1.2;omega));have E5:(Stb.stab uQ es).map Df.vl=Gs ps:=by
  have h:=C4.1.1;rw[cQQ (Cj _)]at h;rw[Nl Df.vl (lt:=uQ) (lt':=yD) (fun _ _=>rfl),h];rfl
 have I5:(Stb.stab uQ es).length<=ps.length:=by rw[Stb.stab_len];exact C4.1.2
 have I3:∀j,v.ownBlock=some j->w.heap.size<=j:=E0.1.1.block;generalize Stb.stab uQ es=ss at*
 go_upto_region 9 with(go_at_call 161;refine F4.1.mono ?_;rintro e ws ⟨rfl,C0,J0⟩)
 have J5:Aa w ws:=HX.1.grown J0 I3;obtain⟨As,cs,rfl⟩:=Vg C0.1;have B9:=zH C0;have L2:=zH J5;have F1:=zH E5;have L9:ss.length<=20000:=by omega
 have D6:=zH B9.1.lt;have L4:=zH I5;clear C0 J5 E5 J0 F4 E0 C4 HX I5 I3;go_wp2_with fail
 go_loopg [6,37] ss.length (fun c v i wr=>∃(k:Nat) (os:List Df) (v2:Value),k<=ss.length/\c=ss.length-k/\i= iV k/\v2=v/\La L wr w.heap.size v2 os/\os.map Df.vl=((Gs ps).take k).foldl Ew []/\os.length<=k/\La L wr w.heap.size (.slice As ss.length cs) ss/\(∀j,v2.ownBlock=some j->ws.heap.size<=j)/\Aa w wr/\ws.heap.size<=wr.heap.size)
 case atStart=>exact⟨0,[],_,eQQ _,rfl,rfl,rfl,⟨Be.nil _ _ _ _,by simp⟩,by simp,Cj _,B9.1,by intro j hj;simp[Value.ownBlock]at hj,L2.1,Cj _⟩
 clear B9;obtain⟨k,os,v,hk,rfl,rfl,rfl,G5,G4,H0,C0,D3,hx,G9⟩:=hrel;by_cases hlt:k<ss.length
 ·have H1:(k:Int)<(ss.length:Int):=by omega
  obtain⟨e,he⟩:∃e,ss[k]?=some e:=⟨_,aQQ hlt⟩;have C8:=zH (show((Gs ps).take (k+1)).foldl Ew []=Ew (os.map Df.vl) (e.p,e.q)by rw[G4,Tl (p:=(e.p,e.q)) (by rw[<-F1.1,kZZ,he];rfl)]);have A7:=zH (C0.2 e (bZZ he));obtain⟨gs,E7,rs,K3,I6⟩:∃gs E7 rs,As=some ⟨gs,0,none⟩/\Sw wr wr gs 159 Df.cells rs ss/\E7=cs:=by
   rcases C0.form with⟨hv,hn⟩|⟨g,cap,rest,hv,_,hs,_⟩
   ·rw[hn]at hlt;simp at hlt
   injection hv with e1 _ _
   exact⟨g,cs,rest,e1,hs,rfl⟩
  subst K3;have J9:=zH (I6.1.read he Df.len);have A8:=zH G5;have B9:=zH C0;have A5:=zH (And.intro D3 (And.intro G9 H0));have HX:=zH hx;have B2:=zH hlt;clear G5 G4 C0 D3 hx G9 H0 I6 he hlt;go_upto_region 12 with fail
  refine wp_region_lit ?_;refine zq (.pointer (some ⟨gs,k*8,none⟩)) ?_;refine Ci (by rfl) (wp_load_mid _ _ (by rfl) gs (k*8) (by rfl) e.cells _ J9.1 Tryz.underlying159 (by rfl) (by kernel_rfl) ?_);try simp only[Act.put,zA,zB,zC]
  refine zp (w':=wr.alloc (.cells z8 159)) (.pointer (some ⟨wr.heap.size,0,none⟩)) (by go_simp) ?_;refine pO (e.cells).toArray (Ad.new wr _ _) (by simp[Df.len]) (by rw[show((e.cells).toArray:Array Value).size=8 by simp[Df.len]];kernel_rfl) (all_oneCell_toArray e.one) ?_
  (try simp only[Act.put])
  obtain⟨E3,E2⟩:=Rh wr 159 z8 (e.cells).toArray (by simp[Df.len]);generalize (wr.alloc (.cells z8 159)).setCells wr.heap.size 0 ((e.cells).toArray:Array Value).toList=w8 at*
  generalize wr.heap.size=X8 at*
  have C3:=zH E3;have D9:=zH E2;clear E3 E2;have G6:=zH (HX.1.trans C3.1);have F6:=zH (A8.1.ext C3.1);have F3:=zH (B9.1.ext C3.1);have D0:=zH (A7.1.ext C3.1);have H4:=zH (nXX D9.1.lt);clear J9 A8 B9 A7 HX;skip
  have A8:=F6;have B9:=F3;have A7:=D0;have HX:=G6;have G1:=D9;clear F6 F3 D0 G6 D9;rcases rD os with rfl|⟨os,l,rfl⟩
  ·obtain⟨Ao,co,rfl⟩:=Vg A8.1.1
   go_upto_region 14 with fail
   refine wp_region_held_drew (S:=fun x=>Aa w8 x) (by kernel_rfl) Al.drew (fun _=> ?_);refine zv 0 (bs 14 1) (Aa.refl w8).drew ?_;refine zv 1 (bs 14 3) (Aa.refl w8).drew ?_;refine zv 2 (bs 14 7) (Aa.refl w8).drew ?_;refine zs 3 (bs 14 15) (Aa.refl w8).drew ?_;refine zs 4 (bs 14 31) (Aa.refl w8).drew ?_;refine zs 5 (bs 14 63) (Aa.refl w8).drew ?_;refine zs 6 (bs 14 127) (Aa.refl w8).drew ?_;refine zs 7 (bs 14 255) (Aa.refl w8).drew ?_;refine zs 8 (bs 14 511) (Aa.refl w8).drew ?_;refine zs 9 (bs 14 1023) (Aa.refl w8).drew ?_;refine zs 10 (bs 14 2047) (Aa.refl w8).drew ?_;refine zs 11 (bs 14 4095) (Aa.refl w8).drew ?_;refine zs 12 (bs 14 8191) (Aa.refl w8).drew ?_;refine zv 13 (bs 14 16383) (Aa.refl w8).drew ?_;refine wpAnyH_done (by kernel_rfl) ?_ _;have A1:=zH (C8.1.trans (jT _));have K5:([]:List Df).length<=20000:=by simp
   have B4:=zH (show Aa w8 w8.drew from Al.drew);have A3:=zH (A8.1.ext B4.1);have B1:=zH (B9.1.ext B4.1);have A6:=zH (A7.1.ext B4.1);have B7:=zH (G1.1.ext B4.1);have C7:=zH (HX.1.trans B4.1);have C6:=zH (Ar H4.1 B4.1.size);go_upto_region 15 with fail
   refine wp_region_lit ?_;refine zp (w':=w8.drew) (.slice Ao 0 co) (by go_simp<;>with_reducible rfl) ?_;refine pL (cs:=#[.bool e.a.n,.slice e.a.p e.a.l e.a.c,.bool e.a.m,.slice e.a.p2 e.a.l2 e.a.c2,.bool e.b.n,.slice e.b.p e.b.l e.b.c,.bool e.b.m,.slice e.b.p2 e.b.l2 e.b.c2]) B7.1 Tryz.underlying159 (by kernel_rfl) ?_;try simp only[Act.put,zA,zB,zC]
   have E6:=C7.1.size;have A2:Aa w8.drew (w8.drew.alloc (.cells #[.bool e.a.n,.slice e.a.p e.a.l e.a.c,.bool e.a.m,.slice e.a.p2 e.a.l2 e.a.c2,.bool e.b.n,.slice e.b.p e.b.l e.b.c,.bool e.b.m,.slice e.b.p2 e.b.l2 e.b.c2] 159)):=Al.alloc _;refine zp (w':=(w8.drew.alloc (.cells #[.bool e.a.n,.slice e.a.p e.a.l e.a.c,.bool e.a.m,.slice e.a.p2 e.a.l2 e.a.c2,.bool e.b.n,.slice e.b.p e.b.l e.b.c,.bool e.b.m,.slice e.b.p2 e.b.l2 e.b.c2] 159))) (.slice (some ⟨w8.drew.heap.size,0,none⟩) 1 1) (by go_simp) ?_;refine Ci (by rfl) (Ek _ _ 134 (by rfl) w.heap.size 159 i0 _ 8 128 Tryz.underlying134 HI.1.1 HI.1.2.1 HI.1.2.2.1 HI.1.2.2.2 rfl (by decide) Ta _ 0 (Dp ([]:List Df)) (by rfl) (A3.1.ext A2).1 ⟨w8.drew.heap.size,0,none⟩ 1 1 e.cells (by rfl) rfl (Pp _ e.cells _) e.one e.noU (by decide) (by unfold maxLen;omega) (by omega) (by have:=A2.size;omega) ?_);intro gx cx E4 hf h2 h3 h4;try simp only[Act.put,zA,zB,zC]
   have D7:=zH ((A3.1.ext A2).snoc (es:=([]:List Df)) (e:=e) rfl (A6.1.ext A2) h2 h4);have F0:=zH ((C7.1.trans A2).grown h3 (fun j hj=>A3.1.1.block j hj));have B5:=zH ((B1.1.ext A2).grown h3 (fun j hj hj2=>by have h7:=A5.1.1 j hj2;have h8:=D6.1 j hj;omega) h4);have H7:=zH (show ws.heap.size<=gx from hf.elim (fun hf=>A5.1.1 gx hf) (fun hf=>Ar (Ar A5.1.2.1 C6.1) (Ar A2.size hf)));have E9:=zH (show ws.heap.size<=E4.heap.size from Ar (Ar A5.1.2.1 C6.1) (Ar A2.size h3.size));clear hf h2 h3 h4 A2 E6;refine zp (w':=E4) (.slice (some ⟨gx,0,none⟩) (0+1) cx) (by go_simp) ?_;go_wp2_with fail
   go_roundg (ss.length-(k+1))
   case measure=>have:=B2.1;omega
   case rel=>exact⟨k+1,([]:List Df)++[e],_,B2.1,rfl,by go_num,rfl,D7.1,by rw[A1.1];simp[Df.vl],by have:=A5.1.2.2;simp at this⊢<;>omega,B5.1,by intro j hj;simp[Value.ownBlock]at hj;rw[<-hj];exact H7.1,F0.1,E9.1⟩
  have K4:∃g6 c6,v= .slice (some ⟨g6,0,none⟩) (os.length+1) c6:=by
   rcases A8.1.form with⟨_,h⟩|⟨g6,c6,_,h,_⟩
   ·simp at h
   exact⟨g6,c6,by simpa using h⟩
  obtain⟨g6,c6,rfl⟩:=K4;obtain⟨m,hm⟩:∃m,os.length=m:=⟨_,rfl⟩;rw[hm]at A8 A5⊢;have HM:=zH hm;have M0:m<=20000:=by have h:=A5.1.2.2;rw[aZZ,HM.1]at h;omega
  have L8:IntKind.i64.wrap (m:Int)=(m:Int):=by rw[IntKind.wrap_i64];omega
  have H6:=zH (A8.1.2 l (by simp));have J7:=zH (C8.1.trans (show Ew ((os++[l]).map Df.vl) (e.p,e.q)=if l.q<e.p then os.map Df.vl++[(l.p,l.q)]++[(e.p,e.q)]else if l.q<e.q then os.map Df.vl++[(l.p,e.q)]else os.map Df.vl++[(l.p,l.q)]by rw[jXX];exact jW _ _ _));have e1:((m+1:Nat):Int)-1=(m:Int):=by omega
  have e2:(m:Int)+1-1=(m:Int):=by omega
  have e3:((m:Int)+1==0)=false:=by simp;omega
  have e4:(((m+1:Nat):Int)==0)=false:=by simp;omega
  have e5:(m:Int)<(m:Int)+1:=by omega
  have L1:=zH (A8.1.readEnd HM.1);clear hm;go_upto_region 14 with fail
  have E8:=zH (A8.1.readEnd HM.1);have C9:=zH (A8.1.2 l (by simp));clear L1 H6;refine wp_region_held_drew (S:=fun x=>Aa w8 x) (by kernel_rfl) Al.drew (fun _=> ?_);refine zv 0 (bs 14 1) (Aa.refl w8).drew ?_;refine zv 1 (bs 14 3) (Aa.refl w8).drew ?_;refine zv 2 (bs 14 7) (Aa.refl w8).drew ?_;refine zv 3 (bs 14 15) (Aa.refl w8).drew ?_;refine zv 4 (bs 14 31) (Aa.refl w8).drew ?_;refine zv 5 (bs 14 63) (Aa.refl w8).drew ?_;refine zv 6 (bs 14 127) (Aa.refl w8).drew ?_;refine mV 7 (bs 14 255) (Aa.refl w8).drew ?_;refine zr 8 (bs 14 511) g6 (m*8+4) [.bool l.b.n,.slice l.b.p l.b.l l.b.c,.bool l.b.m,.slice l.b.p2 l.b.l2 l.b.c2] (fun x hx=>Bu E8.1 hx) Tryz.underlying33 (Aa.refl w8).drew ?_;refine mV 9 (bs 14 1023) (Aa.refl w8).drew ?_;refine mP 10 (bs 14 2047) 0 4 (fun x hx=>G1.1.ext hx) Tryz.underlying33 (by simp[Df.len]) (Aa.refl w8).drew ?_;try simp only[Act.put,zA,zB,zC]
  obtain⟨z,hz⟩:∃z,z=Db l.q e.p:=⟨_,rfl⟩;have B0:z<0↔l.q<e.p:=by rw[hz];exact rcmp_lt
  refine mC 11 (bs 14 4095) (aQ (L:=L) hz (Gy.ofb (C9.1.ext Al.drew)) (A7.1.ext Al.drew).ptIn.c0 (by omega)) ?_;rintro e w9 ⟨rfl,hx⟩;have A0:=zH (show Aa w8 w9 from((Aa.refl w8).drew).trans hx);clear hx;refine⟨_,rfl,A0.1,?_⟩;try simp only[Act.put,zA,zB,zC]
  clear hz;by_cases c1:l.q<e.p
  ·have B8:z<0:=B0.2 c1
   clear B0;refine zv 12 (bs 14 8191) A0.1 ?_;refine zv 13 (bs 14 16383) A0.1 ?_;refine wpAnyH_done (by kernel_rfl) ?_ _;have A1:=zH (J7.1.trans (if_pos c1));clear c1;have A3:=zH (A8.1.ext A0.1);have B1:=zH (B9.1.ext A0.1);have A6:=zH (A7.1.ext A0.1);have B7:=zH (G1.1.ext A0.1);have C7:=zH (HX.1.trans A0.1);have C6:=zH (Ar H4.1 A0.1.size);go_upto_region 15 with fail
   refine wp_region_lit ?_;refine zq (.slice (some ⟨g6,0,none⟩) (m+1) c6) ?_;refine pL (cs:=#[.bool e.a.n,.slice e.a.p e.a.l e.a.c,.bool e.a.m,.slice e.a.p2 e.a.l2 e.a.c2,.bool e.b.n,.slice e.b.p e.b.l e.b.c,.bool e.b.m,.slice e.b.p2 e.b.l2 e.b.c2]) B7.1 Tryz.underlying159 (by kernel_rfl) ?_;try simp only[Act.put,zA,zB,zC]
   have E6:=C7.1.size;have A2:Aa w9 (w9.alloc (.cells #[.bool e.a.n,.slice e.a.p e.a.l e.a.c,.bool e.a.m,.slice e.a.p2 e.a.l2 e.a.c2,.bool e.b.n,.slice e.b.p e.b.l e.b.c,.bool e.b.m,.slice e.b.p2 e.b.l2 e.b.c2] 159)):=Al.alloc _;refine zp (w':=(w9.alloc (.cells #[.bool e.a.n,.slice e.a.p e.a.l e.a.c,.bool e.a.m,.slice e.a.p2 e.a.l2 e.a.c2,.bool e.b.n,.slice e.b.p e.b.l e.b.c,.bool e.b.m,.slice e.b.p2 e.b.l2 e.b.c2] 159))) (.slice (some ⟨w9.heap.size,0,none⟩) 1 1) (by go_simp) ?_;refine Ci (by rfl) (Ek _ _ 134 (by rfl) w.heap.size 159 i0 _ 8 128 Tryz.underlying134 HI.1.1 HI.1.2.1 HI.1.2.2.1 HI.1.2.2.2 rfl (by decide) Ta _ (m+1) (Dp (os++[l])) (by rfl) (by have h:=(A3.1.ext A2).1;rw[aZZ,HM.1]at h;exact h) ⟨w9.heap.size,0,none⟩ 1 1 e.cells (by rfl) rfl (Pp _ e.cells _) e.one e.noU (by decide) (by unfold maxLen;omega) (by omega) (by have:=A2.size;omega) ?_);intro gx cx E4 hf h2 h3 h4;try simp only[Act.put,zA,zB,zC]
   have D7:=zH ((A3.1.ext A2).snoc (es:=(os++[l])) (e:=e) (by rw[aZZ,HM.1];rfl) (A6.1.ext A2) h2 h4);have F0:=zH ((C7.1.trans A2).grown h3 (fun j hj=>A3.1.1.block j hj));have B5:=zH ((B1.1.ext A2).grown h3 (fun j hj hj2=>by have h7:=A5.1.1 j hj2;have h8:=D6.1 j hj;omega) h4);have H7:=zH (show ws.heap.size<=gx from hf.elim (fun hf=>A5.1.1 gx hf) (fun hf=>Ar (Ar A5.1.2.1 C6.1) (Ar A2.size hf)));have E9:=zH (show ws.heap.size<=E4.heap.size from Ar (Ar A5.1.2.1 C6.1) (Ar A2.size h3.size));clear hf h2 h3 h4 A2 E6;refine zp (w':=E4) (.slice (some ⟨gx,0,none⟩) ((m+1)+1) cx) (by go_simp) ?_;go_wp2_with fail
   go_roundg (ss.length-(k+1))
   case measure=>have:=B2.1;omega
   case rel=>exact⟨k+1,(os++[l])++[e],_,B2.1,rfl,by go_num,rfl,D7.1,by rw[A1.1];simp[Df.vl],by have:=A5.1.2.2;simp at this⊢<;>omega,B5.1,by intro j hj;simp[Value.ownBlock]at hj;rw[<-hj];exact H7.1,F0.1,E9.1⟩
  have B8:¬z<0:=fun h=>c1 (B0.1 h)
  clear B0;refine zv 12 (bs 14 8191) A0.1 ?_;refine zv 13 (bs 14 16383) A0.1 ?_;refine wpAnyH_done (by kernel_rfl) ?_ _;have F2:=zH (J7.1.trans (if_neg c1));clear c1;go_upto_region 16 with fail
  have H3:=zH (Bu E8.1 A0.1);have H9:=zH (G1.1.ext A0.1);have F7:=zH (C9.1.ext A0.1);have F8:=zH (A7.1.ext A0.1);refine wp_region_held_drew (S:=fun x=>Aa w9 x) (by kernel_rfl) Al.drew (fun _=> ?_);refine zv 0 (bs 10 1) (Aa.refl w9).drew ?_;refine zv 1 (bs 10 3) (Aa.refl w9).drew ?_;refine zv 2 (bs 10 7) (Aa.refl w9).drew ?_;refine zv 3 (bs 10 15) (Aa.refl w9).drew ?_;refine mV 4 (bs 10 31) (Aa.refl w9).drew ?_;refine zr 5 (bs 10 63) g6 (m*8+4) [.bool l.b.n,.slice l.b.p l.b.l l.b.c,.bool l.b.m,.slice l.b.p2 l.b.l2 l.b.c2] (fun x hx=>Bu H3.1 hx) Tryz.underlying33 (Aa.refl w9).drew ?_;refine mV 6 (bs 10 127) (Aa.refl w9).drew ?_;refine mP 7 (bs 10 255) 4 4 (fun x hx=>H9.1.ext hx) Tryz.underlying33 (by simp[Df.len]) (Aa.refl w9).drew ?_;try simp only[Act.put,zA,zB,zC]
  obtain⟨z2,G8⟩:∃z,z=Db l.q e.q:=⟨_,rfl⟩;have B0:z2<0↔l.q<e.q:=by rw[G8];exact rcmp_lt
  refine mC 8 (bs 10 511) (aQ (L:=L) G8 (Gy.ofb (F7.1.ext Al.drew)) (F8.1.ext Al.drew).ptIn.c1 (by omega)) ?_;rintro e wb ⟨rfl,hx⟩;have C2:=zH (show Aa w9 wb from((Aa.refl w9).drew).trans hx);clear hx;refine⟨_,rfl,C2.1,?_⟩;try simp only[Act.put,zA,zB,zC]
  clear G8;have E1:=zH (A0.1.trans C2.1);have A3:=zH (A8.1.ext E1.1);have B1:=zH (B9.1.ext E1.1);have A6:=zH (A7.1.ext E1.1);have B7:=zH (G1.1.ext E1.1);have C7:=zH (HX.1.trans E1.1);have C6:=zH (Ar H4.1 E1.1.size);by_cases c2:l.q<e.q
  ·have B8:z2<0:=B0.2 c2
   clear B0;refine zv 9 (bs 10 1023) C2.1 ?_;refine wpAnyH_done (by kernel_rfl) ?_ _;have A1:=zH (F2.1.trans (if_pos c2));clear c2;go_upto_region 17 with fail
   refine wp_region_lit ?_;refine qV (.slice (some ⟨g6,0,none⟩) (m+1) c6) ?_;refine zq (iV ((m:Int)+1)) ?_;refine qV (iV m) ?_;refine zq (.pointer (some ⟨X8,4,none⟩)) ?_;refine Ci (by rfl) (wp_load_mid _ _ (by rfl) X8 (4) (by rfl) [.bool e.b.n,.slice e.b.p e.b.l e.b.c,.bool e.b.m,.slice e.b.p2 e.b.l2 e.b.c2] _ (show World.rangeAt wb X8 4 [.bool e.b.n,.slice e.b.p e.b.l e.b.c,.bool e.b.m,.slice e.b.p2 e.b.l2 e.b.c2]from B7.1.part 4 4) Tryz.underlying33 (by rfl) (by kernel_rfl) ?_);try simp only[Act.put,zA,zB,zC]
   refine qV (.pointer (some ⟨g6,m*8,none⟩)) ?_;refine zq (.pointer (some ⟨g6,m*8+4,none⟩)) ?_;obtain⟨t1,t2,t3⟩:=A3.1.turn HM.1 A6.1;obtain⟨M2,J4,I9⟩:=A3.1.rowNoU;refine Ci (by rfl) (wp_store_mid 33 _ _ (by rfl) g6 (m*8+4) [.bool e.b.n,.slice e.b.p e.b.l e.b.c,.bool e.b.m,.slice e.b.p2 e.b.l2 e.b.c2].toArray (by rfl) (by rfl) t1 (by kernel_rfl) (all_oneCell_toArray (by simp[Value.oneCell'])) ?_)
   (try simp only[Act.put])
   have D7:=zH t2;have J1:w.heap.size<=g6:=A3.1.1.block g6 (by simp[Value.ownBlock]);have F0:=zH (t3.ext C7.1 J1);have B5:=zH (B1.1.grown (row:=some g6) t3 (fun j hj hj2=>by injection hj2 with hj2;have h7:=A5.1.1 j (by simp[Value.ownBlock,hj2]);have h8:=D6.1 j hj;omega) (fun r q h=>h.own J4 I9 t3));have E9:=zH (Ar (Ar A5.1.2.1 C6.1) t3.size);clear t1 t2 t3 J4 I9 J1;generalize World.setCells wb g6 (m*8+4) _=wn at*
   go_wp2_with fail
   go_roundg (ss.length-(k+1))
   case measure=>have:=B2.1;omega
   case rel=>exact⟨k+1,os++[⟨l.a,e.b,l.p,e.q⟩],_,B2.1,rfl,by go_num,rfl,D7.1,by rw[A1.1];simp[Df.vl],by have:=A5.1.2.2;simp at this⊢<;>omega,B5.1,A5.1.1,F0.1,E9.1⟩
  have B8:¬z2<0:=fun h=>c2 (B0.1 h)
  clear B0;refine zv 9 (bs 10 1023) C2.1 ?_;refine wpAnyH_done (by kernel_rfl) ?_ _;have A1:=zH (F2.1.trans (if_neg c2));clear c2;go_wp2_with fail
  go_roundg (ss.length-(k+1))
  case measure=>have:=B2.1;omega
  case rel=>exact⟨k+1,os++[l],_,B2.1,rfl,by go_num,rfl,(by have h:=A3.1;exact h),by rw[A1.1,jXX];rfl,by have:=A5.1.2.2;omega,B1.1,A5.1.1,C7.1,Ar A5.1.2.1 C6.1⟩
 obtain rfl:k=ss.length:=by omega
 have K6:¬(ss.length:Int)<(ss.length:Int):=by omega
 have HR:=zH (show os.map Df.vl=Fm ps by rw[G4,cQQ (by rw[<-F1.1,eZZ];exact Cj _)];rfl);have A8:=zH G5;have L3:=zH hx;have L7:=zH (show os.length<=ps.length by have:=L4.1;omega);clear G5 G4 H0 C0 D3 hx G9;go_wp2_with fail
 go_ret
 exact⟨_,rfl,os,A8.1,HR.1,L7.1,L3.1⟩
theorem iK (L:Nat)(u:Value)(rs:List Av)(rule:Int)(ry:RV)(y:Rat)(w:World)(hu:Cu w u rs)(hy:ry.In L w y)(h1L:1<=L)(hL:L<=2000)(hn:rs.length<=1048576)(hr:∀r,r∈rs->r.length<=1048576)(hru: -9223372036854775808<=rule/\rule<=9223372036854775807)(htot:Gm rs<20):
  Calls Tryz.prog 124 #[u,iV rule,.agg #[.bool ry.n,.slice ry.p ry.l ry.c,.bool ry.m,.slice ry.p2 ry.l2 ry.c2]] w fun e w'=>∃v es,e= .returned v/\La (L+8) w' w.heap.size v es/\es.map Df.vl=Lb rule (Eo y rs)/\es.length<20/\Aa w w':=by
 have HU:=zH hu;have RY:=zH hy;have E4:=zH hru;clear hu hy hru;go_enter Tryz.func124,Tryz.ntmps124
 have H0:=zH (Hp.start w);go_upto_region 0 with fail
 refine wl ?_;refine Cm 33 (rc ry) H0.1 ?_;intro X1 w2 H3 _;refine Cs Ac _ ?_;go_upto_region 3 with fail
 refine wl ?_;refine Bq H3.1 (u) _ ?_;refine zc (kA L u rs ry y _ (HU.1.ext H3.1.ext) (RY.1.dig H3.1.dig0) h1L (by omega) hn hr htot) ?_;rintro e w8 ⟨Am,J3,cm,ms,rfl,rfl,A2,B5,A8,hx⟩;have B7:=zH A8;have E8:=zH B5;obtain⟨I7,G8,F9,E1⟩:=Be.form A2;injection F9 with e1_ _ _
 subst e1_;have HA:=zH E1;clear A8 B5 E1;have H9:=zH (show Hp w w8 [.blk X1 33 (rc ry),ro 163 5 Am ms.length cm Gc.cells ms]from H3.1.addRow hx A2);clear A2;have G0:ms.length<20:=by have h:=eI y rs;rw[<-B7.1,eZZ]at h;omega
 clear hx;refine zn ?_;refine Cs Ac _ ?_;have F1:=zH (show Hp w w8 [.blk X1 33 (rc ry),ro 163 5 Am ms.length cm Gc.cells ms,ro 159 8 none 0 0 Df.cells ([])]from H9.1.addNil 159 8);obtain⟨qs,C4⟩:∃qs,qs=ms.map Gc.vl:=⟨_,rfl⟩;have C7:=zH C4;have J6:qs.length=ms.length:=by rw[C4,eZZ]
 clear C4;go_wp2_with fail
 go_loopg [7,8,17] (ms.length) (fun cq F8 F7 F6 wr=>∃(k:Nat) (m:Nat) (es:List Df) (A1:Option Addr) (c1:Nat) (s:Int),cq=ms.length-k/\F8= .slice A1 m c1/\F7= iV s/\F6= iV (k:Int)/\(k<=ms.length)/\(St qs k=s)/\(-(k:Int)<=s/\s<=k)/\(m=es.length/\m<=k)/\(es.map Df.vl=iP rule ((Nt 0 qs).take k))/\(∀e,e∈es->e.Ok (L+8) wr)/\Hp w wr [.blk X1 33 [.bool ry.n,.slice ry.p ry.l ry.c,.bool ry.m,.slice ry.p2 ry.l2 ry.c2],.row 163 5 (.slice Am ms.length cm) (ms.length) (List.flatMap Gc.cells ms),.row 159 8 (.slice A1 m c1) (m) (List.flatMap Df.cells es)]/\Af w8 wr)
 case atStart=>exact⟨0,0,[],none,0,0,rfl,rfl,rfl,rfl,eQQ _,rfl,⟨by decide,by decide⟩,⟨rfl,Cj _⟩,rfl,(by simp),F1.1,Af.refl _⟩
 obtain⟨k,m,es,A1,c1,s,rfl,rfl,rfl,rfl,B4,A6,A5,B3,A0,A7,D9,E0⟩:=hrel;generalize wr=J2 at*
 have HK:=zH B4;clear B4;have H6:=zH A6;clear A6;have H2:=zH A5;clear A5;have HM:=zH B3;clear B3;have A4:=zH A0;clear A0;have C1:=zH A7;clear A7;have B9:=zH D9;have D5:=zH E0;clear D9 E0 F1;rcases Co (k<ms.length)with HLT|HLT
 ·have G6:=HLT.1
  have G5:(k:Int)<(ms.length:Int):=by omega
  obtain⟨gm,rfl⟩:=HA.1 (by omega);have J7:k<20:=by omega
  have D7:m<20:=by have:=HM.1.2;omega
  have J5:=H2.1;obtain⟨e,A9⟩:∃e,ms[k]?=some e:=⟨_,aQQ G6⟩;have F0:=zH A9;have C8:=zH (E8.1 e (bZZ A9));have H1:=zH C8.1.1;have I6:=zH C8.1.2.1;clear A9;have J4:=C8.1.2.2;have C5:qs[k]?=some e.vl:=by rw[C7.1,kZZ,F0.1];rfl
  have C0:=zH (show St qs (k+1)=s+e.up from by rw[jH C5,H6.1];rfl);have H5:=zH C5;clear C5;go_upto_region 6 with fail
  refine wl ?_;refine zq (iV (k:Int)) ?_;refine zp (.pointer (some ⟨gm,k*5,none⟩)) (by exact Jo (k:=k) Tryz.underlying160 (l:=HLT.1) (f:=(dZZ _).symm)) ?_;refine zd gm (k*5) [.bool e.a.n,.slice e.a.p e.a.l e.a.c,.bool e.a.m,.slice e.a.p2 e.a.l2 e.a.c2,iV e.up] (B9.1.elem (f:=Gc.cells) (i:=1) rR Gc.len F0.1) Tryz.underlying163 ?_;refine Cm 163 [.bool false,.slice none 0 0,.bool false,.slice none 0 0,iV 0] B9.1 ?_;intro C6 J1 I3 B2;refine zq (iV (k:Int)) ?_;refine Cy 3 [.bool e.a.n,.slice e.a.p e.a.l e.a.c,.bool e.a.m,.slice e.a.p2 e.a.l2 e.a.c2,iV e.up] I3.1 ?_;intro J0 C2 B1;go_upto_region 7 with fail
  refine wl ?_;refine Dh C2.1 (iV s) _ _ ?_;refine zp (iV (s+e.up)) (by exact Hm (by omega)) ?_;refine zq (iV (s+e.up)) ?_;rcases Co (k+1<ms.length)with CK|CK
  ·have D8:=CK.1
   obtain⟨f,A9⟩:∃f,ms[k+1]?=some f:=⟨_,aQQ D8⟩;have E9:=zH A9;have E7:=zH (E8.1 f (bZZ A9));have G9:=zH E7.1.1;have I5:=zH E7.1.2.1;clear A9;have E6:=zH (Zo qs 0 k e.vl f.vl H5.1 (by rw[C7.1,kZZ,E9.1];rfl));have E5:=zH (show 0+St qs (k+1)=s+e.up by rw[C0.1];omega);rcases hcf:Ll (s+e.up) rule with _|_
   ·have CF:=zH hcf
    clear hcf;go_upto_region 8 with fail
    refine wl ?_;refine zq (iV (k:Int)) ?_;refine zp (iV ((k+1:Nat):Int)) (by exact Hm (by omega)) ?_;refine Bq Ac _ (iV ((ms.length:Nat):Int)) ?_;refine zp (.bool true) (by exact Dv (e:=(Ae (by omega)))) ?_;refine Dh Ac (.bool true) (iV (s+e.up)) (iV rule) ?_;refine zc (Wi (s+e.up) rule _ ⟨(by omega),(by omega)⟩ E4.1) ?_;rintro e I9 ⟨rfl,hx⟩;have I1:=zH (C2.1.step hx);have F5:=zH (Af.of_ext hx);clear hx;refine⟨.bool false,by rw[CF.1],?_⟩;try simp only[Act.put,zA,zB,zC]
    refine zq (.bool false) ?_;have D4:=tD (tD B2 B1) F5;have D3:=tD (tD (tD D5 B2) B1) F5;go_wp2_with fail
    go_roundg (ms.length-(k+1))
    case measure=>exact(by have D6:=HLT.1;omega)
    case rel=>exact⟨k+1,m,es,A1,c1,s+e.up,rfl,rfl,rfl,(by go_num),HLT.1,C0.1,⟨by omega,by omega⟩,⟨HM.1.1,by have:=HM.1.2;omega⟩,(by rw[A4.1,Zm E6.1,if_neg (by rw[E5.1,CF.1];decide),hZZ]),(fun g hg=>(C1.1 g hg).dig D4.1),I1.1.take 3,D3.1⟩
   have CF:=zH hcf;clear hcf;go_upto_region 8 with fail
   refine wl ?_;refine zq (iV (k:Int)) ?_;refine zp (iV ((k+1:Nat):Int)) (by exact Hm (by omega)) ?_;refine Bq Ac _ (iV ((ms.length:Nat):Int)) ?_;refine zp (.bool true) (by exact Dv (e:=(Ae (by omega)))) ?_;refine Dh Ac (.bool true) (iV (s+e.up)) (iV rule) ?_;refine zc (Wi (s+e.up) rule _ ⟨(by omega),(by omega)⟩ E4.1) ?_;rintro e A3 ⟨rfl,hx⟩;have B8:=zH (C2.1.step hx);have F4:=zH (Af.of_ext hx);clear hx;refine⟨.bool true,by rw[CF.1],?_⟩;try simp only[Act.put,zA,zB,zC]
   refine zq (.bool true) ?_;go_upto_region 9 with fail
   refine wp_region_held_drew (S:=fun x=>Fr (fun kz=>Value.ownBlock (.slice A1 m c1)=some kz) A3 x) kR (Fr.of_ext zb) (fun _=> ?_);have I0:=zH (B8.1.step (Aa.refl A3).drew);have F3:=zH (Af.of_ext (w:=A3) zb);refine zx 0 (bs 13 1) (.slice A1 m c1) (Fr.of_ext zb) ?_;refine mX 1 (bs 13 3) (.pointer (some ⟨C6,0,none⟩)) (Fr.of_ext zb) ?_;refine zr 2 (bs 13 7) C6 (0) [.bool e.a.n,.slice e.a.p e.a.l e.a.c,.bool e.a.m,.slice e.a.p2 e.a.l2 e.a.c2] (fun x hx=>Fr.range hx (show World.rangeAt A3 C6 (0) [.bool e.a.n,.slice e.a.p e.a.l e.a.c,.bool e.a.m,.slice e.a.p2 e.a.l2 e.a.c2]from(B8.1.range (i:=3) rR 0 4)) (B8.1.offRow (i:=3) (j:=2) rR rR dC rR)) Tryz.underlying33 (Fr.of_ext zb) ?_;refine zx 3 (bs 13 15) (.slice (some ⟨gm,0,none⟩) ms.length cm) (Fr.of_ext zb) ?_;refine zx 4 (bs 13 31) (iV (k:Int)) (Fr.of_ext zb) ?_;refine zu 5 (bs 13 63) (v:= iV ((k+1:Nat):Int)) (Fr.of_ext zb) ?_ (hv:=by intro w G7;exact Hm (by omega));refine zu 6 (bs 13 127) (v:= .pointer (some ⟨gm,(k+1)*5,none⟩)) (Fr.of_ext zb) ?_ (hv:=by intro w G7;exact Jo (k:=k+1) Tryz.underlying160 (l:=CK.1) (f:=(dZZ _).symm));refine mX 7 (bs 13 255) (.pointer (some ⟨gm,(k+1)*5,none⟩)) (Fr.of_ext zb) ?_;refine zr 8 (bs 13 511) gm ((k+1)*5) [.bool f.a.n,.slice f.a.p f.a.l f.a.c,.bool f.a.m,.slice f.a.p2 f.a.l2 f.a.c2] (fun x hx=>Fr.range hx (show World.rangeAt A3 gm ((k+1)*5) [.bool f.a.n,.slice f.a.p f.a.l f.a.c,.bool f.a.m,.slice f.a.p2 f.a.l2 f.a.c2]from(dT (B8.1.elem (f:=Gc.cells) (i:=1) rR Gc.len E9.1) 0 4)) (B8.1.offRow (i:=1) (j:=2) rR rR dC rR)) Tryz.underlying33 (Fr.of_ext zb) ?_;refine zx 9 (bs 13 1023) (.agg #[.bool e.a.n,.slice e.a.p e.a.l e.a.c,.bool e.a.m,.slice e.a.p2 e.a.l2 e.a.c2,.bool f.a.n,.slice f.a.p f.a.l f.a.c,.bool f.a.m,.slice f.a.p2 f.a.l2 f.a.c2]) (Fr.of_ext zb) ?_;refine mU 10 (bs 13 2047) (v:= .slice (some ⟨A3.drew.heap.size,0,none⟩) 1 1) (w':=(A3.drew.alloc (.cells ([.bool e.a.n,.slice e.a.p e.a.l e.a.c,.bool e.a.m,.slice e.a.p2 e.a.l2 e.a.c2,.bool f.a.n,.slice f.a.p f.a.l f.a.c,.bool f.a.m,.slice f.a.p2 f.a.l2 f.a.c2]:List Value).toArray 159))) ((Fr.of_ext zb).trans (Fr.of_ext ((Aa.refl A3.drew).alloc _))) ?_;try simp only[Act.put,zA,zB,zC]
   refine oK (j:=11) (listed':=(bs 13 4095)) rR kR rR _ _ _ rR wO rR I0.1 (ix:=2) rR 1 1 [.bool e.a.n,.slice e.a.p e.a.l e.a.c,.bool e.a.m,.slice e.a.p2 e.a.l2 e.a.c2,.bool f.a.n,.slice f.a.p f.a.l f.a.c,.bool f.a.m,.slice f.a.p2 f.a.l2 f.a.c2] rR rfl (by simp[Value.oneCell']) (by simp[At]) dC (by unfold maxLen;exact(by omega)) (by omega) kR ?_;intro E2 B6 C3 hf hh hd hg;have I4:=zH hf;clear hf;rw[show List.flatMap Df.cells es++[.bool e.a.n,.slice e.a.p e.a.l e.a.c,.bool e.a.m,.slice e.a.p2 e.a.l2 e.a.c2,.bool f.a.n,.slice f.a.p f.a.l f.a.c,.bool f.a.m,.slice f.a.p2 f.a.l2 f.a.c2]=_ from Hc Df.cells _ (⟨e.a,f.a,e.q,f.q⟩:Df)]at hh;have H8:=hN hh;have F2:=zH (show Af A3.drew C3 from hd);have E3:=zH (show Fr (fun kz=>Value.ownBlock (.slice A1 m c1)=some kz) A3 C3 from Fr.trans_new ((Fr.of_ext zb).trans (Fr.of_ext (Al.alloc _))) hg (fun j hj=> .inl hj));clear hh hd hg;refine⟨E3.1,?_⟩;try simp only[Act.put,zA,zB,zC]
   refine zx 12 (bs 13 8191) (.slice (some ⟨E2,0,none⟩) (m+1) B6) E3.1 ?_;refine wpAnyH_done kR ?_ _;have D2:=tD (tD (tD (tD B2 B1) F4) F3) F2;have B0:=tD (tD (tD (tD (tD D5 B2) B1) F4) F3) F2;have C9:=zH (show Df.Ok (L+8) C3 (⟨e.a,f.a,e.q,f.q⟩:Df)from⟨(H1.1.dig B0.1),(G9.1.dig B0.1),I6.1,I5.1⟩);go_wp2_with fail
   go_roundg (ms.length-(k+1))
   case measure=>exact(by have D6:=HLT.1;omega)
   case rel=>exact⟨k+1,m+1,es++[(⟨e.a,f.a,e.q,f.q⟩:Df)],some ⟨E2,0,none⟩,B6,s+e.up,rfl,rfl,rfl,(by go_num),HLT.1,C0.1,⟨by omega,by omega⟩,⟨by rw[aZZ,<-HM.1.1];rfl,by have:=HM.1.2;omega⟩,(by rw[jXX,A4.1,Zm E6.1,if_pos (by rw[E5.1];exact CF.1)];rfl),(fun g hg=>(List.mem_append.1 hg).elim (fun hg=>(C1.1 g hg).dig D2.1) (fun hg=>by rw[List.mem_singleton.1 hg];exact C9.1)),H8.1.take 3,B0.1⟩
  have D8:=CK.1;go_upto_region 8 with fail
  refine wl ?_;refine zq (iV (k:Int)) ?_;refine zp (iV ((k+1:Nat):Int)) (by exact Hm (by omega)) ?_;refine Bq Ac _ (iV ((ms.length:Nat):Int)) ?_;refine zp (.bool false) (by exact Dv (e:=(Ah (by omega)))) ?_;refine Kf Ac (.bool false) _ _ _ (.bool false) ?_;have D1:=tD B2 B1;have D0:=tD (tD D5 B2) B1;go_wp2_with fail
  go_roundg (ms.length-(k+1))
  case measure=>exact(by have D6:=HLT.1;omega)
  case rel=>exact⟨k+1,m,es,A1,c1,s+e.up,rfl,rfl,rfl,(by go_num),HLT.1,C0.1,⟨by omega,by omega⟩,⟨HM.1.1,by have:=HM.1.2;omega⟩,(by rw[A4.1,cQQ (show(Nt 0 qs).length<=k by rw[Ld];omega),cQQ (show(Nt 0 qs).length<=k+1 by rw[Ld];omega)]),(fun g hg=>(C1.1 g hg).dig D1.1),C2.1.take 3,D0.1⟩
 obtain rfl:k=ms.length:=by have:=HK.1;have:=HLT.1;omega
 have J8:¬(ms.length:Int)<(ms.length:Int):=by omega
 have H4:=zH (B9.1.row (i:=2) (by rfl));have D7:m<20:=by have:=HM.1.2;omega
 have G1:=HM.1.1;subst G1;go_upto_region 11 with fail
 refine wl ?_;refine Cs Ac _ ?_;refine zc (Vt (L+8) _ (List.map Df.vl es) _ (La.reads ⟨H4.1,C1.1⟩) (by omega) (by omega) (by rw[eZZ];omega)) ?_;rintro e I8 ⟨vm,em,rfl,G4,G3,G2,hx⟩;have H7:=zH (B9.1.step hx);clear hx;refine zn ?_;refine zq (vm) ?_;go_wp2_with fail
 go_ret
 exact⟨_,rfl,em,La.base G4 B9.1.ext.size,by rw[G3,A4.1,cQQ (by rw[Ld];omega),C7.1,B7.1];rfl,nZZ G2 (by rw[eZZ];exact D7),H7.1.ext⟩
theorem kF {f t:Rat}{es:List Df}{k:Nat}{e:Df}(h:es[k]?=some e):Gn f t ((es.map Df.vl).take (k+1))=Gn f t ((es.map Df.vl).take k)+Ie f t (e.p,e.q):=by
  rw[List.take_add_one,kZZ,h];simp only[Option.map_some,Option.toList_some];rw[oM,Ga,Lk];show _+(Ie f t (e.p,e.q)+0)=_;grind
theorem Vz {f t p q a b:Rat}(ha:a=if p<f then f else p)(hb:b=if t<q then t else q):Ie f t (p,q)=if a<b then b-a else 0:=by subst ha hb;unfold Ie;grind
theorem bC (L:Nat)(u:Value)(ps:List QQ)(rf rt:RV)(f t:Rat)(w:World)(hu:Nh L w u ps)(hf:rf.In L w f)(ht:rt.In L w t)(h1L:1<=L)(hL:L<=20000)(hn:ps.length<20)(hLn:ps.length*(2*L+2)<=50400):
  Calls Tryz.prog 123 #[u,.agg #[.bool rf.n,.slice rf.p rf.l rf.c,.bool rf.m,.slice rf.p2 rf.l2 rf.c2],.agg #[.bool rt.n,.slice rt.p rt.l rt.c,.bool rt.m,.slice rt.p2 rt.l2 rt.c2]] w fun e w'=>∃r:RV,e= .returned (.agg #[.bool r.n,.slice r.p r.l r.c,.bool r.m,.slice r.p2 r.l2 r.c2])/\r.Is w' (Gn f t (Fm ps))/\Nm.rl (Gn f t (Fm ps))<=60000/\Aa w w':=by
 have HU:=zH hu;have RF:=zH hf;have RT:=zH ht;clear hu hf ht;go_enter Tryz.func123,Tryz.ntmps123
 have H0:=zH (Hp.start w);go_upto_region 0 with fail
 refine wl ?_;refine Cm 33 (rc rf) H0.1 ?_;intro E7 N2 J5 _;refine Cm 33 (rc rt) J5.1 ?_;intro E6 N1 J4 _;refine Cm 33 rz J4.1 ?_;intro E5 N0 J3 _;go_upto_region 1 with fail
 refine wl ?_;refine zc (Cx 0 _ (by omega) (by omega)) ?_;rintro e M9 ⟨c_,rfl,A9,hx⟩;have J2:=zH (J3.1.step hx);obtain⟨C9,rfl,A8⟩:=A9;have I1:=zH A8;have K4:=zH (Bk 0 (by omega) (by omega));clear A8 hx;refine zn ?_;refine Cm 33 rz J2.1 ?_;intro A4 M8 J1 K2;refine Cy 3 (rc C9) J1.1 ?_;intro M7 F5 K1;go_upto_region 2 with fail
 refine wl ?_;refine Cs Ac _ ?_;go_upto_region 3 with fail
 refine wl ?_;refine qV (u) ?_;refine zc (Vt L u ps _ (HU.1.ext F5.1.ext) h1L (by omega) (by omega)) ?_;rintro e D6 ⟨v_,es,rfl,B6,C2,E0,hx⟩;have I3:=zH C2;have O3:=zH E0;have O1:=zH B6.2;obtain⟨Am,cm,rfl,L2⟩:=Be.form B6.1;have HA:=zH L2;clear C2 E0 L2;have F4:=zH (show Hp w D6 [.blk E7 33 (rc rf),.blk E6 33 (rc rt),.blk E5 33 rz,.blk A4 33 (rc C9),ro 159 8 Am es.length cm Df.cells es]from F5.1.addRow hx B6.1);have K0:=zH (Af.of_ext hx);clear B6 hx;refine zn ?_;refine Bq Ac (iV ((es.length:Nat):Int)) _ ?_;have N6:es.length<=ps.length:=by have:=O3.1;omega
 have G0:=tD (tD K2 K1) K0;go_wp2_with fail
 go_loopg [17] (es.length) (fun cq H3 wr=>∃(k:Nat) (rs:RV),cq=es.length-k/\H3= iV (k:Int)/\(k<=es.length)/\(rs.Is wr (Gn f t ((es.map Df.vl).take k)))/\(Nm.rl (Gn f t ((es.map Df.vl).take k))<=2+k*(2*L+2))/\Hp w wr [.blk E7 33 [.bool rf.n,.slice rf.p rf.l rf.c,.bool rf.m,.slice rf.p2 rf.l2 rf.c2],.blk E6 33 [.bool rt.n,.slice rt.p rt.l rt.c,.bool rt.m,.slice rt.p2 rt.l2 rt.c2],.blk E5 33 [.bool false,.slice none 0 0,.bool false,.slice none 0 0],.blk A4 33 [.bool rs.n,.slice rs.p rs.l rs.c,.bool rs.m,.slice rs.p2 rs.l2 rs.c2],.row 159 8 (.slice Am es.length cm) (es.length) (List.flatMap Df.cells es)]/\Af D6 wr)
 case atStart=>exact⟨0,C9,rfl,rfl,eQQ _,(by have h:=(I1.1.dig G0.1);simpa[Gn]using h),(by have h:=K4.1;simpa[Gn]using h),F4.1,Af.refl _⟩
 obtain⟨k,rs,rfl,rfl,D8,D7,D9,L0,L1⟩:=hrel;generalize wr=M6 at*
 have HK:=zH D8;clear D8;have RS:=zH D7;clear D7;have BS:=zH D9;clear D9;have C0:=zH L0;have D5:=zH L1;clear L0 L1 F4;rcases Co (k<es.length)with HLT|HLT
 ·have K9:=HLT.1
  have N5:(k:Int)<(es.length:Int):=by omega
  obtain⟨gm,rfl⟩:=HA.1 (by omega);have O7:k*(2*L+2)<=50400:=Ar (hXX _ (show k<=ps.length by omega)) hLn;have N7:(k+1)*(2*L+2)=k*(2*L+2)+(2*L+2):=by rw[kQQ,Nat.one_mul]
  generalize hkq:(k+1)*(2*L+2)=KQ at*
  generalize hkq2:k*(2*L+2)=KP at*
  obtain⟨e,H4⟩:∃e,es[k]?=some e:=⟨_,aQQ K9⟩;have L4:=zH H4;have G8:=zH (O1.1 e (bZZ H4));have O0:=zH G8.1.1;have N9:=zH G8.1.2.1;have L6:=zH G8.1.2.2.1;have L5:=zH G8.1.2.2.2;clear H4;have G7:=zH (kF (f:=f) (t:=t) L4.1);have L3:=zH hkq;have O2:=zH hkq2;clear hkq hkq2 K9;go_upto_region 5 with fail
  refine wl ?_;refine zp (.pointer (some ⟨gm,k*8,none⟩)) (by exact Jo (k:=k) Tryz.underlying134 (l:=HLT.1) (f:=(dZZ _).symm)) ?_;refine zd gm (k*8) [.bool e.a.n,.slice e.a.p e.a.l e.a.c,.bool e.a.m,.slice e.a.p2 e.a.l2 e.a.c2,.bool e.b.n,.slice e.b.p e.b.l e.b.c,.bool e.b.m,.slice e.b.p2 e.b.l2 e.b.c2] (C0.1.elem (f:=Df.cells) (i:=4) rR Df.len L4.1) Tryz.underlying159 ?_;refine Cm 159 [.bool false,.slice none 0 0,.bool false,.slice none 0 0,.bool false,.slice none 0 0,.bool false,.slice none 0 0] C0.1 ?_;intro E4 M5 J0 B5;refine Cy 5 [.bool e.a.n,.slice e.a.p e.a.l e.a.c,.bool e.a.m,.slice e.a.p2 e.a.l2 e.a.c2,.bool e.b.n,.slice e.b.p e.b.l e.b.c,.bool e.b.m,.slice e.b.p2 e.b.l2 e.b.c2] J0.1 ?_;intro C8 B2 B4;go_upto_region 6 with fail
  refine zy ?_;have D2:=zH (B2.1.step (Aa.refl C8).drew);have B3:=zH (Af.of_ext (w:=C8) zb);refine Ra Ac zb (bs 14 3) 0 1 _ _ ?_;refine zg 2 (bs 14 7) E4 (0) (rc e.a) (B2.1.range (i:=5) rR 0 4) Tryz.underlying33 zb ?_;refine lJ B2.1 zb (bs 14 111) 3 5 6 _ _ _ ?_;refine zg 7 (bs 14 239) E4 (4) (rc e.b) (B2.1.range (i:=5) rR 4 4) Tryz.underlying33 zb ?_;refine Rp B2.1 zb (bs 14 495) 8 _ ?_;have C6:=tD (tD (tD D5 B5) B4) B3;refine cZ (f:=2) 4 9 10 11 25 30 11 12 33 z4 (fun v w=>∃c,v= .agg c/\Gy 60000 w c (if e.p<f then f else e.p)) (fun v w=>∃c,v= .agg c/\Gy 60000 w c (if t<e.q then t else e.q)) rfl rfl rfl rfl dC dC kR (fun _ hx=>zb.trans hx) (fun _ _ _ h e=>by obtain⟨c,h1,h2⟩:=h;exact⟨c,h1,h2.ext e⟩) (fun _ _ _ h e=>by obtain⟨c,h1,h2⟩:=h;exact⟨c,h1,h2.ext e⟩) ?ht287c1 ?ht287c2 ?ht287c3 ?ht287c4 ?ht287e _ _ _ _ kR rfl;case ht287c1=>
   intro v1 v2 v3 v4 w1 K D0 E1 hK;try simp only[Act.put,zA,zB,zC]
   rw[if_pos (by rfl)];refine Dm (by go_simp) (kH 60000 _ _ e.p f _ (RV.Is.nin (O0.1.dig (C6.1.trans (Af.of_ext D0))) (Ar L6.1 (by omega))) (RV.In.nin (RV.In.mono (RF.1.dig (D2.1.dig0.trans (Af.of_ext D0))) (by omega))) (by omega)) ?_;rintro e w' ⟨c_,rfl,A9,hx⟩;refine⟨_,rfl,?_⟩;have hk:=hK.out _ _ ⟨c_,rfl,A9⟩ hx;try simp only[Act.put,zA,zB,zC]
   simp only[Act.put,zA,zB,zC]at hk;exact hk
  case ht287c2=>
   intro v1 v2 v3 v4 w1 K D0 E1 hK;try simp only[Act.put,zA,zB,zC]
   rw[if_pos (by rfl)];refine Dm (by go_simp) (eL 60000 _ _ e.q t _ (RV.Is.nin (N9.1.dig (C6.1.trans (Af.of_ext D0))) (Ar L5.1 (by omega))) (RV.In.nin (RV.In.mono (RT.1.dig (D2.1.dig0.trans (Af.of_ext D0))) (by omega))) (by omega)) ?_;rintro e w' ⟨c_,rfl,A9,hx⟩;refine⟨_,rfl,?_⟩;have hk:=hK.out _ _ ⟨c_,rfl,A9⟩ hx;try simp only[Act.put,zA,zB,zC]
   simp only[Act.put,zA,zB,zC]at hk;exact hk
  case ht287c3=>
   intro v1 v2 v3 v4 w1 K D0 E1 hK;try simp only[Act.put,zA,zB,zC]
   go_simp
   have hk:=hK.out;simp only[Act.put,zA,zB,zC]at hk;exact hk
  case ht287c4=>
   intro v1 v2 v3 v4 w1 K D0 E1 hK;try simp only[Act.put,zA,zB,zC]
   go_simp
   have hk:=hK.out;simp only[Act.put,zA,zB,zC]at hk;exact hk
  case ht287e=>
  intro O5 O4 E3 E2 H2 hx E1 L8 L7 K6 K5 H1 G9 K7;have hh:=D2.1.add2 hx K6 K5 H1 G9 K7 (by simp[At]) (by simp[At]);have D1:=hN hh;have C1:=zH (show Af C8.drew H2 from Af.of_ext hx);have H8:=zH (zb.trans hx);have J7:=zH (Ar zb.size H1);have J6:=zH (Ar zb.size G9);obtain⟨c_,rfl,A9⟩:=L8;obtain⟨A1,rfl,A8⟩:=A9;have B8:=zH A8;have G6:=zH (show Nm.rl (if e.p<f then f else e.p)<=L from by have h1:=L6.1;have h2:=(show Nm.rl f<=L from by have h:=(RF.1.dig D1.1.dig0).rl;omega);split<;>omega);clear A8;generalize hq_:(if e.p<f then f else e.p)=B1 at B8 G6⊢
  have F1:=zH hq_;clear hq_;obtain⟨c_,rfl,A9⟩:=L7;obtain⟨A0,rfl,A8⟩:=A9;have B7:=zH A8;have G5:=zH (show Nm.rl (if t<e.q then t else e.q)<=L from by have h1:=L5.1;have h2:=(show Nm.rl t<=L from by have h:=(RT.1.dig D1.1.dig0).rl;omega);split<;>omega);clear A8;generalize hq_:(if t<e.q then t else e.q)=B0 at B7 G5⊢
  have F0:=zH hq_;clear hq_ hh hx E1 K6 K5 H1 G9 K7;try simp only[zA,zB,zC]
  refine bS 6 12 (bs 14 8191) (rc A1) D1.1 H8.1 J7.1 ?_;intro M4 I9 A7 H7;refine bS 7 13 (bs 14 16383) (rc A0) I9.1 H7.1 J6.1 ?_;intro M3 B9 A6 N8;refine wpAnyH_done kR ?_ _;rcases Co (B1<B0)with CL|CL
  ·go_upto_region 7 with fail
   refine wl ?_;refine Bq B9.1 _ _ ?_;have C5:=tD A7 A6;refine aC B9.1 (Fk (L:=60000) (RV.In.nin (RV.In.mono (B8.1.dig C5.1) (by omega))) (RV.In.nin (RV.In.mono (B7.1.dig C5.1) (by omega))) (by omega)) ?_;intro A2 A5 D4;refine zp (.bool true) (by exact Dv (e:=(Ae (rcmp_lt.2 CL.1)))) ?_;go_upto_region 8 with fail
   refine wp_region_held_drew (S:=fun x=>Fr (fun kz=>kz=A4) A2 x) kR (Fr.of_ext zb) (fun _=> ?_);have I8:=zH (A5.1.step (Aa.refl A2).drew);have D3:=zH (Af.of_ext (w:=A2) zb);refine mR 1 (bs 6 2) E2 (0) [.bool A0.n,.slice A0.p A0.l A0.c,.bool A0.m,.slice A0.p2 A0.l2 A0.c2] (fun x hx=>Fr.range hx (show World.rangeAt A2 E2 (0) [.bool A0.n,.slice A0.p A0.l A0.c,.bool A0.m,.slice A0.p2 A0.l2 A0.c2]from(A5.1.range (i:=7) rR 0 4)) (A5.1.offBlk (i:=7) (j:=3) rR rR dC rR)) Tryz.underlying33 (Fr.of_ext zb) ?_;refine zr 2 (bs 6 6) E3 (0) [.bool A1.n,.slice A1.p A1.l A1.c,.bool A1.m,.slice A1.p2 A1.l2 A1.c2] (fun x hx=>Fr.range hx (show World.rangeAt A2 E3 (0) [.bool A1.n,.slice A1.p A1.l A1.c,.bool A1.m,.slice A1.p2 A1.l2 A1.c2]from(A5.1.range (i:=6) rR 0 4)) (A5.1.offBlk (i:=6) (j:=3) rR rR dC rR)) Tryz.underlying33 (Fr.of_ext zb) ?_;refine Fd.go (j:=0) (dj:=some 35) (u:= .agg #[.bool rs.n,.slice rs.p rs.l rs.c,.bool rs.m,.slice rs.p2 rs.l2 rs.c2]) ?_;have C4:=tD (tD (tD A7 A6) D4) D3;refine Hl (b:=A2) (i:=3) (lj:=(bs 6 7)) (li:=(bs 6 14)) rR rR kR kR kR kR kR dC kR rR rR (fun x_ h_=>Fr.of_ext h_) (Aa.refl A2).drew (fun x_ h_=>Je _ _ rR A4 (0) [.bool rs.n,.slice rs.p rs.l rs.c,.bool rs.m,.slice rs.p2 rs.l2 rs.c2] rR (Bu (show World.rangeAt A2 A4 (0) [.bool rs.n,.slice rs.p rs.l rs.c,.bool rs.m,.slice rs.p2 rs.l2 rs.c2]from A5.1.range (i:=3) rR 0 4) h_) Tryz.underlying33 rR kR) rR (by go_simp) kR (aP (L:=60000) (RV.In.nin (RV.In.mono (B7.1.dig C4.1) (by omega))) (RV.In.nin (RV.In.mono (B8.1.dig C4.1) (by omega))) (by omega)) ?_;rintro e C7 ⟨c_,rfl,A9,hx⟩;have I7:=zH (I8.1.step hx);have G3:=zH (show Af A2.drew C7 from Af.of_ext hx);have H5:=zH (show Aa A2 C7 from(Aa.refl A2).drew.trans hx);have E9:=zH (show Fr (fun kz=>kz=A4) A2 C7 from(Fr.of_ext zb).trans (Fr.of_ext hx));obtain⟨N3,rfl,A8⟩:=A9;have I0:=zH A8;clear A8;have G4:=zH (show Nm.rl (B0-B1)<=L+L+1 from by have h1:=G5.1;have h2:=G6.1;have h3:=Nm.rl_sub B0 B1;omega);have K8:=hx;clear hx;refine⟨_,rfl,K8,?_⟩;try simp only[Act.put,zA,zB,zC]
   clear K8;refine My rR kR rR rR E9.1 (Je _ _ rR A4 (0) [.bool rs.n,.slice rs.p rs.l rs.c,.bool rs.m,.slice rs.p2 rs.l2 rs.c2] rR (Bu (show World.rangeAt A2 A4 (0) [.bool rs.n,.slice rs.p rs.l rs.c,.bool rs.m,.slice rs.p2 rs.l2 rs.c2]from A5.1.range (i:=3) rR 0 4) H5.1) Tryz.underlying33 rR kR) (show _=(bs 6 15)by kernel_rfl) ?_;try simp only[Act.put,zA,zB,zC]
   have F9:=tD (tD (tD (tD (tD (tD (tD (tD B5 B4) B3) C1) A7) A6) D4) D3) G3;refine mC 4 (bs 6 31) (jL (L:=60000) (RV.Is.nin (RS.1.dig F9.1) (Ar BS.1 (by omega))) (RV.Is.nin I0.1 (Ar G4.1 (by omega))) (by omega)) ?_;rintro e M2 ⟨c_,rfl,A9,hx⟩;have I6:=zH (I7.1.step hx);have J9:=zH (Af.of_ext hx);have E8:=zH (E9.1.trans (Fr.of_ext hx));obtain⟨A3,rfl,A8⟩:=A9;have H9:=zH A8;clear A8;have K3:=zH (show Nm.rl ((Gn f t ((es.map Df.vl).take k))+(B0-B1))<=(2+KP)+(L+L+1)+1 from by have h1:=BS.1;have h2:=G4.1;have h3:=Nm.rl_add (Gn f t ((es.map Df.vl).take k)) (B0-B1);omega);clear hx;refine zm E8.1 ?_;refine Ea (i:=5) (listed':=(bs 6 63)) rR kR rR kR _ _ _ rR I6.1 (ix:=3) rR 0 [.bool A3.n,.slice A3.p A3.l A3.c,.bool A3.m,.slice A3.p2 A3.l2 A3.c2] rR rR (by simp) kR (by simp[Value.oneCell']) (by simp[At]) ?_;intro M1 hh hd ho;have I5:=hN hh;have G2:=zH (hd);have H6:=zH (Fr.trans_new E8.1 ho (fun j hj=> .inl (by simpa using hj.symm)));clear hh hd ho;refine⟨H6.1,?_⟩
   (try simp only[Act.put])
   refine wpAnyH_done kR ?_ _;have F2:=zH ((Vz (p:=e.p) (q:=e.q) (f:=f) (t:=t) F1.1.symm F0.1.symm).trans (if_pos CL.1));have F8:=tD (tD (tD (tD (tD (tD (tD (tD (tD (tD (tD D5 B5) B4) B3) C1) A7) A6) D4) D3) G3) J9) G2;go_wp2_with fail
   go_roundg (es.length-(k+1))
   case measure=>exact(by have N4:=HLT.1;omega)
   case rel=>exact⟨k+1,A3,rfl,(by go_num),HLT.1,(by rw[G7.1,F2.1];exact(H9.1.dig G2.1)),(by rw[G7.1,F2.1,L3.1];exact Ar K3.1 (by omega)),I5.1.take 5,F8.1⟩
  go_upto_region 7 with fail
  refine wl ?_;refine Bq B9.1 _ _ ?_;have C3:=tD A7 A6;refine aC B9.1 (Fk (L:=60000) (RV.In.nin (RV.In.mono (B8.1.dig C3.1) (by omega))) (RV.In.nin (RV.In.mono (B7.1.dig C3.1) (by omega))) (by omega)) ?_;intro M0 I4 G1;refine zp (.bool false) (by exact Dv (e:=(Ah (fun hh=>CL.1 (rcmp_lt.1 hh))))) ?_;have F2:=zH ((Vz (p:=e.p) (q:=e.q) (f:=f) (t:=t) F1.1.symm F0.1.symm).trans (if_neg CL.1));have F7:=tD (tD (tD (tD (tD (tD B5 B4) B3) C1) A7) A6) G1;have F6:=tD (tD (tD (tD (tD (tD (tD D5 B5) B4) B3) C1) A7) A6) G1;go_wp2_with fail
  go_roundg (es.length-(k+1))
  case measure=>exact(by have N4:=HLT.1;omega)
  case rel=>exact⟨k+1,rs,rfl,(by go_num),HLT.1,(by rw[G7.1,F2.1,Rat.add_zero];exact(RS.1.dig F7.1)),(by rw[G7.1,F2.1,L3.1,Rat.add_zero];exact Ar BS.1 (by have:=O2.1;omega)),I4.1.take 5,F6.1⟩
 obtain rfl:k=es.length:=by have:=HK.1;have:=HLT.1;omega
 have O6:¬(es.length:Int)<(es.length:Int):=by omega
 have HR:=zH (show Gn f t ((es.map Df.vl).take es.length)=Gn f t (Fm ps)by rw[cQQ (by simp),I3.1]);go_upto_region 10 with fail
 refine wl ?_;refine zd A4 (0) (rc rs) (C0.1.range (i:=3) rR 0 4) Tryz.underlying33 ?_;refine Cy 2 (rc rs) C0.1 ?_;intro L9 F3 J8;go_wp2_with fail
 refine bodyPost_ret (v:= .agg #[.bool rs.n,.slice rs.p rs.l rs.c,.bool rs.m,.slice rs.p2 rs.l2 rs.c2]) ?_ rfl ⟨rs,rfl,by rw[<-HR.1];exact(RS.1.dig J8.1),by rw[<-HR.1];exact Ar BS.1 (by have:=Ar (hXX (2*L+2) (show es.length<=ps.length by omega)) hLn;omega),F3.1.ext⟩;exact An rfl rfl ((F3.1.blk (i:=2) rR).loadVar rfl rfl rR)
theorem vT (q r:Rat):(q+r)/2=Rat.divInt (q.num*r.den+r.num*q.den) ((q.den:Int)*r.den+(q.den:Int)*r.den):=by
 rw[Nm.add_eq,Rat.divInt_eq_div,Rat.divInt_eq_div,Rat.intCast_add (((q.den:Nat):Int)*r.den)];have hd:((((q.den:Nat):Int)*((r.den:Nat):Int):Int):Rat)≠0:=by
  have h:=Int.mul_ne_zero (a:=(q.den:Int)) (b:=(r.den:Int)) (by have:=q.den_nz;omega) (by have:=r.den_nz;omega);exact_mod_cast h
 generalize (((((q.den:Nat):Int)*((r.den:Nat):Int):Int)):Rat)=D at*
 generalize ((q.num*r.den+r.num*q.den:Int):Rat)=A at*
 rw[Rat.div_def,Rat.div_def,Rat.div_def];have h1:=Rat.inv_mul_cancel D hd;have h2:(2:Rat)⁻¹+(2:Rat)⁻¹=1:=by decide+kernel
 have h3:=Rat.inv_mul_cancel (D+D) (by grind);generalize D⁻¹=i at*
 generalize (2:Rat)⁻¹=h at*
 generalize (D+D)⁻¹=j at*
 grind
theorem mW (n m n' m':Bool)(u v u' v':Value)(L:Nat)(q r:Rat)(w:World)(h:Eb L w n u m v q)(h':Eb L w n' u' m' v' r)(hL:L<=70000):
  Calls Tryz.prog 98 #[.agg #[.bool n,u,.bool m,v],.agg #[.bool n',u',.bool m',v']] w (Ih ((q+r)/2) w):=by
 have A0:=Og (L:=L+1) (q:=q) (r:=r) (by have:=h.rl;omega) (by have:=h'.rl;omega);obtain⟨p1,l1,c1,p2,l2,c2,rfl,rfl⟩:=h.form;obtain⟨p3,l3,c3,p4,l4,c4,rfl,rfl⟩:=h'.form;have hE:Aa w (((w.alloc (.cells #[.bool n,.slice p1 l1 c1,.bool m,.slice p2 l2 c2] 33)).alloc (.cells #[.bool n',.slice p3 l3 c3,.bool m',.slice p4 l4 c4] 33)).alloc (.cells z4 33)):=((Al.alloc _).alloc _).alloc _;have HC:=zH (Md n m n' m' _ _ _ _ L q r _ (h.ext hE) (h'.ext hE) hL);have HI:=zH (fun W n1 v1 n2 v2 (x:Cv W n1 v1 (q.num*r.den)) (y:Cv W n2 v2 (r.num*q.den))=>Om n1 n2 v1 v2 (2*(L+1)) _ _ W (x.isIn A0.1) (y.isIn A0.2.1) (by omega));have HJ:=zH (fun W n1 v1 n2 v2 (x:Cv W n1 v1 ((q.den:Int)*r.den)) (y:Cv W n2 v2 ((q.den:Int)*r.den))=>Om n1 n2 v1 v2 (2*(L+1)) _ _ W (x.isIn A0.2.2) (y.isIn A0.2.2) (by omega));have A3:=Mv _ _ _ A0.1 A0.2.1;have A5:=Mv _ _ _ A0.2.2 A0.2.2;have B2:(q.den:Int)*r.den+(q.den:Int)*r.den≠0:=by have h_:=Int.mul_ne_zero (a:=(q.den:Int)) (b:=(r.den:Int)) (by have:=q.den_nz;omega) (by have:=r.den_nz;omega);omega
 have B3:=zH (fun W n1 v1 n2 v2 (x:Cv W n1 v1 (q.num*r.den+r.num*q.den)) (y:Cv W n2 v2 ((q.den:Int)*r.den+(q.den:Int)*r.den))=>(show Calls Tryz.prog 84 #[.agg #[.bool n1,v1],.agg #[.bool n2,v2]] W (Ih ((q+r)/2) W)by
  rw[vT];exact Iq n1 n2 v1 v2 (2*(L+1)+1) _ _ W (x.isIn A3) (y.isIn A5) (by omega) B2))
 have HG:=zH (Gv ((w.alloc (.cells #[.bool n,.slice p1 l1 c1,.bool m,.slice p2 l2 c2] 33)).alloc (.cells #[.bool n',.slice p3 l3 c3,.bool m',.slice p4 l4 c4] 33)));have B6:=zH (fun w1 n1 t1 n2 t2 u0 u1 u2 u3=>Dn (w:=(w.alloc (.cells #[.bool n,.slice p1 l1 c1,.bool m,.slice p2 l2 c2] 33)).alloc (.cells #[.bool n',.slice p3 l3 c3,.bool m',.slice p4 l4 c4] 33)) (w1:=w1) (n:=n1) (u:=t1) (m:=n2) (v:=t2) (q:=(q+r)/2) (u0:=u0) (u1:=u1) (u2:=u2) (u3:=u3));have HE:=zH hE;clear h h' hE A0 A3 A5 B2;go_enter Tryz.func98,Tryz.ntmps98
 go_wp2_with fail
 refine HC.1.mono ?_;rintro e w1 ⟨n1,v1,n2,v2,n3,v3,rfl,i1,i2,i3,he⟩;obtain⟨f1,f2,f3,rfl⟩:=i1.form;obtain⟨f4,f5,f6,rfl⟩:=i2.form;obtain⟨f7,f8,f9,rfl⟩:=i3.form;have I1:=zH i1;have I2:=zH i2;have I3:=zH i3;clear i1 i2 i3;go_wp2_with fail
 have A9:=he.size;simp only[bXX]at A9;obtain⟨wm,A1⟩:∃wm,wm=((w1.alloc (.cells #[.bool n1,.slice f1 f2 f3] 31)).alloc (.cells #[.bool n2,.slice f4 f5 f6] 31)).alloc (.cells #[.bool n3,.slice f7 f8 f9] 31):=⟨_,rfl⟩;rw[<-A1];have A2:Aa w1 wm:=by rw[A1];exact((Al.alloc _).alloc _).alloc _
 have m0:Ad wm w1.heap.size 31 #[.bool n1,.slice f1 f2 f3]:=by rw[A1];exact((Ad.new w1 _ _).alloc _).alloc _
 have m1:Ad wm (w1.heap.size+1) 31 #[.bool n2,.slice f4 f5 f6]:=by rw[A1];exact(Ad.new_at _ _ (by simp) _ _).alloc _
 have m2:Ad wm (w1.heap.size+1+1) 31 #[.bool n3,.slice f7 f8 f9]:=by rw[A1];exact Ad.new_at _ _ (by simp) _ _
 have h1:=fun W (x:Aa wm W)=>HI.1 W _ _ _ _ (I1.1.ext (A2.trans x)) (I2.1.ext (A2.trans x))
 have h2:=fun W b t b' t' (y:Cv W b t (q.num*r.den+r.num*q.den)) (z:Cv W b' t' ((q.den:Int)*r.den+(q.den:Int)*r.den))=>B3.1 W _ _ _ _ y z
 have h3:=fun W (x:Aa wm W)=>HJ.1 W _ _ _ _ (I3.1.ext (A2.trans x)) (I3.1.ext (A2.trans x))
 have H3:=zH h3;have H1:=zH h1;have H2:=zH h2;have B4:=zH (he.trans A2);have gl:∀w',Ba (w.heap.size+1+1) wm w'->w'.cell? ⟨w1.heap.size,0,none⟩=some (.bool n1)/\w'.cell? ⟨w1.heap.size,1,none⟩=some (.slice f1 f2 f3)/\w'.cell? ⟨w1.heap.size+1,0,none⟩=some (.bool n2)/\w'.cell? ⟨w1.heap.size+1,1,none⟩=some (.slice f4 f5 f6)/\w'.cell? ⟨w1.heap.size+1+1,0,none⟩=some (.bool n3)/\w'.cell? ⟨w1.heap.size+1+1,1,none⟩=some (.slice f7 f8 f9):=fun w' x=>
  ⟨(m0.own x (by omega)).cell 0,(m0.own x (by omega)).cell 1,(m1.own x (by omega)).cell 0,(m1.own x (by omega)).cell 1,(m2.own x (by omega)).cell 0,(m2.own x (by omega)).cell 1⟩
 clear A1 A2 m0 m1 m2 h1 h2 h3 A9 HI HJ B3 I1 I2 I3;go_region_held3 (fun w'=>Ba (w.heap.size+1+1) wm w') (first|(with_reducible assumption)|(with_reducible exact Ba.drew (Ba.refl _ _))|(with_reducible (apply Ba.of_ext;assumption))|(with_reducible (refine Ba.set_at (Ba.set_at (Ba.set_at (Ba.set_at ?_ _ _ _) _ _ _) _ _ _) _ _ _;first|assumption|(apply Ba.of_ext;assumption))))
  (first|(go_at_call 85;((with_reducible refine(H1.1 _ (by first|assumption|exact Aa.drew Al)).mono ?_));rintro e wx ⟨k1,r1,rfl,B1,A7⟩;obtain⟨g1,g2,g3,rfl⟩:=B1.form;have hx:Aa wm wx:=Aa.trans (by first|assumption|exact Aa.drew Al) A7)|(go_at_call 85;((with_reducible refine(H3.1 _ (by first|assumption|exact Aa.drew Al)).mono ?_));rintro e wz ⟨k2,r2,rfl,B0,A4⟩;obtain⟨g4,g5,g6,rfl⟩:=B0.form;have B5:Aa wm wz:=Aa.trans hx A4)|(go_at_call 84;((with_reducible refine(H2.1 _ _ _ _ _ (B1.ext A4) B0).mono ?_));rintro e wy ⟨b1,t1,b2,t2,rfl,hc,A6⟩;obtain⟨x1,y1,z1,x2,y2,z2,rfl,rfl⟩:=hc.form;have A8:Aa wm wy:=Aa.trans B5 A6;have gk:=HG.1 _ (B4.1.trans A8);simp only[bXX]at gk))
 go_wp2_with fail
 have st:=B6.1 _ _ _ _ _ (.bool b1) (.slice x1 y1 z1) (.bool b2) (.slice x2 y2 z2) (B4.1.trans A8) hc;simp only[bXX]at st;refine bodyPost_ret (v:= .agg #[.bool b1,.slice x1 y1 z1,.bool b2,.slice x2 y2 z2]) ?_ rfl ⟨_,_,_,_,rfl,st.1,((Al.alloc _).alloc _).trans st.2⟩;simp[results,Tryz.results98,go_sem, *]
theorem xH {L:Nat}{w:World}{cs ct:Array Value}{q r:Rat}(hp:Gy L w cs q)(hq:Gy L w ct r)(hL:L<=70000):
    Calls Tryz.prog 98 #[.agg cs,.agg ct] w fun e w'=>∃c,e= .returned (.agg c)/\Mo w' c ((q+r)/2)/\Aa w w':=by
  obtain⟨a,rfl,h1⟩:=hp;obtain⟨b,rfl,h2⟩:=hq;refine(mW _ _ _ _ _ _ _ _ L q r w h1 h2 hL).mono fun e w' h=> ?_
  obtain⟨c,rfl,h3,h4⟩:=Ih.v h;exact⟨_,rfl,⟨c,rfl,h3⟩,h4⟩
theorem Hp.pickL {w0 w:World}{m:List Dc}(h:Hp w0 w m)(is:List Nat)(hn:is.Nodup)(es:List Dc)(he:is.map (fun i=>m[i]?)=es.map some):Hp w0 w es:=by
 have A0:∀(k:Nat) (e:Dc),es[k]?=some e->∃i,is[k]?=some i/\m[i]?=some e:=by
  intro k e hk;have h1:=congrArg (fun l=>l[k]?) he;simp only[kZZ,hk,Option.map_some]at h1;cases h2:is[k]?with
  |none=>rw[h2]at h1;simp at h1
  |some i=>rw[h2]at h1;simp at h1;exact⟨i,rfl,h1⟩
 refine⟨h.ext,fun k e hk=> ?_,fun i j e f hi hj hij=> ?_⟩
 ·obtain⟨i,_,h2⟩:=A0 k e hk
  exact h.all i e h2
 obtain⟨a,ha,h2⟩:=A0 i e hi;obtain⟨b,hb,h3⟩:=A0 j f hj;refine h.apart a b e f h2 h3 fun hab=>hij ?_
 subst hab;exact(List.getElem?_inj (List.getElem?_eq_some_iff.1 ha).1 hn).1 (ha.trans hb.symm)
theorem Hp.callO {w0 w w':World}{m:List Dc}{ir:Nat}{f f':Dc}{G:Nat->Prop}(h:Hp w0 w m)(hr:m[ir]?=some f)(x:Fr G w w')(hG:∀k,G k->f.own=some k)(h2:Hp w0 w' [f'])
  (hf:f'.own=f.own):Hp w0 w' (m.set ir f'):=by
 have A2:ir<m.length:=(List.getElem?_eq_some_iff.1 hr).1;have A0:∀(j:Nat) (y:Dc),(m.set ir f')[j]?=some y->(j=ir/\y=f')\/(j≠ir/\m[j]?=some y):=by
  intro j y hj;rw[List.getElem?_set]at hj;by_cases h1:ir=j
  ·rw[if_pos h1,if_pos (h1▸A2)]at hj
   injection hj with hj
   exact .inl ⟨h1.symm,hj.symm⟩
  rw[if_neg h1]at hj;exact .inr ⟨fun e=>h1 e.symm,hj⟩
 have A1:∀(j:Nat) (y:Dc),j≠ir->m[j]?=some y->y.Holds w0.heap.size w':=by
  intro j y hj hy;have hd:=h.apart j ir y f hy hr hj;exact Dc.Holds.fr (h.all j y hy) x (fun k hk hg=>hd k hk (hG k hg))
 refine⟨h2.ext,fun j y hj=> ?_,fun i j e g hi hj hij k hk hk2=> ?_⟩
 ·rcases A0 j y hj with⟨_,rfl⟩|⟨h1,h3⟩
  ·exact h2.all 0 _ rfl
  exact A1 j y h1 h3
 rcases A0 i e hi with⟨e1,rfl⟩|⟨e1,e3⟩<;>rcases A0 j g hj with⟨d1,rfl⟩|⟨d1,d3⟩
 ·omega
 ·exact h.apart ir j f g hr d3 (Ne.symm d1) k (hf▸hk) hk2
 ·exact h.apart i ir e f e3 hr e1 k hk (hf▸hk2)
 exact h.apart i j e g e3 d3 hij k hk hk2
theorem oL (u:Value)(rule:Int)(a b:Int×Int)(rs:List Av)(es:List Df)(y:Rat)(rf rt:RV)(w:World)(hu:Nh 60 w u (es.map Df.vl))(he:es.map Df.vl=Lb rule (Eo y rs))(hf:rf.In 60 w (((a.1:Int)):Rat))(ht:rt.In 60 w (((b.1:Int)):Rat))
  (hok:Ge rs=true)(ha:Du a)(hb:Du b)(h1:a.1<=b.1)(hs:Gm rs<=16)(hy:Nm.rl y<=52):
  Calls Tryz.prog 123 #[u,.agg #[.bool rf.n,.slice rf.p rf.l rf.c,.bool rf.m,.slice rf.p2 rf.l2 rf.c2],.agg #[.bool rt.n,.slice rt.p rt.l rt.c,.bool rt.m,.slice rt.p2 rt.l2 rt.c2]] w fun e w'=>∃r:RV,e= .returned (.agg #[.bool r.n,.slice r.p r.l r.c,.bool r.m,.slice r.p2 r.l2 r.c2])/\r.Is w' (Ji rule a b rs y)/\Nm.rl (Ji rule a b rs y)<=90/\Aa w w':=by
 have hl:(es.map Df.vl).length<=16:=by rw[he];exact iI rule y hs
 refine(bC 60 u _ rf rt _ _ w hu hf ht dC dC (by omega) (by omega)).mono ?_;rintro e w' ⟨r,rfl,h2,_,hx⟩;rw[he,sP]at h2;exact⟨r,rfl,h2,Ar (uY hok ha hb h1 (Ar hs (by decide)) hy) (by decide),hx⟩
theorem Be.capA {w:World}{b n c size:Nat}{T:TypeId}{A:Option Addr}{xs:List Value}(h:Be w b T size (.slice A n c) n xs):n<=9223372036854775807:=by
  obtain⟨_,⟨_,h2⟩|⟨g,c',r,_,_,_,h3,h4,_⟩⟩:=h
  · omega
  unfold maxLen at h4;omega
def uK (_Bl _Br _Bf _Bt Bs:Nat)(_A:Option Addr)(_n _cap:Nat)(_rule:Int)(_rf _rt:RV)(q:Rat)(w0 w w':World):Prop:=
  ∃rvz:RV,rvz.Is w' q/\Nm.rl q<=60000/\Hp w0 w' [.blk Bs 33 [.bool rvz.n,.slice rvz.p rvz.l rvz.c,.bool rvz.m,.slice rvz.p2 rvz.l2 rvz.c2]]/\Af w w'/\Fr (fun kz=>kz=Bs) w w'
theorem qD (A:Option Addr)(cap:Nat)(rs:List Av)(rule:Int)(a b:Int×Int)(lo hi q:Rat)(rl_ rh rf rt rq:RV)(Bl Br Bf Bt Bs:Nat)(w0 w:World)(hh:Hp w0 w [.blk Bl 22 [.slice A rs.length cap],.blk Br 3 [iV rule],.blk Bf 33 [.bool rf.n,.slice rf.p rf.l rf.c,.bool rf.m,.slice rf.p2 rf.l2 rf.c2],.blk Bt 33 [.bool rt.n,.slice rt.p rt.l rt.c,.bool rt.m,.slice rt.p2 rt.l2 rt.c2],.blk Bs 33 [.bool rq.n,.slice rq.p rq.l rq.c,.bool rq.m,.slice rq.p2 rq.l2 rq.c2]])
  (hu:Cu w0 (.slice A rs.length cap) rs)(hn:rs.length<=1048576)(hr:∀r,r∈rs->r.length<=1048576)(hru: -9223372036854775808<=rule/\rule<=9223372036854775807)(hok:Ge rs=true)(ha:Du a)(hb:Du b)(h1:a.1<=b.1)(hs:Gm rs<=16)
  (hlo:rl_.Is w lo)(hlol:Nm.rl lo<=24)(hhi:rh.Is w hi)(hhil:Nm.rl hi<=24)(hf:rf.Is w (((a.1:Int)):Rat))(ht:rt.Is w (((b.1:Int)):Rat))(hq:rq.Is w q)(hql:Nm.rl q<=50000):
  Calls Tryz.prog 122 #[.agg #[.bool rl_.n,.slice rl_.p rl_.l rl_.c,.bool rl_.m,.slice rl_.p2 rl_.l2 rl_.c2],.agg #[.bool rh.n,.slice rh.p rh.l rh.c,.bool rh.m,.slice rh.p2 rh.l2 rh.c2],.pointer (some ⟨Bl,0,none⟩),.pointer (some ⟨Br,0,none⟩),.pointer (some ⟨Bf,0,none⟩),.pointer (some ⟨Bt,0,none⟩),.pointer (some ⟨Bs,0,none⟩)] w fun e w'=>
   e= .returned (.tuple #[])/\uK Bl Br Bf Bt Bs A rs.length cap rule rf rt (q+Ji rule a b rs ((lo+hi)/2)*(hi-lo)) w0 w w':=by
 have H0:=zH hh;have HU:=zH hu;have HN:=zH hn;have H7:=zH hr;clear hu hr;have H6:=zH hru;have C5:=zH hok;have C4:=zH ha;have C3:=zH hb;have B5:=zH hs;have RL:=zH hlo;have BL:=zH hlol;have RH:=zH hhi;have BH:=zH hhil;have RF:=zH hf;have RT:=zH ht;have RQ:=zH hq;have BQ:=zH hql;have BF:=zH (Bk a.1 (by have:=Bi C4.1;omega) (by have:=Bi C4.1;omega));have BT:=zH (Bk b.1 (by have:=Bi C3.1;omega) (by have:=Bi C3.1;omega));clear hh hru hok ha hb hs hlo hlol hhi hhil hf ht hq hql;go_enter Tryz.func122,Tryz.ntmps122
 go_upto_region 0 with fail
 refine wl ?_;refine aA 33 (rc rl_) H0.1 ?_;intro X1 w2 H4 hx B2;have D4:=zH (Af.of_ext hx);have K6:=zH (show Fr (fun kz=>kz=Bs) w w2 from(Fr.of_ext (G:=fun kz=>kz=Bs) (Aa.refl w)).trans (Fr.of_ext hx));clear hx B2;refine aA 33 (rc rh) H4.1 ?_;intro X8 w9 B7 hx B2;have J2:=zH (Af.of_ext hx);have D6:=zH (K6.1.trans (Fr.of_ext hx));clear hx B2;go_upto_region 1 with fail
 refine zy ?_;have C7:=zH (B7.1.step (Aa.refl w9).drew);have J1:=zH (Af.of_ext (w:=w9) zb);have H5:=zH (D6.1.trans (Fr.of_ext (Aa.refl w9).drew));refine Rp B7.1 zb (bs 11 1) 0 _ ?_;refine Ec (g:=Br) (o:=0) (v:= iV rule) (i:=1) (listed':=(bs 11 3)) rR kR kR kR (by intro _ _ _ h;exact h) rR (fun x hx=>Aa.get hx (show World.cell? w9 ⟨Br,0,none⟩=some (iV rule)from Ak (B7.1.range (i:=1) rR 0 1))) (by intro x hq;go_simp<;>with_reducible rfl) zb kR ?_;refine xC B7.1 zb (bs 11 207) 2 3 6 7 _ _ _ _ ?_;refine gG 9 (some 9) 33 rz w9 C7.1 ?_;have B1:=tD (tD D4 J2) J1;refine gL 4 (bs 11 719) (bs 11 223) zb.size C7.1 zb (fun xq A2=>xH (L:=60000) (RV.Is.nin (RL.1.dig (B1.1.trans (Af.of_ext A2))) (Ar BL.1 (by omega))) (RV.Is.nin (RH.1.dig (B1.1.trans (Af.of_ext A2))) (Ar BH.1 (by omega))) (by omega)) (by rintro x_ e D0 ⟨c_,rfl,A6,hx⟩;exact hx) ?_;rintro xq e F0 A2 ⟨c_,rfl,A6,hx⟩;replace hx:=A2.trans hx;clear A2;have C6:=zH (C7.1.step hx);have J0:=zH (show Af w9.drew F0 from Af.of_ext hx);have H3:=zH (H5.1.trans (Fr.of_ext hx));have C2:=zH (zb.trans hx);obtain⟨F1,rfl,A3⟩:=A6;have G1:=zH A3;clear A3;have E7:=zH (show Nm.rl ((lo+hi)/2)<=2*24+3 from mZ BL.1 BH.1);clear hx;refine⟨_,rfl,?_⟩;try simp only[Act.put,zA,zB,zC]
 refine gL 5 (bs 11 735) (bs 11 255) C2.1.size C6.1 C2.1 (fun xq A2=>iK 52 (.slice A rs.length cap) rs rule F1 ((lo+hi)/2) _ (HU.1.ext (C6.1.step A2).ext) (RV.Is.isIn (G1.1.dig (Af.of_ext A2)) (Ar E7.1 dC)) dC dC HN.1 H7.1 H6.1 (nZZ B5.1 dC)) (by rintro x_ e D0 ⟨vs,es,rfl,A8,A7,B4,hx⟩;exact hx) ?_;rintro xq e J7 A2 ⟨vs,es,rfl,A8,A7,B4,hx⟩;replace hx:=A2.trans hx;clear A2;have D7:=zH (C6.1.step hx);have I9:=zH (Af.of_ext hx);have H2:=zH (H3.1.trans (Fr.of_ext hx));have C1:=zH (C2.1.trans hx);have SV:=zH (La.reads A8);have VL:=zH A7;clear A8 A7 B4 hx;refine⟨_,rfl,?_⟩;try simp only[Act.put,zA,zB,zC]
 have B0:=tD (tD B1 J0) I9;refine gL 8 (bs 11 767) (bs 11 511) C1.1.size D7.1 C1.1 (fun xq A2=>oL (vs) rule a b rs es ((lo+hi)/2) rf rt _ (SV.1.ext A2) VL.1 (RV.Is.isIn (RF.1.dig (B0.1.trans (Af.of_ext A2))) (Ar BF.1 dC)) (RV.Is.isIn (RT.1.dig (B0.1.trans (Af.of_ext A2))) (Ar BT.1 dC)) C5.1 C4.1 C3.1 h1 B5.1 (Ar E7.1 dC)) (by rintro x_ e D0 ⟨A0,rfl,A3,B9,hx⟩;exact hx) ?_;rintro xq e J6 A2 ⟨A0,rfl,A3,B9,hx⟩;replace hx:=A2.trans hx;clear A2;have I5:=zH (D7.1.step hx);have I8:=zH (Af.of_ext hx);have H1:=zH (H2.1.trans (Fr.of_ext hx));have D5:=zH (C1.1.trans hx);have G0:=zH A3;have E6:=zH B9;clear A3 B9 hx;refine⟨_,rfl,?_⟩;try simp only[Act.put,zA,zB,zC]
 refine gE (bs 11 1023) D5.1.size I5.1 D5.1 ?_;intro C0 E9 hx hh hs B2;have I4:=hN hh;have E3:=zH (Af.of_ext hx);have G9:=zH (H1.1.trans (Fr.of_ext hx));have F6:=zH (show Aa w9 E9 from hs);have D8:=zH (show w9.heap.size<=C0 from B2);have G2:=zH (Ar D6.1.size D8.1);clear hh hx B2 hs;try simp only[Act.put,zA,zB,zC]
 refine Ea (i:=10) (listed':=(bs 11 2047)) rR kR rR kR _ _ _ rR I4.1 (ix:=7) rR 0 [.bool A0.n,.slice A0.p A0.l A0.c,.bool A0.m,.slice A0.p2 A0.l2 A0.c2] rR rR (by simp) kR (by simp[Value.oneCell']) (by simp[At]) ?_;intro A1 hh hd ho;have A4:=hN hh;have E2:=zH (hd);have G8:=zH (G9.1.trans_new ho (fun j hj=> .inr (by injection hj with hj;rw[<-hj];exact G2.1)));have F5:=zH (Ba.ext ho F6.1 D8.1);clear hh hd ho;refine⟨F5.1,?_⟩
 (try simp only[Act.put])
 refine wpAnyH_done kR ?_ _;go_upto_region 2 with fail
 refine wp_region_held_drew (S:=fun x=>Fr (fun kz=>kz=Bs) A1 x) kR (Fr.of_ext zb) (fun _=> ?_);have I3:=zH (A4.1.step (Aa.refl A1).drew);have E1:=zH (Af.of_ext (w:=A1) zb);have G7:=zH (G8.1.trans (Fr.of_ext (Aa.refl A1).drew));refine mR 1 (bs 8 2) C0 (0) [.bool A0.n,.slice A0.p A0.l A0.c,.bool A0.m,.slice A0.p2 A0.l2 A0.c2] (fun x hx=>Fr.range hx (show World.rangeAt A1 C0 (0) [.bool A0.n,.slice A0.p A0.l A0.c,.bool A0.m,.slice A0.p2 A0.l2 A0.c2]from(A4.1.range (i:=7) rR 0 4)) (A4.1.offBlk (i:=7) (j:=4) rR rR dC rR)) Tryz.underlying33 (Fr.of_ext zb) ?_;refine mR 2 (bs 8 6) X8 (0) [.bool rh.n,.slice rh.p rh.l rh.c,.bool rh.m,.slice rh.p2 rh.l2 rh.c2] (fun x hx=>Fr.range hx (show World.rangeAt A1 X8 (0) [.bool rh.n,.slice rh.p rh.l rh.c,.bool rh.m,.slice rh.p2 rh.l2 rh.c2]from(A4.1.range (i:=6) rR 0 4)) (A4.1.offBlk (i:=6) (j:=4) rR rR dC rR)) Tryz.underlying33 (Fr.of_ext zb) ?_;refine zr 3 (bs 8 14) X1 (0) [.bool rl_.n,.slice rl_.p rl_.l rl_.c,.bool rl_.m,.slice rl_.p2 rl_.l2 rl_.c2] (fun x hx=>Fr.range hx (show World.rangeAt A1 X1 (0) [.bool rl_.n,.slice rl_.p rl_.l rl_.c,.bool rl_.m,.slice rl_.p2 rl_.l2 rl_.c2]from(A4.1.range (i:=5) rR 0 4)) (A4.1.offBlk (i:=5) (j:=4) rR rR dC rR)) Tryz.underlying33 (Fr.of_ext zb) ?_;refine Fd.go (j:=0) (dj:=some 19) (u:= .agg #[.bool rq.n,.slice rq.p rq.l rq.c,.bool rq.m,.slice rq.p2 rq.l2 rq.c2]) ?_;have A9:=tD (tD (tD (tD B0 I8) E3) E2) E1;refine Hl (b:=A1) (i:=4) (lj:=(bs 8 15)) (li:=(bs 8 30)) rR rR kR kR kR kR kR dC kR rR rR (fun x_ h_=>Fr.of_ext h_) (Aa.refl A1).drew (fun x_ h_=>Je _ _ rR Bs (0) [.bool rq.n,.slice rq.p rq.l rq.c,.bool rq.m,.slice rq.p2 rq.l2 rq.c2] rR (Bu (show World.rangeAt A1 Bs (0) [.bool rq.n,.slice rq.p rq.l rq.c,.bool rq.m,.slice rq.p2 rq.l2 rq.c2]from A4.1.range (i:=4) rR 0 4) h_) Tryz.underlying33 rR kR) rR (by go_simp) kR (aP (L:=60000) (RV.Is.nin (RH.1.dig A9.1) (Ar BH.1 (by omega))) (RV.Is.nin (RL.1.dig A9.1) (Ar BL.1 (by omega))) (by omega)) ?_;rintro e B8 ⟨c_,rfl,A6,hx⟩;have I1:=zH (I3.1.step hx);have E0:=zH (show Af A1.drew B8 from Af.of_ext hx);have G6:=zH (G7.1.trans (Fr.of_ext hx));have D1:=zH (show Aa A1 B8 from(Aa.refl A1).drew.trans hx);have F4:=zH (show Fr (fun kz=>kz=Bs) A1 B8 from(Fr.of_ext zb).trans (Fr.of_ext hx));obtain⟨J9,rfl,A3⟩:=A6;have F9:=zH A3;clear A3;have E5:=zH (show Nm.rl (hi-lo)<=24+24+1 from by have h1:=BH.1;have h2:=BL.1;have h3:=Nm.rl_sub hi lo;omega);have B3:=hx;clear hx;refine⟨_,rfl,B3,?_⟩;try simp only[Act.put,zA,zB,zC]
 clear B3;have C9:=tD (tD (tD E3 E2) E1) E0;refine Hl (b:=A1) (i:=5) (lj:=(bs 8 31)) (li:=(bs 8 62)) rR rR kR kR kR kR kR dC kR rR rR (fun x_ h_=>Fr.of_ext h_) D1.1 (fun x_ h_=>Je _ _ rR Bs (0) [.bool rq.n,.slice rq.p rq.l rq.c,.bool rq.m,.slice rq.p2 rq.l2 rq.c2] rR (Bu (show World.rangeAt A1 Bs (0) [.bool rq.n,.slice rq.p rq.l rq.c,.bool rq.m,.slice rq.p2 rq.l2 rq.c2]from A4.1.range (i:=4) rR 0 4) h_) Tryz.underlying33 rR kR) rR (by go_simp) kR (Xs (L:=60000) (RV.Is.nin (G0.1.dig C9.1) (Ar E6.1 (by omega))) (RV.Is.nin F9.1 (Ar E5.1 (by omega))) (by omega)) ?_;rintro e E8 ⟨c_,rfl,A6,hx⟩;have I0:=zH (I1.1.step hx);have I7:=zH (Af.of_ext hx);have G5:=zH (G6.1.trans (Fr.of_ext hx));have F2:=zH (show Aa A1 E8 from D1.1.trans hx);have D3:=zH (F4.1.trans (Fr.of_ext hx));obtain⟨J8,rfl,A3⟩:=A6;have F8:=zH A3;clear A3;have E4:=zH (show Nm.rl ((Ji rule a b rs ((lo+hi)/2))*(hi-lo))<=90+(24+24+1)from by have h1:=E6.1;have h2:=E5.1;have h3:=Nm.rl_mul (Ji rule a b rs ((lo+hi)/2)) (hi-lo);omega);have B3:=hx;clear hx;refine⟨_,rfl,B3,?_⟩;try simp only[Act.put,zA,zB,zC]
 clear B3;refine My rR kR rR rR D3.1 (Je _ _ rR Bs (0) [.bool rq.n,.slice rq.p rq.l rq.c,.bool rq.m,.slice rq.p2 rq.l2 rq.c2] rR (Bu (show World.rangeAt A1 Bs (0) [.bool rq.n,.slice rq.p rq.l rq.c,.bool rq.m,.slice rq.p2 rq.l2 rq.c2]from A4.1.range (i:=4) rR 0 4) F2.1) Tryz.underlying33 rR kR) (show _=(bs 8 63)by kernel_rfl) ?_;try simp only[Act.put,zA,zB,zC]
 have B6:=tD (tD A9 E0) I7;refine mC 6 (bs 8 127) (jL (L:=60000) (RV.Is.nin (RQ.1.dig B6.1) (Ar BQ.1 (by omega))) (RV.Is.nin F8.1 (Ar E4.1 (by omega))) (by omega)) ?_;rintro e J5 ⟨c_,rfl,A6,hx⟩;have H9:=zH (I0.1.step hx);have I6:=zH (Af.of_ext hx);have G4:=zH (G5.1.trans (Fr.of_ext hx));have D2:=zH (D3.1.trans (Fr.of_ext hx));obtain⟨A5,rfl,A3⟩:=A6;have F7:=zH A3;clear A3;have J3:=zH (show Nm.rl (q+((Ji rule a b rs ((lo+hi)/2))*(hi-lo)))<=50000+(90+(24+24+1))+1 from by have h1:=BQ.1;have h2:=E4.1;have h3:=Nm.rl_add q ((Ji rule a b rs ((lo+hi)/2))*(hi-lo));omega);clear hx;refine zm D2.1 ?_;refine Ea (i:=7) (listed':=(bs 8 255)) rR kR rR kR _ _ _ rR H9.1 (ix:=4) rR 0 [.bool A5.n,.slice A5.p A5.l A5.c,.bool A5.m,.slice A5.p2 A5.l2 A5.c2] rR rR (by simp) kR (by simp[Value.oneCell']) (by simp[At]) ?_;intro J4 hh hd ho;have H8:=hN hh;have D9:=zH (hd);have G3:=zH (G4.1.trans_new ho (fun j hj=> .inl (by injection hj with hj;exact hj.symm)));have F3:=zH (Fr.trans_new D2.1 ho (fun j hj=> .inl (by simpa using hj.symm)));clear hh hd ho;refine⟨F3.1,?_⟩
 (try simp only[Act.put])
 refine wpAnyH_done kR ?_ _;go_wp2_with fail
 first|refine bodyPost_end (v:= .tuple #[]) (results_none rfl _ _ _) rfl ?_|refine bodyPost_ret (v:= .tuple #[]) (results_none rfl _ _ _) rfl ?_
 have C8:=tD (tD B6 I6) D9;exact⟨rfl,A5,(F7.1.dig D9.1),Ar J3.1 (by decide),H8.1.pickL [4] (by decide) _ (by rfl),C8.1,G3.1⟩
def yA (a b:Int×Int)(rs:List Av)(w:World)(e:Ending)(w':World):Prop:=
  ∃(v:Value) (es:List Bp),e= .returned v/\Be w' w.heap.size 33 4 v es.length (es.flatMap Bp.cells)/\(es.map Bp.q).Pairwise (· < ·)/\(∀x,x∈es.map Bp.q↔x∈wL a b rs)/\(∀e,e∈es->e.Ok 24 w')/\Aa w w'
def zZ (X1 X6 X42 X63 Y64 X83 X93 X155:Nat)(a b:Int×Int)(r61 r62:RV)(base:List Rat)(A1:Option Addr)(m c1:Nat)(w W1:World)(pre:List Uj)(W:World):Prop:=
  ∃ (A:Option Addr) (n c:Nat) (es:List Bp) (A2:Option Addr) (c2:Nat),Hp w W [.blk X1 41 [iV a.1,iV a.2],.blk X6 41 [iV b.1,iV b.2],.blk X42 41 [iV a.1,iV a.2,iV b.1,iV b.2],.blk X63 33 [.bool r61.n,.slice r61.p r61.l r61.c,.bool r61.m,.slice r61.p2 r61.l2 r61.c2],.blk Y64 33 [.bool r62.n,.slice r62.p r62.l r62.c,.bool r62.m,.slice r62.p2 r62.l2 r62.c2],.row 33 4 (.slice A n c) (n) (List.flatMap Bp.cells es),.blk X83 118 [.slice A n c],.blk X93 165 [.func (.func 151) #[] #[.pointer (some ⟨X63,0,none⟩),.pointer (some ⟨Y64,0,none⟩),.pointer (some ⟨X83,0,none⟩)]],.blk X155 166 [.slice A2 pre.length c2],.row 167 4 (.slice A2 pre.length c2) (pre.length) (List.flatMap pG (pre.map Subtype.val))]/\Af W1 W/\(∀k,Value.ownBlock (.slice A n c)=some k->Value.ownBlock (.slice A1 m c1)=some k\/W1.heap.size<=k)/\(∀k,Value.ownBlock (.slice A2 pre.length c2)=some k->W1.heap.size<=k)/\
    es.map Bp.q=base++kS a b [] (pre.map Subtype.val)/\n=es.length/\n<=5000+5000*pre.length/\(∀e,e∈es->e.Ok 24 W)/\W1.heap.size<=W.heap.size
theorem tQ (X1 X6 X42 X63 Y64 X83 X93 X155:Nat)(a b:Int×Int)(r61 r62:RV)(base:List Rat)(A1:Option Addr)(m c1:Nat)(w W1:World)(hw:w.heap.size<=W1.heap.size):OwnFrom W1.heap.size (zZ X1 X6 X42 X63 Y64 X83 X93 X155 a b r61 r62 base A1 m c1 w W1):=by
 rintro s W W' row ⟨A,n,c,es,A2,c2,h1,h2,h3,h4,h5,h6,h7,h8,h9⟩ hg hr;have d:Af W W':=Af.keptQ hg (fun k hk=>(hr k hk).2);exact⟨A,n,c,es,A2,c2,h1.keptQ hg (fun k hk=>⟨Ar hw (hr k hk).1,(hr k hk).2⟩),h2.trans d,h3,h4,h5,h6,h7,fun e he=>(h8 e he).dig d,Ar h9 hg.size⟩
def zL (X1 X6 X93 X155:Nat)(W1:World)(x:Uj)(a':Act)(W:World):Prop:=
  ∃(J:Nat->Value) (Xp Xq:Nat),Ad W Xp 41 ([iV x.1.1.1,iV x.1.1.2]:List Value).toArray/\Ad W Xq 41 ([iV x.1.2.1,iV x.1.2.2]:List Value).toArray/\Xp≠Xq/\W1.heap.size<=Xp/\W1.heap.size<=Xq/\a'={tmps:=#[J 0,J 1,J 2,J 3,.pointer (some ⟨X1,0,none⟩),.pointer (some ⟨X6,0,none⟩),J 6,J 7,J 8,J 9,.pointer (some ⟨X93,0,none⟩),J 11,J 12,J 13,J 14,.pointer (some ⟨X155,0,none⟩),.pointer (some ⟨Xp,0,none⟩),.pointer (some ⟨Xq,0,none⟩),J 18,J 19,J 20,J 21,J 22,J 23,J 24,J 25,J 26,J 27,J 28,J 29,J 30,J 31,J 32,J 33,J 34,J 35,J 36,J 37,J 38,J 39,J 40,J 41,J 42,J 43,J 44,J 45,J 46,J 47,J 48,J 49,J 50,J 51,J 52,J 53,J 54,J 55,J 56,J 57,J 58,J 59,J 60,J 61,J 62,J 63,J 64,J 65,J 66,J 67,J 68,J 69,J 70,J 71,J 72,J 73,J 74,J 75,J 76,J 77,J 78,J 79,J 80,J 81,J 82,J 83,J 84,J 85,J 86,J 87,J 88,J 89,J 90,J 91,J 92,J 93,J 94,J 95,J 96,J 97,J 98,J 99,J 100,J 101,J 102,J 103,J 104,J 105,J 106,J 107,J 108,J 109,J 110,J 111,J 112,J 113,J 114,J 115,J 116,J 117,J 118,J 119,J 120,J 121,J 122,J 123,J 124,J 125,J 126,J 127,J 128,J 129],defers:=[]}
theorem tR (X1 X6 X93 X155:Nat)(W1:World)(x:Uj)(a':Act):OwnFrom W1.heap.size (fun(_:Unit) W=>zL X1 X6 X93 X155 W1 x a' W):=by
  rintro _ W W' row ⟨J,Xp,Xq,h1,h2,h3⟩ hg hr;exact⟨J,Xp,Xq,h1.kept hg (fun k hk=>(hr k hk).2),h2.kept hg (fun k hk=>(hr k hk).2),h3⟩
theorem wM {X1 X6 X93 X155 Xp Xq:Nat}{W1 W:World}{x:Uj}{a':Act}(h1:Ad W Xp 41 ([iV x.1.1.1,iV x.1.1.2]:List Value).toArray)(h2:Ad W Xq 41 ([iV x.1.2.1,iV x.1.2.2]:List Value).toArray)(h3:Xp≠Xq)(h4:W1.heap.size<=Xp)(h5:W1.heap.size<=Xq)
    (h6:a'={tmps:=#[a'.tmps.getD 0 undef,a'.tmps.getD 1 undef,a'.tmps.getD 2 undef,a'.tmps.getD 3 undef,.pointer (some ⟨X1,0,none⟩),.pointer (some ⟨X6,0,none⟩),a'.tmps.getD 6 undef,a'.tmps.getD 7 undef,a'.tmps.getD 8 undef,a'.tmps.getD 9 undef,.pointer (some ⟨X93,0,none⟩),a'.tmps.getD 11 undef,a'.tmps.getD 12 undef,a'.tmps.getD 13 undef,a'.tmps.getD 14 undef,.pointer (some ⟨X155,0,none⟩),.pointer (some ⟨Xp,0,none⟩),.pointer (some ⟨Xq,0,none⟩),a'.tmps.getD 18 undef,a'.tmps.getD 19 undef,a'.tmps.getD 20 undef,a'.tmps.getD 21 undef,a'.tmps.getD 22 undef,a'.tmps.getD 23 undef,a'.tmps.getD 24 undef,a'.tmps.getD 25 undef,a'.tmps.getD 26 undef,a'.tmps.getD 27 undef,a'.tmps.getD 28 undef,a'.tmps.getD 29 undef,a'.tmps.getD 30 undef,a'.tmps.getD 31 undef,a'.tmps.getD 32 undef,a'.tmps.getD 33 undef,a'.tmps.getD 34 undef,a'.tmps.getD 35 undef,a'.tmps.getD 36 undef,a'.tmps.getD 37 undef,a'.tmps.getD 38 undef,a'.tmps.getD 39 undef,a'.tmps.getD 40 undef,a'.tmps.getD 41 undef,a'.tmps.getD 42 undef,a'.tmps.getD 43 undef,a'.tmps.getD 44 undef,a'.tmps.getD 45 undef,a'.tmps.getD 46 undef,a'.tmps.getD 47 undef,a'.tmps.getD 48 undef,a'.tmps.getD 49 undef,a'.tmps.getD 50 undef,a'.tmps.getD 51 undef,a'.tmps.getD 52 undef,a'.tmps.getD 53 undef,a'.tmps.getD 54 undef,a'.tmps.getD 55 undef,a'.tmps.getD 56 undef,a'.tmps.getD 57 undef,a'.tmps.getD 58 undef,a'.tmps.getD 59 undef,a'.tmps.getD 60 undef,a'.tmps.getD 61 undef,a'.tmps.getD 62 undef,a'.tmps.getD 63 undef,a'.tmps.getD 64 undef,a'.tmps.getD 65 undef,a'.tmps.getD 66 undef,a'.tmps.getD 67 undef,a'.tmps.getD 68 undef,a'.tmps.getD 69 undef,a'.tmps.getD 70 undef,a'.tmps.getD 71 undef,a'.tmps.getD 72 undef,a'.tmps.getD 73 undef,a'.tmps.getD 74 undef,a'.tmps.getD 75 undef,a'.tmps.getD 76 undef,a'.tmps.getD 77 undef,a'.tmps.getD 78 undef,a'.tmps.getD 79 undef,a'.tmps.getD 80 undef,a'.tmps.getD 81 undef,a'.tmps.getD 82 undef,a'.tmps.getD 83 undef,a'.tmps.getD 84 undef,a'.tmps.getD 85 undef,a'.tmps.getD 86 undef,a'.tmps.getD 87 undef,a'.tmps.getD 88 undef,a'.tmps.getD 89 undef,a'.tmps.getD 90 undef,a'.tmps.getD 91 undef,a'.tmps.getD 92 undef,a'.tmps.getD 93 undef,a'.tmps.getD 94 undef,a'.tmps.getD 95 undef,a'.tmps.getD 96 undef,a'.tmps.getD 97 undef,a'.tmps.getD 98 undef,a'.tmps.getD 99 undef,a'.tmps.getD 100 undef,a'.tmps.getD 101 undef,a'.tmps.getD 102 undef,a'.tmps.getD 103 undef,a'.tmps.getD 104 undef,a'.tmps.getD 105 undef,a'.tmps.getD 106 undef,a'.tmps.getD 107 undef,a'.tmps.getD 108 undef,a'.tmps.getD 109 undef,a'.tmps.getD 110 undef,a'.tmps.getD 111 undef,a'.tmps.getD 112 undef,a'.tmps.getD 113 undef,a'.tmps.getD 114 undef,a'.tmps.getD 115 undef,a'.tmps.getD 116 undef,a'.tmps.getD 117 undef,a'.tmps.getD 118 undef,a'.tmps.getD 119 undef,a'.tmps.getD 120 undef,a'.tmps.getD 121 undef,a'.tmps.getD 122 undef,a'.tmps.getD 123 undef,a'.tmps.getD 124 undef,a'.tmps.getD 125 undef,a'.tmps.getD 126 undef,a'.tmps.getD 127 undef,a'.tmps.getD 128 undef,a'.tmps.getD 129 undef],defers:=[]}):zL X1 X6 X93 X155 W1 x a' W:=⟨fun q=>a'.tmps.getD q undef,Xp,Xq,h1,h2,h3,h4,h5,h6⟩
theorem bU (u:Value)(rs:List Av)(a b:Int×Int)(w:World)(hu:Cu w u rs)(hn:rs.length<=1048576)(hr:∀r,r∈rs->r.length<=1048576):
  Calls Tryz.prog 125 #[u,.agg #[iV a.1,iV a.2],.agg #[iV b.1,iV b.2]] w (yA a b rs w):=by
 have HU:=zH hu;have HN:=zH hn;have HR:=zH hr;obtain⟨A,cu,rfl,hA⟩:=hu;have HA:=zH hA;clear hA hr;refine(callsIn_wide (n:=4)).1 ?_;refine callsIn_of_wp_marks Tryz.func125 rfl trivial ?_ rfl;simp only[Tryz.ntmps125,List.size_toArray,hQQ,List.length_nil,Nat.reduceAdd,Nat.reduceSub,Array.replicate_succ,Array.replicate_zero,List.push_toArray,List.append_toArray,fQQ,iZZ];refine wpIn_wide.2 ?_;refine Go.Code.wp_mono Ka.m ?_;have H0:=zH (Hp.start w);go_upto_region 0 with fail
 refine wl ?_;refine Cm 41 [iV a.1,iV a.2] H0.1 ?_;intro X1 w2 H3 _;refine Cm 41 [iV b.1,iV b.2] H3.1 ?_;intro X6 w7 H8 _;refine Cs Ac _ ?_;rcases Co (Ge rs=true)with HVQ|HVQ
 ·have HV:=HVQ
  rcases Co (De [a,b]=true)with HB|HB
  ·have H9:=HB
   rcases Co (b.2<=a.2)with HLE|HLE
   ·go_upto_region 1 with fail
    refine wl ?_;refine Cs Ac _ ?_;refine zc (Cc _ rs _ (HU.1.ext H8.1.ext) HN.1 HR.1) ?_;rintro e w16 ⟨rfl,hx⟩;have n8:=zH (H8.1.step hx);clear hx;refine⟨.bool true,by rw[HV.1],?_⟩;try simp only[Act.put,zA,zB,zC]
    refine Ej n8.1 (.bool false) (.bool false) _ _ ?_;refine cS 2 41 [iV a.1,iV a.2,iV b.1,iV b.2] n8.1 ?_;intro s3 w22 n7 _;refine zc (Hk (.slice (some ⟨s3,0,none⟩) 2 2) [a,b] _ (Iy n7.1 (i:=2) rR) (by simp)) ?_;rintro e w25 ⟨rfl,hx⟩;have n6:=zH (n7.1.step hx);clear hx;refine⟨.bool true,by rw[H9.1],?_⟩;try simp only[Act.put,zA,zB,zC]
    refine fF n6.1 (.bool false) (.bool false) (.bool false) _ _ _ _ ?_;refine zp (.bool true) (by exact Jm (e:=(Ae (by have D1:=HLE.1;omega)))) ?_;refine zq (.bool true) ?_;go_upto_region 2 with fail
    refine wl ?_;refine Cs Ac _ ?_;go_wp2_with fail
    exact⟨_,results_tmp rfl _ _ _,_,[],rfl,Be.nil _ _ _ _,by simp,by rw[show wL a b rs=[]from if_neg (fun h=>by have h1:=h.2.2.2;have h2:=HLE.1;omega)];simp,by simp,n6.1.ext⟩
   go_upto_region 1 with fail
   refine wl ?_;refine Cs Ac _ ?_;refine zc (Cc _ rs _ (HU.1.ext H8.1.ext) HN.1 HR.1) ?_;rintro e w37 ⟨rfl,hx⟩;have n5:=zH (H8.1.step hx);clear hx;refine⟨.bool true,by rw[HV.1],?_⟩;try simp only[Act.put,zA,zB,zC]
   refine Ej n5.1 (.bool false) (.bool false) _ _ ?_;refine cS 2 41 [iV a.1,iV a.2,iV b.1,iV b.2] n5.1 ?_;intro C9 w43 n2 _;refine zc (Hk (.slice (some ⟨C9,0,none⟩) 2 2) [a,b] _ (Iy n2.1 (i:=2) rR) (by simp)) ?_;rintro e o3 ⟨rfl,hx⟩;have d7:=zH (n2.1.step hx);clear hx;refine⟨.bool true,by rw[H9.1],?_⟩;try simp only[Act.put,zA,zB,zC]
   refine fF d7.1 (.bool false) (.bool false) (.bool false) _ _ _ _ ?_;refine zp (.bool false) (by exact Jm (e:=(Ah (by have D1:=HLE.1;omega)))) ?_;refine zq (.bool false) ?_;have D5:=Xw.1 HB.1;have oa:=Bi D5.1;have ob:=Bi D5.2;have m1:=zH D5;clear D5;go_upto_region 3 with fail
   refine zy ?_;have v7:=zH (d7.1.step (Aa.refl o3).drew);refine xC d7.1 zb (bs 10 27) 0 1 3 4 _ _ _ _ ?_;refine cZ (f:=2) 2 5 6 7 46 49 7 8 33 z4 (fun v w=>∃c,v= .agg c/\Mo w c (((a.2):Int):Rat)) (fun v w=>∃c,v= .agg c/\Mo w c (((b.2):Int):Rat)) rfl rfl rfl rfl dC dC kR (fun _ hx=>zb.trans hx) (fun _ _ _ h e=>by obtain⟨c,h1,h2⟩:=h;exact⟨c,h1,h2.ext e⟩) (fun _ _ _ h e=>by obtain⟨c,h1,h2⟩:=h;exact⟨c,h1,h2.ext e⟩) ?ht60c1 ?ht60c2 ?ht60c3 ?ht60c4 ?ht60e _ _ _ _ kR rfl;case ht60c1=>
    intro v1 v2 v3 v4 w1 K Y8 Q4 hK;try simp only[Act.put,zA,zB,zC]
    rw[if_pos (by rfl)];refine Dm (by go_simp) (Cx a.2 _ (by omega) (by omega)) ?_;rintro e w' ⟨c_,rfl,H5,hx⟩;refine⟨_,rfl,?_⟩;have hk:=hK.out _ _ ⟨c_,rfl,H5⟩ hx;try simp only[Act.put,zA,zB,zC]
    simp only[Act.put,zA,zB,zC]at hk;exact hk
   case ht60c2=>
    intro v1 v2 v3 v4 w1 K Y8 Q4 hK;try simp only[Act.put,zA,zB,zC]
    rw[if_pos (by rfl)];refine Dm (by go_simp) (Cx b.2 _ (by omega) (by omega)) ?_;rintro e w' ⟨c_,rfl,H5,hx⟩;refine⟨_,rfl,?_⟩;have hk:=hK.out _ _ ⟨c_,rfl,H5⟩ hx;try simp only[Act.put,zA,zB,zC]
    simp only[Act.put,zA,zB,zC]at hk;exact hk
   case ht60c3=>
    intro v1 v2 v3 v4 w1 K Y8 Q4 hK;try simp only[Act.put,zA,zB,zC]
    go_simp
    have hk:=hK.out;simp only[Act.put,zA,zB,zC]at hk;exact hk
   case ht60c4=>
    intro v1 v2 v3 v4 w1 K Y8 Q4 hK;try simp only[Act.put,zA,zB,zC]
    go_simp
    have hk:=hK.out;simp only[Act.put,zA,zB,zC]at hk;exact hk
   case ht60e=>
   intro v1_ v2_ B1 B0 w65 hx Q4 o0 n9 j4 j3 X0 W9 j7;have hh:=v7.1.add2 hx j4 j3 X0 W9 j7 (by simp[At]) (by simp[At]);have v6:=hN hh;have s6:=zH (zb.trans hx);have v9:=zH (Ar zb.size X0);have v8:=zH (Ar zb.size W9);obtain⟨c_,rfl,H5⟩:=o0;obtain⟨A5,rfl,C8⟩:=H5;have Z9:=zH C8;have W8:=zH (Bk a.2 (by omega) (by omega));clear C8;obtain⟨c_,rfl,H5⟩:=n9;obtain⟨A0,rfl,C8⟩:=H5;have Z8:=zH C8;have W7:=zH (Bk b.2 (by omega) (by omega));clear C8 hh hx Q4 j4 j3 X0 W9 j7
   (try simp only[zA,zB,zC])
   refine bS 3 8 (bs 10 511) (rc A5) v6.1 s6.1 v9.1 ?_;intro w71 v5 D72 s5;refine bS 4 9 (bs 10 1023) (rc A0) v5.1 s5.1 v8.1 ?_;intro w75 n1 D76 S78;refine wpAnyH_done kR ?_ _;go_upto_region 4 with fail
   refine wl ?_;refine Bq n1.1 _ _ ?_;refine cS 2 33 [.bool A5.n,.slice A5.p A5.l A5.c,.bool A5.m,.slice A5.p2 A5.l2 A5.c2,.bool A0.n,.slice A0.p A0.l A0.c,.bool A0.m,.slice A0.p2 A0.l2 A0.c2] n1.1 ?_;intro P2 w80 v0 D81;refine Cm 118 [.slice none 0 0] v0.1 ?_;intro A6 w84 u9 D85;refine zT 6 (.slice (some ⟨P2,0,none⟩) 2 2) u9.1 ?_;intro o1 n0 D89;have u8:=zH (show Hp w o1 [.blk X1 41 [iV a.1,iV a.2],.blk X6 41 [iV b.1,iV b.2],.blk C9 41 [iV a.1,iV a.2,iV b.1,iV b.2],.blk B1 33 (rc A5),.blk B0 33 (rc A0),ro 33 4 (some ⟨P2,0,none⟩) 2 2 Bp.cells ([(⟨A5,(((a.2):Int):Rat)⟩:Bp),(⟨A0,(((b.2):Int):Rat)⟩:Bp)]),.blk A6 118 [.slice (some ⟨P2,0,none⟩) 2 2]]from n0.1.turn (r:=none) (i:=5) (e:= .blk P2 33 [.bool A5.n,.slice A5.p A5.l A5.c,.bool A5.m,.slice A5.p2 A5.l2 A5.c2,.bool A0.n,.slice A0.p A0.l A0.c,.bool A0.m,.slice A0.p2 A0.l2 A0.c2]) (e':= .row 33 4 (.slice (some ⟨P2,0,none⟩) 2 2) (2) (List.flatMap Bp.cells ([(⟨A5,(((a.2):Int):Rat)⟩:Bp),(⟨A0,(((b.2):Int):Rat)⟩:Bp)]))) (by rfl) (fun k h=>by cases h) (World.grownBy.refl _ _) (n0.1.litRow17 (i:=5) (n:=2) (by rfl) (by rfl) (by decide)) (fun k hk=> .inl hk));go_upto_region 5 with fail
   refine wl ?_;refine Cs Ac _ ?_;refine Cm 165 [.nilFunc] u8.1 ?_;intro C5 w94 u7 D95;refine zT 7 (.func (.func 151) #[] #[.pointer (some ⟨B1,0,none⟩),.pointer (some ⟨B0,0,none⟩),.pointer (some ⟨A6,0,none⟩)]) u7.1 ?_;intro j5 m9 D99;have D0:=tD (tD (tD (tD (tD (tD D72 D76) D81) D85) D89) D95) D99;have d1:=zH (show∀e,e∈[(⟨A5,(((a.2):Int):Rat)⟩:Bp),(⟨A0,(((b.2):Int):Rat)⟩:Bp)]->e.Ok 24 j5 from(by simp only[List.forall_mem_cons,List.not_mem_nil,false_imp_iff,implies_true,and_true];exact⟨⟨(Z9.1.dig D0.1),Ar W8.1 (by decide)⟩,⟨(Z8.1.dig D0.1),Ar W7.1 (by decide)⟩⟩));go_upto_region 6 with fail
   refine wl ?_;refine Dh Ac _ (iV ((rs.length:Nat):Int)) _ ?_;go_wp2_with fail
   go_loopg [56] (rs.length) (fun cq Y4 wr=>∃(i:Nat) (m:Nat) (es:List Bp) (A1:Option Addr) (c1:Nat),cq=rs.length-i/\Y4= iV (i:Int)/\(i<=rs.length)/\(m=es.length/\m<=2+Gm (rs.take i))/\(es.map Bp.q=[(((a.2):Int):Rat),(((b.2):Int):Rat)]++uS a b (rs.take i))/\(∀e,e∈es->e.Ok 24 wr)/\Hp w wr [.blk X1 41 [iV a.1,iV a.2],.blk X6 41 [iV b.1,iV b.2],.blk C9 41 [iV a.1,iV a.2,iV b.1,iV b.2],.blk B1 33 [.bool A5.n,.slice A5.p A5.l A5.c,.bool A5.m,.slice A5.p2 A5.l2 A5.c2],.blk B0 33 [.bool A0.n,.slice A0.p A0.l A0.c,.bool A0.m,.slice A0.p2 A0.l2 A0.c2],.row 33 4 (.slice A1 m c1) (m) (List.flatMap Bp.cells es),.blk A6 118 [.slice A1 m c1],.blk C5 165 [.func (.func 151) #[] #[.pointer (some ⟨B1,0,none⟩),.pointer (some ⟨B0,0,none⟩),.pointer (some ⟨A6,0,none⟩)]]]/\Af j5 wr)
   case atStart=>exact⟨0,2,[(⟨A5,(((a.2):Int):Rat)⟩:Bp),(⟨A0,(((b.2):Int):Rat)⟩:Bp)],some ⟨P2,0,none⟩,2,rfl,rfl,eQQ _,⟨rfl,by simp[Gm]⟩,rfl,d1.1,m9.1,Af.refl _⟩
   obtain⟨i,m,es,A1,c1,rfl,rfl,J9,Q0,K1,J1,E6,E7⟩:=hrel;generalize wr=Y0 at*
   have t9:=zH J9;clear J9;have HM:=zH Q0;clear Q0;have m8:=zH K1;clear K1;have m3:=zH J1;clear J1;have I1:=zH E6;have P0:=zH E7;clear E6 E7 m9;rcases Co (i<rs.length)with HLT|HLT
   ·have H1:=HLT.1
    obtain⟨r,H4⟩:∃r,rs[i]?=some r:=⟨_,aQQ H1⟩;have W4:=zH H4;have hrl:=HR.1 r (bZZ H4);obtain⟨g,W1,rfl,L6⟩:=HA.1 (by omega);obtain⟨B,cb,F2,A2_,r9,r2,B2⟩:=L6 i r H4;injection r2 with e1_ e2_ e3_
    subst e1_;subst e3_;have t2:=zH F2;have t3:=zH B2;clear H4 F2 B2 L6 e2_;go_upto_region 7 with fail
    refine wl ?_;refine zp (.bool true) (by exact Dv (e:=(Ae (by omega)))) ?_;go_upto_region 8 with fail
    refine wl ?_;refine zp (.pointer (some ⟨g,W1+i,none⟩)) (by exact Jo (k:=i) Tryz.underlying22 (l:=H1) (f:=(show W1+i=W1+i*1 by omega))) ?_;refine ze g (W1+i) (.slice B r.length cb) (Lx (I1.1.ext.get t2.1)) ?_;refine Cs Ac _ ?_;go_upto_region 9 with fail
    refine wl ?_;refine Dh Ac _ (iV ((r.length:Nat):Int)) _ ?_;have s9:=zH (show Gm (rs.take i)+r.length<=4096 from by have h_:=Ho W4.1;have B2:=Hn rs (i+1);have C4:=Hi HV.1;omega);go_wp2_with fail
    go_loopg [62] (r.length) (fun cq Y3 wr=>∃(k:Nat) (m2:Nat) (B9:List Bp) (A2:Option Addr) (c2:Nat),cq=r.length-k/\Y3= iV (k:Int)/\(k<=r.length)/\(m2=B9.length/\m2<=2+(Gm (rs.take i)+k))/\(B9.map Bp.q=[(((a.2):Int):Rat),(((b.2):Int):Rat)]++uS a b (rs.take i)++(r.take k).flatMap (fun p=>cK (((a.2):Int):Rat) (((b.2):Int):Rat) (p.2:Rat)))/\(∀e,e∈B9->e.Ok 24 wr)/\Hp w wr [.blk X1 41 [iV a.1,iV a.2],.blk X6 41 [iV b.1,iV b.2],.blk C9 41 [iV a.1,iV a.2,iV b.1,iV b.2],.blk B1 33 [.bool A5.n,.slice A5.p A5.l A5.c,.bool A5.m,.slice A5.p2 A5.l2 A5.c2],.blk B0 33 [.bool A0.n,.slice A0.p A0.l A0.c,.bool A0.m,.slice A0.p2 A0.l2 A0.c2],.row 33 4 (.slice A2 m2 c2) (m2) (List.flatMap Bp.cells B9),.blk A6 118 [.slice A2 m2 c2],.blk C5 165 [.func (.func 151) #[] #[.pointer (some ⟨B1,0,none⟩),.pointer (some ⟨B0,0,none⟩),.pointer (some ⟨A6,0,none⟩)]]]/\Af Y0 wr)
    case atStart=>exact⟨0,m,es,A1,c1,rfl,rfl,eQQ _,⟨HM.1.1,HM.1.2⟩,(by rw[m8.1];simp),(fun g_ hg_=>(m3.1 g_ hg_)),I1.1,Af.refl _⟩
    obtain⟨k,m2,B9,A2,c2,rfl,rfl,J8,J6,E5,E2,E6,E7⟩:=hrel;generalize wr=r0 at*
    have t7:=zH J8;clear J8;have S4:=zH J6;clear J6;have S5:=zH E5;clear E5;have S3:=zH E2;clear E2;have O2:=zH E6;have O9:=zH E7;clear E6 E7 I1;rcases Co (k<r.length)with HLU|HLU
    ·have P1:=HLU.1
     have r3:r≠ []:=by intro h_;rw[h_]at P1;simp at P1
     obtain⟨gr,j6,rfl,L5⟩:=t3.1 r3;have HPA:=zH L5;obtain⟨p,L6⟩:∃p,r[k]?=some p:=⟨_,aQQ P1⟩;have t5:=zH L6;have t4:=zH (dW L5 L6);have t8:=zH (fU HV.1 W4.1 L6);have op:=Bi t8.1;clear L6 L5;go_upto_region 10 with fail
     refine wl ?_;refine zp (.bool true) (by exact Dv (e:=(Ae (by omega)))) ?_;go_upto_region 11 with fail
     refine wl ?_;refine zp (.pointer (some ⟨gr,j6+k*2,none⟩)) (by exact Jo (k:=k) Tryz.underlying39 (l:=P1) (f:=rfl)) ?_;refine zd gr (j6+k*2) [iV p.1,iV p.2] (Bu t4.1 O2.1.ext) Tryz.underlying41 ?_;refine Cm 41 [iV 0,iV 0] O2.1 ?_;intro H7 q9 i6 O8;refine Cy 8 [iV p.1,iV p.2] i6.1 ?_;intro C2 C7 O7;go_upto_region 12 with fail
     refine wp_region_held_drew (S:=fun x=>Fr (fun kz=>kz=A6\/Value.ownBlock (.slice A2 m2 c2)=some kz) C2 x) kR (Fr.of_ext zb) (fun _=> ?_);have i5:=zH (C7.1.step (Aa.refl C2).drew);have O6:=zH (Af.of_ext (w:=C2) zb);refine Ec (g:=C5) (o:=0) (v:= .func (.func 151) #[] #[.pointer (some ⟨B1,0,none⟩),.pointer (some ⟨B0,0,none⟩),.pointer (some ⟨A6,0,none⟩)]) (i:=0) (listed':=(bs 5 1)) rR kR kR kR (by intro _ _ _ h;exact h) rR (fun x hx=>Fr.cell hx (show World.cell? C2 ⟨C5,0,none⟩=some (.func (.func 151) #[] #[.pointer (some ⟨B1,0,none⟩),.pointer (some ⟨B0,0,none⟩),.pointer (some ⟨A6,0,none⟩)])from Ak (C7.1.range (i:=7) rR 0 1)) (fun hk=>hk.elim (C7.1.offBlk (i:=7) (j:=6) rR rR dC rR) (C7.1.offRow (i:=7) (j:=5) rR rR dC rR))) (by intro x hq;go_simp<;>with_reducible rfl) (Fr.of_ext zb) kR ?_;try simp only[Act.put,zA,zB,zC]
     refine zx 1 (bs 5 3) (.pointer (some ⟨H7,1,none⟩)) (Fr.of_ext zb) ?_;refine Ec (g:=H7) (o:=1) (v:= iV p.2) (i:=2) (listed':=(bs 5 7)) rR kR kR kR (by intro _ _ _ h;exact h) rR (fun x hx=>Fr.cell hx (show World.cell? C2 ⟨H7,1,none⟩=some (iV p.2)from Ak (C7.1.range (i:=8) rR 1 1)) (fun hk=>hk.elim (C7.1.offBlk (i:=8) (j:=6) rR rR dC rR) (C7.1.offRow (i:=8) (j:=5) rR rR dC rR))) (by intro x hq;go_simp<;>with_reducible rfl) (Fr.of_ext zb) kR ?_;try simp only[Act.put,zA,zB,zC]
     refine mC 3 (bs 5 15) (Cx p.2 _ (by omega) (by omega)) ?_;rintro e L1 ⟨c_,rfl,H5,hx⟩;have C1:=zH (i5.1.step hx);have O5:=zH (show Af C2.drew L1 from Af.of_ext hx);have Q6:=zH (show Fr (fun kz=>kz=A6\/Value.ownBlock (.slice A2 m2 c2)=some kz) C2 L1 from(Fr.of_ext zb).trans (Fr.of_ext hx));obtain⟨Y5,rfl,C8⟩:=H5;have a1:=zH C8;have j2:=zH (Bk p.2 (by omega) (by omega));clear C8 hx;refine zm Q6.1 ?_;have K9:=tD (tD (tD (tD (tD (tD D0 P0) O9) O8) O7) O6) O5;have U4:=tD (tD (tD O8 O7) O6) O5;refine mC 4 (bs 5 31) (Xm 24 dC Y5 A5 A0 (((p.2):Int):Rat) (((a.2):Int):Rat) (((b.2):Int):Rat) B1 B0 A6 A2 m2 c2 B9 w _ (C1.1.pick2 (ib:=6) (ir:=5) rR rR dC) a1.1 (Ar j2.1 (by omega)) (Z9.1.dig K9.1) (Z8.1.dig K9.1) (Ar W8.1 (by omega)) (Ar W7.1 (by omega)) (C1.1.range (i:=3) rR 0 4) (C1.1.range (i:=4) rR 0 4) (fun h_=>h_.elim (C1.1.offBlk (i:=3) (j:=6) rR rR dC rR) (C1.1.offRow (i:=3) (j:=5) rR rR dC rR)) (fun h_=>h_.elim (C1.1.offBlk (i:=4) (j:=6) rR rR dC rR) (C1.1.offRow (i:=4) (j:=5) rR rR dC rR)) S4.1.1 (by have h_:=S4.1.2;have B2:=s9.1;omega) (fun g_ hg_=>(S3.1 g_ hg_).dig U4.1)) ?_;rintro e P8 ⟨rfl,B8⟩;unfold Yw at B8;obtain⟨G9,F8,D4,F5,F2,B2,C4,C3,F1,F0,E9,E8⟩:=B8;have M7:=zH F1;have G1:=zH (And.intro F0 E9);have N1:=zH E8;have d6:=zH C3;have d5:=zH C4;have i4:=zH (show Hp w P8 [.blk X1 41 [iV a.1,iV a.2],.blk X6 41 [iV b.1,iV b.2],.blk C9 41 [iV a.1,iV a.2,iV b.1,iV b.2],.blk B1 33 (rc A5),.blk B0 33 (rc A0),ro 33 4 G9 D4 F8 Bp.cells F5,.blk A6 118 [.slice G9 D4 F8],.blk C5 165 [.func (.func 151) #[] #[.pointer (some ⟨B1,0,none⟩),.pointer (some ⟨B0,0,none⟩),.pointer (some ⟨A6,0,none⟩)]],.blk H7 41 [iV p.1,iV p.2]]from C1.1.call2 (ib:=6) (ir:=5) (e:= .blk A6 118 [.slice A2 m2 c2]) (f:= .row 33 4 (.slice A2 m2 c2) (m2) (List.flatMap Bp.cells B9)) (e':= .blk A6 118 [.slice G9 D4 F8]) (f':= .row 33 4 (.slice G9 D4 F8) (D4) (List.flatMap Bp.cells F5)) (by rfl) (by rfl) (by decide) C4 (fun k_ hk_=>hk_.elim (fun h_=> .inl (by rw[h_];rfl)) .inr) F2 (fun k_ hk_=> .inl hk_) C3);have i9:=zH (show Af L1 P8 from B2);clear F2 B2 C3 F1 F0 E9 E8;have hx:=True.intro;have Z7:=zH (Q6.1.trans (C4));clear hx;refine zm Z7.1 ?_;refine wpAnyH_done kR ?_ _;go_upto_region 13 with fail
     refine wl ?_;refine zp (iV ((k+1:Nat):Int)) (by exact Hm (by omega)) ?_;refine zq (iV ((k+1:Nat):Int)) ?_;have U3:=tD (tD (tD (tD (tD O9 O8) O7) O6) O5) i9;go_wp2_with fail
     go_roundg (r.length-(k+1))
     case measure=>exact(by omega)
     case rel=>exact⟨k+1,D4,F5,G9,F8,rfl,(by go_num),P1,⟨G1.1.1,by have h_:=G1.1.2;have B2:=S4.1.2;omega⟩,(by rw[M7.1,S5.1,dR t5.1,<-jZZ];rfl),(fun g_ hg_=>(N1.1 g_ hg_)),i4.1.take 8,U3.1⟩
    have P1:=HLU.1;have hku:=t7.1;obtain rfl:k=r.length:=by omega
    go_upto_region 10 with fail
    refine wl ?_;refine zp (.bool false) (by exact Dv (e:=(Ah (Int.lt_irrefl _)))) ?_;go_upto_region 14 with fail
    refine wl ?_;refine zp (iV ((i+1:Nat):Int)) (by exact Hm (by omega)) ?_;refine zq (iV ((i+1:Nat):Int)) ?_;have U2:=tD P0 O9;go_wp2_with fail
    go_roundg (rs.length-(i+1))
    case measure=>exact(by omega)
    case rel=>exact⟨i+1,m2,B9,A2,c2,rfl,(by go_num),H1,⟨S4.1.1,by have h_:=S4.1.2;have B2:=Ho W4.1;omega⟩,(by rw[S5.1,mXX,pD W4.1,jZZ]),(fun g_ hg_=>(S3.1 g_ hg_)),O2.1,U2.1⟩
   have H1:=HLT.1;have hki:=t9.1;obtain rfl:i=rs.length:=by omega
   go_upto_region 7 with fail
   refine wl ?_;refine zp (.bool false) (by exact Dv (e:=(Ah (Int.lt_irrefl _)))) ?_;go_upto_region 15 with fail
   refine wl ?_;refine Cm 166 [.slice none 0 0] I1.1 ?_;intro A7 X9 i3 W0;have G3:=zH (show Hp w X9 [.blk X1 41 [iV a.1,iV a.2],.blk X6 41 [iV b.1,iV b.2],.blk C9 41 [iV a.1,iV a.2,iV b.1,iV b.2],.blk B1 33 (rc A5),.blk B0 33 (rc A0),ro 33 4 A1 m c1 Bp.cells es,.blk A6 118 [.slice A1 m c1],.blk C5 165 [.func (.func 151) #[] #[.pointer (some ⟨B1,0,none⟩),.pointer (some ⟨B0,0,none⟩),.pointer (some ⟨A6,0,none⟩)]],.blk A7 166 [.slice none 0 0],ro 167 4 none 0 0 pG ([])]from i3.1.addNil 167 4);go_upto_region 16 with fail
   refine wl ?_;refine Cs Ac _ ?_;refine zc (Qa _ rs _ (HU.1.ext G3.1.ext) HN.1 HR.1) ?_;rintro e B4 ⟨Bx,ve,rfl,l8,r8,K4,hR,hx⟩;have u6:=zH l8;have u5:=zH r8;have u4:=zH K4;rw[if_pos HV.1]at hR;have t0:=zH hR;clear l8 K4 hR;have G2:=zH (G3.1.step hx);have V9:=zH (Af.of_ext hx);clear hx;refine zn ?_;have hbo:=G3.1.lt (i:=6) (k:=A6) (by rfl) rfl;have hbe:=G3.1.lt (i:=8) (k:=A7) (by rfl) rfl;have l5:=fun k (hk:Value.ownBlock (.slice A1 m c1)=some k)=>G3.1.lt (i:=5) (k:=k) (by rfl) (by exact hk)
   have t1:=zH (show Fq (fun k=>¬(fun k=>k=A6\/k=A7\/Value.ownBlock (.slice A1 m c1)=some k\/B4.heap.size<=k) k) B4 ve rs from t0.1.imp (fun k h hk=>by rcases hk with rfl|rfl|hk|hk;omega;omega;have h2:=l5 k hk;omega;omega));have c8:=zH (show w.heap.size<=B4.heap.size from G2.1.ext.size);have r5:¬(fun k=>k=A6\/k=A7\/Value.ownBlock (.slice A1 m c1)=some k\/B4.heap.size<=k) Bx:=fun hk=>by have h1:=u6.1;have h9:=u5.1;rcases hk with hk|hk|hk|hk;omega;omega;have h2:=l5 _ hk;omega;omega
   have U1:=tD W0 V9;have K8:=tD (tD (tD D0 P0) W0) V9;have S2:=zH (G2.1.lt (i:=0) (k:=X1) (by rfl) rfl);have S1:=zH (G2.1.lt (i:=1) (k:=X6) (by rfl) rfl);have S0:=zH (G2.1.lt (i:=2) (k:=C9) (by rfl) rfl);go_wp2_with fail
   refine wpIn_wide.1 (Na (n:=4) (by omega) (fun k=>k=A6\/k=A7\/Value.ownBlock (.slice A1 m c1)=some k\/B4.heap.size<=k) Bx ve rs rR u4.1 r5 t1.1 HN.1 HV.1 (Ar (Ev _) (Hi HV.1)) (fun k h=> .inr (.inr (.inr h))) (zZ X1 X6 C9 B1 B0 A6 C5 A7 a b A5 A0 (es.map Bp.q) A1 m c1 w B4) (tQ X1 X6 C9 B1 B0 A6 C5 A7 a b A5 A0 (es.map Bp.q) A1 m c1 w B4 c8.1) ⟨A1,m,c1,es,none,0,G2.1,Af.refl _,fun k hk=> .inl hk,by simp[Value.ownBlock],by simp[kS],HM.1.1,by have h1:=HM.1.2;have h2:=Hn rs rs.length;have h3:=Hi HV.1;omega,(fun g_ hg_=>(m3.1 g_ hg_).dig U1.1),Cj _⟩ (zL X1 X6 C5 A7 B4) (tR X1 X6 C5 A7 B4) ?assign ?body ?done);case assign=>
    intro l pre x W K hi hK;obtain⟨A,n,c,B9,A2,c2,hh,hd,M0,L9,K2,K3,L7,D5,L4⟩:=hi;have M8:=zH L4;have H0:=zH hh;have HK:=zH hK;have HF:=zH (And.intro M0 (And.intro L9 (And.intro K2 (And.intro K3 L7))));have D9:=zH D5;have HD:=zH hd;clear L4 hh hK M0 L9 D5 K2 K3 L7 hd;unfold Ib;simp only[zA,zB,zC];refine wpIn_seq ?_;refine Ab kR (fun⟨_,_,h⟩=>h) ?_;refine aA 41 [iV 0,iV 0] H0.1 ?_;intro Q5 X8 i1 hx A9;have Q8:=zH (show W.heap.size<=Q5 from Ar (Fr.of_ext (G:=fun kz=>False) (Aa.refl W)).size A9);have V8:=zH (Af.of_ext hx);have c7:=zH (show Fr (fun kz=>False) W X8 from(Fr.of_ext (G:=fun kz=>False) (Aa.refl W)).trans (Fr.of_ext hx));clear hx A9;refine aS 10 [iV x.1.1.1,iV x.1.1.2] i1.1 ?_;intro q8 i0 hd ho;have V7:=zH (hd);have R9:=zH (c7.1.trans_new ho (fun j hj=> .inr (by injection hj with hj;rw[<-hj];exact Q8.1)));clear hd ho;refine Ab kR (fun⟨_,_,h⟩=>h) ?_;refine aA 41 [iV 0,iV 0] i0.1 ?_;intro s4 q7 g9 hx A9;have Q7:=zH (Ar R9.1.size A9);have V6:=zH (Af.of_ext hx);have c6:=zH (R9.1.trans (Fr.of_ext hx));clear hx A9;refine aS 11 [iV x.1.2.1,iV x.1.2.2] g9.1 ?_;intro q6 I0 hd ho;have V5:=zH (hd);have M3:=zH (c6.1.trans_new ho (fun j hj=> .inr (by injection hj with hj;rw[<-hj];exact Q7.1)));clear hd ho;refine HK.1 _ _ (KeepsFrom.of_fr M3.1 (fun _ h=>h.elim)) (M3.1.imp (fun _ h=>h.elim)) ⟨A,n,c,B9,A2,c2,I0.1.take 10,HD.1.trans (((V8.1.trans V7.1).trans V6.1).trans V5.1),HF.1.1,HF.1.2.1,HF.1.2.2.1,HF.1.2.2.2.1,HF.1.2.2.2.2,fun e he=>(D9.1 e he).dig (((V8.1.trans V7.1).trans V6.1).trans V5.1),Ar M8.1 M3.1.size⟩ (wM (I0.1.blk (i:=10) rR) (I0.1.blk (i:=11) rR) ?_ (Ar M8.1 Q8.1) (Ar M8.1 Q7.1) rR);exact fun e=>I0.1.apart 10 11 _ _ (by rfl) (by rfl) (by decide) Q5 (by rfl) (by rw[e];rfl)
   case body=>
    intro l pre x a' W hi r7 Y9;obtain⟨A,n,c,B9,A2,c2,hh,hd,M0,L9,K2,K3,L7,D5,L4⟩:=hi;obtain⟨J,Xp,Xq,l7,l6,l3,l4,Q2,rfl⟩:=r7;have M8:=zH L4;have HD:=zH hd;have m7:=zH M0;have m6:=zH L9;have c9:=zH K2;have d4:=zH K3;have d3:=zH L7;have D9:=zH D5;have P3:=zH x.2;have H0:=zH (show Hp w W [.blk X1 41 [iV a.1,iV a.2],.blk X6 41 [iV b.1,iV b.2],.blk C9 41 [iV a.1,iV a.2,iV b.1,iV b.2],.blk B1 33 (rc A5),.blk B0 33 (rc A0),ro 33 4 A n c Bp.cells B9,.blk A6 118 [.slice A n c],.blk C5 165 [.func (.func 151) #[] #[.pointer (some ⟨B1,0,none⟩),.pointer (some ⟨B0,0,none⟩),.pointer (some ⟨A6,0,none⟩)]],.blk A7 166 [.slice A2 pre.length c2],ro 167 4 A2 pre.length c2 pG (pre.map Subtype.val),.blk Xp 41 [iV x.1.1.1,iV x.1.1.2],.blk Xq 41 [iV x.1.2.1,iV x.1.2.2]]from hh.addTyp3 l7 l6 l3 c8.1 l4 Q2 (by simp[At]) (by simp[At]) (by simp only[List.forall_mem_cons,List.not_mem_nil,false_imp_iff,implies_true,and_true];exact⟨.inr (fun k hk=>by injection hk with hk;rw[<-hk];exact S2.1),.inr (fun k hk=>by injection hk with hk;rw[<-hk];exact S1.1),.inr (fun k hk=>by injection hk with hk;rw[<-hk];exact S0.1),.inl (by simp[Dc.typ]),.inl (by simp[Dc.typ]),.inl (by simp[Dc.typ]),.inl (by simp[Dc.typ]),.inl (by simp[Dc.typ]),.inl (by simp[Dc.typ]),.inl (by simp[Dc.typ])⟩));have A8:=zH Y9;obtain⟨o2,Q1⟩:∃o2,o2=Value.ownBlock (.slice A2 pre.length c2):=⟨_,rfl⟩;have d2:=zH Q1;clear Q1;have m4:=zH (Z9.1.dig ((K8.1).trans HD.1));have m5:=zH (Z8.1.dig ((K8.1).trans HD.1));have H2:=zH (show Fr (fun kz=>kz=A6\/kz=A7\/Value.ownBlock (.slice A n c)=some kz\/o2=some kz) W W from Fr.of_ext (Aa.refl W));clear hh hd M0 L9 K2 K3 L7 D5 L4 l7 l6 l3 l4 Q2;gi_upto_region 19 with fail
    refine Ab kR (fun⟨_,_,h⟩=>h) ?_;refine Ej H0.1 _ _ _ _ ?_;refine aL 2 3 [iV a.1,iV b.1] H0.1 ?_;intro D8 X7 S8 hx A9;have J0:=zH (Af.of_ext hx);have c5:=zH (H2.1.trans (Fr.of_ext hx));clear hx A9;refine Bq Ac _ _ ?_;refine wpList_nil ?_;skip
    gi_wp2_with fail
    gi_loopg [83] (2) (fun cq Y2 wr=>∃(kx:Nat) (A3:Option Addr) (n3:Nat) (c3:Nat) (D6:List Bp),cq=2-kx/\Y2= iV (kx:Int)/\(kx<=2)/\(n3=D6.length/\n3<=n+kx)/\(D6.map Bp.q=(es.map Bp.q)++kS a b [] (pre.map Subtype.val)++iA a b x.1 kx)/\(∀e,e∈D6->e.Ok 24 wr)/\((∀k,Value.ownBlock (.slice A3 n3 c3)=some k->Value.ownBlock (.slice A n c)=some k\/W.heap.size<=k))/\(Fr (fun kz=>kz=A6\/kz=A7\/Value.ownBlock (.slice A n c)=some kz\/o2=some kz) W wr)/\Hp w wr [.blk X1 41 [iV a.1,iV a.2],.blk X6 41 [iV b.1,iV b.2],.blk C9 41 [iV a.1,iV a.2,iV b.1,iV b.2],.blk B1 33 [.bool A5.n,.slice A5.p A5.l A5.c,.bool A5.m,.slice A5.p2 A5.l2 A5.c2],.blk B0 33 [.bool A0.n,.slice A0.p A0.l A0.c,.bool A0.m,.slice A0.p2 A0.l2 A0.c2],.row 33 4 (.slice A3 n3 c3) (n3) (List.flatMap Bp.cells D6),.blk A6 118 [.slice A3 n3 c3],.blk C5 165 [.func (.func 151) #[] #[.pointer (some ⟨B1,0,none⟩),.pointer (some ⟨B0,0,none⟩),.pointer (some ⟨A6,0,none⟩)]],.blk A7 166 [.slice A2 pre.length c2],.row 167 4 (.slice A2 pre.length c2) (pre.length) (List.flatMap pG (pre.map Subtype.val)),.blk Xp 41 [iV x.1.1.1,iV x.1.1.2],.blk Xq 41 [iV x.1.2.1,iV x.1.2.2],.blk D8 3 [iV a.1,iV b.1]]/\Af X7 wr)
    case atStart=>exact⟨0,A,n,c,B9,rfl,rfl,(by omega),⟨d4.1,by omega⟩,(by rw[c9.1];simp[iA]),(fun g_ hg_=>(D9.1 g_ hg_).dig J0.1),(fun k hk=> .inl hk),c5.1,S8.1,Af.refl _⟩
    obtain⟨kx,A3,n3,c3,D6,rfl,rfl,J7,J5,E4,E1,J3,B7,E6,E7⟩:=hrel;generalize wr=X5 at*
    have t6:=zH J7;clear J7;have N5:=zH J5;clear J5;have O1:=zH E4;clear E4;have N3:=zH E1;clear E1;have W6:=zH J3;clear J3;have H2:=zH B7;clear B7;have B3:=zH E6;have G6:=zH E7;clear E6 E7 S8;rcases Co (kx<2)with HKT|HKT
    ·obtain⟨xv,j8⟩:∃xv,xv=if kx=0 then a.1 else b.1:=⟨_,rfl⟩
     have W3:=zH j8;clear j8;have j9: -1048576<=xv/\xv<=1048576:=by rw[W3.1];split<;>omega
     have M4:=zH j9;clear j9;gi_upto_region 20 with fail
     refine Ab kR (fun⟨_,_,h⟩=>h) ?_;refine zp (.bool true) (by exact Dv (e:=(Ae (by have D1:=A8.1;have W2:=HKT.1;omega)))) ?_;refine wpList_nil ?_;gi_upto_region 21 with fail
     refine Ab kR (fun⟨_,_,h⟩=>h) ?_;refine zp (.pointer (some ⟨D8,kx,none⟩)) (by exact Jo (k:=kx) Tryz.underlying140 (l:=(by have h_:=HKT.1;omega)) (f:=(show kx=0+kx*1 by omega))) ?_;refine ze D8 kx (iV xv) (by rw[W3.1];exact bA B3.1 (i:=12) rR kx HKT.1) ?_;refine zq (iV xv) ?_;refine wpList_nil ?_;rcases Co (cU x.1.1 x.1.2 xv)with HYC|HYC
     ·gi_upto_region 22 with fail
      refine Ab kR (fun⟨_,_,h⟩=>h) ?_;refine zd Xp (0) [iV x.1.1.1,iV x.1.1.2] (B3.1.range (i:=10) rR 0 2) Tryz.underlying41 ?_;refine zd Xq (0) [iV x.1.2.1,iV x.1.2.2] (B3.1.range (i:=11) rR 0 2) Tryz.underlying41 ?_;refine qV (iV xv) ?_;refine zc (((Rb x.1.1 x.1.2 xv _ (by have h_:=M4.1;omega)).mono (fun _ _ h_=>Pb.yes h_ HYC.1))) ?_;rintro e q5 ⟨L3,rfl,C8,hx⟩;have g8:=zH (B3.1.step hx);have O4:=zH (Af.of_ext hx);have R8:=zH (H2.1.trans (Fr.of_ext hx));have a0:=zH C8;have j1:=zH (Xg (x:=xv) HYC.1.1 HYC.1.2.1 M4.1);clear C8 hx;refine zn ?_;refine Dh Ac _ _ (.bool true) ?_;refine aA 33 rz g8.1 ?_;intro Z5 q4 g7 hx A9;have a8:=zH (Ar R8.1.size A9);have I9:=zH (Af.of_ext hx);have c0:=zH (R8.1.trans (Fr.of_ext hx));clear hx A9;refine aS 13 (rc L3) g7.1 ?_;intro X4 B6 hd ho;have I8:=zH (hd);have R7:=zH (c0.1.trans_new ho (fun j hj=> .inr (by injection hj with hj;rw[<-hj];exact a8.1)));clear hd ho;refine zq (.bool true) ?_;refine wpList_nil ?_;gi_upto_region 23 with fail
      refine Ab kR (fun⟨_,_,h⟩=>h) ?_;refine zq (.bool true) ?_;refine wpList_nil ?_;gi_upto_region 24 with fail
      refine Ab kR (fun⟨_,_,h⟩=>h) ?_;refine Bq B6.1 _ _ ?_;have U0:=tD I9 I8;have K7:=tD (tD (tD (tD J0 G6) O4) I9) I8;have T9:=tD (tD O4 I9) I8;refine zc (Xm 24 dC L3 A5 A0 (Nj x.1.1 x.1.2 xv) (((a.2):Int):Rat) (((b.2):Int):Rat) B1 B0 A6 A3 n3 c3 D6 w _ (B6.1.pick2 (ib:=6) (ir:=5) rR rR dC) (a0.1.dig U0.1) (Ar j1.1 (by omega)) (m4.1.dig K7.1) (m5.1.dig K7.1) (Ar W8.1 (by omega)) (Ar W7.1 (by omega)) (B6.1.range (i:=3) rR 0 4) (B6.1.range (i:=4) rR 0 4) (fun h_=>h_.elim (B6.1.offBlk (i:=3) (j:=6) rR rR dC rR) (B6.1.offRow (i:=3) (j:=5) rR rR dC rR)) (fun h_=>h_.elim (B6.1.offBlk (i:=4) (j:=6) rR rR dC rR) (B6.1.offRow (i:=4) (j:=5) rR rR dC rR)) N5.1.1 (by have h_:=N5.1.2;have B2:=d3.1;have C4:=A8.1;have C3:=HKT.1;omega) (fun g_ hg_=>(N3.1 g_ hg_).dig T9.1)) ?_;rintro e P7 ⟨rfl,B8⟩;unfold Yw at B8;obtain⟨G8,F7,D3,F4,F2,B2,C4,C3,F1,F0,E9,E8⟩:=B8;have M6:=zH F1;have G0:=zH (And.intro F0 E9);have N0:=zH E8;have N9:=zH C3;have N7:=zH C4;have g6:=zH (show Hp w P7 [.blk X1 41 [iV a.1,iV a.2],.blk X6 41 [iV b.1,iV b.2],.blk C9 41 [iV a.1,iV a.2,iV b.1,iV b.2],.blk B1 33 (rc A5),.blk B0 33 (rc A0),ro 33 4 G8 D3 F7 Bp.cells F4,.blk A6 118 [.slice G8 D3 F7],.blk C5 165 [.func (.func 151) #[] #[.pointer (some ⟨B1,0,none⟩),.pointer (some ⟨B0,0,none⟩),.pointer (some ⟨A6,0,none⟩)]],.blk A7 166 [.slice A2 pre.length c2],ro 167 4 A2 pre.length c2 pG (pre.map Subtype.val),.blk Xp 41 [iV x.1.1.1,iV x.1.1.2],.blk Xq 41 [iV x.1.2.1,iV x.1.2.2],.blk D8 3 [iV a.1,iV b.1],.blk Z5 33 (rc L3)]from B6.1.call2 (ib:=6) (ir:=5) (e:= .blk A6 118 [.slice A3 n3 c3]) (f:= .row 33 4 (.slice A3 n3 c3) (n3) (List.flatMap Bp.cells D6)) (e':= .blk A6 118 [.slice G8 D3 F7]) (f':= .row 33 4 (.slice G8 D3 F7) (D3) (List.flatMap Bp.cells F4)) (by rfl) (by rfl) (by decide) C4 (fun k_ hk_=>hk_.elim (fun h_=> .inl (by rw[h_];rfl)) .inr) F2 (fun k_ hk_=> .inl hk_) C3);have i8:=zH (show Af X4 P7 from B2);have b9:=zH (R7.1.trans_fr N7.1 (fun k hk=>hk.elim (fun h=> .inl (.inl h)) (fun hk=>(W6.1 k hk).elim (fun h=> .inl (.inr (.inr (.inl h)))) .inr)));clear F2 B2 C3 F1 F0 E9 E8;have hx:=True.intro;clear hx;refine zn ?_;refine wpList_nil ?_;gi_upto_region 25 with fail
      refine Ab kR (fun⟨_,_,h⟩=>h) ?_;refine zp (iV ((kx+1:Nat):Int)) (by exact Hm (by have D1:=A8.1;have W2:=HKT.1;have Y6:=M4.1;omega)) ?_;refine zq (iV ((kx+1:Nat):Int)) ?_;refine wpList_nil ?_;have T8:=tD (tD (tD (tD G6 O4) I9) I8) i8;gi_wp2_with fail
      go_roundg (2-(kx+1))
      case measure=>exact(by have D1:=A8.1;have W2:=HKT.1;have Y6:=M4.1;have r1:=(show kx<2 from HKT.1);omega)
      case rel=>exact⟨kx+1,G8,D3,F7,F4,rfl,(by go_num),(by have h_:=HKT.1;omega),⟨G0.1.1,by have h_:=G0.1.2;have B2:=N5.1.2;omega⟩,(by rw[M6.1,O1.1,Ux _ _ _ _ HKT.1,<-W3.1,lK HYC.1,jZZ];simp[cK]),(fun g_ hg_=>(N0.1 g_ hg_)),(fun k_ hk_=>(N9.1 k_ hk_).elim (fun h_=>W6.1 k_ h_) (fun h_=> .inr (Ar R7.1.size h_))),b9.1,g6.1.take 13,T8.1⟩
     gi_upto_region 22 with fail
     refine Ab kR (fun⟨_,_,h⟩=>h) ?_;refine zd Xp (0) [iV x.1.1.1,iV x.1.1.2] (B3.1.range (i:=10) rR 0 2) Tryz.underlying41 ?_;refine zd Xq (0) [iV x.1.2.1,iV x.1.2.2] (B3.1.range (i:=11) rR 0 2) Tryz.underlying41 ?_;refine qV (iV xv) ?_;refine zc (((Rb x.1.1 x.1.2 xv _ (by have h_:=M4.1;omega)).mono (fun _ _ h_=>Pb.no h_ HYC.1))) ?_;rintro e q3 ⟨rfl,hx⟩;have g5:=zH (B3.1.step hx);have V4:=zH (Af.of_ext hx);have R6:=zH (H2.1.trans (Fr.of_ext hx));clear hx;refine zn ?_;refine Dh Ac _ _ (.bool false) ?_;refine aA 33 rz g5.1 ?_;intro s2 q2 g4 hx A9;have a7:=zH (Ar R6.1.size A9);have V3:=zH (Af.of_ext hx);have b8:=zH (R6.1.trans (Fr.of_ext hx));clear hx A9;refine aS 13 rz g4.1 ?_;intro q1 g3 hd ho;have V2:=zH (hd);have b7:=zH (b8.1.trans_new ho (fun j hj=> .inr (by injection hj with hj;rw[<-hj];exact a7.1)));clear hd ho;refine zq (.bool false) ?_;refine wpList_nil ?_;gi_upto_region 23 with fail
     refine Ab kR (fun⟨_,_,h⟩=>h) ?_;refine zq (.bool false) ?_;refine wpList_nil ?_;gi_upto_region 25 with fail
     refine Ab kR (fun⟨_,_,h⟩=>h) ?_;refine zp (iV ((kx+1:Nat):Int)) (by exact Hm (by have D1:=A8.1;have W2:=HKT.1;have Y6:=M4.1;omega)) ?_;refine zq (iV ((kx+1:Nat):Int)) ?_;refine wpList_nil ?_;have T7:=tD (tD V4 V3) V2;have T6:=tD (tD (tD G6 V4) V3) V2;gi_wp2_with fail
     go_roundg (2-(kx+1))
     case measure=>exact(by have D1:=A8.1;have W2:=HKT.1;have Y6:=M4.1;have r1:=(show kx<2 from HKT.1);omega)
     case rel=>exact⟨kx+1,A3,n3,c3,D6,rfl,(by go_num),(by have h_:=HKT.1;omega),⟨N5.1.1,by have h_:=N5.1.2;omega⟩,(by rw[O1.1,Ux _ _ _ _ HKT.1,<-W3.1,qQ HYC.1];simp),(fun g_ hg_=>(N3.1 g_ hg_).dig T7.1),W6.1,b7.1,g3.1.take 13,T6.1⟩
    obtain rfl:kx=2:=by have h_:=t6.1;have B2:=HKT.1;omega
    gi_upto_region 20 with fail
    refine Ab kR (fun⟨_,_,h⟩=>h) ?_;refine zp (.bool false) (by exact Dv (e:=(Ah dC))) ?_;refine wpList_nil ?_;gi_upto_region 26 with fail
    refine Ab kR (fun⟨_,_,h⟩=>h) ?_;refine Dh B3.1 _ (iV ((pre.length:Nat):Int)) _ ?_;refine wpList_nil ?_;skip
    gi_wp2_with fail
    gi_loopg [101] (pre.length) (fun cq Y1 wr=>∃(i2:Nat) (A4:Option Addr) (n4:Nat) (c4:Nat) (H6:List Bp),cq=pre.length-i2/\Y1= iV (i2:Int)/\(i2<=pre.length)/\(n4=H6.length/\n4<=n+2+i2)/\(H6.map Bp.q=(es.map Bp.q)++kS a b [] (pre.map Subtype.val)++((Pd x.1 a.1).flatMap (cK a.2 b.2)++(Pd x.1 b.1).flatMap (cK a.2 b.2))++((pre.map Subtype.val).take i2).flatMap (fun o=>(Sj o x.1).flatMap (cK a.2 b.2)))/\(∀e,e∈H6->e.Ok 24 wr)/\((∀k,Value.ownBlock (.slice A4 n4 c4)=some k->Value.ownBlock (.slice A n c)=some k\/W.heap.size<=k))/\(Fr (fun kz=>kz=A6\/kz=A7\/Value.ownBlock (.slice A n c)=some kz\/o2=some kz) W wr)/\Hp w wr [.blk X1 41 [iV a.1,iV a.2],.blk X6 41 [iV b.1,iV b.2],.blk C9 41 [iV a.1,iV a.2,iV b.1,iV b.2],.blk B1 33 [.bool A5.n,.slice A5.p A5.l A5.c,.bool A5.m,.slice A5.p2 A5.l2 A5.c2],.blk B0 33 [.bool A0.n,.slice A0.p A0.l A0.c,.bool A0.m,.slice A0.p2 A0.l2 A0.c2],.row 33 4 (.slice A4 n4 c4) (n4) (List.flatMap Bp.cells H6),.blk A6 118 [.slice A4 n4 c4],.blk C5 165 [.func (.func 151) #[] #[.pointer (some ⟨B1,0,none⟩),.pointer (some ⟨B0,0,none⟩),.pointer (some ⟨A6,0,none⟩)]],.blk A7 166 [.slice A2 pre.length c2],.row 167 4 (.slice A2 pre.length c2) (pre.length) (List.flatMap pG (pre.map Subtype.val)),.blk Xp 41 [iV x.1.1.1,iV x.1.1.2],.blk Xq 41 [iV x.1.2.1,iV x.1.2.2],.blk D8 3 [iV a.1,iV b.1]]/\Af X5 wr)
    case atStart=>exact⟨0,A3,n3,c3,D6,rfl,rfl,eQQ _,⟨N5.1.1,N5.1.2⟩,(by rw[O1.1];simp[iA]),(fun g_ hg_=>(N3.1 g_ hg_)),W6.1,H2.1,B3.1,Af.refl _⟩
    obtain⟨i2,A4,n4,c4,H6,rfl,rfl,K0,J4,E3,E0,J2,B7,E6,E7⟩:=hrel;generalize wr=P6 at*
    have u0:=zH K0;clear K0;have N4:=zH J4;clear J4;have O0:=zH E3;clear E3;have N2:=zH E0;clear E0;have W5:=zH J2;clear J2;have H2:=zH B7;clear B7;have C6:=zH E6;have I7:=zH E7;clear E6 E7 B3;rcases Co (i2<pre.length)with HLT4|HLT4
    ·have H1:=HLT4.1
     obtain⟨o,l1⟩:∃o,pre[i2]?=some o:=⟨_,aQQ H1⟩;have P4:=zH o.2;have m0:=zH (show(pre.map Subtype.val)[i2]?=some o.1 by rw[kZZ,l1];rfl);skip
     have l9:=zH (show(pre.map Subtype.val).take (i2+1)=(pre.map Subtype.val).take i2++[o.1]by rw[List.take_add_one,m0.1];rfl);clear l1;obtain⟨ge,Z0⟩:=Be.form (C6.1.row (i:=9) (by rfl)) |>.elim (fun A_ h_=>h_.elim (fun c_ B2=>(show∃ge,A2=some ⟨ge,0,none⟩from by obtain⟨e_,C4⟩:=B2;injection e_ with e1_ e2_ e3_;subst e1_;exact C4 (by omega))));subst Z0;gi_upto_region 27 with fail
     refine Ab kR (fun⟨_,_,h⟩=>h) ?_;refine zp (.bool true) (by exact Dv (e:=(Ae (by have D1:=A8.1;omega)))) ?_;refine wpList_nil ?_;gi_upto_region 28 with fail
     refine Ab kR (fun⟨_,_,h⟩=>h) ?_;refine zp (.pointer (some ⟨ge,i2*4,none⟩)) (by exact Jo (k:=i2) Tryz.underlying166 (l:=H1) (f:=(dZZ _).symm)) ?_;refine zd ge (i2*4) [iV o.1.1.1,iV o.1.1.2,iV o.1.2.1,iV o.1.2.2] (C6.1.elem (f:=pG) (i:=9) rR tT m0.1) Tryz.underlying167 ?_;refine aA 167 [iV 0,iV 0,iV 0,iV 0] C6.1 ?_;intro D7 q0 g2 hx A9;have a6:=zH (show W.heap.size<=D7 from Ar H2.1.size A9);have G5:=zH (Af.of_ext hx);have b6:=zH (H2.1.trans (Fr.of_ext hx));clear hx A9;refine aS 13 [iV o.1.1.1,iV o.1.1.2,iV o.1.2.1,iV o.1.2.2] g2.1 ?_;intro p9 C0 hd ho;have G4:=zH (hd);have R5:=zH (b6.1.trans_new ho (fun j hj=> .inr (by injection hj with hj;rw[<-hj];exact a6.1)));clear hd ho;refine wpList_nil ?_;rcases Co (Gd o.1.1 o.1.2 x.1.1 x.1.2=1)with HSG|HSG
     ·gi_upto_region 29 with fail
      refine Ab kR (fun⟨_,_,h⟩=>h) ?_;refine Cs Ac _ ?_;refine zd D7 (0) [iV o.1.1.1,iV o.1.1.2] (C0.1.range (i:=13) rR 0 2) Tryz.underlying41 ?_;refine Cs Ac _ ?_;refine zd D7 (2) [iV o.1.2.1,iV o.1.2.2] (C0.1.range (i:=13) rR 2 2) Tryz.underlying41 ?_;refine Bq C0.1 _ _ ?_;refine zc (((Ns o.1.1 o.1.2 x.1.1 x.1.2 _ P4.1.1 P4.1.2 P3.1.1 P3.1.2).mono (fun _ _ h_=>Ni.yes h_ HSG.1))) ?_;rintro e p8 ⟨P9,L2,rfl,C8,l0,hx⟩;have g1:=zH (C0.1.step hx);have O3:=zH (Af.of_ext hx);have R3:=zH (R5.1.trans (Fr.of_ext hx));have s7:=zH C8;have Z6:=zH l0;have j0:=zH (mY P4.1.1 P4.1.2 P3.1.1 P3.1.2).2;clear C8 l0 hx;refine zn ?_;refine Ej Ac _ _ _ _ ?_;refine aA 33 rz g1.1 ?_;intro Z4 p7 g0 hx A9;have a5:=zH (Ar R3.1.size A9);have I6:=zH (Af.of_ext hx);have R2:=zH (R3.1.trans (Fr.of_ext hx));clear hx A9;refine aA 33 rz g0.1 ?_;intro Z3 p6 f9 hx A9;have a4:=zH (Ar R2.1.size A9);have I5:=zH (Af.of_ext hx);have b5:=zH (R2.1.trans (Fr.of_ext hx));clear hx A9;refine aS 14 (rc P9) f9.1 ?_;intro p5 f8 hd ho;have I4:=zH (hd);have b4:=zH (b5.1.trans_new ho (fun j hj=> .inr (by injection hj with hj;rw[<-hj];exact a5.1)));clear hd ho;refine aS 15 (rc L2) f8.1 ?_;intro X3 B5 hd ho;have I3:=zH (hd);have R1:=zH (b4.1.trans_new ho (fun j hj=> .inr (by injection hj with hj;rw[<-hj];exact a4.1)));clear hd ho;refine zq (iV 1) ?_;refine wpList_nil ?_;gi_upto_region 30 with fail
      refine Ab kR (fun⟨_,_,h⟩=>h) ?_;refine zq (iV 1) ?_;refine zp (.bool true) (by exact bQ (e:=(Ae rfl))) ?_;refine wpList_nil ?_;gi_upto_region 31 with fail
      refine Ab kR (fun⟨_,_,h⟩=>h) ?_;refine Bq B5.1 _ _ ?_;have T5:=tD (tD (tD I6 I5) I4) I3;have K6:=tD (tD (tD (tD (tD (tD (tD (tD (tD J0 G6) I7) G5) G4) O3) I6) I5) I4) I3;have T4:=tD (tD (tD (tD (tD (tD G5 G4) O3) I6) I5) I4) I3;refine zc (Xm 24 dC L2 A5 A0 (Pg o.1.1 o.1.2 x.1.1 x.1.2) (((a.2):Int):Rat) (((b.2):Int):Rat) B1 B0 A6 A4 n4 c4 H6 w _ (B5.1.pick2 (ib:=6) (ir:=5) rR rR dC) (Z6.1.dig T5.1) (Ar j0.1 (by omega)) (m4.1.dig K6.1) (m5.1.dig K6.1) (Ar W8.1 (by omega)) (Ar W7.1 (by omega)) (B5.1.range (i:=3) rR 0 4) (B5.1.range (i:=4) rR 0 4) (fun h_=>h_.elim (B5.1.offBlk (i:=3) (j:=6) rR rR dC rR) (B5.1.offRow (i:=3) (j:=5) rR rR dC rR)) (fun h_=>h_.elim (B5.1.offBlk (i:=4) (j:=6) rR rR dC rR) (B5.1.offRow (i:=4) (j:=5) rR rR dC rR)) N4.1.1 (by have h_:=N4.1.2;have B2:=d3.1;have C4:=A8.1;omega) (fun g_ hg_=>(N2.1 g_ hg_).dig T4.1)) ?_;rintro e P5 ⟨rfl,B8⟩;unfold Yw at B8;obtain⟨G7,F6,D2,F3,F2,B2,C4,C3,F1,F0,E9,E8⟩:=B8;have M5:=zH F1;have F9:=zH (And.intro F0 E9);have M9:=zH E8;have N8:=zH C3;have N6:=zH C4;have f7:=zH (show Hp w P5 [.blk X1 41 [iV a.1,iV a.2],.blk X6 41 [iV b.1,iV b.2],.blk C9 41 [iV a.1,iV a.2,iV b.1,iV b.2],.blk B1 33 (rc A5),.blk B0 33 (rc A0),ro 33 4 G7 D2 F6 Bp.cells F3,.blk A6 118 [.slice G7 D2 F6],.blk C5 165 [.func (.func 151) #[] #[.pointer (some ⟨B1,0,none⟩),.pointer (some ⟨B0,0,none⟩),.pointer (some ⟨A6,0,none⟩)]],.blk A7 166 [.slice (some ⟨ge,0,none⟩) pre.length c2],ro 167 4 (some ⟨ge,0,none⟩) pre.length c2 pG (pre.map Subtype.val),.blk Xp 41 [iV x.1.1.1,iV x.1.1.2],.blk Xq 41 [iV x.1.2.1,iV x.1.2.2],.blk D8 3 [iV a.1,iV b.1],.blk D7 167 [iV o.1.1.1,iV o.1.1.2,iV o.1.2.1,iV o.1.2.2],.blk Z4 33 (rc P9),.blk Z3 33 (rc L2)]from B5.1.call2 (ib:=6) (ir:=5) (e:= .blk A6 118 [.slice A4 n4 c4]) (f:= .row 33 4 (.slice A4 n4 c4) (n4) (List.flatMap Bp.cells H6)) (e':= .blk A6 118 [.slice G7 D2 F6]) (f':= .row 33 4 (.slice G7 D2 F6) (D2) (List.flatMap Bp.cells F3)) (by rfl) (by rfl) (by decide) C4 (fun k_ hk_=>hk_.elim (fun h_=> .inl (by rw[h_];rfl)) .inr) F2 (fun k_ hk_=> .inl hk_) C3);have i7:=zH (show Af X3 P5 from B2);have b3:=zH (R1.1.trans_fr N6.1 (fun k hk=>hk.elim (fun h=> .inl (.inl h)) (fun hk=>(W5.1 k hk).elim (fun h=> .inl (.inr (.inr (.inl h)))) .inr)));clear F2 B2 C3 F1 F0 E9 E8;have hx:=True.intro;clear hx;refine zn ?_;refine wpList_nil ?_;gi_upto_region 32 with fail
      refine Ab kR (fun⟨_,_,h⟩=>h) ?_;refine zp (iV ((i2+1:Nat):Int)) (by exact Hm (by have D1:=A8.1;omega)) ?_;refine zq (iV ((i2+1:Nat):Int)) ?_;refine wpList_nil ?_;have T3:=tD (tD (tD (tD (tD (tD (tD (tD I7 G5) G4) O3) I6) I5) I4) I3) i7;gi_wp2_with fail
      go_roundg (pre.length-(i2+1))
      case measure=>exact(by have D1:=A8.1;omega)
      case rel=>exact⟨i2+1,G7,D2,F6,F3,rfl,(by go_num),H1,⟨F9.1.1,by have h_:=F9.1.2;have B2:=N4.1.2;omega⟩,(by rw[M5.1,O0.1,l9.1,List.flatMap_append,<-jZZ];simp[mJ HSG.1,cK]),(fun g_ hg_=>(M9.1 g_ hg_)),(fun k_ hk_=>(N8.1 k_ hk_).elim (fun h_=>W5.1 k_ h_) (fun h_=> .inr (Ar R1.1.size h_))),b3.1,f7.1.take 13,T3.1⟩
     gi_upto_region 29 with fail
     refine Ab kR (fun⟨_,_,h⟩=>h) ?_;refine Cs Ac _ ?_;refine zd D7 (0) [iV o.1.1.1,iV o.1.1.2] (C0.1.range (i:=13) rR 0 2) Tryz.underlying41 ?_;refine Cs Ac _ ?_;refine zd D7 (2) [iV o.1.2.1,iV o.1.2.2] (C0.1.range (i:=13) rR 2 2) Tryz.underlying41 ?_;refine Bq C0.1 _ _ ?_;refine zc (((Ns o.1.1 o.1.2 x.1.1 x.1.2 _ P4.1.1 P4.1.2 P3.1.1 P3.1.2).mono (fun _ _ h_=>Ni.no h_ HSG.1))) ?_;rintro e p4 ⟨rfl,hx⟩;have f6:=zH (C0.1.step hx);have V1:=zH (Af.of_ext hx);have R0:=zH (R5.1.trans (Fr.of_ext hx));clear hx;refine zn ?_;refine Ej Ac _ _ _ (iV (Gd o.1.1 o.1.2 x.1.1 x.1.2)) ?_;refine aA 33 rz f6.1 ?_;intro s1 p3 f5 hx A9;have a3:=zH (Ar R0.1.size A9);have V0:=zH (Af.of_ext hx);have Q9:=zH (R0.1.trans (Fr.of_ext hx));clear hx A9;refine aA 33 rz f5.1 ?_;intro s0 p1 f4 hx A9;have a2:=zH (Ar Q9.1.size A9);have U9:=zH (Af.of_ext hx);have b2:=zH (Q9.1.trans (Fr.of_ext hx));clear hx A9;refine aS 14 rz f4.1 ?_;intro p0 f3 hd ho;have U8:=zH (hd);have b1:=zH (b2.1.trans_new ho (fun j hj=> .inr (by injection hj with hj;rw[<-hj];exact a3.1)));clear hd ho;refine aS 15 rz f3.1 ?_;intro o9 f2 hd ho;have U7:=zH (hd);have b0:=zH (b1.1.trans_new ho (fun j hj=> .inr (by injection hj with hj;rw[<-hj];exact a2.1)));clear hd ho;refine zq (iV (Gd o.1.1 o.1.2 x.1.1 x.1.2)) ?_;refine wpList_nil ?_;gi_upto_region 30 with fail
     refine Ab kR (fun⟨_,_,h⟩=>h) ?_;refine zq (iV (Gd o.1.1 o.1.2 x.1.1 x.1.2)) ?_;refine zp (.bool false) (by exact bQ (e:=(Ah HSG.1))) ?_;refine wpList_nil ?_;gi_upto_region 32 with fail
     refine Ab kR (fun⟨_,_,h⟩=>h) ?_;refine zp (iV ((i2+1:Nat):Int)) (by exact Hm (by have D1:=A8.1;omega)) ?_;refine zq (iV ((i2+1:Nat):Int)) ?_;refine wpList_nil ?_;have T2:=tD (tD (tD (tD (tD (tD G5 G4) V1) V0) U9) U8) U7;have T1:=tD (tD (tD (tD (tD (tD (tD I7 G5) G4) V1) V0) U9) U8) U7;gi_wp2_with fail
     go_roundg (pre.length-(i2+1))
     case measure=>exact(by have D1:=A8.1;omega)
     case rel=>exact⟨i2+1,A4,n4,c4,H6,rfl,(by go_num),H1,⟨N4.1.1,by have h_:=N4.1.2;omega⟩,(by rw[O0.1,l9.1,List.flatMap_append];simp[rK HSG.1]),(fun g_ hg_=>(N2.1 g_ hg_).dig T2.1),W5.1,b0.1,f2.1.take 13,T1.1⟩
    have H1:=HLT4.1;have hi4:=u0.1;obtain rfl:i2=pre.length:=by omega
    gi_upto_region 27 with fail
    refine Ab kR (fun⟨_,_,h⟩=>h) ?_;refine zp (.bool false) (by exact Dv (e:=(Ah (Int.lt_irrefl _)))) ?_;refine wpList_nil ?_;gi_upto_region 33 with fail
    refine Ab kR (fun⟨_,_,h⟩=>h) ?_;refine Cs C6.1 _ ?_;refine zd Xp (0) [iV x.1.1.1,iV x.1.1.2] (C6.1.range (i:=10) rR 0 2) Tryz.underlying41 ?_;refine zd Xq (0) [iV x.1.2.1,iV x.1.2.2] (C6.1.range (i:=11) rR 0 2) Tryz.underlying41 ?_;refine Cs Ac _ ?_;refine zp (w':=(P6.alloc (.cells ([iV x.1.1.1,iV x.1.1.2,iV x.1.2.1,iV x.1.2.2]:List Value).toArray 167))) (.slice (some ⟨P6.heap.size,0,none⟩) 1 1) (by go_simp) ?_;refine Tj rR _ _ _ rR yY rR C6.1 (ix:=9) rR 1 1 [iV x.1.1.1,iV x.1.1.2,iV x.1.2.1,iV x.1.2.2] rR rfl (by simp[Value.oneCell']) (by simp[At]) dC (by unfold maxLen;exact(by have D1:=A8.1;omega)) (by have D1:=A8.1;omega) ?_;intro M1 K5 X2 hf hh hd hg;have S9:=zH hf;clear hf;rw[show List.flatMap pG (pre.map Subtype.val)++[iV x.1.1.1,iV x.1.1.2,iV x.1.2.1,iV x.1.2.2]=_ from Hc pG _ x.1]at hh;have f1:=hN hh;have U6:=zH (hd);have a9:=zH (show Fr (fun kz=>kz=A6\/kz=A7\/Value.ownBlock (.slice A n c)=some kz\/o2=some kz) W X2 from(H2.1.trans (Fr.of_ext (Al.alloc _))).trans_new hg (fun j hj=> .inl (.inr (.inr (.inr (d2.1.trans hj))))));clear hh hd hg;try simp only[Act.put,zA,zB,zC]
    refine aU 8 (.slice (some ⟨M1,0,none⟩) (pre.length+1) K5) f1.1 ?_;intro o8 f0 hd ho;have U5:=zH (hd);have M2:=zH (a9.1.trans_new ho (fun j hj=> .inl (.inr (.inl (by injection hj with hj;exact hj.symm)))));clear hd ho;refine wpList_nil ?_;have T0:=tD U6 U5;gi_wp2
    exact⟨(KeepsFrom.of_fr M2.1 (fun k hk o ho=>hk.elim (fun e=>H0.1.cells (i:=6) (by rfl) (by rw[e];rfl) o ho) (fun hk=>hk.elim (fun e=>H0.1.cells (i:=8) (by rfl) (by rw[e];rfl) o ho) (fun hk=>hk.elim (fun e=>H0.1.cells (i:=5) (by rfl) (by exact e) o ho) (fun e=>H0.1.cells (i:=9) (by rfl) (by exact d2.1.symm.trans e) o ho))))),(M2.1.imp (fun k hk=>hk.elim .inl (fun hk=>hk.elim (fun e=> .inr (.inl e)) (fun hk=>hk.elim (fun e=>(m7.1 k e).elim (fun h=> .inr (.inr (.inl h))) (fun h=> .inr (.inr (.inr h)))) (fun e=> .inr (.inr (.inr (m6.1 k (d2.1.symm.trans e))))))))),A4,n4,c4,H6,some ⟨M1,0,none⟩,K5,(by have h_:=f0.1.take 10;rw[show pre.length+1=(pre++[x]).length by simp,show List.map Subtype.val pre++[x.1]=(pre++[x]).map Subtype.val by simp]at h_;exact h_),HD.1.trans ((((J0.1.trans G6.1).trans I7.1).trans U6.1).trans U5.1),(fun k hk=>(W5.1 k hk).elim (fun h=>m7.1 k h) (fun h=> .inr (Ar M8.1 h))),(fun k hk=>by have e_:M1=k:=(by simpa[Value.ownBlock]using hk);subst e_;exact S9.1.elim (fun q=>m6.1 _ q) (fun q=>Ar M8.1 (Ar H2.1.size q))),(by rw[O0.1,cQQ (by simp),jXX,List.map_cons,List.map_nil,bZ,fQQ];simp[Ty]),N4.1.1,(by have h_:=N4.1.2;have B2:=d3.1;have C4:=A8.1;simp;omega),(fun g_ hg_=>(N2.1 g_ hg_).dig T0.1),Ar M8.1 M2.1.size⟩
   rintro D xs W hD Y7 ⟨A,n,c,B9,A2,c2,hh,hd,M0,L9,K2,K3,L7,D5,L4⟩ hK;have H0:=zH hh;have c9:=zH K2;have d4:=zH K3;have D9:=zH D5;have s8:=zH Y7;have HD:=zH hK;have u2:=zH hD;have r4:B9.length<=90000000:=by have h1:xs.length=(Cd rs).length:=(by rw[<-Y7,eZZ]);have h2:=Ev rs;have h3:=Hi HV.1;omega
   clear hh hd M0 L9 K2 K3 L7 D5 L4 Y7 hK hD;go_upto_region 34 with fail
   refine wl ?_;refine Cs H0.1 _ ?_;refine zc (dP 24 dC (.slice A n c) B9 _ _ (by have h_:=H0.1.row (i:=5) rR;rw[<-d4.1];exact h_) H0.1.ext.size D9.1 (by omega)) ?_;rintro e L0 ⟨v3,D6,rfl,B2,L8,C3,F1,F0,E9,E8⟩;have u1:=zH L8;have d0:=zH (And.intro F0 (And.intro E9 E8));have u3:=zH C3;have HS:=zH (H0.1.turn (i:=5) (e:= .row 33 4 (.slice A n c) (n) (List.flatMap Bp.cells B9)) (e':= .row 33 4 v3 D6.length (D6.flatMap Bp.cells)) (by rfl) (fun k h=>h) L8 B2 (fun k hk=> .inl (by have h_:v3.ownBlock=some k:=hk;rw[F1]at h_;exact h_)));clear B2 L8 C3 F1 F0 E9 E8;have hx:=True.intro;clear hx;refine zn ?_;refine zq (v3) ?_;go_wp2_with fail
   have Z1:L0.heap[D]?=some (.deferred (some [])):=(u1.1.block D (Array.getElem?_eq_some_iff.1 HD.1).1 (fun e=>by have h1:=H0.1.cells (i:=5) (by rfl) (by exact e.symm) _ HD.1;cases h1)).trans HD.1;refine⟨by simp,.inl ⟨_,_,rfl,run_takeDeferred Z1,?_⟩⟩;have Q3:=HS.1.keptQ (grownBy_putObj' L0 D (.deferred none)) (fun k hk=>by injection hk with hk;subst hk;exact⟨Ar c8.1 u2.1,_,Z1,rfl⟩);have r6:=u3.1.trans (Af.keptQ (grownBy_putObj' L0 D (.deferred none)) (fun k hk=>by injection hk with hk;subst hk;exact⟨_,Z1,rfl⟩));refine⟨_,results_tmp rfl _ _ _,v3,D6,rfl,Q3.row (i:=5) rR,d0.1.1,fun q=>(d0.1.2.1 q).trans ?_,fun e he=>(D9.1 e (d0.1.2.2 e he)).dig r6,Q3.ext⟩;rw[c9.1,m8.1,s8.1,mXX];unfold wL;rw[if_pos ⟨HV.1,m1.1.1,m1.1.2,by have h_:=HLE.1;omega⟩]
  have H9:=zH (Bool.eq_false_iff.2 HB.1);go_upto_region 1 with fail
  refine wl ?_;refine Cs Ac _ ?_;refine zc (Cc _ rs _ (HU.1.ext H8.1.ext) HN.1 HR.1) ?_;rintro e o7 ⟨rfl,hx⟩;have S7:=zH (H8.1.step hx);clear hx;refine⟨.bool true,by rw[HV.1],?_⟩;try simp only[Act.put,zA,zB,zC]
  refine Ej S7.1 (.bool false) (.bool false) _ _ ?_;refine cS 2 41 [iV a.1,iV a.2,iV b.1,iV b.2] S7.1 ?_;intro Z2 o6 S6 _;refine zc (Hk (.slice (some ⟨Z2,0,none⟩) 2 2) [a,b] _ (Iy S6.1 (i:=2) rR) (by simp)) ?_;rintro e o5 ⟨rfl,hx⟩;have d9:=zH (S6.1.step hx);clear hx;refine⟨.bool false,by rw[H9.1],?_⟩;try simp only[Act.put,zA,zB,zC]
  refine Hf Ac (.bool true) (.bool true) (.bool true) _ _ _ _ _ ?_;refine zq (.bool true) ?_;go_upto_region 2 with fail
  refine wl ?_;refine Cs Ac _ ?_;go_wp2_with fail
  exact⟨_,results_tmp rfl _ _ _,_,[],rfl,Be.nil _ _ _ _,by simp,by rw[show wL a b rs=[]from if_neg (fun h=>HB.1 (Xw.2 ⟨h.2.1,h.2.2.1⟩))];simp,by simp,d9.1.ext⟩
 have HV:=zH (Bool.eq_false_iff.2 HVQ.1);go_upto_region 1 with fail
 refine wl ?_;refine Cs Ac _ ?_;refine zc (Cc _ rs _ (HU.1.ext H8.1.ext) HN.1 HR.1) ?_;rintro e o4 ⟨rfl,hx⟩;have d8:=zH (H8.1.step hx);clear hx;refine⟨.bool false,by rw[HV.1],?_⟩;try simp only[Act.put,zA,zB,zC]
 refine Hf Ac (.bool true) (.bool true) _ _ _ _ _ (.bool true) ?_;refine fF Ac (.bool true) _ _ _ _ _ (.bool true) ?_;go_upto_region 2 with fail
 refine wl ?_;refine Cs Ac _ ?_;go_wp2_with fail
 exact⟨_,results_tmp rfl _ _ _,_,[],rfl,Be.nil _ _ _ _,by simp,by rw[show wL a b rs=[]from if_neg (fun h=>HVQ.1 h.1)];simp,by simp,d8.1.ext⟩
def Uf (B:Nat)(E:Int)(q:Rat)(w:World)(e:Ending)(w':World):Prop:=
  ∃r:RV,e= .returned (.tuple #[.agg #[.bool r.n,.slice r.p r.l r.c,.bool r.m,.slice r.p2 r.l2 r.c2],iV E])/\(E=0->r.Is w' q/\Nm.rl q<=B)/\(E≠0->r=RV.zero)/\Aa w w'
theorem Uf.ok {B:Nat}{E:Int}{q:Rat}{w w':World}{e:Ending}(h:Uf B E q w e w')(h0:E=0):∃r:RV,e= .returned (.tuple #[.agg #[.bool r.n,.slice r.p r.l r.c,.bool r.m,.slice r.p2 r.l2 r.c2],iV 0])/\r.Is w' q/\Nm.rl q<=B/\Aa w w':=by
  obtain⟨r,rfl,h1,_,hx⟩:=h;exact⟨r,by rw[h0],(h1 h0).1,(h1 h0).2,hx⟩
theorem Uf.bad {B:Nat}{E:Int}{q:Rat}{w w':World}{e:Ending}(h:Uf B E q w e w')(h0:E≠0):e= .returned (.tuple #[.agg z4,iV E])/\Aa w w':=by
  obtain⟨r,rfl,_,h2,hx⟩:=h;rw[h2 h0];exact⟨rfl,hx⟩
theorem Wc (A:Option Addr)(cap:Nat)(rs:List Av)(rule:Int)(a b:Int×Int)(w:World)(hu:Cu w (.slice A rs.length cap) rs)(hn:rs.length<=1048576)(hr:∀r,r∈rs->r.length<=1048576)(hs:Ge rs=true->Gm rs<=16)(hru: -9223372036854775808<=rule/\rule<=9223372036854775807):
  Calls Tryz.prog 89 #[.slice A rs.length cap,iV rule,.agg #[iV a.1,iV a.2],.agg #[iV b.1,iV b.2]] w (Uf 50000 (Gp rule a b rs) (If rule a b rs) w):=by
 have HU:=zH hu;have HN:=zH hn;have D9:=zH hr;clear hu hr;have D8:=zH hs;have O1:=zH hru;clear hs hru;go_enter Tryz.func89,Tryz.ntmps89
 have H0:=zH (Hp.start w);go_upto_region 0 with fail
 refine wl ?_;refine Cm 22 [.slice A rs.length cap] H0.1 ?_;intro D5 P4 O9 _;refine Cm 3 [iV rule] O9.1 ?_;intro D4 P3 O8 _;refine Cm 41 [iV a.1,iV a.2] O8.1 ?_;intro G8 P2 O7 _;refine Cm 41 [iV b.1,iV b.2] O7.1 ?_;intro G7 P1 J5 _;refine Cm 33 rz J5.1 ?_;intro C3 N7 A6 _;refine zq (iV 0) ?_;rcases Co (Ge rs=true)with HV|HV
 ·rcases Co (rule=1\/rule=2)with HRL|HRL
  ·go_upto_region 1 with fail
   refine wl ?_;refine Bq A6.1 _ _ ?_;refine aC A6.1 (Tv A cap rs rule 0 _ (HU.1.ext A6.1.ext) HN.1 D9.1 ((if_pos HV.1).trans (if_pos HRL.1))) ?_;intro N6 B3 _;refine zq (iV 0) ?_;go_upto_region 2 with fail
   refine wl ?_;refine zq (iV 0) ?_;refine zp (.bool false) (by exact Jn (e:=(Ah (by omega)))) ?_;rcases Co (Dk a.1 a.2=true)with VA|VA
   ·rcases Co (Dk b.1 b.2=true)with VB|VB
    ·go_upto_region 4 with fail
     refine wl ?_;refine Cs B3.1 _ ?_;refine zc (Fs a.1 a.2 _) ?_;rintro e N5 ⟨rfl,hx⟩;have E9:=zH (B3.1.step hx);clear hx;refine⟨.bool true,by rw[VA.1],?_⟩;try simp only[Act.put,zA,zB,zC]
     refine Dh E9.1 (.bool false) (.bool false) _ ?_;refine zc (Fs b.1 b.2 _) ?_;rintro e N4 ⟨rfl,hx⟩;have J4:=zH (E9.1.step hx);clear hx;refine⟨.bool true,by rw[VB.1],?_⟩;try simp only[Act.put,zA,zB,zC]
     refine Bq Ac (.bool false) (.bool false) ?_;have G1:=zH (show Gp rule a b rs=0 from Wd.2 ⟨HV.1,HRL.1,VA.1,VB.1⟩);have oa:=Bi (p:=a) VA.1;have ob:=Bi (p:=b) VB.1;go_upto_region 6 with fail
     refine wl ?_;refine zc (Cx 0 _ (by omega) (by omega)) ?_;rintro e N3 ⟨c_,rfl,C2,hx⟩;have J3:=zH (J4.1.step hx);obtain⟨A1,rfl,B8⟩:=C2;have D7:=zH B8;have K3:=zH (Bk 0 (by omega) (by omega));clear B8 hx;refine zn ?_;refine Cm 33 rz J3.1 ?_;intro A4 N2 J2 F7;refine Cy 5 (rc A1) J2.1 ?_;intro A8 B0 F6;rcases Co (b.1<=a.1)with HX1|HX1
     ·go_upto_region 7 with fail
      refine wl ?_;refine Ej B0.1 _ _ _ _ ?_;refine zp (.bool true) (by exact Ju (e:=(Ae HX1.1))) ?_;go_upto_region 8 with fail
      refine wl ?_;refine Cs B0.1 _ ?_;refine Cy 4 (rc A1) B0.1 ?_;intro N1 E8 K2;refine zq (iV 0) ?_;have F4:=tD (tD F7 F6) K2;go_wp2_with fail
      refine bodyPost_ret (v:= .tuple #[.agg #[.bool A1.n,.slice A1.p A1.l A1.c,.bool A1.m,.slice A1.p2 A1.l2 A1.c2],iV 0]) ?_ rfl ⟨A1,by rw[G1.1],fun _=>⟨(show((0:Int):Rat)=If rule a b rs from(if_pos (.inl HX1.1)).symm)▸(D7.1.dig F4.1),(show((0:Int):Rat)=If rule a b rs from(if_pos (.inl HX1.1)).symm)▸Ar K3.1 dC⟩,fun h_=>absurd G1.1 h_,E8.1.ext⟩;exact Aq rfl rfl ((E8.1.blk (i:=4) rR).loadVar rfl rfl rR) rfl
     go_upto_region 7 with fail
     refine wl ?_;refine Ej B0.1 _ _ _ _ ?_;refine zp (.bool false) (by exact Ju (e:=(Ah HX1.1))) ?_;go_upto_region 9 with fail
     refine zy ?_;have J1:=zH (B0.1.step (Aa.refl A8).drew);have K1:=zH (Af.of_ext (w:=A8) zb);refine xC B0.1 zb (bs 10 27) 0 1 3 4 _ _ _ _ ?_;refine FN.go2 (j1:=⟨6,some 12,33,[.bool false,.slice none 0 0,.bool false,.slice none 0 0]⟩) (j2:=⟨7,some 13,33,[.bool false,.slice none 0 0,.bool false,.slice none 0 0]⟩) (b:=A8) ?_ zb;refine gN 2 (bs 10 31) (fk (fk trivial)) zb.size (fun xq C0=>Cx a.1 _ (by omega) (by omega)) (by rintro x_ e L7 ⟨c_,rfl,C2,hx⟩;exact hx) ?_;rintro xq e G3 C0 ⟨c_,rfl,C2,hx⟩;replace hx:=C0.trans hx;clear C0;have J0:=zH (J1.1.step hx);have K0:=zH (show Af A8.drew G3 from Af.of_ext hx);have D6:=zH (zb.trans hx);obtain⟨A3,rfl,B8⟩:=C2;have H6:=zH B8;clear B8 hx;refine⟨_,rfl,?_⟩;try simp only[Act.put,zA,zB,zC]
     refine gN 5 (bs 10 63) (fk (fk trivial)) D6.1.size (fun xq C0=>Cx b.1 _ (by omega) (by omega)) (by rintro x_ e L7 ⟨c_,rfl,C2,hx⟩;exact hx) ?_;rintro xq e N0 C0 ⟨c_,rfl,C2,hx⟩;replace hx:=C0.trans hx;clear C0;have I9:=zH (J0.1.step hx);have F5:=zH (Af.of_ext hx);have H3:=zH (D6.1.trans hx);obtain⟨A2,rfl,B8⟩:=C2;have H5:=zH B8;clear B8 hx;refine⟨_,rfl,?_⟩;try simp only[Act.put,zA,zB,zC]
     refine zS (bs 10 255) (fk (fk trivial)) H3.1.size B0.1 I9.1 ?_;intro B2 B1 G2 hx hh L0 K9 hs;have I8:=hN hh;have D0:=zH (Af.of_ext hx);have H2:=zH (show Aa A8 G2 from hs);have J7:=zH (show A8.heap.size<=B2 from L0);have J6:=zH (show A8.heap.size<=B1 from K9);clear hh hx hs L0 K9;try simp only[Act.put,zA,zB,zC]
     refine bS 6 8 (bs 10 511) (rc A3) I8.1 H2.1 J7.1 ?_;intro M9 I7 C9 H1;refine bS 7 9 (bs 10 1023) (rc A2) I7.1 H1.1 J6.1 ?_;intro M8 C5 C8 N9;refine wpAnyH_done kR ?_ _;go_upto_region 10 with fail
     refine wl ?_;refine Bq Ac _ _ ?_;go_upto_region 11 with fail
     refine wl ?_;refine Dh C5.1 _ _ _ ?_;refine zc (bU _ rs a b _ (HU.1.ext C5.1.ext) HN.1 D9.1) ?_;rintro e D1 ⟨P5,ep,rfl,B4,K4,K6,K5,hx⟩;obtain⟨Ap,cp,rfl,D3⟩:=B4.form;have O6:=zH D3;have G0:=zH (tK K4 K6);have E0:=zH K5;clear D3 K4 K6 K5;have C4:=zH (show Hp w D1 [.blk D5 22 [.slice A rs.length cap],.blk D4 3 [iV rule],.blk G8 41 [iV a.1,iV a.2],.blk G7 41 [iV b.1,iV b.2],.blk C3 33 rz,.blk A4 33 (rc A1),.blk B2 33 (rc A3),.blk B1 33 (rc A2),ro 33 4 Ap ep.length cp Bp.cells ep]from C5.1.addRow hx B4);have C7:=zH (Af.of_ext hx);clear B4 hx;refine zn ?_;refine Cs Ac _ ?_;have P7:ep.length<=9223372036854775807:=by have h_:=Be.capA (Hp.row (i:=8) C4.1 (by rfl));exact h_
     have O3:=zH (show(Dy a b rs).length=ep.length from by rw[<-G0.1,eZZ]);have O5:=zH (show∀x,x∈Dy a b rs->Nm.rl x<=24 from fun x_ C1=>by rw[<-G0.1]at C1;obtain⟨e_,N8,rfl⟩:=List.mem_map.1 C1;exact(E0.1 e_ N8).2);have P6:=HX1.1;have O2:=zH (fun k_=>rV (rule:=rule) (a:=a) (b:=b) (rs:=rs) VA.1 VB.1 (by omega) (Ar (D8.1 HV.1) (by decide)) O5.1 k_);go_upto_region 12 with fail
     refine wl ?_;refine zq (iV 0) ?_;have F3:=tD (tD (tD (tD (tD (tD (tD (tD F7 F6) K1) K0) F5) D0) C9) C8) C7;go_wp2_with fail
     go_loopg [16] (ep.length) (fun cq G4 wr=>∃(i:Nat) (A0:RV),cq=ep.length-i/\G4= iV (i:Int)/\(i=0\/i+1<=ep.length)/\(A0.Is wr (part rule a b rs i))/\Hp w wr [.blk D5 22 [.slice A rs.length cap],.blk D4 3 [iV rule],.blk G8 41 [iV a.1,iV a.2],.blk G7 41 [iV b.1,iV b.2],.blk C3 33 [.bool false,.slice none 0 0,.bool false,.slice none 0 0],.blk A4 33 [.bool A0.n,.slice A0.p A0.l A0.c,.bool A0.m,.slice A0.p2 A0.l2 A0.c2],.blk B2 33 [.bool A3.n,.slice A3.p A3.l A3.c,.bool A3.m,.slice A3.p2 A3.l2 A3.c2],.blk B1 33 [.bool A2.n,.slice A2.p A2.l A2.c,.bool A2.m,.slice A2.p2 A2.l2 A2.c2],.row 33 4 (.slice Ap ep.length cp) (ep.length) (List.flatMap Bp.cells ep)]/\Af D1 wr)
     case atStart=>exact⟨0,A1,rfl,rfl,(.inl rfl),(by rw[jJ];exact(D7.1.dig F3.1)),C4.1,Af.refl _⟩
     obtain⟨i,A0,rfl,rfl,B7,D2,K8,L1⟩:=hrel;generalize wr=A7 at*
     have O4:=zH B7;clear B7;have RZ:=zH D2;clear D2;have A9:=zH K8;have C6:=zH L1;clear K8 L1 C4;have BZ:=zH (O2.1 i);rcases Co (i+1<ep.length)with HLT|HLT
     ·have F9:=HLT.1
      have hj:i<ep.length:=by omega
      obtain⟨gp,rfl⟩:=O6.1 (by omega);obtain⟨xe,C1⟩:∃e,ep[i]?=some e:=⟨_,aQQ hj⟩;obtain⟨ye,F8⟩:∃e,ep[i+1]?=some e:=⟨_,aQQ F9⟩;have HX:=zH C1;have HY:=zH F8;have I0:=zH (E0.1 xe (bZZ C1)).1;have H9:=zH (E0.1 xe (bZZ C1)).2;have H8:=zH (E0.1 ye (bZZ F8)).1;have H7:=zH (E0.1 ye (bZZ F8)).2;have O0:=zH (jK (rule:=rule) (a:=a) (b:=b) (rs:=rs) (k:=i) (x:=xe.q) (y:=ye.q) (by rw[<-G0.1,kZZ,HX.1];rfl) (by rw[<-G0.1,kZZ,HY.1];rfl));clear C1 F8;go_upto_region 13 with fail
      refine wl ?_;refine zq (iV (i:Int)) ?_;refine zp (iV ((i+1:Nat):Int)) (by exact Hm (by omega)) ?_;refine Bq Ac _ (iV ((ep.length:Nat):Int)) ?_;refine zp (.bool true) (by exact Dv (e:=(Ae (by omega)))) ?_;go_upto_region 15 with fail
      refine wp_region_held_drew (S:=fun x=>Fr (fun kz=>kz=A4) A7 x) kR (Fr.of_ext zb) (fun _=> ?_);have E7:=zH (A9.1.step (Aa.refl A7).drew);have B6:=zH (Af.of_ext (w:=A7) zb);refine zx 0 (bs 11 1) (.func (.func 122) #[] #[.pointer (some ⟨D5,0,none⟩),.pointer (some ⟨D4,0,none⟩),.pointer (some ⟨B2,0,none⟩),.pointer (some ⟨B1,0,none⟩),.pointer (some ⟨A4,0,none⟩)]) (Fr.of_ext zb) ?_;refine zx 1 (bs 11 3) (.slice (some ⟨gp,0,none⟩) ep.length cp) (Fr.of_ext zb) ?_;refine zx 2 (bs 11 7) (iV (i:Int)) (Fr.of_ext zb) ?_;refine zo 3 (bs 11 15) (v:= .pointer (some ⟨gp,i*4,none⟩)) (Fr.of_ext zb) ?_ (hv:=by intro w L2;exact Jo (k:=i) Tryz.underlying118 (l:=hj) (f:=(dZZ _).symm));refine zr 4 (bs 11 31) gp (i*4) [.bool xe.a.n,.slice xe.a.p xe.a.l xe.a.c,.bool xe.a.m,.slice xe.a.p2 xe.a.l2 xe.a.c2] (fun x hx=>Fr.range hx (show World.rangeAt A7 gp (i*4) [.bool xe.a.n,.slice xe.a.p xe.a.l xe.a.c,.bool xe.a.m,.slice xe.a.p2 xe.a.l2 xe.a.c2]from(A9.1.elem (f:=Bp.cells) (i:=8) rR Bp.len HX.1)) (A9.1.offBlk (i:=8) (j:=5) rR rR dC rR)) Tryz.underlying33 (Fr.of_ext zb) ?_;refine zx 5 (bs 11 63) (.slice (some ⟨gp,0,none⟩) ep.length cp) (Fr.of_ext zb) ?_;refine zx 6 (bs 11 127) (iV (i:Int)) (Fr.of_ext zb) ?_;refine zu 7 (bs 11 255) (v:= iV ((i+1:Nat):Int)) (Fr.of_ext zb) ?_ (hv:=by intro w L2;exact Hm (by omega));refine zo 8 (bs 11 511) (v:= .pointer (some ⟨gp,(i+1)*4,none⟩)) (Fr.of_ext zb) ?_ (hv:=by intro w L2;exact Jo (k:=i+1) Tryz.underlying118 (l:=F9) (f:=(dZZ _).symm));refine zr 9 (bs 11 1023) gp ((i+1)*4) [.bool ye.a.n,.slice ye.a.p ye.a.l ye.a.c,.bool ye.a.m,.slice ye.a.p2 ye.a.l2 ye.a.c2] (fun x hx=>Fr.range hx (show World.rangeAt A7 gp ((i+1)*4) [.bool ye.a.n,.slice ye.a.p ye.a.l ye.a.c,.bool ye.a.m,.slice ye.a.p2 ye.a.l2 ye.a.c2]from(A9.1.elem (f:=Bp.cells) (i:=8) rR Bp.len HY.1)) (A9.1.offBlk (i:=8) (j:=5) rR rR dC rR)) Tryz.underlying33 (Fr.of_ext zb) ?_;have B5:=tD C6 B6;have F2:=tD (tD (tD (tD (tD (tD F5 D0) C9) C8) C7) C6) B6;have F1:=tD (tD (tD (tD (tD D0 C9) C8) C7) C6) B6;refine mC 10 (bs 11 2047) (qD A cap rs rule a b xe.q ye.q (part rule a b rs i) xe.a ye.a A3 A2 A0 D5 D4 B2 B1 A4 w _ (E7.1.pickL [0,1,6,7,5] dC _ rR) HU.1 HN.1 D9.1 O1.1 HV.1 VA.1 VB.1 (by omega) (D8.1 HV.1) (I0.1.dig B5.1) H9.1 (H8.1.dig B5.1) H7.1 (H6.1.dig F2.1) (H5.1.dig F1.1) (RZ.1.dig B6.1) BZ.1) ?_;rintro e B9 ⟨rfl,G5⟩;obtain⟨A5,L5,K7,L4,L3,G6⟩:=G5;have H4:=zH L5;have P0:=zH K7;have I6:=zH (show Hp w B9 [.blk D5 22 [.slice A rs.length cap],.blk D4 3 [iV rule],.blk G8 41 [iV a.1,iV a.2],.blk G7 41 [iV b.1,iV b.2],.blk C3 33 rz,.blk A4 33 (rc A5),.blk B2 33 (rc A3),.blk B1 33 (rc A2),ro 33 4 (some ⟨gp,0,none⟩) ep.length cp Bp.cells ep]from E7.1.callO (ir:=5) (f:= .blk A4 33 [.bool A0.n,.slice A0.p A0.l A0.c,.bool A0.m,.slice A0.p2 A0.l2 A0.c2]) (f':= .blk A4 33 [.bool A5.n,.slice A5.p A5.l A5.c,.bool A5.m,.slice A5.p2 A5.l2 A5.c2]) (by rfl) G6 (fun k_ hk_=>by rw[show k_=A4 from hk_];rfl) L4 rfl);have J9:=zH (show Af A7.drew B9 from L3);have hx:=G6;clear L5 K7 L4 L3 G6;have G9:=zH (show Fr (fun kz=>kz=A4) A7 B9 from(Fr.of_ext zb).trans hx);clear hx;refine zm G9.1 ?_;refine wpAnyH_done kR ?_ _;go_upto_region 14 with fail
      refine wl ?_;refine zq (iV (i:Int)) ?_;refine zp (iV ((i+1:Nat):Int)) (by exact Hm (by omega)) ?_;refine zq (iV ((i+1:Nat):Int)) ?_;have F0:=tD B5 J9;go_wp2_with fail
      go_roundg (ep.length-(i+1))
      case measure=>exact(by omega)
      case rel=>exact⟨i+1,A5,rfl,(by go_num),(.inr F9),(by rw[O0.1];exact H4.1),I6.1,F0.1⟩
     have F9:=HLT.1;have P8:=O4.1;go_upto_region 13 with fail
     refine wl ?_;refine zq (iV (i:Int)) ?_;refine zp (iV ((i+1:Nat):Int)) (by exact Hm (by omega)) ?_;refine Bq Ac _ (iV ((ep.length:Nat):Int)) ?_;refine zp (.bool false) (by exact Dv (e:=(Ah (by omega)))) ?_;go_upto_region 16 with fail
     refine wl ?_;refine zd A4 (0) (rc A0) (A9.1.range (i:=5) rR 0 4) Tryz.underlying33 ?_;refine Cy 4 (rc A0) A9.1 ?_;intro M7 E6 J8;refine zq (iV 0) ?_;have L6:=zH (show part rule a b rs i=If rule a b rs from nS (by rw[O3.1];omega) (by have h_:=HX1.1;omega));go_wp2_with fail
     refine bodyPost_ret (v:= .tuple #[.agg #[.bool A0.n,.slice A0.p A0.l A0.c,.bool A0.m,.slice A0.p2 A0.l2 A0.c2],iV 0]) ?_ rfl ⟨A0,by rw[G1.1],fun _=>⟨L6.1▸(RZ.1.dig J8.1),L6.1▸BZ.1⟩,fun h_=>absurd G1.1 h_,E6.1.ext⟩;exact Aq rfl rfl ((E6.1.blk (i:=4) rR).loadVar rfl rfl rR) rfl
    have Wb:=zH (Bool.eq_false_iff.2 VB.1);go_upto_region 4 with fail
    refine wl ?_;refine Cs B3.1 _ ?_;refine zc (Fs a.1 a.2 _) ?_;rintro e M6 ⟨rfl,hx⟩;have E5:=zH (B3.1.step hx);clear hx;refine⟨.bool true,by rw[VA.1],?_⟩;try simp only[Act.put,zA,zB,zC]
    refine Dh E5.1 (.bool false) (.bool false) _ ?_;refine zc (Fs b.1 b.2 _) ?_;rintro e M5 ⟨rfl,hx⟩;have I5:=zH (E5.1.step hx);clear hx;refine⟨.bool false,by rw[Wb.1],?_⟩;try simp only[Act.put,zA,zB,zC]
    refine Bq Ac (.bool true) (.bool true) ?_;go_upto_region 5 with fail
    refine wl ?_;refine zq (.agg z4) ?_;refine Cy 4 rz I5.1 ?_;intro M4 E4 _;refine zq (iV 6) ?_;go_wp2_with fail
    refine bodyPost_ret (v:= .tuple #[.agg z4,iV 6]) ?_ rfl ⟨RV.zero,by rw[show Gp rule a b rs=6 from(if_pos HV.1).trans ((if_pos HRL.1).trans (if_neg (fun h_=>VB.1 h_.2)))];rfl,fun h_=>absurd h_ (by rw[show Gp rule a b rs=6 from(if_pos HV.1).trans ((if_pos HRL.1).trans (if_neg (fun h_=>VB.1 h_.2)))];decide),fun _=>rfl,E4.1.ext⟩;exact Aq rfl rfl ((E4.1.blk (i:=4) rR).loadVar rfl rfl rR) rfl
   have Wa:=zH (Bool.eq_false_iff.2 VA.1);go_upto_region 4 with fail
   refine wl ?_;refine Cs B3.1 _ ?_;refine zc (Fs a.1 a.2 _) ?_;rintro e M3 ⟨rfl,hx⟩;have I4:=zH (B3.1.step hx);clear hx;refine⟨.bool false,by rw[Wa.1],?_⟩;try simp only[Act.put,zA,zB,zC]
   refine Pc Ac (.bool true) (.bool true) _ _ _ (.bool true) ?_;go_upto_region 5 with fail
   refine wl ?_;refine zq (.agg z4) ?_;refine Cy 4 rz I4.1 ?_;intro M2 E3 _;refine zq (iV 6) ?_;go_wp2_with fail
   refine bodyPost_ret (v:= .tuple #[.agg z4,iV 6]) ?_ rfl ⟨RV.zero,by rw[show Gp rule a b rs=6 from(if_pos HV.1).trans ((if_pos HRL.1).trans (if_neg (fun h_=>VA.1 h_.1)))];rfl,fun h_=>absurd h_ (by rw[show Gp rule a b rs=6 from(if_pos HV.1).trans ((if_pos HRL.1).trans (if_neg (fun h_=>VA.1 h_.1)))];decide),fun _=>rfl,E3.1.ext⟩;exact Aq rfl rfl ((E3.1.blk (i:=4) rR).loadVar rfl rfl rR) rfl
  go_upto_region 1 with fail
  refine wl ?_;refine Bq A6.1 _ _ ?_;refine aC A6.1 (Tv A cap rs rule 2 _ (HU.1.ext A6.1.ext) HN.1 D9.1 ((if_pos HV.1).trans (if_neg HRL.1))) ?_;intro M1 I3 _;refine zq (iV 2) ?_;go_upto_region 2 with fail
  refine wl ?_;refine zq (iV 2) ?_;refine zp (.bool true) (by exact Jn (e:=(Ae (by omega)))) ?_;go_upto_region 3 with fail
  refine wl ?_;refine Bq Ac _ _ ?_;refine Cy 4 rz I3.1 ?_;intro M0 E2 _;refine zq (iV 2) ?_;go_wp2_with fail
  refine bodyPost_ret (v:= .tuple #[.agg z4,iV 2]) ?_ rfl ⟨RV.zero,by rw[show Gp rule a b rs=2 from(if_pos HV.1).trans (if_neg HRL.1)];rfl,fun h_=>absurd h_ (by rw[show Gp rule a b rs=2 from(if_pos HV.1).trans (if_neg HRL.1)];decide),fun _=>rfl,E2.1.ext⟩;exact Aq rfl rfl ((E2.1.blk (i:=4) rR).loadVar rfl rfl rR) rfl
 go_upto_region 1 with fail
 refine wl ?_;refine Bq A6.1 _ _ ?_;refine aC A6.1 (Tv A cap rs rule 12 _ (HU.1.ext A6.1.ext) HN.1 D9.1 (if_neg HV.1)) ?_;intro L9 I1 _;refine zq (iV 12) ?_;go_upto_region 2 with fail
 refine wl ?_;refine zq (iV 12) ?_;refine zp (.bool true) (by exact Jn (e:=(Ae (by omega)))) ?_;go_upto_region 3 with fail
 refine wl ?_;refine Bq Ac _ _ ?_;refine Cy 4 rz I1.1 ?_;intro L8 E1 _;refine zq (iV 12) ?_;go_wp2_with fail
 refine bodyPost_ret (v:= .tuple #[.agg z4,iV 12]) ?_ rfl ⟨RV.zero,by rw[show Gp rule a b rs=12 from if_neg HV.1];rfl,fun h_=>absurd h_ (by rw[show Gp rule a b rs=12 from if_neg HV.1];decide),fun _=>rfl,E1.1.ext⟩;exact Aq rfl rfl ((E1.1.blk (i:=4) rR).loadVar rfl rfl rR) rfl
theorem Yl {n:Int}(h:Mz n=false): -4096<=n/\n<=4096:=by
  unfold Mz at h;simp at h;omega
theorem hC {x y:Int}(h:Dk (Bg x y).1 (Bg x y).2=true):(-4096<=x/\x<=4096)/\(-4096<=y/\y<=4096):=by
  unfold Bg at h;by_cases c:(Mz x||Mz y)=true
  · rw[if_pos c]at h;exact absurd h (by decide)
  simp at c;have h1:=Yl c.1;have h2:=Yl c.2;omega
theorem Sv (r:RV)(E:Int)(q:Rat)(w:World)(hr:E=0->r.Is w q/\Nm.rl q<=50000)(hz:E≠0->r=RV.zero):
  Calls Tryz.prog 88 #[.agg #[.bool r.n,.slice r.p r.l r.c,.bool r.m,.slice r.p2 r.l2 r.c2],iV E] w (Uf 50010 E (q/((65536:Int):Rat)) w):=by
 have A8:=zH hr;have B9:=zH hz;clear hr hz;rcases Co (E=0)with HE|HE
 ·have C0:=zH (A8.1 HE.1).1
  have A9:=zH (A8.1 HE.1).2;obtain rfl:E=0:=HE.1;go_enter Tryz.func88,Tryz.ntmps88
  have H0:=zH (Hp.start w);go_upto_region 0 with fail
  refine wl ?_;refine Cm 33 (rc r) H0.1 ?_;intro X2 w3 H4 _;refine Cm 33 rz H4.1 ?_;intro X7 w8 H9 _;refine zq (iV 0) ?_;go_upto_region 1 with fail
  refine wl ?_;refine zq (iV 0) ?_;refine zp (.bool false) (by exact Jn (e:=(Ah (by omega)))) ?_;go_upto_region 3 with fail
  refine wp_region_held_drew (S:=fun x=>Fr (fun kz=>kz=X2) w8 x) kR (Fr.of_ext zb) (fun _=> ?_);have C4:=zH (H9.1.step (Aa.refl w8).drew);refine Fd.go (j:=0) (dj:=some 11) (u:= .agg #[.bool r.n,.slice r.p r.l r.c,.bool r.m,.slice r.p2 r.l2 r.c2]) ?_;refine Hl (b:=w8) (i:=1) (lj:=(bs 7 1)) (li:=(bs 7 2)) rR rR kR kR kR kR kR dC kR rR rR (fun x_ h_=>Fr.of_ext h_) (Aa.refl w8).drew (fun x_ h_=>Je _ _ rR X2 (0) [.bool r.n,.slice r.p r.l r.c,.bool r.m,.slice r.p2 r.l2 r.c2] rR (Bu (show World.rangeAt w8 X2 (0) [.bool r.n,.slice r.p r.l r.c,.bool r.m,.slice r.p2 r.l2 r.c2]from H9.1.range (i:=0) rR 0 4) h_) Tryz.underlying33 rR kR) rR (by go_simp) kR (Cx 65536 _ (by omega) (by omega)) ?_;rintro e A5 ⟨c_,rfl,A3,hx⟩;have B3:=zH (C4.1.step hx);have B5:=zH (show Aa w8 A5 from(Aa.refl w8).drew.trans hx);have A7:=zH (show Fr (fun kz=>kz=X2) w8 A5 from(Fr.of_ext zb).trans (Fr.of_ext hx));obtain⟨D4,rfl,A1⟩:=A3;have B8:=zH A1;have B4:=zH (Bk 65536 (by omega) (by omega));clear A1;have A6:=hx;clear hx;refine⟨_,rfl,A6,?_⟩;try simp only[Act.put,zA,zB,zC]
  clear A6;refine My rR kR rR rR A7.1 (Je _ _ rR X2 (0) [.bool r.n,.slice r.p r.l r.c,.bool r.m,.slice r.p2 r.l2 r.c2] rR (Bu (show World.rangeAt w8 X2 (0) [.bool r.n,.slice r.p r.l r.c,.bool r.m,.slice r.p2 r.l2 r.c2]from H9.1.range (i:=0) rR 0 4) B5.1) Tryz.underlying33 rR kR) (show _=(bs 7 3)by kernel_rfl) ?_;try simp only[Act.put,zA,zB,zC]
  refine mC 2 (bs 7 7) (xG (L:=60000) (RV.Is.nin (C0.1.dig B3.1.dig0) (Ar A9.1 (by omega))) (RV.Is.nin B8.1 (Ar B4.1 (by omega))) dC dC) ?_;rintro e D3 ⟨c_,rfl,A3,hx⟩;have C3:=zH (B3.1.step hx);have A2:=zH (A7.1.trans (Fr.of_ext hx));obtain⟨A0,rfl,A1⟩:=A3;have B7:=zH A1;have C7:=zH (show Nm.rl (q/(((65536):Int):Rat))<=50010 from by have h1:=A9.1;have h2:=B4.1;have h3:=Nm.rl_div q (((65536):Int):Rat);omega);clear A1 hx;refine zm A2.1 ?_;refine zx 3 (bs 7 15) (.tuple #[.agg #[.bool A0.n,.slice A0.p A0.l A0.c,.bool A0.m,.slice A0.p2 A0.l2 A0.c2],iV 0]) A2.1 ?_;refine zx 4 (bs 7 31) (.agg #[.bool A0.n,.slice A0.p A0.l A0.c,.bool A0.m,.slice A0.p2 A0.l2 A0.c2]) A2.1 ?_;refine zx 5 (bs 7 63) (iV 0) A2.1 ?_;refine Ea (i:=6) (listed':=(bs 7 127)) rR kR rR kR _ _ _ rR C3.1 (ix:=0) rR 0 [.bool A0.n,.slice A0.p A0.l A0.c,.bool A0.m,.slice A0.p2 A0.l2 A0.c2] rR rR (by simp) kR (by simp[Value.oneCell']) (by simp[At]) ?_;intro D2 hh hd ho;have B2:=hN hh;have C6:=zH (hd);have B6:=zH (Fr.trans_new A2.1 ho (fun j hj=> .inl (by simpa using hj.symm)));clear hh hd ho;refine⟨B6.1,?_⟩
  (try simp only[Act.put])
  refine wpAnyH_done kR ?_ _;go_upto_region 4 with fail
  refine wl ?_;refine Cs B2.1 _ ?_;refine Cy 1 (rc A0) B2.1 ?_;intro D1 B1 C5;refine zq (iV 0) ?_;have A4:=tD C6 C5;go_wp2_with fail
  refine bodyPost_ret (v:= .tuple #[.agg #[.bool A0.n,.slice A0.p A0.l A0.c,.bool A0.m,.slice A0.p2 A0.l2 A0.c2],iV 0]) ?_ rfl ⟨A0,rfl,fun _=>⟨(B7.1.dig A4.1),C7.1⟩,fun h_=>absurd rfl h_,B1.1.ext⟩;exact Aq rfl rfl ((B1.1.blk (i:=1) rR).loadVar rfl rfl rR) rfl
 obtain rfl:r=RV.zero:=B9.1 HE.1;go_enter Tryz.func88,Tryz.ntmps88
 have H0:=zH (Hp.start w);go_upto_region 0 with fail
 refine wl ?_;refine Cm 33 (rc RV.zero) H0.1 ?_;intro D6 D0 C2 _;refine Cm 33 rz C2.1 ?_;intro D5 C9 C1 _;refine zq (iV 0) ?_;go_upto_region 1 with fail
 refine wl ?_;refine zq (iV E) ?_;refine zp (.bool true) (by exact Jn (e:=(Ae HE.1))) ?_;go_upto_region 2 with fail
 refine wl ?_;refine Bq Ac _ (iV E) ?_;refine Cy 1 rz C1.1 ?_;intro C8 B0 _;refine zq (iV E) ?_;go_wp2_with fail
 refine bodyPost_ret (v:= .tuple #[.agg z4,iV E]) ?_ rfl ⟨RV.zero,rfl,fun h_=>absurd h_ HE.1,fun _=>rfl,B0.1.ext⟩;exact Aq rfl rfl ((B0.1.blk (i:=1) rR).loadVar rfl rfl rR) rfl
theorem Oo (n:Int)(b:Bool)(w:World)(hb:Mz n=b):Calls Tryz.prog 120 #[iV n] w fun e w'=>e= .returned (.bool b)/\Aa w w':=by
 subst hb;go_enter Tryz.func120,Tryz.ntmps120
 have H0:=zH (Hp.start w);go_upto_region 0 with fail
 refine wl ?_;refine zq (.bool false) ?_;rcases Co (n< -4096)with C1|C1
 ·go_upto_region 1 with fail
  refine wl ?_;refine zq (iV n) ?_;refine zp (.bool true) (by exact Dv (e:=(Ae C1.1))) ?_;refine Kf Ac (.bool true) _ _ (.bool true) (.bool true) ?_;go_wp2_with fail
  go_ret
  exact⟨by rw[show Mz n=true from by unfold Mz;simp;have A0:=C1.1;omega]<;>rfl,H0.1.ext⟩
 rcases Co (4096<n)with C2|C2
 ·go_upto_region 1 with fail
  refine wl ?_;refine zq (iV n) ?_;refine zp (.bool false) (by exact Dv (e:=(Ah C1.1))) ?_;refine Bq Ac (.bool false) (iV n) ?_;refine zp (.bool true) (by exact Tw (e:=(Ae C2.1))) ?_;refine Bq Ac (.bool true) (.bool true) ?_;go_wp2_with fail
  go_ret
  exact⟨by rw[show Mz n=true from by unfold Mz;simp;have A0:=C1.1;have A1:=C2.1;omega]<;>rfl,H0.1.ext⟩
 go_upto_region 1 with fail
 refine wl ?_;refine zq (iV n) ?_;refine zp (.bool false) (by exact Dv (e:=(Ah C1.1))) ?_;refine qV (.bool false) ?_;refine zq (iV n) ?_;refine zp (.bool false) (by exact Tw (e:=(Ah C2.1))) ?_;refine qV (.bool false) ?_;refine zq (.bool false) ?_;go_wp2_with fail
 go_ret
 exact⟨by rw[show Mz n=false from by unfold Mz;simp;have A0:=C1.1;have A1:=C2.1;omega]<;>rfl,H0.1.ext⟩
theorem Nd (x y:Int)(w:World):Calls Tryz.prog 87 #[iV x,iV y] w fun e w'=>e= .returned (.agg #[iV (Bg x y).1,iV (Bg x y).2])/\Aa w w':=by
 go_enter Tryz.func87,Tryz.ntmps87
 have H0:=zH (Hp.start w);go_upto_region 0 with fail
 refine wl ?_;refine Cm 41 [iV 0,iV 0] H0.1 ?_;intro B8 B7 A2 _;go_upto_region 1 with fail
 refine wl ?_;refine Cs Ac _ ?_;rcases Co (Mz x=true)with C1|C1
 ·have HC:=zH (show Bg x y=(1048577,0)from if_pos (by rw[C1.1];rfl))
  go_upto_region 2 with fail
  refine wl ?_;refine Bq Ac _ (iV x) ?_;refine aC A2.1 (Oo x true _ C1.1) ?_;intro B6 B4 _;refine Kf Ac (.bool true) _ _ _ (.bool true) ?_;go_upto_region 3 with fail
  refine wl ?_;refine Cs Ac _ ?_;refine Cy 0 [iV 1048577,iV 0] B4.1 ?_;intro B5 A7 _;go_wp2_with fail
  refine bodyPost_ret (v:= .agg #[iV 1048577,iV 0]) ?_ rfl ⟨by rw[HC.1],A7.1.ext⟩;exact An rfl rfl ((A7.1.blk (i:=0) rR).loadVar rfl rfl rR)
 have F1:=zH (Bool.eq_false_iff.2 C1.1);rcases Co (Mz y=true)with C2|C2
 ·have HC:=zH (show Bg x y=(1048577,0)from if_pos (by rw[F1.1,C2.1];rfl))
  go_upto_region 2 with fail
  refine wl ?_;refine Bq Ac _ (iV x) ?_;refine aC A2.1 (Oo x false _ F1.1) ?_;intro B3 A6 _;refine Dh Ac (.bool false) _ (iV y) ?_;refine aC A6.1 (Oo y true _ C2.1) ?_;intro B2 A5 _;refine zq (.bool true) ?_;go_upto_region 3 with fail
  refine wl ?_;refine Cs Ac _ ?_;refine Cy 0 [iV 1048577,iV 0] A5.1 ?_;intro B1 A1 _;go_wp2_with fail
  refine bodyPost_ret (v:= .agg #[iV 1048577,iV 0]) ?_ rfl ⟨by rw[HC.1],A1.1.ext⟩;exact An rfl rfl ((A1.1.blk (i:=0) rR).loadVar rfl rfl rR)
 have F2:=zH (Bool.eq_false_iff.2 C2.1);have b1:=Yl F1.1;have b2:=Yl F2.1;have HC:=zH (show Bg x y=(x*256,y*256)from if_neg (by rw[F1.1,F2.1];decide));go_upto_region 2 with fail
 refine wl ?_;refine Bq Ac _ (iV x) ?_;refine aC A2.1 (Oo x false _ F1.1) ?_;intro B0 A4 _;refine Dh Ac (.bool false) _ (iV y) ?_;refine aC A4.1 (Oo y false _ F2.1) ?_;intro A9 A3 _;refine zq (.bool false) ?_;go_upto_region 4 with fail
 refine wl ?_;refine zq (iV x) ?_;refine zp (iV (x*256)) (by exact eO (by omega)) ?_;refine zq (iV y) ?_;refine zp (iV (y*256)) (by exact eO (by omega)) ?_;refine Cs Ac _ ?_;refine Cy 0 [iV (x*256),iV (y*256)] A3.1 ?_;intro A8 A0 _;go_wp2_with fail
 refine bodyPost_ret (v:= .agg #[iV (x*256),iV (y*256)]) ?_ rfl ⟨by rw[HC.1],A0.1.ext⟩;exact An rfl rfl ((A0.1.blk (i:=0) rR).loadVar rfl rfl rR)
theorem Vp (A:Option Addr)(cap:Nat)(rs:List Av)(rule x y:Int)(w:World)(hu:Cu w (.slice A rs.length cap) rs)(hn:rs.length<=1048576)(hr:∀r,r∈rs->r.length<=1048576)(hs:Ge rs=true->Gm rs<=16)(hru: -9223372036854775808<=rule/\rule<=9223372036854775807):
  Calls Tryz.prog 52 #[.slice A rs.length cap,iV rule,iV x,iV y] w (Uf 50010 (Gp rule (Bg x y) (Jj x y) rs) (If rule (Bg x y) (Jj x y) rs/((65536:Int):Rat)) w):=by
 have HU:=zH hu;have HN:=zH hn;have D5:=zH hr;clear hu hr;have B5:=zH hs;have D4:=zH hru;clear hs hru;go_enter Tryz.func52,Tryz.ntmps52
 have H0:=zH (Hp.start w);go_upto_region 0 with fail
 refine wl ?_;refine Cm 33 rz H0.1 ?_;intro F6 F3 D1 _;refine zq (iV 0) ?_;go_upto_region 1 with fail
 refine wl ?_;refine qV (iV x) ?_;refine zq (iV y) ?_;refine aC D1.1 (Nd x y _) ?_;intro F2 D0 _;refine qV (iV x) ?_;refine zq (iV y) ?_;refine aC D0.1 (Nd x y _) ?_;intro F0 C9 _;refine Cm 41 [iV 0,iV 0] C9.1 ?_;intro F5 E9 C8 _;refine Cm 41 [iV 0,iV 0] C8.1 ?_;intro F4 E8 C7 _;refine Cy 1 [iV ((Bg x y).1),iV ((Bg x y).2)] C7.1 ?_;intro E7 C6 _;refine Cy 2 [iV ((Bg x y).1),iV ((Bg x y).2)] C6.1 ?_;intro E6 A4 _;rcases Co (Dk (Bg x y).1 (Bg x y).2=true)with HV|HV
 ·go_upto_region 2 with fail
  refine wl ?_;refine Cs A4.1 _ ?_;refine zc (Fs (Bg x y).1 (Bg x y).2 _) ?_;rintro e E5 ⟨rfl,hx⟩;have C5:=zH (A4.1.step hx);clear hx;refine⟨.bool true,by rw[HV.1],?_⟩;try simp only[Act.put,zA,zB,zC]
  have b1:=(hC HV.1).1;have b2:=(hC HV.1).2;go_upto_region 3 with fail
  refine wl ?_;refine zq (iV x) ?_;refine zp (iV (x+1)) (by exact Hm (by omega)) ?_;refine zq (iV y) ?_;refine zp (iV (y+1)) (by exact Hm (by omega)) ?_;refine aC C5.1 (Nd (x+1) (y+1) _) ?_;intro E4 C4 _;refine Cy 2 [iV ((Bg (x+1) (y+1)).1),iV ((Bg (x+1) (y+1)).2)] C4.1 ?_;intro E3 B0 _;go_upto_region 4 with fail
  refine wl ?_;refine Ej B0.1 _ (iV rule) _ _ ?_;refine zc (Wc A cap rs rule (Bg x y) (Bg (x+1) (y+1)) _ (HU.1.ext B0.1.ext) HN.1 D5.1 B5.1 D4.1) ?_;rintro e E2 ⟨B9,rfl,A3,A2,hx⟩;have C3:=zH (B0.1.step hx);have A8:=zH A3;have B4:=zH A2;clear A3 A2 hx;refine zn ?_;refine Bq Ac _ (iV (Gp rule (Bg x y) (Bg (x+1) (y+1)) rs)) ?_;refine zc (Sv B9 (Gp rule (Bg x y) (Bg (x+1) (y+1)) rs) (If rule (Bg x y) (Bg (x+1) (y+1)) rs) _ (fun h_=>⟨(A8.1 h_).1,(A8.1 h_).2⟩) B4.1) ?_;rintro e E1 ⟨A1,rfl,A3,A2,hx⟩;have C2:=zH (C3.1.step hx);have A7:=zH A3;have B3:=zH A2;clear A3 A2 hx;refine zn ?_;refine Bq Ac _ (iV (Gp rule (Bg x y) (Bg (x+1) (y+1)) rs)) ?_;refine Cy 0 (rc A1) C2.1 ?_;intro E0 B7 D3;refine zq (iV (Gp rule (Bg x y) (Bg (x+1) (y+1)) rs)) ?_;go_wp2_with fail
  refine bodyPost_ret (v:= .tuple #[.agg #[.bool A1.n,.slice A1.p A1.l A1.c,.bool A1.m,.slice A1.p2 A1.l2 A1.c2],iV (Gp rule (Bg x y) (Bg (x+1) (y+1)) rs)]) ?_ rfl (by rw[show Jj x y=Bg (x+1) (y+1)from if_pos HV.1];exact⟨A1,rfl,fun h_=>⟨(A7.1 h_).1.dig D3.1,(A7.1 h_).2⟩,B3.1,B7.1.ext⟩);exact Aq rfl rfl ((B7.1.blk (i:=0) rR).loadVar rfl rfl rR) rfl
 have F1:=zH (Bool.eq_false_iff.2 HV.1);go_upto_region 2 with fail
 refine wl ?_;refine Cs A4.1 _ ?_;refine zc (Fs (Bg x y).1 (Bg x y).2 _) ?_;rintro e D9 ⟨rfl,hx⟩;have A9:=zH (A4.1.step hx);clear hx;refine⟨.bool false,by rw[F1.1],?_⟩;try simp only[Act.put,zA,zB,zC]
 go_upto_region 4 with fail
 refine wl ?_;refine Ej A9.1 _ (iV rule) _ _ ?_;refine zc (Wc A cap rs rule (Bg x y) (Bg x y) _ (HU.1.ext A9.1.ext) HN.1 D5.1 B5.1 D4.1) ?_;rintro e D8 ⟨B8,rfl,A3,A2,hx⟩;have C1:=zH (A9.1.step hx);have A6:=zH A3;have B2:=zH A2;clear A3 A2 hx;refine zn ?_;refine Bq Ac _ (iV (Gp rule (Bg x y) (Bg x y) rs)) ?_;refine zc (Sv B8 (Gp rule (Bg x y) (Bg x y) rs) (If rule (Bg x y) (Bg x y) rs) _ (fun h_=>⟨(A6.1 h_).1,(A6.1 h_).2⟩) B2.1) ?_;rintro e D7 ⟨A0,rfl,A3,A2,hx⟩;have C0:=zH (C1.1.step hx);have A5:=zH A3;have B1:=zH A2;clear A3 A2 hx;refine zn ?_;refine Bq Ac _ (iV (Gp rule (Bg x y) (Bg x y) rs)) ?_;refine Cy 0 (rc A0) C0.1 ?_;intro D6 B6 D2;refine zq (iV (Gp rule (Bg x y) (Bg x y) rs)) ?_;go_wp2_with fail
 refine bodyPost_ret (v:= .tuple #[.agg #[.bool A0.n,.slice A0.p A0.l A0.c,.bool A0.m,.slice A0.p2 A0.l2 A0.c2],iV (Gp rule (Bg x y) (Bg x y) rs)]) ?_ rfl (by rw[show Jj x y=Bg x y from if_neg HV.1];exact⟨A0,rfl,fun h_=>⟨(A5.1 h_).1.dig D2.1,(A5.1 h_).2⟩,B1.1,B6.1.ext⟩);exact Aq rfl rfl ((B6.1.blk (i:=0) rR).loadVar rfl rfl rR) rfl
end
section
theorem Be.elemP {α:Type}{f:α->List Value}{w:World}{b g n c size:Nat}{T:TypeId}{es:List α}(hc:∀x,(f x).length=size)(h:Be w b T size (.slice (some ⟨g,0,none⟩) n c) n (es.flatMap f)){k:Nat}{e:α}(he:es[k]?=some e):w.rangeAt g (k*size) (f e):=
  h.rangeAt _ _ (fun j v hj=>Hv hc es k e he j v hj)
theorem gY:Yz Tryz.prog 39 41 2 16:=Yz.of (z:= .agg #[iV 0,iV 0]) Tryz.underlying39 (by kernel_rfl) rfl (by simp[At,Value.cells]) (by decide)
theorem aBX:Yz Tryz.prog 22 39 1 24:=Yz.of (z:= .slice none 0 0) Tryz.underlying22 (by kernel_rfl) rfl (by simp[At,Value.cells]) (by decide)
def Yx (p:Int×Int):List Value:=[iV p.1,iV p.2]
theorem Kk (p:Int×Int):(Yx p).length=2:=rfl
structure aAP where
  A:Option Addr
  c:Nat
  l:List (Int×Int)
def aAP.cells (o:aAP):List Value:=[.slice o.A o.l.length o.c]
theorem aAP.len (o:aAP):o.cells.length=1:=rfl
def aAP.Ok (b:Nat)(w:World)(o:aAP):Prop:=Be w b 41 2 (.slice o.A o.l.length o.c) o.l.length (o.l.flatMap Yx)
theorem aAP.Ok.fr {b:Nat}{w0 W W':World}{m:List Dc}{ix n:Nat}{v:Value}{xs:List Value}{o:aAP}(h:o.Ok b W)(H:Hp w0 W m)(hi:m[ix]?=some (.row 39 1 v n xs))(x:Fr (fun k=>v.ownBlock=some k) W W'):o.Ok b W':=by
  obtain⟨h1,h2|⟨g,A0,rest,h3,h4,h5,h6⟩⟩:=h
  · exact⟨h1,.inl h2⟩
  refine⟨h1,.inr ⟨g,A0,rest,h3,h4,?_,h6⟩⟩;have h7:Ad W g 41 _:=h5;refine(x.block g h7.lt (fun hk=> ?_)).trans h7;have h8:=H.typ hi h7 (by exact hk);exact absurd (show(39:TypeId)=41 from h8) (by decide)
theorem aAP.Ok.ext {b:Nat}{W W':World}{o:aAP}(h:o.Ok b W)(x:Aa W W'):o.Ok b W':=Be.ext h x
theorem aBV {w:World}{b c:Nat}{A:Option Addr}{l:List (Int×Int)}(h:Be w b 41 2 (.slice A l.length c) l.length (l.flatMap Yx)):Gr w (.slice A l.length c) l:=by
 obtain⟨A',c',e,hf⟩:=h.form;injection e with e1 _ e3
 subst e1 e3;refine⟨A,c,rfl,fun hne=> ?_⟩;obtain⟨g,rfl⟩:=hf (List.length_pos_iff.2 hne);refine⟨g,0,rfl,fun i hi=> ?_⟩;have h1:l[i]?=some l[i]:=aQQ hi;have hr:=Be.elemP Kk h h1;have e:l.getD i (0,0)=l[i]:=by rw[bQQ,h1];rfl
 rw[e,dZZ];exact⟨hr 0 _ rfl,hr 1 _ rfl⟩
theorem aAZ {w:World}{b b2 c:Nat}{A:Option Addr}{os:List aAP}(h:Be w b 39 1 (.slice A os.length c) os.length (os.flatMap aAP.cells))(ho:∀o,o∈os->o.Ok b2 w):Cu w (.slice A os.length c) (os.map aAP.l):=by
 obtain⟨A',c',e,hf⟩:=h.form;injection e with e1 _ e3
 subst e1 e3;refine⟨A,c,by rw[eZZ],fun h0=> ?_⟩;obtain⟨g,rfl⟩:=hf (by simpa using h0);refine⟨g,0,rfl,fun i r hr=> ?_⟩;rw[kZZ]at hr;cases h1:os[i]?with
 |none=>rw[h1]at hr;cases hr
 |some o=>
  rw[h1]at hr;obtain rfl:o.l=r:=Option.some.inj hr;have h2:=Be.elemP aAP.len h h1;refine⟨o.A,o.c,?_,aBV (ho o (bZZ h1))⟩;have h3:=h2 0 _ rfl;rw[dZZ];simpa using h3
theorem jG {w:World}{A:Option Addr}{c:Nat}{l:List (Int×Int)}(h:Gr w (.slice A l.length c) l):0<l.length->∃ad,A=some ad/\∀j u,(l.flatMap Yx)[j]?=some u->w.cell? (ad.add j)=some u:=by
 intro h0;obtain⟨A',c',e,hf⟩:=h;injection e with e1 _ e3
 subst e1 e3;obtain⟨g,A0,rfl,hp⟩:=hf (by intro e;rw[e]at h0;simp at h0);refine⟨_,rfl,fun j u hj=> ?_⟩;have A1:j<l.length*2:=by have:=(List.getElem?_eq_some_iff.1 hj).1;rwa[Dj Kk]at this
 have h1:j/2<l.length:=by omega
 obtain⟨q1,q2⟩:=hp (j/2) h1;have hg:l[j/2]?=some l[j/2]:=aQQ h1;have e:l.getD (j/2) (0,0)=l[j/2]:=by rw[bQQ,hg];rfl
 rw[e]at q1 q2;have e9:(⟨g,A0,none⟩:Addr).add j=⟨g,A0+j,none⟩:=by simp[Addr.add]
 have hm:j=j/2*2\/j=j/2*2+1:=by omega
 rcases hm with hm|hm
 ·have h3:=Hv Kk l (j/2) _ hg 0 _ rfl
  rw[mQQ,<-hm,hj]at h3;injection h3 with h3
  subst h3;rw[e9,show A0+j=A0+j/2*2 by omega];exact q1
 have h3:=Hv Kk l (j/2) _ hg 1 _ rfl;rw[<-hm,hj]at h3;injection h3 with h3
 subst h3;rw[e9,show A0+j=A0+(j/2*2+1)by omega];exact q2
theorem rU (l:List (Int×Int)):∀u,u∈l.flatMap Yx->u.oneCell'=true:=by
  intro u hu;obtain⟨e,_,he⟩:=List.mem_flatMap.1 hu;unfold Yx at he;simp only[List.mem_cons,List.not_mem_nil,or_false]at he;rcases he with rfl|rfl<;>rfl
theorem vI (l:List (Int×Int)):At (l.flatMap Yx):=by
  intro u hu;obtain⟨e,_,he⟩:=List.mem_flatMap.1 hu;unfold Yx at he;simp only[List.mem_cons,List.not_mem_nil,or_false]at he;rcases he with rfl|rfl<;>simp
end
section
open Go.Shelf Go.RowKit
def kJ:Go.Shelf.Ren:=⟨fun|4=>137|n=>n,fun|0=>0|3=>3|4=>4|9=>9|20=>20|22=>39|25=>41|n=>n,fun|n=>n⟩
theorem uR:Go.Proofs.Lays8.n4 Tryz.prog kJ:={
 mixed:=by kernel_rfl
 f4:=⟨Tryz.f137.name,by decide,Tryz.func137.trans (congrArg some (by kernel_rfl))⟩
 t0:=Tryz.underlying0
 a0:=Tryz.isAgg0
 z0:=Tryz.sizeOf0
 v0:=Tryz.zeroValue0
 t3:=Tryz.underlying3
 a3:=Tryz.isAgg3
 z3:=Tryz.sizeOf3
 v3:=Tryz.zeroValue3
 t4:=Tryz.underlying4
 a4:=Tryz.isAgg4
 z4:=Tryz.sizeOf4
 v4:=Tryz.zeroValue4
 t9:=Tryz.underlying9
 a9:=Tryz.isAgg9
 z9:=Tryz.sizeOf9
 v9:=Tryz.zeroValue9
 t20:=Tryz.underlying20
 a20:=Tryz.isAgg20
 z20:=Tryz.sizeOf20
 v20:=Tryz.zeroValue20
 t22:=Tryz.underlying39
 a22:=Tryz.isAgg39
 z22:=Tryz.sizeOf39
 v22:=Tryz.zeroValue39}
theorem kK (n:Nat)(w:World)(hn:n<=1000000):
  Calls Tryz.prog 137 #[.slice none 0 0,iV n] w fun e w'=>∃(A:Option Addr) (c:Nat),e= .returned (.slice A 0 c)/\Be w' w.heap.size 41 2 (.slice A 0 c) 0 []/\Aa w w':=by
 by_cases h0:n=0
 ·subst h0
  refine(Any8.slices_Grow_room uR none 0 0 0 w (Cj _) dC dC dC:Calls _ _ _ _ _).mono ?_;rintro e w' ⟨rfl,rfl⟩;exact⟨none,0,rfl,Be.nil _ _ _ _,Aa.refl _⟩
 obtain⟨h1,i,z,hi,hz,hs,hb,A2,A1,_⟩:=gY;refine(Any8.slices_Grow_grow uR i z hi hz (by omega) none 0 0 n [] w (Cj _) (by omega) (by rw[hb];omega) (by omega) (by simp) (fun _=>rfl) (fun a h=>by cases h):Calls _ _ _ _ _).mono ?_;rintro e w' ⟨rfl,rfl⟩;simp only[dZZ,Nat.sub_zero];have A3:=grownCap_ge w n 0 41;have A4:grownCap w n 0 41<=maxLen:=grownCap_le_maxLen w n 0 41 (by unfold maxLen;omega);have A0:∀k,At (Builtin.zeroCells z.cells k).toList:=fun k=>Pn _ _ (by omega) A1
 refine⟨_,_,rfl,⟨by simp,.inr ⟨w.heap.size,_,(Builtin.zeroCells z.cells n).toList++(Builtin.zeroCells z.cells (grownCap w n 0 41-n)).toList,rfl,Cj _,?_,eQQ _,A4,?_,?_⟩⟩,((Aa.refl w).drew).alloc _⟩
 ·have h:=Ad.new w.drew 41 (([]:List Value).toArray++Builtin.zeroCells z.cells n++Builtin.zeroCells z.cells (grownCap w n 0 41-n))
  have e2:([]++((Builtin.zeroCells z.cells n).toList++(Builtin.zeroCells z.cells (grownCap w n 0 41-n)).toList)).toArray=([]:List Value).toArray++Builtin.zeroCells z.cells n++Builtin.zeroCells z.cells (grownCap w n 0 41-n):=by
   apply Array.ext';simp
  rw[e2];exact h
 ·rw[List.length_nil,aZZ,Array.length_toList,Array.length_toList,size_zeroCells,size_zeroCells,A2,<-kQQ,dZZ,Nat.add_sub_cancel' A3]
  rfl
 exact(A0 _).app (A0 _)
end
section
attribute [local go_sem ↓] Go.wp_at_zero Go.wp_at_succ Aj Ai
theorem eN {rs:List Av}{k:Nat}{r:Av}(h:rs[k]?=some r):(rs.take (k+1)).flatten=(rs.take k).flatten++r:=by
  rw[List.take_add_one,h,List.flatten_append];simp
theorem Tu:∀rs:List Av,rs.flatten.length=Gm rs
  | []=>rfl
  | r::rs=>by
    rw[List.flatten_cons,aZZ,Tu rs];show _=rs.foldl (fun n r=>n+r.length) (0+r.length);rw[Pv];omega
def eD (m:(Int×Int)×(Int×Int))(q:Int×Int):(Int×Int)×(Int×Int):=((min m.1.1 q.1,min m.1.2 q.2),(max m.2.1 q.1,max m.2.2 q.2))
def Kz (p:Int×Int)(l:List (Int×Int)):(Int×Int)×(Int×Int):=l.foldl eD (p,p)
theorem qA (p q:Int×Int)(l:List (Int×Int)):Kz p (l++[q])=eD (Kz p l) q:=by unfold Kz;rw[List.foldl_append];rfl
theorem wW {p:Int×Int}{l:List (Int×Int)}(hp:Du p):∀{m},(∀q,q∈l->Du q)->m=Kz p l->Du m.1/\Du m.2:=by
 have key:∀(l:List (Int×Int)) (m:(Int×Int)×(Int×Int)),Du m.1->Du m.2->(∀q,q∈l->Du q)->Du (l.foldl eD m).1/\Du (l.foldl eD m).2:=by
  intro l;induction l with
  |nil=>intro m h1 h2 _;exact⟨h1,h2⟩
  |cons q l ih=>
   intro m h1 h2 h;have hq:=Bi (h q (by simp));have k1:=Bi h1;have k2:=Bi h2;refine ih (eD m q) ?_ ?_ (fun z hz=>h z (by simp[hz]))
   ·unfold eD;simp[Du,Dk];omega
   unfold eD;simp[Du,Dk];omega
 intro m h e;subst e;exact key l (p,p) hp hp h
def Fh (rs:List Av):(Int×Int)×(Int×Int):=Kz (rs.flatten.headD (0,0)) rs.flatten
theorem eY (A:Option Addr)(cap:Nat)(rs:List Av)(w:World)(hu:Cu w (.slice A rs.length cap) rs)(hn:rs.length<=1048576)(ht:Gm rs<=4096):
  Calls Tryz.prog 105 #[.slice A rs.length cap] w fun e w'=>∃(B:Option Addr) (c:Nat),e= .returned (.slice B rs.flatten.length c)/\Be w' w.heap.size 41 2 (.slice B rs.flatten.length c) rs.flatten.length (rs.flatten.flatMap Yx)/\Aa w w':=by
 have HU:=zH hu;have HT:=zH ht;have E7:=hn;clear hu ht hn;generalize hF_:rs.flatten=F
 have E1:=zH hF_;clear hF_;go_enter Tryz.func105,Tryz.ntmps105
 have H0:=zH (Hp.start w);go_upto_region 0 with fail
 refine wl ?_;refine Cs Ac _ ?_;go_upto_region 1 with fail
 refine wl ?_;refine zq (iV 0) ?_;go_upto_region 2 with fail
 refine wl ?_;refine Dh Ac _ (iV ((rs.length:Nat):Int)) _ ?_;go_wp2_with fail
 go_loopg [3,11] (rs.length) (fun cq v6 v7 wr=>∃(k:Nat),cq=rs.length-k/\v6= iV ((Gm (rs.take k):Nat):Int)/\v7= iV (k:Int)/\(k<=rs.length)/\Hp w wr []/\Af w wr)
 case atStart=>exact⟨0,rfl,rfl,rfl,eQQ _,H0.1,Af.refl _⟩
 obtain⟨k,rfl,rfl,rfl,A5,B2,B3⟩:=hrel;generalize wr=w8 at*
 have E0:=zH A5;clear A5;have B7:=zH B2;have F0:=zH B3;clear B2 B3;rcases Co (k<rs.length)with HLT|HLT
 ·have A3:=HLT.1
  obtain⟨r,A2⟩:∃r,rs[k]?=some r:=⟨_,aQQ A3⟩;have B6:=zH A2;obtain⟨g,A0,rfl,B1⟩:∃g A0,A=some ⟨g,A0,none⟩/\∀i r,rs[i]?=some r->∃B cb,World.cell? w ⟨g,A0+i,none⟩=some (.slice B r.length cb)/\Gr w (.slice B r.length cb) r:=by obtain⟨A_,D6,B8,C1⟩:=HU.1;injection B8 with e1_ e2_ e3_;subst e1_;obtain⟨g_,A7,e_,h_⟩:=C1 (by omega);exact⟨g_,A7,e_,h_⟩
  obtain⟨B,cb,A9,A8⟩:=B1 k r A2;have C2:=zH A9;have C8:=zH A8;clear A2 B1 A9 A8;have B5:=Ho B6.1;have C0:=Hn rs (k+1);have B9:=HT.1;go_upto_region 3 with fail
  refine wl ?_;refine zp (.bool true) (by exact Dv (e:=(Ae (by omega)))) ?_;go_upto_region 4 with fail
  refine wl ?_;refine zp (.pointer (some ⟨g,A0+k,none⟩)) (by exact Jo (k:=k) Tryz.underlying22 (l:=A3) (f:=(show A0+k=A0+k*1 by omega))) ?_;refine ze g (A0+k) (.slice B r.length cb) (Lx (B7.1.ext.get C2.1)) ?_;refine Cs Ac _ ?_;go_upto_region 5 with fail
  refine wl ?_;refine Dh Ac (iV ((Gm (rs.take k):Nat):Int)) _ (iV ((r.length:Nat):Int)) ?_;refine zp (iV ((Gm (rs.take k)+r.length:Nat):Int)) (by exact Hm (by omega)) ?_;refine zq (iV ((Gm (rs.take k)+r.length:Nat):Int)) ?_;go_upto_region 6 with fail
  refine wl ?_;refine zq (iV ((Gm (rs.take k)+r.length:Nat):Int)) ?_;refine zp (.bool false) (by exact Dv (e:=(Ah (by omega)))) ?_;go_upto_region 8 with fail
  refine wl ?_;refine zp (iV ((k+1:Nat):Int)) (by exact Hm (by omega)) ?_;refine zq (iV ((k+1:Nat):Int)) ?_;go_wp2_with fail
  go_roundg (rs.length-(k+1))
  case measure=>exact(by omega)
  case rel=>exact⟨k+1,rfl,(by first|(rw[B5];done)|(rw[B5];go_num)),(by go_num),A3,B7.1,B7.1.dig0⟩
 have A3:=HLT.1;have E9:=E0.1;obtain rfl:k=rs.length:=by omega
 have C0:=Hn rs rs.length;have B9:=HT.1;go_upto_region 3 with fail
 refine wl ?_;refine zp (.bool false) (by exact Dv (e:=(Ah (Int.lt_irrefl _)))) ?_;go_upto_region 9 with fail
 refine wl ?_;refine qV (iV ((Gm (rs.take rs.length):Nat):Int)) ?_;refine zc (kK (Gm (rs.take rs.length)) _ (by omega)) ?_;rintro e C5 ⟨Ag,cg,rfl,C6,hx⟩;have C9:=zH (show Hp w C5 [ro 41 2 Ag 0 cg Yx ([])]from B7.1.addRow hx C6);clear C6 hx;refine zn ?_;refine Cs Ac _ ?_;go_upto_region 10 with fail
 refine wl ?_;refine Dh Ac _ (iV ((rs.length:Nat):Int)) _ ?_;go_wp2_with fail
 go_loopg [6,27] (rs.length) (fun cq D2 D1 wr=>∃(i:Nat) (A1:Option Addr) (c1:Nat) (m:Nat) (es:List (Int×Int)),cq=rs.length-i/\D2= .slice A1 m c1/\D1= iV (i:Int)/\(i<=rs.length)/\(m=es.length)/\(es=(rs.take i).flatten)/\Hp w wr [.row 41 2 (.slice A1 m c1) (m) (List.flatMap Yx es)]/\Af C5 wr)
 case atStart=>exact⟨0,Ag,cg,0,[],rfl,rfl,rfl,eQQ _,rfl,rfl,C9.1,Af.refl _⟩
 obtain⟨i,A1,c1,m,es,rfl,rfl,rfl,A4,B0,A6,B2,B3⟩:=hrel;generalize wr=E6 at*
 have D9:=zH A4;clear A4;have HM:=zH B0;clear B0;have C3:=zH A6;clear A6;have B4:=zH B2;have E4:=zH B3;clear B2 B3 C9;rcases Co (i<rs.length)with HLU|HLU
 ·have A3:=HLU.1
  obtain⟨r,A2⟩:∃r,rs[i]?=some r:=⟨_,aQQ A3⟩;have B6:=zH A2;obtain⟨g,A0,rfl,B1⟩:∃g A0,A=some ⟨g,A0,none⟩/\∀i r,rs[i]?=some r->∃B cb,World.cell? w ⟨g,A0+i,none⟩=some (.slice B r.length cb)/\Gr w (.slice B r.length cb) r:=by obtain⟨A_,D6,B8,C1⟩:=HU.1;injection B8 with e1_ e2_ e3_;subst e1_;obtain⟨g_,A7,e_,h_⟩:=C1 (by omega);exact⟨g_,A7,e_,h_⟩
  obtain⟨B,cb,A9,A8⟩:=B1 i r A2;have C2:=zH A9;have C8:=zH A8;clear A2 B1 A9 A8;have D8:=zH (jG C8.1);have B5:=Ho B6.1;have C0:=Hn rs (i+1);have B9:=HT.1;have E8:m+r.length<=4096:=by rw[HM.1,C3.1,Tu];omega
  clear B5 C0 B9;go_upto_region 11 with fail
  refine wl ?_;refine zp (.bool true) (by exact Dv (e:=(Ae (by omega)))) ?_;go_upto_region 12 with fail
  refine wl ?_;refine zp (.pointer (some ⟨g,A0+i,none⟩)) (by exact Jo (k:=i) Tryz.underlying22 (l:=A3) (f:=(show A0+i=A0+i*1 by omega))) ?_;refine ze g (A0+i) (.slice B r.length cb) (Lx (B4.1.ext.get C2.1)) ?_;refine Cs Ac _ ?_;go_upto_region 13 with fail
  refine wl ?_;refine Bq Ac _ _ ?_;refine sI rR _ _ _ rR gY rR B4.1 (ix:=0) rR B r.length cb (List.flatMap Yx r) rR (Dj Kk r) (fun h0_=>by obtain⟨D7,A9,A8⟩:=D8.1 h0_;exact⟨D7,A9,fun j_ u_ hj_=>B4.1.ext.get (A8 j_ u_ hj_)⟩) (rU r) (vI r) (by unfold maxLen;exact(by omega)) (by omega) ?_;intro D0 C7 E5 hh hd hg hf;clear hf;rw[show List.flatMap Yx es++List.flatMap Yx r=List.flatMap Yx (es++r)from List.flatMap_append.symm]at hh;have E2:=hN hh;have E3:=zH (hd);clear hh hd hg;try simp only[Act.put,zA,zB,zC]
  refine zq (.slice D0 (m+r.length) C7) ?_;go_upto_region 14 with fail
  refine wl ?_;refine zp (iV ((i+1:Nat):Int)) (by exact Hm (by omega)) ?_;refine zq (iV ((i+1:Nat):Int)) ?_;have C4:=tD E4 E3;go_wp2_with fail
  go_roundg (rs.length-(i+1))
  case measure=>exact(by omega)
  case rel=>exact⟨i+1,D0,C7,m+r.length,es++r,rfl,rfl,(by go_num),A3,(by rw[aZZ,HM.1]),(by rw[C3.1,eN B6.1]),E2.1,C4.1⟩
 have A3:=HLU.1;have D4:=D9.1;obtain rfl:i=rs.length:=by omega
 go_upto_region 11 with fail
 refine wl ?_;refine zp (.bool false) (by exact Dv (e:=(Ah (Int.lt_irrefl _)))) ?_;go_upto_region 15 with fail
 refine wl ?_;refine Bq Ac _ _ ?_;have D5:es=F:=by rw[C3.1,mXX];exact E1.1
 have D3:=HM.1;subst D5;subst D3;go_wp2_with fail
 go_ret
 exact⟨A1,c1,rfl,B4.1.row (i:=0) (by rfl),B4.1.ext⟩
end
end Go.Proofs.YtlipfipniibpoacGreat
