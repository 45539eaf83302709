import Derived.Deep.MidRow
import Derived.Deep.AppendLies
import Derived.Deep.LoopGhost
import Derived.Deep.DeepCutAuto
import Derived.Test.YthlfilomhgeheaaGreatM2
set_option maxRecDepth 100000
set_option maxHeartbeats 4000000
namespace Go.Proofs.YthlfilomhgeheaaGreat
open Go.RowKit
open Go.Proofs.Tryz
section
attribute [local go_sem ↓] Go.wp_at_zero Go.wp_at_succ Az Ay
theorem gZ (n m n' m':Bool)(u v u' v':Value)(L:Nat)(q r:Rat)(w:World)(h:Dt L w n u m v q)(h':Dt L w n' u' m' v' r)(hL:L<=70000):
    Calls prog 115 #[.agg #[.bool n,u,.bool m,v],.agg #[.bool n',u',.bool m',v']] w (Qj (Di q r) w):=by
  obtain⟨p1,l1,c1,p2,l2,c2,rfl,rfl⟩:=h.form;obtain⟨p3,l3,c3,p4,l4,c4,rfl,rfl⟩:=h'.form;have B4:=zH (fun W (x:Aa w W)=>Ez n m (.slice p1 l1 c1) (.slice p2 l2 c2) L q W (h.ext x) ω);have B3:=zH (fun W (x:Aa w W)=>Ez n' m' (.slice p3 l3 c3) (.slice p4 l4 c4) L r W (h'.ext x) ω);have A0:Nm.nl q.num.natAbs<=L+1/\Nm.nl (q.den:Int).natAbs<=L+1/\Nm.nl r.num.natAbs<=L+1/\Nm.nl (r.den:Int).natAbs<=L+1:=by
    have h1:=h.rl;have h2:=h'.rl;unfold Nm.rl at h1 h2;simp only[xM];omega
  have B2:=zH A0;clear h h' A0;go_enter func115,ntmps115;go_wp2_with fail;have gA:∀x,Aa ((w.alloc (.cells #[.bool n,.slice p1 l1 c1,.bool m,.slice p2 l2 c2] 31)).alloc (.cells #[.bool n',.slice p3 l3 c3,.bool m',.slice p4 l4 c4] 31)) x->x.cell? ⟨w.heap.size,0,none⟩=some (.bool n)/\x.cell? ⟨w.heap.size,1,none⟩=some (.slice p1 l1 c1)/\x.cell? ⟨w.heap.size,2,none⟩=some (.bool m)/\x.cell? ⟨w.heap.size,3,none⟩=some (.slice p2 l2 c2)/\
      x.cell? ⟨w.heap.size+1,0,none⟩=some (.bool n')/\x.cell? ⟨w.heap.size+1,1,none⟩=some (.slice p3 l3 c3)/\x.cell? ⟨w.heap.size+1,2,none⟩=some (.bool m')/\x.cell? ⟨w.heap.size+1,3,none⟩=some (.slice p4 l4 c4):=fun x hx=>by
    have a1:=Gn w n m (.slice p1 l1 c1) (.slice p2 l2 c2) x ((Ak.alloc _).trans hx);have a2:=Gn (w.alloc (.cells #[.bool n,.slice p1 l1 c1,.bool m,.slice p2 l2 c2] 31)) n' m' (.slice p3 l3 c3) (.slice p4 l4 c4) x hx;simp only[wG]at a2;exact⟨a1.1,a1.2.1,a1.2.2.1,a1.2.2.2.1,a2.1,a2.2.1,a2.2.2.1,a2.2.2.2.1⟩
  have A5:=zH (show Aa w ((w.alloc (.cells #[.bool n,.slice p1 l1 c1,.bool m,.slice p2 l2 c2] 31)).alloc (.cells #[.bool n',.slice p3 l3 c3,.bool m',.slice p4 l4 c4] 31))from(Ak.alloc _).alloc _);have hz:((w.alloc (.cells #[.bool n,.slice p1 l1 c1,.bool m,.slice p2 l2 c2] 31)).alloc (.cells #[.bool n',.slice p3 l3 c3,.bool m',.slice p4 l4 c4] 31)).heap.size=w.heap.size+1+1:=by simp
  have C5:=zH hz;clear hz;generalize ((w.alloc (.cells #[.bool n,.slice p1 l1 c1,.bool m,.slice p2 l2 c2] 31)).alloc (.cells #[.bool n',.slice p3 l3 c3,.bool m',.slice p4 l4 c4] 31))=wb at*;go_cut [5,6] (fun s t wx=>vK wb q r s t wx)
  case first=>
    clear B2;go_region_held3 (fun x=>Aa wb x) ((first|(with_reducible assumption)|((repeat (first|(with_reducible assumption)|(with_reducible exact Aa.refl _)|(with_reducible apply Aa.drew)|(with_reducible apply Aa.alloc)|((with_reducible refine Aa.setCell ?_ ?_ _);rotate_left;focus (first|omega|(simp;done)|(simp;omega)))|(with_reducible (apply Aa.via;assumption))));done)))
      (first|(go_at_call 122;((with_reducible refine(B4.1 _ (A5.1.trans (by first|assumption|exact Aa.drew Ak))).mono ?_));rintro e wa ⟨b1,t1,b2,t2,rfl,B9,B1⟩;obtain⟨x1,y1,z1,x2,y2,z2,rfl,rfl⟩:=B9.form;have B7:=B1.size;(try simp at B7);obtain⟨ka,fa⟩:=Wr B1;(try simp at ka);(try simp at fa);(try have l1:wb.heap.size<wa.heap.size:=ω);(try have l2:wb.heap.size+1<wa.heap.size:=ω))|(go_at_call 122;((with_reducible refine(B3.1 _ (A5.1.trans (by first|assumption|exact Aa.drew Ak))).mono ?_));rintro e wd ⟨b3,t3,b4,t4,rfl,B8,B0⟩;obtain⟨x3,y3,z3,x4,y4,z4,rfl,rfl⟩:=B8.form;have B6:=B0.size;(try simp at B6);obtain⟨kb,fb⟩:=Wr B0;(try simp at kb);(try simp at fb);(try have l3:wb.heap.size<wd.heap.size:=ω);(try have l4:wb.heap.size+1<wd.heap.size:=ω);(try have l5:wa.heap.size<wd.heap.size:=ω);(try have l6:wa.heap.size+1<wd.heap.size:=ω)))
    all_goals go_wp2_with fail
    all_goals go_meet
    all_goals have C2:∀a:Nat,a<a+1+1:=fun a=>ω
    all_goals try have q1:wa.heap.size≠wb.heap.size:=ω
    all_goals try have q2:wb.heap.size≠wa.heap.size:=ω
    all_goals try have q3:wb.heap.size<wa.heap.size+1:=ω
    all_goals refine⟨_,_,b1,x1,y1,z1,b2,x2,y2,z2,b3,x3,y3,z3,b4,x4,y4,z4,rfl,rfl,?_,?_,⟨?_,?_,?_,?_⟩,⟨?_,?_,?_,?_⟩,?_,?_,?_⟩
    all_goals first
      |(with_reducible assumption)
      |omega
      |(simp[go_sem, *];done)
      |(rw[World.cell?_setCell_far,World.cell?_setCell_far,World.cell?_setCell_far,World.cell?_setCell_far]<;>first|(simp[go_sem, *];done)|(simp;omega))
      |((repeat (first|(with_reducible assumption)|(with_reducible apply Cx.drew)|(with_reducible apply Cx.alloc)|((with_reducible refine Cx.setB (b:=false) ?_ ?_ _);rotate_left;focus (simp[go_sem, *];done))|((with_reducible refine Cx.setS (a:=none) (l:=0) (c:=0) ?_ ?_ _);rotate_left;focus (simp[go_sem, *];done))|(with_reducible (apply Cx.via;assumption))));done)
      |(first|(with_reducible assumption)|((repeat (first|(with_reducible assumption)|(with_reducible exact Aa.refl _)|(with_reducible apply Aa.drew)|(with_reducible apply Aa.alloc)|((with_reducible refine Aa.setCell ?_ ?_ _);rotate_left;focus (first|omega|(simp;done)|(simp;omega)))|(with_reducible (apply Aa.via;assumption))));done))
  clear B4 B3 gA;obtain⟨X,Y,b1,x1,y1,z1,b2,x2,y2,z2,b3,x3,y3,z3,b4,x4,y4,z4,rfl,rfl,hX,hY,cX,cY,s3,s4,s5⟩:=hcut;have A0:=B2.1;have H1:=zH (fun W (x:Aa wc W)=>Gb _ _ _ _ (L+1) q.num r.den W ((s3.ext x).1.isIn A0.1) ((s4.ext x).2.isIn A0.2.2.2) ω);have H2:=zH (fun W (x:Aa wc W)=>Gb _ _ _ _ (L+1) r.num q.den W ((s4.ext x).1.isIn A0.2.2.1) ((s3.ext x).2.isIn A0.2.1) ω);have A7:=Cq q.num r.den _ _ A0.1 A0.2.2.2;have A6:=Cq r.num q.den _ _ A0.2.2.1 A0.2.1;have C1:=zH (fun W n1 v1 n2 v2 (x:Bu W n1 v1 (q.num*r.den)) (y:Bu W n2 v2 (r.num*q.den))=>hO n1 n2 v1 v2 (L+1+(L+1)) _ _ W (x.isIn A7) (y.isIn A6) ω);clear A7 A6;have C0:=zH (A5.1.trans s5);have A1:=zH (And.intro cX cY);clear s3 s4 s5 cX cY A0 hX hY;go_wp2_with fail
  have gl:∀w',Aa wc w'->w'.cell? ⟨X,0,none⟩=some (.bool b1)/\w'.cell? ⟨X,1,none⟩=some (.slice x1 y1 z1)/\w'.cell? ⟨X,2,none⟩=some (.bool b2)/\w'.cell? ⟨X,3,none⟩=some (.slice x2 y2 z2)/\
      w'.cell? ⟨Y,0,none⟩=some (.bool b3)/\w'.cell? ⟨Y,1,none⟩=some (.slice x3 y3 z3)/\w'.cell? ⟨Y,2,none⟩=some (.bool b4)/\w'.cell? ⟨Y,3,none⟩=some (.slice x4 y4 z4):=fun w' x=>
    ⟨x.get A1.1.1.1,x.get A1.1.1.2.1,x.get A1.1.1.2.2.1,x.get A1.1.1.2.2.2,x.get A1.1.2.1,x.get A1.1.2.2.1,x.get A1.1.2.2.2.1,x.get A1.1.2.2.2.2⟩
  go_region_held3 (fun w'=>Aa wc w') (first|(with_reducible assumption)|(with_reducible exact Aa.drew Ak)|(with_reducible (apply Aa.via;assumption;assumption)))
    (first|(go_at_call 120;((with_reducible refine(H1.1 _ (by first|assumption|exact Aa.drew Ak)).mono ?_));rintro e wx ⟨k1,r1,rfl,A9,A4⟩;obtain⟨f1,f2,f3,rfl⟩:=A9.form;have C4:Aa wc wx:=Aa.trans (by first|assumption|exact Aa.drew Ak) A4)|(go_at_call 120;((with_reducible refine(H2.1 _ (by first|assumption|exact Aa.drew Ak)).mono ?_));rintro e wy ⟨k2,r2,rfl,A8,A2⟩;obtain⟨f4,f5,f6,rfl⟩:=A8.form;have C3:Aa wc wy:=Aa.trans (by first|assumption|exact Aa.drew Ak) A2)|(go_at_call 155;((with_reducible refine(C1.1 _ _ _ _ _ (A9.ext A2) A8).mono ?_));rintro e wt ⟨rfl,A3⟩;have B5:Aa wc wt:=Aa.trans (by first|assumption|exact Aa.drew Ak) A3))
  go_wp2_with fail;go_ret;exact⟨rfl,C0.1.trans B5⟩
theorem gU (n m n' m':Bool)(u v u' v':Value)(L:Nat)(q r:Rat)(w:World)(h:Dt L w n u m v q)(h':Dt L w n' u' m' v' r)(hL:L<=69000):
    Calls prog 70 #[.agg #[.bool n,u,.bool m,v],.agg #[.bool n',u',.bool m',v']] w (Fn (q-r) w):=by
  obtain⟨p1,l1,c1,p2,l2,c2,rfl,rfl⟩:=h.form;obtain⟨p3,l3,c3,p4,l4,c4,rfl,rfl⟩:=h'.form;have HN:=zH (fun W (x:Aa w W)=>gW n' m' (.slice p3 l3 c3) (.slice p4 l4 c4) L r W (h'.ext x) ω);have hl:Nm.rl (-r)<=L+1:=by rw[Nm.rl_neg];have:=h'.rl;omega
  have B3:=zH (fun W n1 v1 n2 v2 (x:Aa w W) (y:Cx W n1 v1 n2 v2 (-r))=>(show Calls prog 68 #[.agg #[.bool n,.slice p1 l1 c1,.bool m,.slice p2 l2 c2],.agg #[.bool n1,v1,.bool n2,v2]] W (Fn (q-r) W)by
    rw[Rat.sub_eq_add_neg];exact Vj n m n1 n2 _ _ _ _ (L+1) q (-r) W (by obtain⟨y0,z0,a1,a2,a3⟩:=h.ext x;exact⟨y0,z0,a1.mono ω,a2.mono ω,a3⟩) (y.isIn hl) ω))
  clear h h' hl;go_enter func70,ntmps70;go_wp2_with fail;have gA:∀x,Aa (((w.alloc (.cells #[.bool n,.slice p1 l1 c1,.bool m,.slice p2 l2 c2] 31)).alloc (.cells #[.bool n',.slice p3 l3 c3,.bool m',.slice p4 l4 c4] 31)).alloc (.cells #[.bool false,.slice none 0 0,.bool false,.slice none 0 0] 31)) x->x.cell? ⟨w.heap.size,0,none⟩=some (.bool n)/\x.cell? ⟨w.heap.size,1,none⟩=some (.slice p1 l1 c1)/\x.cell? ⟨w.heap.size,2,none⟩=some (.bool m)/\x.cell? ⟨w.heap.size,3,none⟩=some (.slice p2 l2 c2)/\
      x.cell? ⟨w.heap.size+1,0,none⟩=some (.bool n')/\x.cell? ⟨w.heap.size+1,1,none⟩=some (.slice p3 l3 c3)/\x.cell? ⟨w.heap.size+1,2,none⟩=some (.bool m')/\x.cell? ⟨w.heap.size+1,3,none⟩=some (.slice p4 l4 c4):=fun x hx=>by
    have a1:=Gn w n m (.slice p1 l1 c1) (.slice p2 l2 c2) x (((Ak.alloc _).alloc _).trans hx);have a2:=Gn (w.alloc (.cells #[.bool n,.slice p1 l1 c1,.bool m,.slice p2 l2 c2] 31)) n' m' (.slice p3 l3 c3) (.slice p4 l4 c4) x ((Ak.alloc _).trans hx);simp only[wG]at a2;exact⟨a1.1,a1.2.1,a1.2.2.1,a1.2.2.2.1,a2.1,a2.2.1,a2.2.2.1,a2.2.2.2.1⟩
  have A4:=zH (show Aa w (((w.alloc (.cells #[.bool n,.slice p1 l1 c1,.bool m,.slice p2 l2 c2] 31)).alloc (.cells #[.bool n',.slice p3 l3 c3,.bool m',.slice p4 l4 c4] 31)).alloc (.cells #[.bool false,.slice none 0 0,.bool false,.slice none 0 0] 31))from((Ak.alloc _).alloc _).alloc _);have B1:=zH (Al.new_at ((w.alloc (.cells #[.bool n,.slice p1 l1 c1,.bool m,.slice p2 l2 c2] 31)).alloc (.cells #[.bool n',.slice p3 l3 c3,.bool m',.slice p4 l4 c4] 31)) (w.heap.size+1+1) (by simp) 31 #[.bool false,.slice none 0 0,.bool false,.slice none 0 0]);have B2:=zH (show w.heap.size<=w.heap.size+1+1 by omega);have gB:=gA _ Ak;clear gA;generalize (((w.alloc (.cells #[.bool n,.slice p1 l1 c1,.bool m,.slice p2 l2 c2] 31)).alloc (.cells #[.bool n',.slice p3 l3 c3,.bool m',.slice p4 l4 c4] 31)).alloc (.cells #[.bool false,.slice none 0 0,.bool false,.slice none 0 0] 31))=wc at*
  have n1:w.heap.size≠w.heap.size+1+1:=ω;have n2:w.heap.size+1≠w.heap.size+1+1:=ω;generalize hR:w.heap.size+1+1=R at*;generalize hY:w.heap.size+1=Y at*;have B9:=zH hR;generalize hX:w.heap.size=X at*;have gl:∀w',Ba R wc w'->w'.cell? ⟨X,0,none⟩=some (.bool n)/\w'.cell? ⟨X,1,none⟩=some (.slice p1 l1 c1)/\w'.cell? ⟨X,2,none⟩=some (.bool m)/\w'.cell? ⟨X,3,none⟩=some (.slice p2 l2 c2)/\
      w'.cell? ⟨Y,0,none⟩=some (.bool n')/\w'.cell? ⟨Y,1,none⟩=some (.slice p3 l3 c3)/\w'.cell? ⟨Y,2,none⟩=some (.bool m')/\w'.cell? ⟨Y,3,none⟩=some (.slice p4 l4 c4):=fun w' x=>
    ⟨x.get gB.1 n1,x.get gB.2.1 n1,x.get gB.2.2.1 n1,x.get gB.2.2.2.1 n1,x.get gB.2.2.2.2.1 n2,x.get gB.2.2.2.2.2.1 n2,x.get gB.2.2.2.2.2.2.1 n2,x.get gB.2.2.2.2.2.2.2 n2⟩
  clear gB hR hY;have B0:=zH hX;clear hX;go_region_held3 (fun w'=>Ba R wc w') (first|(with_reducible assumption)|(with_reducible exact Ba.drew (Ba.refl _ _))|(with_reducible (apply Ba.of_ext;assumption))|(with_reducible (refine Ba.set_at (Ba.set_at (Ba.set_at (Ba.set_at ?_ _ _ _) _ _ _) _ _ _) _ _ _;first|assumption|(apply Ba.of_ext;assumption))))
    (first|(go_at_call 124;((with_reducible refine(HN.1 _ (A4.1.trans (by first|assumption|exact Aa.drew Ak))).mono ?_));rintro e wx ⟨b1,t1,b2,t2,rfl,A5,A3⟩;obtain⟨f1,f2,f3,f4,f5,f6,rfl,rfl⟩:=A5.form;have B8:Aa wc wx:=Aa.trans (by first|assumption|exact Aa.drew Ak) A3)|(go_at_call 68;((with_reducible refine(B3.1 _ _ _ _ _ (A4.1.trans (by first|assumption|exact Aa.drew Ak)) A5).mono ?_));rintro e wz ⟨j1,t1,j2,t2,rfl,hc,A2⟩;obtain⟨g1,g2,g3,g4,g5,g6,rfl,rfl⟩:=hc.form;have hx:Aa wc wz:=Aa.trans (by first|assumption|exact Aa.drew Ak) A2;have X0:=Al.ext B1.1 hx;have A9:=X0.cell 0;have A8:=X0.cell 1;have A7:=X0.cell 2;have A6:=X0.cell 3;have B7:=X0.frozen 0;have B6:=X0.frozen 1;have B5:=X0.frozen 2;have B4:=X0.frozen 3;simp at A9 A8 A7 A6))
  go_wp2_with fail;have o:=Gx wz R (.bool j1) (.slice g1 g2 g3) (.bool j2) (.slice g4 g5 g6);have A0:=hc.own X0 (Ox _ _ _ _ _ _ _ _) o;have A1:=o.ext (A4.1.trans hx) (by rw[B0.1];exact B2.1);simp only[Jo]at A0 A1;refine bodyPost_ret (v:= .agg #[.bool j1,.slice g1 g2 g3,.bool j2,.slice g4 g5 g6]) ?_ rfl ⟨_,_,_,_,rfl,A0,A1⟩;simp[results,results70,go_sem, *]
structure RV where
  n:Bool
  p:Option Addr
  l:Nat
  c:Nat
  m:Bool
  p2:Option Addr
  l2:Nat
  c2:Nat
def RV.In (L:Nat)(w:World)(a:RV)(q:Rat):Prop:=Dt L w a.n (.slice a.p a.l a.c) a.m (.slice a.p2 a.l2 a.c2) q
def RV.Is (w:World)(a:RV)(q:Rat):Prop:=Cx w a.n (.slice a.p a.l a.c) a.m (.slice a.p2 a.l2 a.c2) q
theorem RV.In.ext {L:Nat}{w w':World}{a:RV}{q:Rat}(h:a.In L w q)(e:Aa w w'):a.In L w' q:=Dt.ext h e
theorem RV.Is.ext {w w':World}{a:RV}{q:Rat}(h:a.Is w q)(e:Aa w w'):a.Is w' q:=Cx.ext h e
theorem RV.Is.isIn {L:Nat}{w:World}{a:RV}{q:Rat}(h:a.Is w q)(hl:Nm.rl q<=L):a.In L w q:=Cx.isIn h hl
theorem RV.In.rl {L:Nat}{w:World}{a:RV}{q:Rat}(h:a.In L w q):Nm.rl q<=max L 1:=Dt.rl h
theorem RV.In.mono {L M:Nat}{w:World}{a:RV}{q:Rat}(h:a.In L w q)(hl:L<=M):a.In M w q:=by
  obtain⟨y,z,h1,h2,h3⟩:=h;exact⟨y,z,h1.mono hl,h2.mono hl,h3⟩
theorem RV.Is.own {w w':World}{a:RV}{q:Rat}(h:a.Is w q){g:Nat}{t:TypeId}{cs:Array Value}(hb:Al w g t cs)(hn:Pp cs)(o:Ba g w w'):a.Is w' q:=Cx.own h hb hn o
def RV.zero:RV:=⟨false,none,0,0,false,none,0,0⟩
def nO (q:Rat)(w:World)(e:Ending)(w':World):Prop:=∃a:RV,e= .returned (.agg #[.bool a.n,.slice a.p a.l a.c,.bool a.m,.slice a.p2 a.l2 a.c2])/\a.Is w' q/\Aa w w'
theorem Fn.v {q:Rat}{w w':World}{e:Ending}(h:Fn q w e w'):nO q w e w':=by
  obtain⟨n,u,m,v,rfl,hc,he⟩:=h;obtain⟨p,l,c,p2,l2,c2,rfl,rfl⟩:=hc.form;exact⟨⟨n,p,l,c,m,p2,l2,c2⟩,rfl,hc,he⟩
theorem Sz (cs:List Value)(h:∀v∈cs,∀x:Int,v≠ .int .u32 x):Pp cs.toArray:=by
  intro i x hi;rw[wL]at hi;exact h _ (wE hi) x rfl
section
variable {L:Nat} {w:World} {a b:RV} {q r:Rat}
theorem uZ (h:a.In L w q)(h':b.In L w r)(hL:L<=70000):Calls prog 25 #[.agg #[.bool a.n,.slice a.p a.l a.c,.bool a.m,.slice a.p2 a.l2 a.c2],.agg #[.bool b.n,.slice b.p b.l b.c,.bool b.m,.slice b.p2 b.l2 b.c2]] w (nO (q+r) w):=(lA _ _ _ _ _ _ _ _ L q r w h h' hL).mono fun _ _ h=>Fn.v h
theorem uW (h:a.In L w q)(h':b.In L w r)(hL:L<=70000):Calls prog 27 #[.agg #[.bool a.n,.slice a.p a.l a.c,.bool a.m,.slice a.p2 a.l2 a.c2],.agg #[.bool b.n,.slice b.p b.l b.c,.bool b.m,.slice b.p2 b.l2 b.c2]] w (nO (q-r) w):=(kL _ _ _ _ _ _ _ _ L q r w h h' hL).mono fun _ _ h=>Fn.v h
theorem uX (h:a.In L w q)(h':b.In L w r)(hL:L<=70000):Calls prog 26 #[.agg #[.bool a.n,.slice a.p a.l a.c,.bool a.m,.slice a.p2 a.l2 a.c2],.agg #[.bool b.n,.slice b.p b.l b.c,.bool b.m,.slice b.p2 b.l2 b.c2]] w (nO (q*r) w):=(kP _ _ _ _ _ _ _ _ L q r w h h' hL).mono fun _ _ h=>Fn.v h
theorem uB (h:a.In L w q)(hL:L<=300000):Calls prog 54 #[.agg #[.bool a.n,.slice a.p a.l a.c,.bool a.m,.slice a.p2 a.l2 a.c2]] w (nO q w):=(Hk _ _ _ _ L q w h hL).mono fun _ _ h=>Fn.v h
end
end
section
section
variable {P:Program} {l:List Oper} {Q:Exit->Act->World->Prop} {md:Region.Mode} {S:World->Prop}
theorem Ep {i:Nat}{oi:Oper}{v:Value}{fuel:Nat}{listed:Array Bool}{a:Act}{w:World}(hi:l[i]?=some oi)
    (hs:Region.noSelect l.toArray=true)(hf:Region.free md l.toArray listed i=true)(hr:(Region.ready md l.toArray listed).contains i=true)
    (hQ:∀c a w,Q (.panic c) (a.put oi.dst v) w->Q (.panic c) a w)(hy:YieldsIf P l.toArray S oi v a)(hS:S w)
    (h:wpAnyH P md l.toArray Q S fuel (listed.setIfInBounds i true) (a.put oi.dst v) w):wpAnyH P md l.toArray Q S (fuel+1) listed a w:=
  wpAnyH_take (by rw[wL];exact hi) hs hf hr hQ hy hS h
theorem Uj {i:Nat}{oi:Oper}{fuel:Nat}{listed:Array Bool}{a:Act}{w:World}(hi:l[i]?=some oi)
    (hs:Region.noSelect l.toArray=true)(hf:Region.free md l.toArray listed i=true)(hr:(Region.ready md l.toArray listed).contains i=true)
    (hQ:∀c a w,Q (.panic c) (a.put oi.dst undef) w->Q (.panic c) a w)(hn:Region.wanted oi (yielded l.toArray a.tmps)=false)(hS:S w)
    (h:wpAnyH P md l.toArray Q S fuel (listed.setIfInBounds i true) (a.put oi.dst undef) w):wpAnyH P md l.toArray Q S (fuel+1) listed a w:=
  wpAnyH_take (by rw[wL];exact hi) hs hf hr hQ (Or.inr ⟨hn,rfl⟩) hS h
theorem El {i:Nat}{oi:Oper}{fuel:Nat}{listed:Array Bool}{a:Act}{w:World}(hi:l[i]?=some oi)
    (hr:Region.ready md l.toArray listed=[i])
    (h:∀K':Act->World->Prop,Shut (∀a w,S w->(S w->wpAnyH P md l.toArray Q S fuel (listed.setIfInBounds i true) a w)->K' a w)->if Region.wanted oi (yielded l.toArray a.tmps)=true then Oper.wp P oi a w K' Q else K' (a.put oi.dst undef) w):
    wpAnyH P md l.toArray Q S (fuel+1) listed a w:=
  wpAnyH_ready hr (by simp) (AllReadyH.cons (by rw[wL];exact hi) h AllReadyH.nil)
end
end
section
def jF (p:Bool->Bool):Bool:=p false&&p true
theorem Mr {p:Bool->Bool}(h:jF p=true)(b:Bool):p b=true:=by
  unfold jF at h;rw[xA]at h;cases b
  · exact h.1
  exact h.2
theorem Of {α:Type}(xs:Array α)(i1 i2 i3 i4:Nat)(b1 b2 b3 b4 c:α)(h2:i2≠i1)(h3:i3≠i1)(h4:i4≠i1):(((((xs.setIfInBounds i1 b1).setIfInBounds i2 b2).setIfInBounds i3 b3).setIfInBounds i4 b4).setIfInBounds i1 c)=((((xs.setIfInBounds i1 c).setIfInBounds i2 b2).setIfInBounds i3 b3).setIfInBounds i4 b4):=by
  rw[Array.setIfInBounds_comm _ _ h4,Array.setIfInBounds_comm _ _ h3,Array.setIfInBounds_comm _ _ h2,Array.setIfInBounds_setIfInBounds]
theorem Oe {α:Type}(xs:Array α)(i1 i2 i3 i4:Nat)(b1 b2 b3 b4 c:α)(h3:i3≠i2)(h4:i4≠i2):(((((xs.setIfInBounds i1 b1).setIfInBounds i2 b2).setIfInBounds i3 b3).setIfInBounds i4 b4).setIfInBounds i2 c)=((((xs.setIfInBounds i1 b1).setIfInBounds i2 c).setIfInBounds i3 b3).setIfInBounds i4 b4):=by
  rw[Array.setIfInBounds_comm _ _ h4,Array.setIfInBounds_comm _ _ h3,Array.setIfInBounds_setIfInBounds]
theorem Od {α:Type}(xs:Array α)(i1 i2 i3 i4:Nat)(b1 b2 b3 b4 c:α)(h4:i4≠i3):(((((xs.setIfInBounds i1 b1).setIfInBounds i2 b2).setIfInBounds i3 b3).setIfInBounds i4 b4).setIfInBounds i3 c)=((((xs.setIfInBounds i1 b1).setIfInBounds i2 b2).setIfInBounds i3 c).setIfInBounds i4 b4):=by
  rw[Array.setIfInBounds_comm _ _ h4,Array.setIfInBounds_setIfInBounds]
theorem Oc {α:Type}(xs:Array α)(i1 i2 i3 i4:Nat)(b1 b2 b3 b4 c:α):(((((xs.setIfInBounds i1 b1).setIfInBounds i2 b2).setIfInBounds i3 b3).setIfInBounds i4 b4).setIfInBounds i4 c)=((((xs.setIfInBounds i1 b1).setIfInBounds i2 b2).setIfInBounds i3 b3).setIfInBounds i4 c):=by
  rw[Array.setIfInBounds_setIfInBounds]
def vJ (md:Region.Mode)(l:List Oper)(listed:Array Bool)(i1 i2 i3 i4:Nat):Bool:=
  jF fun b1=>jF fun b2=>jF fun b3=>jF fun b4=>(b1&&b2&&b3&&b4)|| !((!b2||b1))||(((Region.ready md l.toArray ((((listed.setIfInBounds i1 b1).setIfInBounds i2 b2).setIfInBounds i3 b3).setIfInBounds i4 b4)).all fun i=>(i==i1&& !b1)||(i==i2&& !b2&&b1)||(i==i3&& !b3)||(i==i4&& !b4))&& !(Region.ready md l.toArray ((((listed.setIfInBounds i1 b1).setIfInBounds i2 b2).setIfInBounds i3 b3).setIfInBounds i4 b4)).isEmpty)
theorem qN (b1 b2:Bool)(h:((!b2||b1))=true)(h1:b1=false):((!b2||true))=true:=by
  revert h h1
  cases b1<;>cases b2<;>simp
theorem qM (b1 b2:Bool)(h:((!b2||b1))=true)(h1:b2=false)(h2:b1=true):((!true||b1))=true:=by
  revert h h1 h2
  cases b1<;>cases b2<;>simp
theorem rQ {P:Program}{md:Region.Mode}{l:List Oper}{Q:Exit->Act->World->Prop}{S:World->Prop}{f:Nat}{listed:Array Bool}{a:Act}{w0:World}(i1 i2 i3 i4 d1 d2 d3 d4:Nat){o1 o2 o3 o4:Oper}(T:TypeId)(zs:Array Value)(Φ1 Φ2:Value->World->Prop)
    (hi1:l[i1]?=some o1)
    (hi2:l[i2]?=some o2)
    (hi3:l[i3]?=some o3)
    (hi4:l[i4]?=some o4)
    (hni: [i1,i2,i3,i4].Nodup)(hnd: [d1,d2,d3,d4].Nodup)
    (hchk:vJ md l listed i1 i2 i3 i4=true)
    (hS:∀w,Aa w0 w->S w)
    (hΦ1:∀v w w',Φ1 v w->Aa w w'->Φ1 v w')
    (hΦ2:∀v w w',Φ2 v w->Aa w w'->Φ2 v w')
    (hc1:∀(v1 v2 v3 v4:Value) (w:World) (K:Act->World->Prop),Aa w0 w->S w->Shut (∀v w',Φ1 v w'->Aa w w'->K (({a with tmps:=((((a.tmps.setIfInBounds d1 v1).setIfInBounds d2 v2).setIfInBounds d3 v3).setIfInBounds d4 v4)}:Act).put (some d1) v) w')->if Region.wanted o1 (yielded l.toArray ({a with tmps:=((((a.tmps.setIfInBounds d1 v1).setIfInBounds d2 v2).setIfInBounds d3 v3).setIfInBounds d4 v4)}:Act).tmps)=true then Oper.wp P o1 ({a with tmps:=((((a.tmps.setIfInBounds d1 v1).setIfInBounds d2 v2).setIfInBounds d3 v3).setIfInBounds d4 v4)}:Act) w K Q else K (({a with tmps:=((((a.tmps.setIfInBounds d1 v1).setIfInBounds d2 v2).setIfInBounds d3 v3).setIfInBounds d4 v4)}:Act).put o1.dst undef) w)
    (hc2:∀(v1 v2 v3 v4:Value) (w:World) (K:Act->World->Prop),Aa w0 w->S w->Shut (∀v w',Φ2 v w'->Aa w w'->K (({a with tmps:=((((a.tmps.setIfInBounds d1 v1).setIfInBounds d2 v2).setIfInBounds d3 v3).setIfInBounds d4 v4)}:Act).put (some d2) v) w')->if Region.wanted o2 (yielded l.toArray ({a with tmps:=((((a.tmps.setIfInBounds d1 v1).setIfInBounds d2 v2).setIfInBounds d3 v3).setIfInBounds d4 v4)}:Act).tmps)=true then Oper.wp P o2 ({a with tmps:=((((a.tmps.setIfInBounds d1 v1).setIfInBounds d2 v2).setIfInBounds d3 v3).setIfInBounds d4 v4)}:Act) w K Q else K (({a with tmps:=((((a.tmps.setIfInBounds d1 v1).setIfInBounds d2 v2).setIfInBounds d3 v3).setIfInBounds d4 v4)}:Act).put o2.dst undef) w)
    (hc3:∀(v1 v2 v3 v4:Value) (w:World) (K:Act->World->Prop),Aa w0 w->S w->Shut (K (({a with tmps:=((((a.tmps.setIfInBounds d1 v1).setIfInBounds d2 v2).setIfInBounds d3 v3).setIfInBounds d4 v4)}:Act).put (some d3) (.pointer (π w.heap.size))) (w.alloc (.cells zs T)))->if Region.wanted o3 (yielded l.toArray ({a with tmps:=((((a.tmps.setIfInBounds d1 v1).setIfInBounds d2 v2).setIfInBounds d3 v3).setIfInBounds d4 v4)}:Act).tmps)=true then Oper.wp P o3 ({a with tmps:=((((a.tmps.setIfInBounds d1 v1).setIfInBounds d2 v2).setIfInBounds d3 v3).setIfInBounds d4 v4)}:Act) w K Q else K (({a with tmps:=((((a.tmps.setIfInBounds d1 v1).setIfInBounds d2 v2).setIfInBounds d3 v3).setIfInBounds d4 v4)}:Act).put o3.dst undef) w)
    (hc4:∀(v1 v2 v3 v4:Value) (w:World) (K:Act->World->Prop),Aa w0 w->S w->Shut (K (({a with tmps:=((((a.tmps.setIfInBounds d1 v1).setIfInBounds d2 v2).setIfInBounds d3 v3).setIfInBounds d4 v4)}:Act).put (some d4) (.pointer (π w.heap.size))) (w.alloc (.cells zs T)))->if Region.wanted o4 (yielded l.toArray ({a with tmps:=((((a.tmps.setIfInBounds d1 v1).setIfInBounds d2 v2).setIfInBounds d3 v3).setIfInBounds d4 v4)}:Act).tmps)=true then Oper.wp P o4 ({a with tmps:=((((a.tmps.setIfInBounds d1 v1).setIfInBounds d2 v2).setIfInBounds d3 v3).setIfInBounds d4 v4)}:Act) w K Q else K (({a with tmps:=((((a.tmps.setIfInBounds d1 v1).setIfInBounds d2 v2).setIfInBounds d3 v3).setIfInBounds d4 v4)}:Act).put o4.dst undef) w)
    (hend:∀(v1 v2:Value) (X1 X2:Nat) (w:World),Aa w0 w->S w->Φ1 v1 w->Φ2 v2 w->Al w X1 T zs->Al w X2 T zs->w0.heap.size<=X1->w0.heap.size<=X2->X1≠X2->wpAnyH P md l.toArray Q S f ((((listed.setIfInBounds i1 true).setIfInBounds i2 true).setIfInBounds i3 true).setIfInBounds i4 true) ({a with tmps:=((((a.tmps.setIfInBounds d1 v1).setIfInBounds d2 v2).setIfInBounds d3 (.pointer (π X1))).setIfInBounds d4 (.pointer (π X2)))}:Act) w)
    (u1 u2 u3 u4:Value)
    (hl:listed=((((listed.setIfInBounds i1 false).setIfInBounds i2 false).setIfInBounds i3 false).setIfInBounds i4 false))(ha:a=({a with tmps:=((((a.tmps.setIfInBounds d1 u1).setIfInBounds d2 u2).setIfInBounds d3 u3).setIfInBounds d4 u4)}:Act))
    :wpAnyH P md l.toArray Q S (f+4) listed a w0:=by
  have B7:i2≠i1:=by intro h;simp[h]at hni
  have A9:d2≠d1:=by intro h;simp[h]at hnd
  have B6:i3≠i1:=by intro h;simp[h]at hni
  have A8:d3≠d1:=by intro h;simp[h]at hnd
  have B5:i3≠i2:=by intro h;simp[h]at hni
  have A7:d3≠d2:=by intro h;simp[h]at hnd
  have B2:i4≠i1:=by intro h;simp[h]at hni
  have A6:d4≠d1:=by intro h;simp[h]at hnd
  have B1:i4≠i2:=by intro h;simp[h]at hni
  have A5:d4≠d2:=by intro h;simp[h]at hnd
  have B0:i4≠i3:=by intro h;simp[h]at hni
  have A4:d4≠d3:=by intro h;simp[h]at hnd
  clear hni hnd;have A3:∀b1 b2 b3 b4:Bool,(b1&&b2&&b3&&b4)=false->((!b2||b1))=true->(∀i∈Region.ready md l.toArray ((((listed.setIfInBounds i1 b1).setIfInBounds i2 b2).setIfInBounds i3 b3).setIfInBounds i4 b4),(i=i1/\b1=false)\/(i=i2/\b2=false/\b1=true)\/(i=i3/\b3=false)\/(i=i4/\b4=false))/\Region.ready md l.toArray ((((listed.setIfInBounds i1 b1).setIfInBounds i2 b2).setIfInBounds i3 b3).setIfInBounds i4 b4)≠ []:=by
    intro b1 b2 b3 b4 h0 C0;have h1:=(Mr (Mr (Mr (Mr hchk b1) b2) b3) b4);rw[h0,C0,Bool.not_true,Bool.false_or,Bool.false_or,xA]at h1;refine⟨fun i hi=> ?_,fun h2=> ?_⟩
    · have h3:=List.all_eq_true.1 h1.1 i hi
      simpa[or_assoc,and_assoc]using h3
    have h3:=h1.2;rw[h2]at h3;cases h3
  clear hchk;have H:∀(m:Nat) (b1 b2 b3 b4:Bool) (v1 v2 v3 v4:Value) (w:World),(!b1).toNat+(!b2).toNat+(!b3).toNat+(!b4).toNat=m->((!b2||b1))=true->Aa w0 w->(b1=true->Φ1 v1 w)->(b2=true->Φ2 v2 w)->(b3=true->∃X,v3= .pointer (π X)/\Al w X T zs/\w0.heap.size<=X)->(b4=true->∃X,v4= .pointer (π X)/\Al w X T zs/\w0.heap.size<=X)->(b3=true->b4=true->v3≠v4)->wpAnyH P md l.toArray Q S (f+m) ((((listed.setIfInBounds i1 b1).setIfInBounds i2 b2).setIfInBounds i3 b3).setIfInBounds i4 b4) ({a with tmps:=((((a.tmps.setIfInBounds d1 v1).setIfInBounds d2 v2).setIfInBounds d3 v3).setIfInBounds d4 v4)}:Act) w:=by
    intro m;induction m with
    | zero=>
      intro b1 b2 b3 b4 v1 v2 v3 v4 w hm A0 hx F1 F2 F3 F4 A1;obtain rfl:b1=true:=by cases b1<;>simp at hm⊢
      obtain rfl:b2=true:=by cases b2<;>simp at hm⊢
      obtain rfl:b3=true:=by cases b3<;>simp at hm⊢
      obtain rfl:b4=true:=by cases b4<;>simp at hm⊢
      obtain⟨X1,rfl,B3,z3⟩:=F3 rfl;obtain⟨X2,rfl,B4,z4⟩:=F4 rfl;exact hend _ _ _ _ w hx (hS _ hx) (F1 rfl) (F2 rfl) B3 B4 z3 z4 (fun h=>A1 rfl rfl (by rw[h]))
    | succ m ih=>
      intro b1 b2 b3 b4 v1 v2 v3 v4 w hm A0 hx F1 F2 F3 F4 A1;have A2:(b1&&b2&&b3&&b4)=false:=by
        cases hb:(b1&&b2&&b3&&b4)
        · rfl
        exfalso;simp only[xA]at hb;simp[hb]at hm
      obtain⟨hr,B8⟩:=A3 b1 b2 b3 b4 A2 A0;refine⟨fun h0=>absurd h0 B8,fun i hi=> ?_⟩;rcases hr i hi with⟨hik,rfl⟩|⟨hik,rfl,rfl⟩|⟨hik,rfl⟩|⟨hik,rfl⟩
      · rw[hik]
        refine wpOp_step (by rw[wL];exact hi1) (fun K' hK=>hc1 v1 v2 v3 v4 w K' hx (hS _ hx) ?_);refine fun v w' hv he=>hK _ _ ⟨hS _ (hx.trans he),?_⟩
        rw[show∀(u:Value),({a with tmps:=((((a.tmps.setIfInBounds d1 v1).setIfInBounds d2 v2).setIfInBounds d3 v3).setIfInBounds d4 v4)}:Act).put (some d1) u=({a with tmps:=((((a.tmps.setIfInBounds d1 u).setIfInBounds d2 v2).setIfInBounds d3 v3).setIfInBounds d4 v4)}:Act)from fun u=>by show({a with tmps:=_}:Act)=_;rw[Of _ d1 d2 d3 d4 _ _ _ _ _ A9 A8 A6]];rw[Of _ i1 i2 i3 i4 _ _ _ _ _ B7 B6 B2];exact ih true b2 b3 b4 v v2 v3 v4 _ (by simp at hm⊢;omega) (qN _ _ A0 rfl) (hx.trans he) (fun _=>hv) (fun h=>hΦ2 _ _ _ (F2 h) he) (fun h=>by obtain⟨X,q1,q2,q3⟩:=F3 h;exact⟨X,q1,q2.ext he,q3⟩) (fun h=>by obtain⟨X,q1,q2,q3⟩:=F4 h;exact⟨X,q1,q2.ext he,q3⟩) (A1)
      · rw[hik]
        refine wpOp_step (by rw[wL];exact hi2) (fun K' hK=>hc2 v1 v2 v3 v4 w K' hx (hS _ hx) ?_);refine fun v w' hv he=>hK _ _ ⟨hS _ (hx.trans he),?_⟩
        rw[show∀(u:Value),({a with tmps:=((((a.tmps.setIfInBounds d1 v1).setIfInBounds d2 v2).setIfInBounds d3 v3).setIfInBounds d4 v4)}:Act).put (some d2) u=({a with tmps:=((((a.tmps.setIfInBounds d1 v1).setIfInBounds d2 u).setIfInBounds d3 v3).setIfInBounds d4 v4)}:Act)from fun u=>by show({a with tmps:=_}:Act)=_;rw[Oe _ d1 d2 d3 d4 _ _ _ _ _ A7 A5]];rw[Oe _ i1 i2 i3 i4 _ _ _ _ _ B5 B1];exact ih true true b3 b4 v1 v v3 v4 _ (by simp at hm⊢;omega) (qM _ _ A0 rfl rfl) (hx.trans he) (fun h=>hΦ1 _ _ _ (F1 h) he) (fun _=>hv) (fun h=>by obtain⟨X,q1,q2,q3⟩:=F3 h;exact⟨X,q1,q2.ext he,q3⟩) (fun h=>by obtain⟨X,q1,q2,q3⟩:=F4 h;exact⟨X,q1,q2.ext he,q3⟩) (A1)
      · rw[hik]
        refine wpOp_step (by rw[wL];exact hi3) (fun K' hK=>hc3 v1 v2 v3 v4 w K' hx (hS _ hx) ?_);refine hK _ _ ⟨hS _ (hx.alloc _),?_⟩;rw[show∀(u:Value),({a with tmps:=((((a.tmps.setIfInBounds d1 v1).setIfInBounds d2 v2).setIfInBounds d3 v3).setIfInBounds d4 v4)}:Act).put (some d3) u=({a with tmps:=((((a.tmps.setIfInBounds d1 v1).setIfInBounds d2 v2).setIfInBounds d3 u).setIfInBounds d4 v4)}:Act)from fun u=>by show({a with tmps:=_}:Act)=_;rw[Od _ d1 d2 d3 d4 _ _ _ _ _ A4]];rw[Od _ i1 i2 i3 i4 _ _ _ _ _ B0];exact ih b1 b2 true b4 v1 v2 _ v4 _ (by simp at hm⊢;omega) A0 (hx.alloc _) (fun h=>hΦ1 _ _ _ (F1 h) ((Aa.refl w).alloc (.cells zs T))) (fun h=>hΦ2 _ _ _ (F2 h) ((Aa.refl w).alloc (.cells zs T))) (fun _=>⟨w.heap.size,rfl,Al.new w _ _,hx.size⟩) (fun h=>by obtain⟨X,q1,q2,q3⟩:=F4 h;exact⟨X,q1,q2.ext ((Aa.refl w).alloc (.cells zs T)),q3⟩) (fun _ h2=>by obtain⟨X,q1,q2,q3⟩:=F4 h2;have B9:=Al.lt q2;rw[q1];intro hh;simp at hh<;>omega)
      rw[hik];refine wpOp_step (by rw[wL];exact hi4) (fun K' hK=>hc4 v1 v2 v3 v4 w K' hx (hS _ hx) ?_);refine hK _ _ ⟨hS _ (hx.alloc _),?_⟩;rw[show∀(u:Value),({a with tmps:=((((a.tmps.setIfInBounds d1 v1).setIfInBounds d2 v2).setIfInBounds d3 v3).setIfInBounds d4 v4)}:Act).put (some d4) u=({a with tmps:=((((a.tmps.setIfInBounds d1 v1).setIfInBounds d2 v2).setIfInBounds d3 v3).setIfInBounds d4 u)}:Act)from fun u=>by show({a with tmps:=_}:Act)=_;rw[Oc _ d1 d2 d3 d4 _ _ _ _ _]];rw[Oc _ i1 i2 i3 i4 _ _ _ _ _];exact ih b1 b2 b3 true v1 v2 v3 _ _ (by simp at hm⊢;omega) A0 (hx.alloc _) (fun h=>hΦ1 _ _ _ (F1 h) ((Aa.refl w).alloc (.cells zs T))) (fun h=>hΦ2 _ _ _ (F2 h) ((Aa.refl w).alloc (.cells zs T))) (fun h=>by obtain⟨X,q1,q2,q3⟩:=F3 h;exact⟨X,q1,q2.ext ((Aa.refl w).alloc (.cells zs T)),q3⟩) (fun _=>⟨w.heap.size,rfl,Al.new w _ _,hx.size⟩) (fun h2 _=>by obtain⟨X,q1,q2,q3⟩:=F3 h2;have B9:=Al.lt q2;rw[q1];intro hh;simp at hh<;>omega)
  rw[hl,ha];exact H 4 false false false false u1 u2 u3 u4 w0 rfl rfl Ak (fun h=>by cases h) (fun h=>by cases h) (fun h=>by cases h) (fun h=>by cases h) (fun h=>by cases h)
end
section
attribute [local go_sem ↓] Go.wp_at_zero Go.wp_at_succ Az Ay
end
section
theorem Jr (g:Nat):∀(vs:List Value) (o:Nat) (w:World) (t:TypeId) (cs:List Value),w.heap[g]?=some (.cells cs.toArray t (0,0))->o+vs.length<=cs.length->
    (w.setCells g o vs).heap[g]?=some (.cells (cs.take o++vs++cs.drop (o+vs.length)).toArray t (0,0))
  | [],o,w,t,cs,h,_=>by simpa[World.setCells]using h
  | v::r,o,w,t,cs,h,hl=>by
    rw[World.setCells];have h2:(w.setCell ⟨g,o,none⟩ v).heap[g]?=some (.cells (cs.set o v).toArray t (0,0)):=by
      have h3:=Al.set_ (w:=w) (g:=g) (t:=t) (cs:=cs.toArray) h o v;simpa[Al]using h3
    rw[Jr g r (o+1) _ t (cs.set o v) h2 (by simp at hl⊢;omega)];congr 3;have A0:o<cs.length:=by simp at hl;omega
    apply List.ext_getElem?;intro i;simp only[xB,wN,List.getElem?_append,wK,wO,List.getElem?_take,List.getElem?_set,List.getElem?_drop];have e:o+1+r.length=o+(r.length+1):=ω
    have m:min o cs.length=o:=ω;have m1:min (o+1) cs.length=o+1:=ω;rw[m,m1];by_cases h1:i<o
    · rw[if_pos ω,if_pos ω,if_pos h1,if_pos h1,if_neg ω]
    by_cases h2:i=o
    · subst h2
      simp[A0]
    rw[if_neg ω,if_neg h1];obtain⟨k,rfl⟩:∃k,i=o+1+k:=⟨i-(o+1),ω⟩;have q1:o+1+k-(o+1)=k:=ω
    have q2:o+1+k-o=k+1:=ω;rw[q1,q2];by_cases h3:k<r.length
    · rw[if_pos h3,if_pos (by first|omega|(simp;omega))];simp
    rw[if_neg h3,if_neg (by first|omega|(simp;omega)),if_neg ω];congr 1;first|omega|(simp;omega)
theorem Al.setCells {w:World}{g:Nat}{t:TypeId}{cs:Array Value}(h:Al w g t cs)(vs:Array Value)(hl:vs.size=cs.size):Al (w.setCells g 0 vs.toList) g t vs:=by
  have h2:=Jr g vs.toList 0 w t cs.toList (by simpa[Al]using h) (by simp[hl]);unfold Al;rw[h2,List.drop_of_length_le (by simp[hl])];simp
theorem Ba.setCells_l {g:Nat}:∀(vs:List Value) (o:Nat) {a w:World},Ba g a w->Ba g a (w.setCells g o vs)
  | [],_,_,_,h=>h
  |v::r,o,_,_,h=>by rw[World.setCells];exact Ba.setCells_l r (o+1) (h.set_at o none v)
theorem Ba.setCells (w:World)(g:Nat)(vs:Array Value):Ba g w (w.setCells g 0 vs.toList):=Ba.setCells_l _ _ (Ba.refl g w)
theorem Al.range {w:World}{g:Nat}{t:TypeId}{cs:Array Value}(h:Al w g t cs):w.rangeAt g 0 cs.toList:=fun j v hv=>by
  rw[wH,h.cell j];simpa using hv
theorem Al.thereN {w:World}{g:Nat}{t:TypeId}{cs:Array Value}(h:Al w g t cs):w.there g 0 cs.size:=fun j hj=>by
  rw[wH,h.cell j,h.frozen j];simp[hj]
theorem Al.loadVar {P:Program}{w:World}{g:Nat}{t ty:TypeId}{cs:Array Value}{d:TypeDesc}(h:Al w g t cs)(hu:P.underlying ty=some d)(hd:d.isRow=true)(hi:(P.info? ty).map (·.size)=some cs.size):
    (Go.loadVar ty ⟨g,0,none⟩).run P w= .ok (.agg cs) w:=by
  have h2:=run_loadVar_mid (P:=P) w g 0 ty cs.toList d h.range hu hd (by simpa using hi);simpa using h2
theorem Nz {P:Program}{op:Oper}{a:Act}{w:World}{K:Act->World->Prop}{Q:Exit->Act->World->Prop}(ty:TypeId)(x y:Operand)(ho:op.op= .store ty x y)
    (g:Nat)(t:TypeId)(cs0 cs:Array Value)(hx:a.eval x= .pointer (π g))(hy:a.eval y= .agg cs)(hb:Al w g t cs0)(hl:cs.size=cs0.size)
    (hi:(P.info? ty).map (·.size)=some cs.size)(h1:cs.all (·.oneCell')=true)
    (h:K (a.put op.dst undef) (w.setCells g 0 cs.toList)):op.wp P a w K Q:=
  wp_store_mid ty x y ho g 0 cs hx hy (by rw[hl];exact hb.thereN) hi h1 h
theorem Rv {P:Program}{l:List Oper}{Q:Exit->Act->World->Prop}{md:Region.Mode}{S:World->Prop}{i:Nat}{oi:Oper}{fuel:Nat}{listed:Array Bool}{a:Act}{w:World}(hi:l[i]?=some oi)
    (hr:Region.ready md l.toArray listed=[i])(hg:oi.guard=none)(ty:TypeId)(x y:Operand)(ho:oi.op= .store ty x y)
    (g:Nat)(t:TypeId)(cs0 cs:Array Value)(hx:a.eval x= .pointer (π g))(hy:a.eval y= .agg cs)(hb:Al w g t cs0)(hl:cs.size=cs0.size)
    (hz:(P.info? ty).map (·.size)=some cs.size)(h1:cs.all (·.oneCell')=true)(hS:S (w.setCells g 0 cs.toList))
    (h:wpAnyH P md l.toArray Q S fuel (listed.setIfInBounds i true) (a.put oi.dst undef) (w.setCells g 0 cs.toList)):wpAnyH P md l.toArray Q S (fuel+1) listed a w:=
  El hi hr (fun K hK=>by
    rw[if_pos (by simp only[Region.wanted,hg])];exact Nz ty x y ho g t cs0 cs hx hy hb hl hz h1 (hK.out _ _ hS (fun _=>h)))
theorem Ba.then_ext' {g:Nat}{a b c:World}(h:Aa a b)(k:Ba g b c):Ba g a c:=
  ⟨k.os.trans h.os,k.tape.trans h.tape,k.output.trans h.output,Aw h.size k.size,fun i hi hn=>(k.block i (xG hi h.size) hn).trans (h.block i hi)⟩
theorem Na {P:Program}{fn:Func}{i j:Tmp}{t u:TypeId}(h:fn.results=#[.cell i t,.cell j u]){tmps:Array Value}{w:World}{p q:Addr}{v z:Value}
    (hi:tmps.getD i undef= .pointer (some p))(hj:tmps.getD j undef= .pointer (some q))(h1:(Go.loadVar t p).run P w= .ok v w)(h2:(Go.loadVar u q).run P w= .ok z w):
    (results fn tmps).run P w= .ok (.tuple #[v,z]) w:=by
  simp only[Array.getD_eq_getD_getElem?]at hi hj;simp[results,h,hi,hj,h1,h2,asAddr]
theorem By {P:Program}{fn:Func}{i:Tmp}{t:TypeId}(h:fn.results=#[.cell i t]){tmps:Array Value}{w:World}{p:Addr}{v:Value}
    (hi:tmps.getD i undef= .pointer (some p))(h1:(Go.loadVar t p).run P w= .ok v w):
    (results fn tmps).run P w= .ok v w:=by
  simp only[Array.getD_eq_getD_getElem?]at hi;simp[results,h,hi,h1,asAddr]
end
section
attribute [local go_sem ↓] Go.wp_at_zero Go.wp_at_succ Az Ay
theorem Kj.v {q:Rat}{w w':World}{e:Ending}(h:Kj q 0 w e w'):∃a:RV,e= .returned (.tuple #[.agg #[.bool a.n,.slice a.p a.l a.c,.bool a.m,.slice a.p2 a.l2 a.c2],iV 0])/\a.Is w' q/\Aa w w':=by
  obtain⟨n,u,m,v,rfl,hc,he⟩:=h;obtain⟨p,l,c,p2,l2,c2,rfl,rfl⟩:=hc.form;exact⟨⟨n,p,l,c,m,p2,l2,c2⟩,rfl,hc,he⟩
end
section
def Ee (L:Nat)(w:World)(cs:Array Value)(q:Rat):Prop:=∃a:RV,cs=#[.bool a.n,.slice a.p a.l a.c,.bool a.m,.slice a.p2 a.l2 a.c2]/\a.In L w q
def Mt (w:World)(cs:Array Value)(q:Rat):Prop:=∃a:RV,cs=#[.bool a.n,.slice a.p a.l a.c,.bool a.m,.slice a.p2 a.l2 a.c2]/\a.Is w q
theorem Ee.ext {L:Nat}{w w':World}{cs:Array Value}{q:Rat}(h:Ee L w cs q)(e:Aa w w'):Ee L w' cs q:=by obtain⟨a,h1,h2⟩:=h;exact⟨a,h1,h2.ext e⟩
theorem Mt.ext {w w':World}{cs:Array Value}{q:Rat}(h:Mt w cs q)(e:Aa w w'):Mt w' cs q:=by obtain⟨a,h1,h2⟩:=h;exact⟨a,h1,h2.ext e⟩
theorem Mt.isIn {L:Nat}{w:World}{cs:Array Value}{q:Rat}(h:Mt w cs q)(hl:Nm.rl q<=L):Ee L w cs q:=by obtain⟨a,h1,h2⟩:=h;exact⟨a,h1,h2.isIn hl⟩
theorem Ee.mono {L M:Nat}{w:World}{cs:Array Value}{q:Rat}(h:Ee L w cs q)(hl:L<=M):Ee M w cs q:=by obtain⟨a,h1,h2⟩:=h;exact⟨a,h1,h2.mono hl⟩
theorem Ee.rl {L:Nat}{w:World}{cs:Array Value}{q:Rat}(h:Ee L w cs q)(h1:1<=L):Nm.rl q<=L:=by obtain⟨a,_,h2⟩:=h;have:=h2.rl;omega
theorem Ee.size {L:Nat}{w:World}{cs:Array Value}{q:Rat}(h:Ee L w cs q):cs.size=4:=by obtain⟨a,rfl,_⟩:=h;rfl
theorem Mt.size {w:World}{cs:Array Value}{q:Rat}(h:Mt w cs q):cs.size=4:=by obtain⟨a,rfl,_⟩:=h;rfl
theorem Mt.one {w:World}{cs:Array Value}{q:Rat}(h:Mt w cs q):cs.all (·.oneCell')=true:=by obtain⟨a,rfl,_⟩:=h;exact all_oneCell_toArray (by simp[Value.oneCell'])
def Mw (L:Nat)(w:World)(cs:Array Value)(A0 A1:Rat):Prop:=∃a0 a1:RV,cs=#[.bool a0.n,.slice a0.p a0.l a0.c,.bool a0.m,.slice a0.p2 a0.l2 a0.c2,.bool a1.n,.slice a1.p a1.l a1.c,.bool a1.m,.slice a1.p2 a1.l2 a1.c2]/\a0.In L w A0/\a1.In L w A1
theorem Mw.ext {L:Nat}{w:World}{cs:Array Value}{A0 A1:Rat}{w':World}(h:Mw L w cs A0 A1)(x:Aa w w'):Mw L w' cs A0 A1:=by obtain⟨a0,a1,e,h0,h1⟩:=h;exact⟨a0,a1,e,h0.ext x,h1.ext x⟩
theorem Mw.size {L:Nat}{w:World}{cs:Array Value}{A0 A1:Rat}(h:Mw L w cs A0 A1):cs.size=8:=by obtain⟨a0,a1,e,h0,h1⟩:=h;rw[e];rfl
theorem Mw.one {L:Nat}{w:World}{cs:Array Value}{A0 A1:Rat}(h:Mw L w cs A0 A1):cs.all (·.oneCell')=true:=by obtain⟨a0,a1,e,h0,h1⟩:=h;rw[e];exact all_oneCell_toArray (by simp[Value.oneCell'])
theorem Mw.c0 {L:Nat}{w:World}{cs:Array Value}{A0 A1:Rat}(h:Mw L w cs A0 A1):Ee L w (cs.extract 0 (0+4)) A0:=by obtain⟨a0,a1,e,h0,h1⟩:=h;exact⟨a0,by rw[e];rfl,h0⟩
theorem Mw.c1 {L:Nat}{w:World}{cs:Array Value}{A0 A1:Rat}(h:Mw L w cs A0 A1):Ee L w (cs.extract 4 (4+4)) A1:=by obtain⟨a0,a1,e,h0,h1⟩:=h;exact⟨a1,by rw[e];rfl,h1⟩
section
variable {L:Nat} {w:World} {cs ct:Array Value}
end
end
section
theorem Gm {P:Program}{op:Oper}{a:Act}{w:World}{K:Act->World->Prop}{Q:Exit->Act->World->Prop}{f:FuncId}{args:Array Value}{Φ:Ending->World->Prop}
    (hv:(execOp a.eval op).run P w= .ok (.enter f args) w)(hc:Calls P f args w Φ)(h:∀e w',Φ e w'->∃v,e= .returned v/\K (a.put op.dst v) w'):op.wp P a w K Q:=by
  unfold Oper.wp;rw[hv];simp only[Oper.upon];refine Calls.mono hc fun e w' he=> ?_
  obtain⟨v,rfl,hk⟩:=h e w' he;exact hk
section
variable {P:Program} {ops:Array Oper} {rest:List Oper} {op:Oper} {a:Act} {w w':World} {Q:Exit->Act->World->Prop} {v:Value}
theorem Bk (hw:Region.wanted op (yielded ops a.tmps)=true)(h:op.wp P a w (wpList P ops Q rest) Q):wpList P ops Q (op::rest) a w:=by
  rw[wpList,if_pos hw];exact .inl h
theorem eP (hw:Region.wanted op (yielded ops a.tmps)=false)(h:wpList P ops Q rest (a.put op.dst undef) w):wpList P ops Q (op::rest) a w:=by
  rw[wpList,if_neg (by rw[hw];exact Bool.false_ne_true)];exact h
theorem Lp (hw:Region.wanted op (yielded ops a.tmps)=true)(hv:(execOp a.eval op).run P w= .ok (.value v) w')(h:wpList P ops Q rest (a.put op.dst v) w'):wpList P ops Q (op::rest) a w:=
  Bk hw (by unfold Oper.wp;rw[hv];exact h)
theorem Ge {f:FuncId}{args:Array Value}{Φ:Ending->World->Prop}(hw:Region.wanted op (yielded ops a.tmps)=true)(hv:(execOp a.eval op).run P w= .ok (.enter f args) w)(hc:Calls P f args w Φ)
    (h:∀e w',Φ e w'->∃v,e= .returned v/\wpList P ops Q rest (a.put op.dst v) w'):wpList P ops Q (op::rest) a w:=Bk hw (Gm hv hc h)
theorem pD (hw:Region.wanted op (yielded ops a.tmps)=true)(ty:TypeId)(x:Operand)(ho:op.op= .load ty x)(g:Nat)(t:TypeId)(cs:Array Value)(d:TypeDesc)(hx:a.eval x= .pointer (π g))(hb:Al w g t cs)
    (hu:P.underlying ty=some d)(hd:d.isRow=true)(hi:(P.info? ty).map (·.size)=some cs.size)(h:wpList P ops Q rest (a.put op.dst (.agg cs)) w):wpList P ops Q (op::rest) a w:=
  Bk hw (wp_load_mid ty x ho g 0 hx cs.toList d hb.range hu hd (by simpa using hi) (by simpa using h))
theorem lJ (hw:Region.wanted op (yielded ops a.tmps)=true)(ty:TypeId)(x y:Operand)(ho:op.op= .store ty x y)(g:Nat)(t:TypeId)(cs0 cs:Array Value)(hx:a.eval x= .pointer (π g))(hy:a.eval y= .agg cs)
    (hb:Al w g t cs0)(hl:cs.size=cs0.size)(hi:(P.info? ty).map (·.size)=some cs.size)(h1:cs.all (·.oneCell')=true)
    (h:wpList P ops Q rest (a.put op.dst undef) (w.setCells g 0 cs.toList)):wpList P ops Q (op::rest) a w:=
  Bk hw (Nz ty x y ho g t cs0 cs hx hy hb hl hi h1 h)
theorem Al.part {w:World}{g:Nat}{t:TypeId}{cs:Array Value}(h:Al w g t cs)(o n:Nat):w.rangeAt g o (cs.extract o (o+n)).toList:=World.rangeAt_of_block h o n
theorem pC (hw:Region.wanted op (yielded ops a.tmps)=true)(ty:TypeId)(x:Operand)(ho:op.op= .load ty x)(g o n:Nat)(t:TypeId)(cs:Array Value)(d:TypeDesc)(hx:a.eval x= .pointer (some ⟨g,o,none⟩))(hb:Al w g t cs)
    (hu:P.underlying ty=some d)(hd:d.isRow=true)(hi:(P.info? ty).map (·.size)=some n)(hn:o+n<=cs.size)(h:wpList P ops Q rest (a.put op.dst (.agg (cs.extract o (o+n)))) w):wpList P ops Q (op::rest) a w:=
  Bk hw (wp_load_mid ty x ho g o hx (cs.extract o (o+n)).toList d (hb.part o n) hu hd (by rw[hi];congr 1;simp;omega) (by rw[Array.toArray_toList];exact h))
end
section
variable {P:Program} {l:List Oper} {Q:Exit->Act->World->Prop} {md:Region.Mode} {S:World->Prop} {i:Nat} {oi:Oper} {fuel:Nat} {listed listed':Array Bool} {a:Act} {w w':World} {v:Value}
theorem Sa {wb w:World}{T:TypeId}{X1:Nat}{zs c1:Array Value}(hn:Pp zs)(hx:Aa wb w)(B1:Al w X1 T zs)(z1:wb.heap.size<=X1)(h1:c1.size=zs.size):
    Aa wb (w.setCells X1 0 c1.toList)/\Al (w.setCells X1 0 c1.toList) X1 T c1/\(∀(r:RV) (q:Rat),r.Is w q->r.Is (w.setCells X1 0 c1.toList) q):=by
  have o1:=Ba.setCells w X1 c1;exact⟨o1.ext hx z1,B1.setCells c1 h1,fun r q h=>h.own B1 hn o1⟩
theorem bQ {wb w:World}{T:TypeId}{X1 X2:Nat}{zs c1 c2:Array Value}(hn:Pp zs)(hx:Aa wb w)(B1:Al w X1 T zs)(B2:Al w X2 T zs)(z1:wb.heap.size<=X1)(z2:wb.heap.size<=X2)(n12:X1≠X2)(h1:c1.size=zs.size)(h2:c2.size=zs.size):
  Al (w.setCells X1 0 c1.toList) X2 T zs/\Aa wb ((w.setCells X1 0 c1.toList).setCells X2 0 c2.toList)/\Al ((w.setCells X1 0 c1.toList).setCells X2 0 c2.toList) X1 T c1/\Al ((w.setCells X1 0 c1.toList).setCells X2 0 c2.toList) X2 T c2/\Aa wb (w.setCells X1 0 c1.toList)/\
  (∀(r:RV) (q:Rat),r.Is w q->r.Is ((w.setCells X1 0 c1.toList).setCells X2 0 c2.toList) q):=by
 obtain⟨e1,b1,f1⟩:=Sa hn hx B1 z1 h1;have A0:=B2.own (Ba.setCells w X1 c1) (Ne.symm n12);obtain⟨e2,b2,f2⟩:=Sa hn e1 A0 z2 h2;exact⟨A0,e2,b1.own (Ba.setCells _ X2 c2) n12,b2,e1,fun r q h=>f2 r q (f1 r q h)⟩
theorem Pa (w:World)(T:TypeId)(zs cs:Array Value)(hl:cs.size=zs.size):Aa w ((w.alloc (.cells zs T)).setCells w.heap.size 0 cs.toList)/\Al ((w.alloc (.cells zs T)).setCells w.heap.size 0 cs.toList) w.heap.size T cs:=
  ⟨(Ba.setCells _ _ cs).ext ((Aa.refl w).alloc _) (Bz _),Al.setCells (Al.new_at w _ rfl _ _) cs hl⟩
theorem Lr (hi:l[i]?=some oi)(hs:Region.noSelect l.toArray=true)(hf:Region.free md l.toArray listed i=true)(hr:(Region.ready md l.toArray listed).contains i=true)
    (hQ:∀c a w,Q (.panic c) (a.put oi.dst v) w->Q (.panic c) a w)(hw:Region.wanted oi (yielded l.toArray a.tmps)=true)(hv:∀w,S w->(execOp a.eval oi).run P w= .ok (.value v) w)(hS:S w)
    (hl:listed.setIfInBounds i true=listed')(h:wpAnyH P md l.toArray Q S fuel listed' (a.put oi.dst v) w):wpAnyH P md l.toArray Q S (fuel+1) listed a w:=
  Ep hi hs hf hr hQ (Or.inl ⟨hw,hv⟩) hS (by rw[hl];exact h)
theorem eR (hi:l[i]?=some oi)(hs:Region.noSelect l.toArray=true)(hf:Region.free md l.toArray listed i=true)(hr:(Region.ready md l.toArray listed).contains i=true)
    (ty:TypeId)(x:Operand)(ho:oi.op= .load ty x)(g:Nat)(t:TypeId)(cs:Array Value)(d:TypeDesc)
    (hQ:∀c a w,Q (.panic c) (a.put oi.dst (.agg cs)) w->Q (.panic c) a w)(hw:Region.wanted oi (yielded l.toArray a.tmps)=true)(hx:a.eval x= .pointer (π g))(hb:∀w,S w->Al w g t cs)
    (hu:P.underlying ty=some d)(hd:d.isRow=true)(hz:(P.info? ty).map (·.size)=some cs.size)(hS:S w)
    (hl:listed.setIfInBounds i true=listed')(h:wpAnyH P md l.toArray Q S fuel listed' (a.put oi.dst (.agg cs)) w):wpAnyH P md l.toArray Q S (fuel+1) listed a w:=
  Ep (v:= .agg cs) hi hs hf hr hQ (by
    have h2:=yieldsIf_load_mid (P:=P) (ops:=l.toArray) (S:=S) hw ty x ho g 0 hx cs.toList d (fun w hw=>(hb w hw).range) hu hd (by simpa using hz);simpa using h2) hS (by rw[hl];exact h)
theorem pI (hi:l[i]?=some oi)(hs:Region.noSelect l.toArray=true)(hf:Region.free md l.toArray listed i=true)(hr:(Region.ready md l.toArray listed).contains i=true)
    (ty:TypeId)(x:Operand)(ho:oi.op= .load ty x)(g o n:Nat)(t:TypeId)(cs:Array Value)(d:TypeDesc)
    (hQ:∀c a w,Q (.panic c) (a.put oi.dst (.agg (cs.extract o (o+n)))) w->Q (.panic c) a w)(hw:Region.wanted oi (yielded l.toArray a.tmps)=true)(hx:a.eval x= .pointer (some ⟨g,o,none⟩))(hb:∀w,S w->Al w g t cs)
    (hu:P.underlying ty=some d)(hd:d.isRow=true)(hz:(P.info? ty).map (·.size)=some n)(hn:o+n<=cs.size)(hS:S w)
    (hl:listed.setIfInBounds i true=listed')(h:wpAnyH P md l.toArray Q S fuel listed' (a.put oi.dst (.agg (cs.extract o (o+n)))) w):wpAnyH P md l.toArray Q S (fuel+1) listed a w:=
  Ep (v:= .agg (cs.extract o (o+n))) hi hs hf hr hQ (by
    have h2:=yieldsIf_load_mid (P:=P) (ops:=l.toArray) (S:=S) hw ty x ho g o hx (cs.extract o (o+n)).toList d (fun w hw=>(hb w hw).part o n) hu hd (by rw[hz];congr 1;simp;omega);rw[Array.toArray_toList]at h2;exact h2) hS (by rw[hl];exact h)
theorem eQ (hi:l[i]?=some oi)(hs:Region.noSelect l.toArray=true)(hf:Region.free md l.toArray listed i=true)(hr:(Region.ready md l.toArray listed).contains i=true)
    (hQ:∀c a w,Q (.panic c) (a.put oi.dst undef) w->Q (.panic c) a w)(hn:Region.wanted oi (yielded l.toArray a.tmps)=false)(hS:S w)
    (hl:listed.setIfInBounds i true=listed')(h:wpAnyH P md l.toArray Q S fuel listed' (a.put oi.dst undef) w):wpAnyH P md l.toArray Q S (fuel+1) listed a w:=
  Uj hi hs hf hr hQ hn hS (by rw[hl];exact h)
theorem Xw {f:FuncId}{args:Array Value}{Φ:Ending->World->Prop}(hi:l[i]?=some oi)(hr:Region.ready md l.toArray listed=[i])(hw:Region.wanted oi (yielded l.toArray a.tmps)=true)
    (hv:(execOp a.eval oi).run P w= .ok (.enter f args) w)(hc:Calls P f args w Φ)(hl:listed.setIfInBounds i true=listed')
    (h:∀e w',Φ e w'->∃v,e= .returned v/\S w'/\wpAnyH P md l.toArray Q S fuel listed' (a.put oi.dst v) w'):wpAnyH P md l.toArray Q S (fuel+1) listed a w:=
  El hi hr (fun K hK=>by
    rw[if_pos hw];refine Gm hv hc fun e w' he=> ?_
    obtain⟨v,hv,hS,hh⟩:=h e w' he;exact⟨v,hv,hK.out _ _ hS (fun _=>by rw[hl];exact hh)⟩)
theorem Ns (hi:l[i]?=some oi)(hr:Region.ready md l.toArray listed=[i])(hw:Region.wanted oi (yielded l.toArray a.tmps)=true)
    (hv:(execOp a.eval oi).run P w= .ok (.value v) w')(hS:S w')(hl:listed.setIfInBounds i true=listed')
    (h:wpAnyH P md l.toArray Q S fuel listed' (a.put oi.dst v) w'):wpAnyH P md l.toArray Q S (fuel+1) listed a w:=
  El hi hr (fun K hK=>by
    rw[if_pos hw];unfold Oper.wp;rw[hv];exact hK.out _ _ hS (fun _=>by rw[hl];exact h))
theorem lS (hi:l[i]?=some oi)(hr:Region.ready md l.toArray listed=[i])(hg:oi.guard=none)(ty:TypeId)(x y:Operand)(ho:oi.op= .store ty x y)
    (g:Nat)(t:TypeId)(cs0 cs:Array Value)(hx:a.eval x= .pointer (π g))(hy:a.eval y= .agg cs)(hb:Al w g t cs0)(hl0:cs.size=cs0.size)
    (hz:(P.info? ty).map (·.size)=some cs.size)(h1:cs.all (·.oneCell')=true)(hS:S (w.setCells g 0 cs.toList))(hl:listed.setIfInBounds i true=listed')
    (h:wpAnyH P md l.toArray Q S fuel listed' (a.put oi.dst undef) (w.setCells g 0 cs.toList)):wpAnyH P md l.toArray Q S (fuel+1) listed a w:=
  Rv hi hr hg ty x y ho g t cs0 cs hx hy hb hl0 hz h1 hS (by rw[hl];exact h)
theorem sR {j:Nat}{oj:Oper}{u:Value}{wi wj:World}{lj:Array Bool}(hi:l[i]?=some oi)(hj:l[j]?=some oj)(hr:Region.ready md l.toArray listed=[i,j])
    (hw:Region.wanted oi (yielded l.toArray a.tmps)=true)(hv:(execOp a.eval oi).run P w= .ok (.value v) wi)(hS:S wi)(hl:listed.setIfInBounds i true=listed')
    (hwj:Region.wanted oj (yielded l.toArray a.tmps)=true)(hvj:(execOp a.eval oj).run P w= .ok (.value u) wj)(hSj:S wj)(hlj:listed.setIfInBounds j true=lj)
    (h:wpAnyH P md l.toArray Q S fuel listed' (a.put oi.dst v) wi)(h2:wpAnyH P md l.toArray Q S fuel lj (a.put oj.dst u) wj):wpAnyH P md l.toArray Q S (fuel+1) listed a w:=
  wpAnyH_ready hr (by simp) (AllReadyH.cons (by rw[wL];exact hi) (fun K hK=>by
    rw[if_pos hw];unfold Oper.wp;rw[hv];exact hK.out _ _ hS (fun _=>by rw[hl];exact h)) (AllReadyH.cons (by rw[wL];exact hj) (fun K hK=>by
    rw[if_pos hwj];unfold Oper.wp;rw[hvj];exact hK.out _ _ hSj (fun _=>by rw[hlj];exact h2)) AllReadyH.nil))
end
theorem Al.setPart {w:World}{g:Nat}{t:TypeId}{cs:List Value}(h:Al w g t cs.toArray)(o:Nat)(vs:List Value)(hl:o+vs.length<=cs.length):Al (w.setCells g o vs) g t (cs.take o++vs++cs.drop (o+vs.length)).toArray:=Jr g vs o w t cs h hl
theorem Al.therePart {w:World}{g:Nat}{t:TypeId}{cs:List Value}(h:Al w g t cs.toArray)(o n:Nat)(hl:o+n<=cs.length):w.there g o n:=fun j hj=>by
  rw[h.cell,h.frozen];simp;omega
theorem Ol {P:Program}(w:World)(b o:Nat)(ty:TypeId)(v:Value)(ht:w.there b o 1)(hi:(P.info? ty).map (·.size)=some 1)(hc:v.cells=#[v])(h1:v.oneCell'=true):
  (storeVar ty ⟨b,o,none⟩ v).run P w= .ok () (w.setCells b o [v]):=by
 have:=run_storeCells_cells (P:=P) b o [v] 0 w (fun j hj=>by simpa using(ht j (by simpa using hj)).1) (fun j hj=>by simpa using(ht j (by simpa using hj)).2)
  (fun u hu=>by simp at hu;rw[hu];exact h1)
 cases hq:P.info? ty with
 |none=>simp[hq]at hi
 |some i=>
  have hs:i.size=1:=by simpa[hq]using hi
  simp only[xO]at this;simp[storeVar,sizeOf,typeInfo,hq,hc,hs,this]
def bl:Nat->Nat->List Bool
  |0,_=>[]
  |n+1,m=>(m%2==1)::bl n (m/2)
abbrev bs (n m:Nat):Array Bool:=(bl n m).toArray
abbrev z4:Array Value:=#[.bool false,.slice none 0 0,.bool false,.slice none 0 0]
abbrev z8:Array Value:=#[.bool false,.slice none 0 0,.bool false,.slice none 0 0,.bool false,.slice none 0 0,.bool false,.slice none 0 0]
section
variable {P:Program} {l:List Oper} {Q:Exit->Act->World->Prop} {md:Region.Mode} {S:World->Prop} {oi:Oper} {fuel:Nat} {listed:Array Bool} {a:Act} {w:World} {v:Value} {ty:TypeId} {x:Operand} {t:TypeId} {d:TypeDesc} {g:Nat} {cs:Array Value} {ops:Array Oper} {rest:List Oper} {op:Oper}
theorem mV (i:Nat)(listed':Array Bool)(hS:S w)(h:wpAnyH P md l.toArray Q S fuel listed' (a.put oi.dst v) w)(hi:l[i]?=some oi:=by rfl)(hs:Region.noSelect l.toArray=true:=by kernel_rfl)(hf:Region.free md l.toArray listed i=true:=by kernel_rfl)(hr:(Region.ready md l.toArray listed).contains i=true:=by kernel_rfl)(hQ:∀c a w,Q (.panic c) (a.put oi.dst v) w->Q (.panic c) a w:=by intro _ _ _ h;exact h)(hw:Region.wanted oi (yielded l.toArray a.tmps)=true:=by rfl)(hv:∀w,S w->(execOp a.eval oi).run P w= .ok (.value v) w:=by intro w A0;(try dsimp only at A0);go_simp<;>with_reducible rfl)(hl:listed.setIfInBounds i true=listed':=by kernel_rfl):wpAnyH P md l.toArray Q S (fuel+1) listed a w:=Lr hi hs hf hr hQ hw hv hS hl h
theorem mL (i:Nat)(listed':Array Bool)(hb:∀w,S w->Al w g t cs)(hu:P.underlying ty=some d)(hz:(P.info? ty).map (·.size)=some cs.size)(hS:S w)(h:wpAnyH P md l.toArray Q S fuel listed' (a.put oi.dst (.agg cs)) w)(hi:l[i]?=some oi:=by rfl)(hs:Region.noSelect l.toArray=true:=by kernel_rfl)(hf:Region.free md l.toArray listed i=true:=by kernel_rfl)(hr:(Region.ready md l.toArray listed).contains i=true:=by kernel_rfl)(ho:oi.op= .load ty x:=by rfl)(hQ:∀c a w,Q (.panic c) (a.put oi.dst (.agg cs)) w->Q (.panic c) a w:=by intro _ _ _ h;exact h)(hw:Region.wanted oi (yielded l.toArray a.tmps)=true:=by rfl)(hx:a.eval x= .pointer (π g):=by rfl)(hd:d.isRow=true:=by rfl)(hl:listed.setIfInBounds i true=listed':=by kernel_rfl):wpAnyH P md l.toArray Q S (fuel+1) listed a w:=eR hi hs hf hr ty x ho g t cs d hQ hw hx hb hu hd hz hS hl h
theorem mP (i:Nat)(listed':Array Bool)(o n:Nat)(hb:∀w,S w->Al w g t cs)(hu:P.underlying ty=some d)(hn:o+n<=cs.size)(hS:S w)(h:wpAnyH P md l.toArray Q S fuel listed' (a.put oi.dst (.agg (cs.extract o (o+n)))) w)(hi:l[i]?=some oi:=by rfl)(hs:Region.noSelect l.toArray=true:=by kernel_rfl)(hf:Region.free md l.toArray listed i=true:=by kernel_rfl)(hr:(Region.ready md l.toArray listed).contains i=true:=by kernel_rfl)(ho:oi.op= .load ty x:=by rfl)(hQ:∀c a w,Q (.panic c) (a.put oi.dst (.agg (cs.extract o (o+n)))) w->Q (.panic c) a w:=by intro _ _ _ h;exact h)(hw:Region.wanted oi (yielded l.toArray a.tmps)=true:=by rfl)(hx:a.eval x= .pointer (some ⟨g,o,none⟩):=by rfl)(hd:d.isRow=true:=by rfl)(hz:(P.info? ty).map (·.size)=some n:=by kernel_rfl)(hl:listed.setIfInBounds i true=listed':=by kernel_rfl):wpAnyH P md l.toArray Q S (fuel+1) listed a w:=pI hi hs hf hr ty x ho g o n t cs d hQ hw hx hb hu hd hz hn hS hl h
theorem mC {f:FuncId}{args:Array Value}{Φ:Ending->World->Prop}(i:Nat)(listed':Array Bool)(hc:Calls P f args w Φ)(h:∀e w',Φ e w'->∃v,e= .returned v/\S w'/\wpAnyH P md l.toArray Q S fuel listed' (a.put oi.dst v) w')(hi:l[i]?=some oi:=by rfl)(hr:Region.ready md l.toArray listed=[i]:=by kernel_rfl)(hw:Region.wanted oi (yielded l.toArray a.tmps)=true:=by rfl)(hv:(execOp a.eval oi).run P w= .ok (.enter f args) w:=by go_simp)(hl:listed.setIfInBounds i true=listed':=by kernel_rfl):wpAnyH P md l.toArray Q S (fuel+1) listed a w:=Xw hi hr hw hv hc hl h
theorem pV {w':World}(h:wpList P ops Q rest (a.put op.dst v) w')(hw:Region.wanted op (yielded ops a.tmps)=true:=by rfl)(hv:(execOp a.eval op).run P w= .ok (.value v) w':=by go_simp<;>with_reducible rfl):wpList P ops Q (op::rest) a w:=Lp hw hv h
theorem qV (v:Value)(h:wpList P ops Q rest (a.put op.dst v) w)(hw:Region.wanted op (yielded ops a.tmps)=true:=by rfl)(hv:(execOp a.eval op).run P w= .ok (.value v) w:=by go_simp<;>with_reducible rfl):wpList P ops Q (op::rest) a w:=Lp hw hv h
theorem mX (i:Nat)(listed':Array Bool)(v:Value)(hS:S w)(h:wpAnyH P md l.toArray Q S fuel listed' (a.put oi.dst v) w)(hi:l[i]?=some oi:=by rfl)(hs:Region.noSelect l.toArray=true:=by kernel_rfl)(hf:Region.free md l.toArray listed i=true:=by kernel_rfl)(hr:(Region.ready md l.toArray listed).contains i=true:=by kernel_rfl)(hQ:∀c a w,Q (.panic c) (a.put oi.dst v) w->Q (.panic c) a w:=by intro _ _ _ h;exact h)(hw:Region.wanted oi (yielded l.toArray a.tmps)=true:=by rfl)(hv:∀w,S w->(execOp a.eval oi).run P w= .ok (.value v) w:=by intro w A0;go_simp<;>with_reducible rfl)(hl:listed.setIfInBounds i true=listed':=by kernel_rfl):wpAnyH P md l.toArray Q S (fuel+1) listed a w:=Lr hi hs hf hr hQ hw hv hS hl h
theorem mU {w':World}(i:Nat)(listed':Array Bool)(hS:S w')(h:wpAnyH P md l.toArray Q S fuel listed' (a.put oi.dst v) w')(hi:l[i]?=some oi:=by rfl)(hr:Region.ready md l.toArray listed=[i]:=by kernel_rfl)(hw:Region.wanted oi (yielded l.toArray a.tmps)=true:=by rfl)(hv:(execOp a.eval oi).run P w= .ok (.value v) w':=by go_simp)(hl:listed.setIfInBounds i true=listed':=by kernel_rfl):wpAnyH P md l.toArray Q S (fuel+1) listed a w:=Ns hi hr hw hv hS hl h
theorem mO (i:Nat)(listed':Array Bool){y:Operand}{cs0:Array Value}(cs:Array Value)(hb:Al w g t cs0)(hl0:cs.size=cs0.size)(hz:(P.info? ty).map (·.size)=some cs.size)(h1:cs.all (·.oneCell')=true)(hS:S (w.setCells g 0 cs.toList))(h:wpAnyH P md l.toArray Q S fuel listed' (a.put oi.dst undef) (w.setCells g 0 cs.toList))(hi:l[i]?=some oi:=by rfl)(hr:Region.ready md l.toArray listed=[i]:=by kernel_rfl)(hg:oi.guard=none:=by rfl)(ho:oi.op= .store ty x y:=by rfl)(hx:a.eval x= .pointer (π g):=by rfl)(hy:a.eval y= .agg cs:=by rfl)(hl:listed.setIfInBounds i true=listed':=by kernel_rfl):wpAnyH P md l.toArray Q S (fuel+1) listed a w:=lS hi hr hg ty x y ho g t cs0 cs hx hy hb hl0 hz h1 hS hl h
theorem pL (hb:Al w g t cs)(hu:P.underlying ty=some d)(hi:(P.info? ty).map (·.size)=some cs.size)(h:wpList P ops Q rest (a.put op.dst (.agg cs)) w)(hw:Region.wanted op (yielded ops a.tmps)=true:=by rfl)(ho:op.op= .load ty x:=by rfl)(hx:a.eval x= .pointer (π g):=by rfl)(hd:d.isRow=true:=by rfl):wpList P ops Q (op::rest) a w:=pD hw ty x ho g t cs d hx hb hu hd hi h
theorem pP (o n:Nat)(hb:Al w g t cs)(hu:P.underlying ty=some d)(hn:o+n<=cs.size)(h:wpList P ops Q rest (a.put op.dst (.agg (cs.extract o (o+n)))) w)(hw:Region.wanted op (yielded ops a.tmps)=true:=by rfl)(ho:op.op= .load ty x:=by rfl)(hx:a.eval x= .pointer (some ⟨g,o,none⟩):=by rfl)(hd:d.isRow=true:=by rfl)(hi:(P.info? ty).map (·.size)=some n:=by kernel_rfl):wpList P ops Q (op::rest) a w:=pC hw ty x ho g o n t cs d hx hb hu hd hi hn h
theorem pO {y:Operand}{cs0:Array Value}(cs:Array Value)(hb:Al w g t cs0)(hl:cs.size=cs0.size)(hi:(P.info? ty).map (·.size)=some cs.size)(h1:cs.all (·.oneCell')=true)(h:wpList P ops Q rest (a.put op.dst undef) (w.setCells g 0 cs.toList))(hw:Region.wanted op (yielded ops a.tmps)=true:=by rfl)(ho:op.op= .store ty x y:=by rfl)(hx:a.eval x= .pointer (π g):=by rfl)(hy:a.eval y= .agg cs:=by rfl):wpList P ops Q (op::rest) a w:=lJ hw ty x y ho g t cs0 cs hx hy hb hl hi h1 h
theorem tr {a:World}{b:World}{c:World}(h:Hd (Aa a b))(k:Hd (Aa b c)):Hd (Aa a c):=zH (h.1.trans k.1)
end
end
section
def Ar (l:List Value):Prop:=∀x∈l,∀k:Int,x≠ .int .u32 k
theorem Ar.app {a b:List Value}(h:Ar a)(k:Ar b):Ar (a++b):=fun x hx=>by
  rcases List.mem_append.1 hx with hx|hx
  · exact h x hx
  exact k x hx
theorem Ar.left {a b:List Value}(h:Ar (a++b)):Ar a:=fun x hx=>h x (List.mem_append_left _ hx)
theorem Ar.right {a b:List Value}(h:Ar (a++b)):Ar b:=fun x hx=>h x (List.mem_append_right _ hx)
theorem Ar.drop {a:List Value}(h:Ar a)(n:Nat):Ar (a.drop n):=fun x hx=>h x (List.mem_of_mem_drop hx)
theorem Ar.arr {a:List Value}(h:Ar a):Pp a.toArray:=Sz _ h
theorem Py (z:Array Value)(n:Nat)(hs:0<z.size)(h:Ar z.toList):Ar (Builtin.zeroCells z n).toList:=by
  intro x hx k;unfold Builtin.zeroCells at hx;simp only[Array.toList_map,List.mem_map]at hx;obtain⟨i,_,rfl⟩:=hx;have A0:i%z.size<z.size:=Nat.mod_lt _ hs;rw[getElem!_pos z _ A0];exact h _ (by simp) k
def Bi (w:World)(base:Nat)(e:TypeId)(size:Nat)(v:Value)(n:Nat)(xs:List Value):Prop:=
  xs.length=n*size/\(v= .slice none 0 0/\n=0\/
    ∃g cap rest,v= .slice (π g) n cap/\base<=g/\Al w g e (xs++rest).toArray/\n<=cap/\cap<=maxLen/\xs.length+rest.length=cap*size/\Ar (xs++rest))
theorem Bi.nil (w:World)(base:Nat)(e:TypeId)(size:Nat):Bi w base e size (.slice none 0 0) 0 []:=⟨by simp,.inl ⟨rfl,rfl⟩⟩
theorem Bi.empty (w:World)(base:Nat)(e:TypeId)(size:Nat)(hb:base<=w.heap.size):Bi (w.alloc (.cells #[] e)) base e size (.slice (π w.heap.size) 0 0) 0 []:=
  ⟨by simp,.inr ⟨w.heap.size,0,[],rfl,hb,Al.new w e #[],Bz _,wM _,by simp,by intro x hx;simp at hx⟩⟩
theorem Bi.ext {w w':World}{base:Nat}{e:TypeId}{size:Nat}{v:Value}{n:Nat}{xs:List Value}(h:Bi w base e size v n xs)(x:Aa w w'):Bi w' base e size v n xs:=by
  obtain⟨h1,h2|⟨g,A0,rest,a,b,c,d⟩⟩:=h
  · exact⟨h1,.inl h2⟩
  exact⟨h1,.inr ⟨g,A0,rest,a,b,c.ext x,d⟩⟩
theorem Bi.block {w:World}{base:Nat}{e:TypeId}{size:Nat}{v:Value}{n:Nat}{xs:List Value}(h:Bi w base e size v n xs):∀k,v.ownBlock=some k->base<=k:=by
  intro k hk;obtain⟨h1,⟨rfl,_⟩|⟨g,A0,rest,rfl,b,_⟩⟩:=h
  · simp[Value.ownBlock]at hk
  simp[Value.ownBlock]at hk;omega
theorem cO (w:World)(g:Nat)(cs:Array Value):Ba g w (w.setRow g cs):=
  ⟨rfl,rfl,rfl,by simp,fun k _ hk=>setRow_other w g k _ (fun e=>hk (by rw[e]))⟩
theorem Lb {P:Program}(w:World)(base:Nat)(t ty e:TypeId)(i:TypeInfo)(z:Value)(size bytes:Nat)(ht:P.underlying t=some (.slice e))(hi:P.info? e=some i)(hz:i.zero=some z)
    (hsize:i.size=size)(hby:i.bytes=bytes)(hzs:z.cells.size=size)(hsz:0<size)(hzu:Ar z.cells.toList)
    (v:Value)(n:Nat)(xs:List Value)(hown:Bi w base e size v n xs)
    (a:Addr)(m c:Nat)(news:List Value)(hl:news.length=m*size)(hnews:∀j u,news[j]?=some u->w.cell? (a.add j)=some u)(h1:∀u∈news,u.oneCell'=true)(hnu:Ar news)
    (hm:0<m)(h63:n+m<=maxLen)(hbytes:(n+m)*bytes<=140737488355328)(hbase:base<=w.heap.size):
    ∃ v' w',(Builtin.append_ #[t,t] ty #[v,.slice (some a) m c]).run P w= .ok v' w'/\Bi w' base e size v' (n+m) (xs++news)/\w.grownBy w' v.ownBlock/\
      (∀(r:RV) (q:Rat),r.Is w q->r.Is w' q)/\∃g cap,v'= .slice (π g) (n+m) cap/\(v.ownBlock=some g\/w.heap.size<=g):=by
  subst hsize;subst hby
  have A5:n+m<=9223372036854775807:=by simp only[maxLen]at h63;omega
  have A3:(xs++news).length=(n+m)*i.size:=by rw[wD,hown.1,hl,xL]
  have A9:∀k,Ar (Builtin.zeroCells z.cells k).toList:=fun k=>Py _ _ ω hzu
  have A2:∀(A0:Nat),A0<n+m->Ar xs->∀(row:Option Nat),
      Bi (w.drew.alloc (.cells (xs.toArray++news.toArray++Builtin.zeroCells z.cells (grownCap w (n+m) A0 e-(n+m))) e)) base e i.size
        (.slice (π w.heap.size) (n+m) (grownCap w (n+m) A0 e)) (n+m) (xs++news)/\
      w.grownBy (w.drew.alloc (.cells (xs.toArray++news.toArray++Builtin.zeroCells z.cells (grownCap w (n+m) A0 e-(n+m))) e)) row/\
      Aa w (w.drew.alloc (.cells (xs.toArray++news.toArray++Builtin.zeroCells z.cells (grownCap w (n+m) A0 e-(n+m))) e)):=by
    intro A0 ho B0 row;have B1:=grownCap_ge w (n+m) A0 e;have A8:grownCap w (n+m) A0 e<=maxLen:=grownCap_le_maxLen w (n+m) A0 e h63;refine⟨⟨A3,.inr ⟨w.heap.size,_,(Builtin.zeroCells z.cells (grownCap w (n+m) A0 e-(n+m))).toList,rfl,hbase,?_,B1,A8,?_,(B0.app hnu).app (A9 _)⟩⟩,⟨rfl,rfl,rfl,by simp,fun k hk _=>Below.heap_alloc w.drew _ k hk⟩,((Aa.refl w).drew).alloc _⟩
    · have h:=Al.new w.drew e (xs.toArray++news.toArray++Builtin.zeroCells z.cells (grownCap w (n+m) A0 e-(n+m)))
      have e2:(xs++news++(Builtin.zeroCells z.cells (grownCap w (n+m) A0 e-(n+m))).toList).toArray=xs.toArray++news.toArray++Builtin.zeroCells z.cells (grownCap w (n+m) A0 e-(n+m)):=by
        apply Array.ext';simp
      rw[e2];exact h
    rw[A3,Array.length_toList,size_zeroCells,hzs,<-xL];congr 1;omega
  rcases hown.2 with⟨rfl,rfl⟩|⟨g,cap,rest,rfl,hbg,hg,hnc,A8,hcs,hnr⟩
  · have hx:xs=[]:=wP (by simpa using hown.1)
    subst hx;have hr:=run_append_nil (P:=P) w t ty e i z ht hi hz a m c news hl hnews ω ω (by have hb:=hbytes;simp only[wH]at hb;omega);have A1:=A2 0 ω (by intro x hx;simp at hx) (Value.ownBlock (.slice none 0 0));simp only[wH,wT,Array.empty_append]at A1⊢;exact⟨_,_,hr,A1.1,A1.2.1,fun r q h=>h.ext A1.2.2,_,_,rfl,.inr (Bz _)⟩
  by_cases hroom:n+m<=cap
  · have A7:(xs++rest).toArray.size=cap*i.size:=by simp[hcs]
    have A6:n*i.size+news.length<=(xs++rest).toArray.size:=by rw[hl,A7,<-xL];exact xC _ hroom
    have hr:=run_append_room (P:=P) w t ty e i ht hi g n cap _ hg a m c news hl hnews h1 hroom A6;have ho:=cO w g ((xs++rest).toArray.toList.take (n*i.size)++news++(xs++rest).toArray.toList.drop (n*i.size+news.length)).toArray;have e1:(xs++rest).toArray.toList.take (n*i.size)=xs:=by rw[List.toList_toArray,<-hown.1];exact List.take_left
    have e2:(xs++rest).toArray.toList.drop (n*i.size+news.length)=rest.drop news.length:=by
      rw[List.toList_toArray,<-hown.1,List.drop_append,List.drop_of_length_le ω,wT];congr 1;omega
    rw[e1,e2]at hr ho;refine⟨_,_,hr,⟨A3,.inr ⟨g,cap,rest.drop news.length,rfl,hbg,setRow_heap w g _ _ e _ hg,hroom,A8,?_,(hnr.left.app hnu).app (hnr.right.drop _)⟩⟩,?_,fun r q h=>h.own hg hnr.arr ho,_,_,rfl,.inl (by simp[Value.ownBlock])⟩
    · rw[wD,List.length_drop]
      have h5:(xs++rest).toArray.size=xs.length+rest.length:=by simp
      have h6:=hown.1;omega
    exact ho
  have A4:∀j u,xs[j]?=some u->w.cell? ((⟨g,0,none⟩:Addr).add j)=some u:=by
    intro j u hj;have e3:(⟨g,0,none⟩:Addr).add j=⟨g,j,none⟩:=by unfold Addr.add;split<;>simp_all
    rw[e3,hg.cell j,wL,wQ (List.getElem?_eq_some_iff.1 hj).1];exact hj
  have hr:=run_append_grow (P:=P) w t ty e i z ht hi hz ⟨g,0,none⟩ n cap xs hown.1 A4 a m c news hl hnews ω ω (growslice_fits ω hbytes);have A1:=A2 cap ω hnr.left (Value.ownBlock (.slice (π g) n cap));exact⟨_,_,hr,A1.1,A1.2.1,fun r q h=>h.ext A1.2.2,_,_,rfl,.inr (Bz _)⟩
theorem Dw {P:Program}{w:World}{o:Oper}{a:Act}{K:Act->World->Prop}{Q:Exit->Act->World->Prop}(s x:Operand)(t:TypeId)
    (ho:o.op= .call {callee:= .builtin .append,args:=#[s,x],argTypes:=#[t,t]})
    (base:Nat)(e:TypeId)(i:TypeInfo)(z:Value)(size bytes:Nat)(ht:P.underlying t=some (.slice e))(hi:P.info? e=some i)(hz:i.zero=some z)
    (hsize:i.size=size)(hby:i.bytes=bytes)(hzs:z.cells.size=size)(hsz:0<size)(hzu:Ar z.cells.toList)
    (v:Value)(n:Nat)(xs:List Value)(hs:a.eval s=v)(hown:Bi w base e size v n xs)
    (ad:Addr)(m c:Nat)(news:List Value)(hx:a.eval x= .slice (some ad) m c)(hl:news.length=m*size)(hnews:∀j u,news[j]?=some u->w.cell? (ad.add j)=some u)(h1:∀u∈news,u.oneCell'=true)(hnu:Ar news)
    (hm:0<m)(A1:n+m<=maxLen)(hbytes:(n+m)*bytes<=140737488355328)(hbase:base<=w.heap.size)
    (h:∀g A0 w',(v.ownBlock=some g\/w.heap.size<=g)->Bi w' base e size (.slice (π g) (n+m) A0) (n+m) (xs++news)->w.grownBy w' v.ownBlock->(∀(r:RV) (q:Rat),r.Is w q->r.Is w' q)->K (a.put o.dst (.slice (π g) (n+m) A0)) w'):o.wp P a w K Q:=by
  obtain⟨v',w',hr,h2,h3,h4,g,A0,rfl,hf⟩:=Lb (P:=P) w base t o.type e i z size bytes ht hi hz hsize hby hzs hsz hzu v n xs hown ad m c news hl hnews h1 hnu hm A1 hbytes hbase;unfold Oper.wp execOp;simp only[ho,resolve,invoke,builtin,Sem.run_bind,Sem.run_pure,Result.andThen_ok,List.map_toArray,List.map_cons,List.map_nil,hs,hx,hr];exact h g A0 w' hf h2 h3 h4
theorem Fg {P:Program}{l:List Oper}{Q:Exit->Act->World->Prop}{md:Region.Mode}{S:World->Prop}{i:Nat}{oi:Oper}{fuel:Nat}{listed listed':Array Bool}{a:Act}{w:World}
    (hi:l[i]?=some oi)(hs:Region.noSelect l.toArray=true)(hf:Region.free md l.toArray listed i=true)(hr:(Region.ready md l.toArray listed).contains i=true)
    (ty:TypeId)(x:Operand)(ho:oi.op= .load ty x)(g o:Nat)(cs:List Value)(d:TypeDesc)
    (hQ:∀c a w,Q (.panic c) (a.put oi.dst (.agg cs.toArray)) w->Q (.panic c) a w)(hw:Region.wanted oi (yielded l.toArray a.tmps)=true)(hx:a.eval x= .pointer (some ⟨g,o,none⟩))(hb:∀w,S w->w.rangeAt g o cs)
    (hu:P.underlying ty=some d)(hd:d.isRow=true)(hz:(P.info? ty).map (·.size)=some cs.length)(hS:S w)
    (hl:listed.setIfInBounds i true=listed')(h:wpAnyH P md l.toArray Q S fuel listed' (a.put oi.dst (.agg cs.toArray)) w):wpAnyH P md l.toArray Q S (fuel+1) listed a w:=
  Ep (v:= .agg cs.toArray) hi hs hf hr hQ (yieldsIf_load_mid (P:=P) (ops:=l.toArray) (S:=S) hw ty x ho g o hx cs d hb hu hd hz) hS (by rw[hl];exact h)
theorem Nt {P:Program}{l:List Oper}{Q:Exit->Act->World->Prop}{md:Region.Mode}{S:World->Prop}{j:Nat}{oi:Oper}{fuel:Nat}{listed listed':Array Bool}{a:Act}{w:World}
    (hj:l[j]?=some oi)(hr:Region.ready md l.toArray listed=[j])(hw:Region.wanted oi (yielded l.toArray a.tmps)=true)(s x:Operand)(t:TypeId)
    (ho:oi.op= .call {callee:= .builtin .append,args:=#[s,x],argTypes:=#[t,t]})
    (base:Nat)(e:TypeId)(i:TypeInfo)(z:Value)(size bytes:Nat)(ht:P.underlying t=some (.slice e))(hi:P.info? e=some i)(hz:i.zero=some z)
    (hsize:i.size=size)(hby:i.bytes=bytes)(hzs:z.cells.size=size)(hsz:0<size)(hzu:Ar z.cells.toList)
    (v:Value)(n:Nat)(xs:List Value)(hs:a.eval s=v)(hown:Bi w base e size v n xs)
    (ad:Addr)(m c:Nat)(news:List Value)(hx:a.eval x= .slice (some ad) m c)(hl:news.length=m*size)(hnews:∀j u,news[j]?=some u->w.cell? (ad.add j)=some u)(h1:∀u∈news,u.oneCell'=true)(hnu:Ar news)
    (hm:0<m)(A0:n+m<=maxLen)(hbytes:(n+m)*bytes<=140737488355328)(hbase:base<=w.heap.size)(hl':listed.setIfInBounds j true=listed')
    (h:∀g cap w',(v.ownBlock=some g\/w.heap.size<=g)->Bi w' base e size (.slice (π g) (n+m) cap) (n+m) (xs++news)->w.grownBy w' v.ownBlock->(∀(r:RV) (q:Rat),r.Is w q->r.Is w' q)->
      S w'/\wpAnyH P md l.toArray Q S fuel listed' (a.put oi.dst (.slice (π g) (n+m) cap)) w'):wpAnyH P md l.toArray Q S (fuel+1) listed a w:=
  El hj hr (fun K hK=>by
    rw[if_pos hw];refine Dw s x t ho base e i z size bytes ht hi hz hsize hby hzs hsz hzu v n xs hs hown ad m c news hx hl hnews h1 hnu hm A0 hbytes hbase fun g cap w' hf h2 h3 h4=> ?_
    obtain⟨k1,k2⟩:=h g cap w' hf h2 h3 h4;exact hK.out _ _ k1 (fun _=>by rw[hl'];exact k2))
theorem Al.grown {w w':World}{b:Nat}{t:TypeId}{cs:Array Value}{row:Option Nat}(h:Al w b t cs)(hg:w.grownBy w' row)(hne:row≠some b):Al w' b t cs:=by
  unfold Al;rw[hg.block b h.lt (Ne.symm hne)];exact h
section
variable {P:Program} {l:List Oper} {Q:Exit->Act->World->Prop} {md:Region.Mode} {S:World->Prop} {oi:Oper} {fuel:Nat} {listed:Array Bool} {a:Act} {w:World} {a':Act} {v:Value}
theorem mR (i:Nat)(listed':Array Bool){ty:TypeId}{x:Operand}{d:TypeDesc}(g o:Nat)(cs:List Value)(hb:∀w,S w->w.rangeAt g o cs)(hu:P.underlying ty=some d)(hS:S w)(h:wpAnyH P md l.toArray Q S fuel listed' (a.put oi.dst (.agg cs.toArray)) w)(hi:l[i]?=some oi:=by rfl)(hs:Region.noSelect l.toArray=true:=by kernel_rfl)(hf:Region.free md l.toArray listed i=true:=by kernel_rfl)(hr:(Region.ready md l.toArray listed).contains i=true:=by kernel_rfl)(ho:oi.op= .load ty x:=by rfl)(hQ:∀c a w,Q (.panic c) (a.put oi.dst (.agg cs.toArray)) w->Q (.panic c) a w:=by intro _ _ _ h;exact h)(hw:Region.wanted oi (yielded l.toArray a.tmps)=true:=by rfl)(hx:a.eval x= .pointer (some ⟨g,o,none⟩):=by rfl)(hd:d.isRow=true:=by rfl)(hz:(P.info? ty).map (·.size)=some cs.length:=by kernel_rfl)(hl:listed.setIfInBounds i true=listed':=by kernel_rfl):wpAnyH P md l.toArray Q S (fuel+1) listed a w:=Fg hi hs hf hr ty x ho g o cs d hQ hw hx hb hu hd hz hS hl h
theorem zx (i:Nat)(listed':Array Bool)(v:Value)(hS:S w)(h:wpAnyH P md l.toArray Q S fuel listed' a' w)(hi:l[i]?=some oi:=by rfl)(hs:Region.noSelect l.toArray=true:=by kernel_rfl)(hf:Region.free md l.toArray listed i=true:=by kernel_rfl)(hr:(Region.ready md l.toArray listed).contains i=true:=by kernel_rfl)(hQ:∀c a w,Q (.panic c) (a.put oi.dst v) w->Q (.panic c) a w:=by intro _ _ _ h;exact h)(hw:Region.wanted oi (yielded l.toArray a.tmps)=true:=by rfl)(hv:∀w,S w->(execOp a.eval oi).run P w= .ok (.value v) w:=by intro w A0;go_simp<;>with_reducible rfl)(hl:listed.setIfInBounds i true=listed':=by kernel_rfl)(ha:a.put oi.dst v=a':=by simp only[ζ]<;>rfl):wpAnyH P md l.toArray Q S (fuel+1) listed a w:=by subst ha;exact Lr hi hs hf hr hQ hw hv hS hl h
theorem zv (i:Nat)(listed':Array Bool)(hS:S w)(h:wpAnyH P md l.toArray Q S fuel listed' a' w)(hi:l[i]?=some oi:=by rfl)(hs:Region.noSelect l.toArray=true:=by kernel_rfl)(hf:Region.free md l.toArray listed i=true:=by kernel_rfl)(hr:(Region.ready md l.toArray listed).contains i=true:=by kernel_rfl)(hQ:∀c a w,Q (.panic c) (a.put oi.dst v) w->Q (.panic c) a w:=by intro _ _ _ h;exact h)(hw:Region.wanted oi (yielded l.toArray a.tmps)=true:=by rfl)(hv:∀w,S w->(execOp a.eval oi).run P w= .ok (.value v) w:=by intro w A0;(try dsimp only at A0);go_simp<;>with_reducible rfl)(hl:listed.setIfInBounds i true=listed':=by kernel_rfl)(ha:a.put oi.dst v=a':=by simp only[ζ]<;>rfl):wpAnyH P md l.toArray Q S (fuel+1) listed a w:=by subst ha;exact Lr hi hs hf hr hQ hw hv hS hl h
theorem zs (i:Nat)(listed':Array Bool)(hS:S w)(h:wpAnyH P md l.toArray Q S fuel listed' a' w)(hi:l[i]?=some oi:=by rfl)(hs:Region.noSelect l.toArray=true:=by kernel_rfl)(hf:Region.free md l.toArray listed i=true:=by kernel_rfl)(hr:(Region.ready md l.toArray listed).contains i=true:=by kernel_rfl)(hQ:∀c a w,Q (.panic c) (a.put oi.dst undef) w->Q (.panic c) a w:=by intro _ _ _ h;exact h)(hn:Region.wanted oi (yielded l.toArray a.tmps)=false:=by rfl)(hl:listed.setIfInBounds i true=listed':=by kernel_rfl)(ha:a.put oi.dst undef=a':=by simp only[ζ]<;>rfl):wpAnyH P md l.toArray Q S (fuel+1) listed a w:=by subst ha;exact eQ hi hs hf hr hQ hn hS hl h
theorem zl (i:Nat)(listed':Array Bool){ty:TypeId}{x:Operand}{t:TypeId}{d:TypeDesc}{g:Nat}{cs:Array Value}(hb:∀w,S w->Al w g t cs)(hu:P.underlying ty=some d)(hz:(P.info? ty).map (·.size)=some cs.size)(hS:S w)(h:wpAnyH P md l.toArray Q S fuel listed' a' w)(hi:l[i]?=some oi:=by rfl)(hs:Region.noSelect l.toArray=true:=by kernel_rfl)(hf:Region.free md l.toArray listed i=true:=by kernel_rfl)(hr:(Region.ready md l.toArray listed).contains i=true:=by kernel_rfl)(ho:oi.op= .load ty x:=by rfl)(hQ:∀c a w,Q (.panic c) (a.put oi.dst (.agg cs)) w->Q (.panic c) a w:=by intro _ _ _ h;exact h)(hw:Region.wanted oi (yielded l.toArray a.tmps)=true:=by rfl)(hx:a.eval x= .pointer (π g):=by rfl)(hd:d.isRow=true:=by rfl)(hl:listed.setIfInBounds i true=listed':=by kernel_rfl)(ha:a.put oi.dst (.agg cs)=a':=by simp only[ζ]<;>rfl):wpAnyH P md l.toArray Q S (fuel+1) listed a w:=by subst ha;exact eR hi hs hf hr ty x ho g t cs d hQ hw hx hb hu hd hz hS hl h
theorem zr (i:Nat)(listed':Array Bool){ty:TypeId}{x:Operand}{d:TypeDesc}(g o:Nat)(cs:List Value)(hb:∀w,S w->w.rangeAt g o cs)(hu:P.underlying ty=some d)(hS:S w)(h:wpAnyH P md l.toArray Q S fuel listed' a' w)(hi:l[i]?=some oi:=by rfl)(hs:Region.noSelect l.toArray=true:=by kernel_rfl)(hf:Region.free md l.toArray listed i=true:=by kernel_rfl)(hr:(Region.ready md l.toArray listed).contains i=true:=by kernel_rfl)(ho:oi.op= .load ty x:=by rfl)(hQ:∀c a w,Q (.panic c) (a.put oi.dst (.agg cs.toArray)) w->Q (.panic c) a w:=by intro _ _ _ h;exact h)(hw:Region.wanted oi (yielded l.toArray a.tmps)=true:=by rfl)(hx:a.eval x= .pointer (some ⟨g,o,none⟩):=by rfl)(hd:d.isRow=true:=by rfl)(hz:(P.info? ty).map (·.size)=some cs.length:=by kernel_rfl)(hl:listed.setIfInBounds i true=listed':=by kernel_rfl)(ha:a.put oi.dst (.agg cs.toArray)=a':=by simp only[ζ]<;>rfl):wpAnyH P md l.toArray Q S (fuel+1) listed a w:=by subst ha;exact Fg hi hs hf hr ty x ho g o cs d hQ hw hx hb hu hd hz hS hl h
theorem zq {ops:Array Oper}{rest:List Oper}{op:Oper}(v:Value)(h:wpList P ops Q rest a' w)(hw:Region.wanted op (yielded ops a.tmps)=true:=by rfl)(hv:(execOp a.eval op).run P w= .ok (.value v) w:=by go_simp<;>with_reducible rfl)(ha:a.put op.dst v=a':=by simp only[ζ]<;>rfl):wpList P ops Q (op::rest) a w:=by subst ha;exact Lp hw hv h
theorem zp {ops:Array Oper}{rest:List Oper}{op:Oper}{w':World}(v:Value)(hv:(execOp a.eval op).run P w= .ok (.value v) w')(h:wpList P ops Q rest a' w')(hw:Region.wanted op (yielded ops a.tmps)=true:=by rfl)(ha:a.put op.dst v=a':=by simp only[ζ]<;>rfl):wpList P ops Q (op::rest) a w:=by subst ha;exact Lp hw hv h
theorem zk {ops:Array Oper}{rest:List Oper}{op:Oper}(h:wpList P ops Q rest a' w)(hn:Region.wanted op (yielded ops a.tmps)=false:=by rfl)(ha:a.put op.dst undef=a':=by simp only[ζ]<;>rfl):wpList P ops Q (op::rest) a w:=by subst ha;exact eP hn h
theorem zu (i:Nat)(listed':Array Bool)(hS:S w)(h:wpAnyH P md l.toArray Q S fuel listed' a' w)(hi:l[i]?=some oi:=by rfl)(hs:Region.noSelect l.toArray=true:=by kernel_rfl)(hf:Region.free md l.toArray listed i=true:=by kernel_rfl)(hr:(Region.ready md l.toArray listed).contains i=true:=by kernel_rfl)(hv:∀w,S w->(execOp a.eval oi).run P w= .ok (.value v) w)(hQ:∀c a w,Q (.panic c) (a.put oi.dst v) w->Q (.panic c) a w:=by intro _ _ _ h;exact h)(hw:Region.wanted oi (yielded l.toArray a.tmps)=true:=by rfl)(hl:listed.setIfInBounds i true=listed':=by kernel_rfl)(ha:a.put oi.dst v=a':=by simp only[ζ]<;>rfl):wpAnyH P md l.toArray Q S (fuel+1) listed a w:=by subst ha;exact Lr hi hs hf hr hQ hw hv hS hl h
theorem zo (i:Nat)(listed':Array Bool)(hS:S w)(h:wpAnyH P md l.toArray Q S fuel listed' (a.put oi.dst v) w)(hi:l[i]?=some oi:=by rfl)(hs:Region.noSelect l.toArray=true:=by kernel_rfl)(hf:Region.free md l.toArray listed i=true:=by kernel_rfl)(hr:(Region.ready md l.toArray listed).contains i=true:=by kernel_rfl)(hv:∀w,S w->(execOp a.eval oi).run P w= .ok (.value v) w)(hQ:∀c a w,Q (.panic c) (a.put oi.dst v) w->Q (.panic c) a w:=by intro _ _ _ h;exact h)(hw:Region.wanted oi (yielded l.toArray a.tmps)=true:=by rfl)(hl:listed.setIfInBounds i true=listed':=by kernel_rfl):wpAnyH P md l.toArray Q S (fuel+1) listed a w:=Lr hi hs hf hr hQ hw hv hS hl h
end
end
section
attribute [local go_sem ↓] Go.wp_at_zero Go.wp_at_succ Az Ay
theorem RV.In.own {L:Nat}{w w':World}{a:RV}{q:Rat}(h:a.In L w q){g:Nat}{t:TypeId}{cs:Array Value}(hb:Al w g t cs)(hn:Pp cs)(o:Ba g w w'):a.In L w' q:=by
  obtain⟨y,z,⟨m,⟨xs,d1,k1⟩,e1⟩,⟨n,⟨ys,d2,k2⟩,e2⟩,e⟩:=h;exact⟨y,z,⟨m,⟨xs,d1.own hb hn o,k1⟩,e1⟩,⟨n,⟨ys,d2.own hb hn o,k2⟩,e2⟩,e⟩
theorem uY {L:Nat}{w:World}{a b:RV}{q r:Rat}(h:a.In L w q)(h':b.In L w r)(hL:L<=70000):Calls prog 47 #[.agg #[.bool a.n,.slice a.p a.l a.c,.bool a.m,.slice a.p2 a.l2 a.c2],.agg #[.bool b.n,.slice b.p b.l b.c,.bool b.m,.slice b.p2 b.l2 b.c2]] w fun e w'=>e= .returned (iV (Di q r))/\Aa w w':=kZ _ _ _ _ _ _ _ _ L q r w h h' hL
def vR (q l:Rat):Rat:=if q<l then q else l
def vQ (q h:Rat):Rat:=if h<q then q else h
theorem Vi (n m:Bool)(u v:Value)(L:Nat)(y z:Int)(w:World)(hu:Cb L w n u y)(hv:Cb L w m v z)(hL:L<=150000)(hz:z≠0):
    Calls prog 41 #[.agg #[.bool n,u],.agg #[.bool m,v]] w (Kj (Rat.divInt y z) 0 w):=by
  obtain⟨p,l,cp,rfl⟩:=hu.form;obtain⟨q,k,cq,rfl⟩:=hv.form;have A1:Aa w (((ν (ν w n p l cp) m q k cq).alloc (.cells #[.bool false,.slice none 0 0,.bool false,.slice none 0 0] 31))):=((Ak.alloc _).alloc _).alloc _;have HS:=zH (Hl m (.slice q k cq) L z _ (hv.ext A1) ω);have A0:z.sign≠0:=by rw[Ne,Int.sign_eq_zero_iff_zero];exact hz
  generalize z.sign=s at HS A0;have g0:(s==0)=false:=beq_eq_false_iff_ne.2 A0;have A4:=zH (fun W (h:Aa w W)=>Gw n m (.slice p l cp) (.slice q k cq) L y z W (hu.ext h) (hv.ext h) hL hz);have HG:=zH (Ha (ν (ν w n p l cp) m q k cq));have A3:=zH (fun w1 n1 t1 n2 t2 u0 u1 u2 u3=>Dq (w:=(ν (ν w n p l cp) m q k cq)) (w1:=w1) (n:=n1) (u:=t1) (m:=n2) (v:=t2) (q:=Rat.divInt y z) (u0:=u0) (u1:=u1) (u2:=u2) (u3:=u3));have A6:=zH A1;clear A1 hu hv hz A0;have gb:∀w',Aa (ν (ν w n p l cp) m q k cq) w'->
      w'.cell? ⟨w.heap.size,0,none⟩=some (.bool n)/\w'.cell? ⟨w.heap.size,1,none⟩=some (.slice p l cp)/\w'.cell? ⟨w.heap.size+1,0,none⟩=some (.bool m)/\w'.cell? ⟨w.heap.size+1,1,none⟩=some (.slice q k cq):=fun w' h=>
    ⟨h.get (by simp),h.get (by simp),h.get (by simp),h.get (by simp)⟩
  have A5:=zH gb;clear gb;go_enter func41,ntmps41;go_wp2_with fail;refine HS.1.mono ?_;rintro e w1 ⟨rfl,he⟩;have g1:=A5.1 _ ((Ak.alloc _).trans he);go_wp2_with fail
  refine(A4.1 _ (A6.1.trans he)).mono ?_;rintro e w2 ⟨b1,t1,b2,t2,rfl,hc,A2⟩;have HC:=zH hc;obtain⟨p1,l1,k1,p2,l2,k2,rfl,rfl⟩:=hc.form;have gk:=HG.1 _ (he.trans A2);simp only[wG]at gk;clear hc g1;go_wp2_with fail
  have st:=A3.1 _ _ _ _ _ (.bool b1) (.slice p1 l1 k1) (.bool b2) (.slice p2 l2 k2) (he.trans A2) HC.1;simp only[wG]at st;refine bodyPost_ret (v:= .tuple #[.agg #[.bool b1,.slice p1 l1 k1,.bool b2,.slice p2 l2 k2],iV 0]) ?_ rfl ⟨_,_,_,_,rfl,st.1,((Ak.alloc _).alloc _).trans st.2⟩;simp[results,results41,go_sem, *]
theorem Lm (a b:Int)(w:World)(h1: -9223372036854775808<=a)(h2:a<=9223372036854775807)(h3: -9223372036854775808<=b)(h4:b<=9223372036854775807)(hb:b≠0):
    Calls prog 17 #[iV a,iV b] w (Kj (Rat.divInt a b) 0 w):=by
  have HF:=zH (fun W=>Gk a W h1 h2);have A8:=zH (fun W=>Gk b W h3 h4);have A2:=Ta a h1 h2;have A1:=Ta b h3 h4;have HN:=zH (fun W n u m v (x:Bu W n u a) (z:Bu W m v b)=>Vi n m u v 2 a b W (x.isIn A2) (z.isIn A1) ω hb);have HG:=zH (Ha w);have A7:=zH (fun w1 n1 t1 n2 t2 u0 u1 u2 u3=>Dq (w:=w) (w1:=w1) (n:=n1) (u:=t1) (m:=n2) (v:=t2) (q:=Rat.divInt a b) (u0:=u0) (u1:=u1) (u2:=u2) (u3:=u3));clear h1 h2 h3 h4 A2 A1 hb;go_enter func17,ntmps17
  go_wp2_with fail;refine(HF.1 _).mono ?_;rintro e w1 ⟨b1,t1,rfl,A6,A4⟩;have B0:=zH A6;clear A6;go_wp2_with fail
  refine(A8.1 _).mono ?_;rintro e w2 ⟨b2,t2,rfl,A5,A0⟩;have A9:=zH A5;clear A5;go_wp2_with fail
  refine(HN.1 _ _ _ _ _ (B0.1.ext A0) A9.1).mono ?_;rintro e w3 ⟨n1,u1,n2,u2,rfl,hc,A3⟩;have HC:=zH hc;obtain⟨p1,l1,k1,p2,l2,k2,rfl,rfl⟩:=hc.form;have gk:=HG.1 _ ((A4.trans A0).trans A3);clear hc;go_wp2_with fail
  have st:=A7.1 _ _ _ _ _ (.bool n1) (.slice p1 l1 k1) (.bool n2) (.slice p2 l2 k2) ((A4.trans A0).trans A3) HC.1;refine bodyPost_ret (v:= .tuple #[.agg #[.bool n1,.slice p1 l1 k1,.bool n2,.slice p2 l2 k2],iV 0]) ?_ rfl ⟨_,_,_,_,rfl,st.1,st.2⟩;simp[results,results17,go_sem, *]
end
section
theorem Ee.one {L:Nat}{w:World}{cs:Array Value}{q:Rat}(h:Ee L w cs q):cs.all (·.oneCell')=true:=by obtain⟨a,rfl,_⟩:=h;exact all_oneCell_toArray (by simp[Value.oneCell'])
theorem sJ {L:Nat}{w:World}{cs ct:Array Value}{q r:Rat}(hp:Ee L w cs q)(hq:Ee L w ct r)(hL:L<=70000):
    Calls prog 25 #[.agg cs,.agg ct] w fun e w'=>∃c,e= .returned (.agg c)/\Mt w' c (q+r)/\Aa w w':=by
  obtain⟨a,rfl,h1⟩:=hp;obtain⟨b,rfl,h2⟩:=hq;refine(uZ h1 h2 hL).mono fun e w' h=> ?_
  obtain⟨c,rfl,h3,h4⟩:=h;exact⟨_,rfl,⟨c,rfl,h3⟩,h4⟩
theorem sH {L:Nat}{w:World}{cs ct:Array Value}{q r:Rat}(hp:Ee L w cs q)(hq:Ee L w ct r)(hL:L<=70000):
    Calls prog 27 #[.agg cs,.agg ct] w fun e w'=>∃c,e= .returned (.agg c)/\Mt w' c (q-r)/\Aa w w':=by
  obtain⟨a,rfl,h1⟩:=hp;obtain⟨b,rfl,h2⟩:=hq;refine(uW h1 h2 hL).mono fun e w' h=> ?_
  obtain⟨c,rfl,h3,h4⟩:=h;exact⟨_,rfl,⟨c,rfl,h3⟩,h4⟩
theorem sI {L:Nat}{w:World}{cs ct:Array Value}{q r:Rat}(hp:Ee L w cs q)(hq:Ee L w ct r)(hL:L<=70000):
    Calls prog 26 #[.agg cs,.agg ct] w fun e w'=>∃c,e= .returned (.agg c)/\Mt w' c (q*r)/\Aa w w':=by
  obtain⟨a,rfl,h1⟩:=hp;obtain⟨b,rfl,h2⟩:=hq;refine(uX h1 h2 hL).mono fun e w' h=> ?_
  obtain⟨c,rfl,h3,h4⟩:=h;exact⟨_,rfl,⟨c,rfl,h3⟩,h4⟩
theorem Ig {L:Nat}{w:World}{cs ct:Array Value}{q r:Rat}(hp:Ee L w cs q)(hq:Ee L w ct r)(hL:L<=70000):
    Calls prog 47 #[.agg cs,.agg ct] w fun e w'=>e= .returned (iV (Di q r))/\Aa w w':=by
  obtain⟨a,rfl,h1⟩:=hp;obtain⟨b,rfl,h2⟩:=hq;exact uY h1 h2 hL
theorem lC {L:Nat}{w:World}{cs ct:Array Value}{q r:Rat}{s:Int}(hs:s=Di q r)(hp:Ee L w cs q)(hq:Ee L w ct r)(hL:L<=70000):
    Calls prog 47 #[.agg cs,.agg ct] w fun e w'=>e= .returned (iV s)/\Aa w w':=by
  subst hs;exact Ig hp hq hL
theorem rA {L:Nat}{w:World}{cs:Array Value}{q:Rat}(hp:Ee L w cs q)(hL:L<=300000):
    Calls prog 54 #[.agg cs] w fun e w'=>∃c,e= .returned (.agg c)/\Mt w' c q/\Aa w w':=by
  obtain⟨a,rfl,h1⟩:=hp;refine(uB h1 hL).mono fun e w' h=> ?_
  obtain⟨c,rfl,h3,h4⟩:=h;exact⟨_,rfl,⟨c,rfl,h3⟩,h4⟩
theorem Ff (a:Int)(w:World)(h1: -9223372036854775808<=a)(h2:a<=9223372036854775807):
    Calls prog 20 #[iV a] w fun e w'=>∃c,e= .returned (.agg c)/\Mt w' c (a:Rat)/\Aa w w':=by
  refine(On a w h1 h2).mono fun e w' h=> ?_
  obtain⟨c,rfl,h3,h4⟩:=Fn.v h;exact⟨_,rfl,⟨c,rfl,h3⟩,h4⟩
theorem vD {L:Nat}{w:World}{cs ct:Array Value}{q r:Rat}(hp:Ee L w cs q)(hq:Ee L w ct r)(hL:L<=70000)(hr:r≠0):
    Calls prog 72 #[.agg cs,.agg ct] w fun e w'=>∃c,e= .returned (.tuple #[.agg c,iV 0])/\Mt w' c (q/r)/\Aa w w':=by
  obtain⟨a,rfl,h1⟩:=hp;obtain⟨b,rfl,h2⟩:=hq;refine(kN _ _ _ _ _ _ _ _ L q r w h1 h2 hL hr).mono fun e w' h=> ?_
  obtain⟨c,rfl,h3,h4⟩:=Kj.v h;exact⟨_,rfl,⟨c,rfl,h3⟩,h4⟩
theorem Gg {L:Nat}{w:World}{cs ct:Array Value}{q r:Rat}(hp:Ee L w cs q)(hq:Ee L w ct r)(hL:L<=60000):
    Calls prog 115 #[.agg cs,.agg ct] w fun e w'=>e= .returned (iV (Di q r))/\Aa w w':=by
  obtain⟨a,rfl,h1⟩:=hp;obtain⟨b,rfl,h2⟩:=hq;exact gZ _ _ _ _ _ _ _ _ L q r w h1 h2 (ω)
theorem eH {L:Nat}{w:World}{cs:Array Value}{q:Rat}(hp:Ee L w cs q)(hL:L<=100000):
    Calls prog 122 #[.agg cs] w fun e w'=>∃c,e= .returned (.agg c)/\Mt w' c q/\Aa w w':=by
  obtain⟨a,rfl,h1⟩:=hp;refine(Ez _ _ _ _ L q w h1 ω).mono fun e w' h=> ?_
  obtain⟨c,rfl,h3,h4⟩:=Fn.v h;exact⟨_,rfl,⟨c,rfl,h3⟩,h4⟩
theorem Cw (a:Int)(w:World)(h1: -9223372036854775808<=a)(h2:a<=9223372036854775807):
    Calls prog 31 #[iV a] w fun e w'=>∃c,e= .returned (.agg c)/\Mt w' c (a:Rat)/\Aa w w':=by
  refine(Nb a w h1 h2).mono fun e w' h=> ?_
  obtain⟨c,rfl,h3,h4⟩:=Fn.v h;exact⟨_,rfl,⟨c,rfl,h3⟩,h4⟩
theorem Nl {L:Nat}{w:World}{cs ct:Array Value}{q r:Rat}(hp:Ee L w cs q)(hq:Ee L w ct r)(hL:L<=60000):
    Calls prog 68 #[.agg cs,.agg ct] w fun e w'=>∃c,e= .returned (.agg c)/\Mt w' c (q+r)/\Aa w w':=by
  obtain⟨a,rfl,h1⟩:=hp;obtain⟨b,rfl,h2⟩:=hq;refine(Vj _ _ _ _ _ _ _ _ L q r w h1 h2 ω).mono fun e w' h=> ?_
  obtain⟨c,rfl,h3,h4⟩:=Fn.v h;exact⟨_,rfl,⟨c,rfl,h3⟩,h4⟩
theorem cM {L:Nat}{w:World}{cs ct:Array Value}{q r:Rat}(hp:Ee L w cs q)(hq:Ee L w ct r)(hL:L<=60000):
    Calls prog 70 #[.agg cs,.agg ct] w fun e w'=>∃c,e= .returned (.agg c)/\Mt w' c (q-r)/\Aa w w':=by
  obtain⟨a,rfl,h1⟩:=hp;obtain⟨b,rfl,h2⟩:=hq;refine(gU _ _ _ _ _ _ _ _ L q r w h1 h2 ω).mono fun e w' h=> ?_
  obtain⟨c,rfl,h3,h4⟩:=Fn.v h;exact⟨_,rfl,⟨c,rfl,h3⟩,h4⟩
theorem Xn {L:Nat}{w:World}{cs ct:Array Value}{q r:Rat}(hp:Ee L w cs q)(hq:Ee L w ct r)(hL:L<=60000):
    Calls prog 69 #[.agg cs,.agg ct] w fun e w'=>∃c,e= .returned (.agg c)/\Mt w' c (q*r)/\Aa w w':=by
  obtain⟨a,rfl,h1⟩:=hp;obtain⟨b,rfl,h2⟩:=hq;refine(gX _ _ _ _ _ _ _ _ L q r w h1 h2 ω).mono fun e w' h=> ?_
  obtain⟨c,rfl,h3,h4⟩:=Fn.v h;exact⟨_,rfl,⟨c,rfl,h3⟩,h4⟩
end
section
attribute [local go_sem ↓] Go.wp_at_zero Go.wp_at_succ Az Ay
theorem oX:Pp z4:=Sz _ (by simp)
theorem Mt.own {w w':World}{cs:Array Value}{q:Rat}(h:Mt w cs q){g:Nat}{t:TypeId}{zs:Array Value}(hb:Al w g t zs)(hn:Pp zs)(o:Ba g w w'):Mt w' cs q:=by
  obtain⟨a,h1,h2⟩:=h;exact⟨a,h1,h2.own hb hn o⟩
theorem oK (k:Int)(h:k.natAbs<4294967296):Nm.rl (k:Rat)<=1:=by
  unfold Nm.rl;rw[Rat.num_intCast,Rat.den_intCast];have h1:Nm.nl k.natAbs<=1:=Nm.nl_le ω;have h2:Nm.nl 1<=1:=Nm.nl_le (by decide);omega
theorem iA (a b:Int)(w:World)(h1: -9223372036854775808<=a)(h2:a<=9223372036854775807)(h3: -9223372036854775808<=b)(h4:b<=9223372036854775807)(hb:b≠0):
    Calls prog 147 #[iV a,iV b] w fun e w'=>∃c,e= .returned (.tuple #[.agg c,iV 0])/\Mt w' c ((a:Rat)/(b:Rat))/\Aa w w':=by
  refine(Un a b w h1 h2 h3 h4 hb).mono fun e w' h=> ?_
  obtain⟨c,rfl,h3,h4⟩:=Kj.v h;exact⟨_,rfl,⟨c,rfl,by rw[<-Rat.divInt_eq_div];exact h3⟩,h4⟩
set_option maxHeartbeats 8000000 in
theorem Yh (n d:Int)(w:World)(h1: -9223372036854775808<=n)(h2:n<=9223372036854775807)(h3: -9223372036854775808<=d)(h4:d<=9223372036854775807)(hd:d≠0):
  Calls prog 105 #[iV n,iV d] w fun e w'=>∃c,e= .returned (.agg c)/\Mt w' c ((n:Rat)/(d:Rat))/\Aa w w':=by
 go_enter func105,ntmps105;go_upto_region 1 with fail;have A4:Al (w.alloc (.cells z4 31)) (w.heap.size) 31 z4:=Al.ext (Al.new_at w _ (by simp) _ _) Ak;have hE:Aa w (w.alloc (.cells z4 31)):=(Ak.alloc _);have A7:w.heap.size<=w.heap.size:=ω
 generalize (w.alloc (.cells z4 31))=wa at*;have E1:=zH hE;have A5:=zH A4;clear hE A4;refine wp_region_lit ?_;refine pV (w':=wa) ?_;try simp only[ζ]
 refine pV (w':=wa) ?_;try simp only[ζ]
 refine Ge (by rfl) (by go_simp) (iA n d _ h1 h2 h3 h4 hd) ?_;rintro e w2 ⟨cf,rfl,hc,hx⟩;have E2:=zH hx;have Fr:=zH hc;have ZF:=hc.size;have OF:=hc.one;clear hc;clear hx;refine⟨_,rfl,?_⟩;try simp only[ζ]
 refine pV (w':=w2) ?_;try simp only[ζ]
 refine pV (w':=w2) ?_;try simp only[ζ]
 refine pV (w':=w2) ?_;try simp only[ζ]
 refine zp (w':=w2.alloc (.cells z4 31)) (.pointer (π w2.heap.size)) (by go_simp) ?_;refine pO cf (Al.new w2 _ _) (Eq.trans ZF rfl) (by rw[show(cf:Array Value).size=4 from ZF];kernel_rfl) OF ?_
 (try simp only[Act.put])
 have A0:w2.heap.size≠w.heap.size:=Nat.ne_of_gt (Al.lt (A5.1.ext E2.1));obtain⟨A3,A2⟩:=Pa w2 31 z4 cf (Eq.trans ZF rfl);generalize (w2.alloc (.cells z4 31)).setCells w2.heap.size 0 (cf:Array Value).toList=w3 at*;generalize w2.heap.size=X3 at*;have E3:=zH A3;have A8:=zH A2;clear A3 A2;refine pV (w':=w3) ?_;try simp only[ζ]
 go_upto_region 2 with fail;refine wp_region_lit ?_;refine pL A8.1 underlying31 (by rw[show(cf:Array Value).size=4 from ZF];kernel_rfl) ?_;try simp only[ζ]
 have o1:=Ba.setCells w3 w.heap.size cf;have A1:=(A5.1.ext (tr E2 E3).1);refine pO cf A1 (Eq.trans ZF rfl) (by rw[show(cf:Array Value).size=4 from ZF];kernel_rfl) OF ?_
 (try simp only[Act.put])
 have A6:=A1.setCells cf (Eq.trans ZF rfl);go_wp2_with fail;refine bodyPost_ret (v:= .agg cf) ?_ rfl ⟨_,rfl,((Fr.1.ext E3.1).own A1 oX o1),(o1.ext (tr E1 (tr E2 E3)).1 A7)⟩;exact By rfl rfl (A6.loadVar rfl rfl (by rw[ZF];rfl))
set_option maxHeartbeats 8000000 in
theorem Ms (L:Nat)(a b:Int)(ct:Array Value)(T:Rat)(w:World)(hT:Ee L w ct T)(h1L:1<=L)(hL:L<=20000)(ha: -10000000<=a/\a<=10000000)(hb: -10000000<=b/\b<=10000000):
  Calls prog 104 #[iV a,iV b,.agg ct] w fun e w'=>∃c,e= .returned (.agg c)/\Mt w' c ((a:Rat)+T*((b-a:Int):Rat))/\Aa w w':=by
 have wd:IntKind.i64.wrap (b-a)=b-a:=by rw[IntKind.wrap_i64];omega
 have rT:=hT.rl h1L;have q0:=oK a ω;have q1:=oK (b-a) ω;have q2:=Nm.rl_mul T ((b-a:Int):Rat);have ZT:=hT.size;have FT:=zH hT;clear hT;go_enter func104,ntmps104
 go_upto_region 1 with fail;have A1:Al ((w.alloc (.cells ct 31)).alloc (.cells z4 31)) (w.heap.size) 31 ct:=Al.ext (Al.new_at w _ (by simp) _ _) (Ak.alloc _);have A6:Al ((w.alloc (.cells ct 31)).alloc (.cells z4 31)) (w.heap.size+1) 31 z4:=Al.ext (Al.new_at (w.alloc (.cells ct 31)) _ (by simp) _ _) Ak;have hE:Aa w ((w.alloc (.cells ct 31)).alloc (.cells z4 31)):=((Ak.alloc _).alloc _);have A9:w.heap.size<=w.heap.size+1:=ω
 have A0:w.heap.size≠w.heap.size+1:=ω;generalize ((w.alloc (.cells ct 31)).alloc (.cells z4 31))=wa at*;generalize w.heap.size+1=R0 at*;have E1:=zH hE;have A3:=zH A1;have B0:=zH A6;clear hE A1 A6;refine wp_region_held_drew (S:=fun x=>Ba R0 wa x) (by kernel_rfl) (Ba.of_ext Ak.drew) (fun _=> ?_);have E2:=zH (show Aa wa wa.drew from Ak.drew);refine mV 0 (bs 10 1) (Ba.of_ext E2.1) ?_;refine zl 2 (bs 10 5) (fun x hx=>(A3.1).own hx A0) underlying31 (by rw[show(ct:Array Value).size=4 from ZT];kernel_rfl) (Ba.of_ext E2.1) ?_;refine zv 3 (bs 10 13) (Ba.of_ext E2.1) ?_;refine zv 4 (bs 10 29) (Ba.of_ext E2.1) ?_;refine zv 5 (bs 10 61) (Ba.of_ext E2.1) ?_;refine mC 1 (bs 10 63) (Ff a _ ω ω) ?_;rintro e w3 ⟨c1,rfl,hc,hx⟩;have E3:=zH hx;have A5:=zH hc;clear hc;clear hx;refine⟨_,rfl,(Ba.of_ext (tr E2 E3).1),?_⟩;try simp only[ζ]
 refine mC 6 (bs 10 127) (Ff (b-a) _ ω ω) ?_;rintro e w4 ⟨c2,rfl,hc,hx⟩;have E4:=zH hx;have A4:=zH hc;clear hc;clear hx;refine⟨_,rfl,(Ba.of_ext (tr E2 (tr E3 E4)).1),?_⟩;try simp only[ζ]
 refine mC 7 (bs 10 255) (sI (L:=L+2) ((FT.1.ext (tr E1 (tr E2 (tr E3 E4))).1).mono ω) (A4.1.isIn ω) ω) ?_;rintro e w5 ⟨c3,rfl,hc,hx⟩;have E5:=zH hx;have FM:=zH hc;clear hc;clear hx;refine⟨_,rfl,(Ba.of_ext (tr E2 (tr E3 (tr E4 E5))).1),?_⟩;try simp only[ζ]
 refine mC 8 (bs 10 511) (sJ (L:=2*L+8) ((A5.1.ext (tr E4 E5).1).isIn ω) (FM.1.isIn ω) ω) ?_;rintro e w6 ⟨c4,rfl,hc,hx⟩;have E6:=zH hx;have Fr:=zH hc;have Z4:=hc.size;have O4:=hc.one;clear hc;clear hx;refine⟨_,rfl,(Ba.of_ext (tr E2 (tr E3 (tr E4 (tr E5 E6)))).1),?_⟩;try simp only[ζ]
 have o1:=Ba.setCells w6 R0 c4;have A2:=(B0.1.ext (tr E2 (tr E3 (tr E4 (tr E5 E6)))).1);have A8:Ba R0 wa (w6.setCells R0 0 (c4:Array Value).toList):=(Ba.then_ext' (tr E2 (tr E3 (tr E4 (tr E5 E6)))).1 o1);refine mO 9 (bs 10 1023) c4 A2 (Eq.trans Z4 rfl) (by rw[show(c4:Array Value).size=4 from Z4];kernel_rfl) O4 A8 ?_
 (try simp only[Act.put])
 have A7:=A2.setCells c4 (Eq.trans Z4 rfl);refine wpAnyH_done (by kernel_rfl) ?_ _;go_wp2_with fail;refine bodyPost_ret (v:= .agg c4) ?_ rfl ⟨_,rfl,(Fr.1.own A2 oX o1),(o1.ext (tr E1 (tr E2 (tr E3 (tr E4 (tr E5 E6))))).1 A9)⟩;exact By rfl rfl (A7.loadVar rfl rfl (by rw[Z4];rfl))
end
section
attribute [local go_sem ↓] Go.wp_at_zero Go.wp_at_succ Ea Dz
def He (n lo hi:Int):Int:=if n<lo then lo else if hi<n then hi else n
theorem jE (n lo hi:Int)(w:World):
    Calls prog 131 #[iV n,iV lo,iV hi] w fun e w'=>e= .returned (iV (He n lo hi))/\w=w':=by
  go_enter func131,ntmps131;go_wp2_with fail;all_goals go_ret
  all_goals refine⟨Ey ?_,rfl⟩
  all_goals unfold He
  · rw[if_pos ‹_›]
  · rw[if_neg ω,if_pos ‹_›]
  rw[if_neg ω,if_neg ω]
theorem mD (n:Int)(w:World):
    Calls prog 81 #[iV n] w fun e w'=>e= .returned (iV (He n (-1048576) 1048576))/\w=w':=by
  go_enter func81,ntmps81;go_wp2_with (go_at_call 131;refine(jE _ _ _ _).mono ?_;rintro e w' ⟨rfl,rfl⟩)
  go_ret;exact⟨rfl,rfl⟩
theorem Pe (x y:Int)(w:World):
    Calls prog 44 #[.agg #[iV x,iV y]] w fun e w'=>e= .returned (.agg #[iV (He x (-1048576) 1048576),iV (He y (-1048576) 1048576)])/\Aa w w':=by
  go_enter func44,ntmps44;go_wp2_with fail;go_region_held3 (fun w'=>w'.cell? ⟨w.heap.size,0,none⟩=some (iV x)/\w'.cell? ⟨w.heap.size,1,none⟩=some (iV y)) (go_keep)
    (first|(go_at_call 81;refine(mD _ _).mono ?_;rintro e w' ⟨rfl,rfl⟩))
  go_wp2_with fail;refine bodyPost_ret (v:= .agg #[iV (He x (-1048576) 1048576),iV (He y (-1048576) 1048576)]) (by simp[results,results44,go_sem]) rfl ⟨rfl,?_⟩;exact(((Ak.alloc _).alloc _).drew)
theorem Ki (x:Int):(He x (-1048576) 1048576==x)=decide (-1048576<=x/\x<=1048576):=by
  rw[Bool.eq_iff_iff];unfold He;simp only[beq_iff_eq,decide_eq_true_eq];split
  · omega
  split<;>omega
def Cm (x y:Int):Bool:=decide (-1048576<=x/\x<=1048576)&&decide (-1048576<=y/\y<=1048576)
theorem Fw (x y:Int)(w:World):
    Calls prog 19 #[.agg #[iV x,iV y]] w fun e w'=>e= .returned (.bool (Cm x y))/\Aa w w':=by
  have h0:∀w',Aa (w.alloc (.cells #[iV x,iV y] 24)) w'->w'.cell? ⟨w.heap.size,0,none⟩=some (iV x):=fun w' h=>h.get (by simp)
  have h1:∀w',Aa (w.alloc (.cells #[iV x,iV y] 24)) w'->w'.cell? ⟨w.heap.size,1,none⟩=some (iV y):=fun w' h=>h.get (by simp)
  go_enter func19,ntmps19;go_wp2_with fail;go_region_held3 (fun w'=>Aa (w.alloc (.cells #[iV x,iV y] 24)) w') (first|assumption|exact Aa.drew Ak|(apply Aa.via;assumption;assumption))
    (first|(go_at_call 44;refine(Pe _ _ _).mono ?_;rintro e w' ⟨rfl,hb⟩))
  go_wp2_with fail;go_ret;refine⟨?_,(Ak.alloc _).trans ‹_›⟩;rw[Ki,Ki];rfl
theorem Bj (x y:Int)(w:World):
    Calls prog 30 #[.agg #[iV x,iV y]] w fun e w'=>e= .returned (.bool (Cm x y))/\Aa w w':=by
  have hp:∀b,Cm x y=b->(fun(e:Ending) (w':World)=>e= .returned (.bool b)/\Aa w w')=(fun(e:Ending) (w':World)=>e= .returned (.bool (Cm x y))/\Aa w w'):=fun b h=>by rw[h]
  by_cases hx: -1048576<=x
  · by_cases hx2:x<=1048576
    · by_cases hy: -1048576<=y
      · rw[<-hp (decide (y<=1048576)) (by simp[Cm,hx,hx2,hy])]
        clear hp;go_enter func30,ntmps30;go_wp2_with fail;go_ret;exact⟨rfl,Ak.alloc _⟩
      rw[<-hp false (by simp[Cm,hy])];clear hp;go_enter func30,ntmps30;go_wp2_with fail;go_ret;exact⟨rfl,Ak.alloc _⟩
    rw[<-hp false (by simp[Cm,hx2])];clear hp;go_enter func30,ntmps30;go_wp2_with fail;go_ret;exact⟨rfl,Ak.alloc _⟩
  rw[<-hp false (by simp[Cm,hx])];clear hp;go_enter func30,ntmps30;go_wp2_with fail;go_ret;exact⟨rfl,Ak.alloc _⟩
def Ug (w:World)(b off:Nat)(ps:List (Int×Int)):Prop:=
  ∀i,i<ps.length->w.cell? ⟨b,off+i*2,none⟩=some (iV (ps.getD i (0,0)).1)/\w.cell? ⟨b,off+i*2+1,none⟩=some (iV (ps.getD i (0,0)).2)
theorem Ug.ext {w w':World}{b off:Nat}{ps:List (Int×Int)}(h:Ug w b off ps)(e:Aa w w'):Ug w' b off ps:=
  fun i hi=>⟨e.get (h i hi).1,e.get (h i hi).2⟩
def Dd (ps:List (Int×Int)):Bool:=ps.all fun p=>Cm p.1 p.2
theorem Ib (ps:List (Int×Int))(k:Nat)(hk:k<ps.length):
    Dd (ps.take (k+1))=(Dd (ps.take k)&&Cm (ps.getD k (0,0)).1 (ps.getD k (0,0)).2):=by
  unfold Dd;rw[wV hk,List.all_append];simp[List.getD,hk]
theorem No (ps:List (Int×Int))(k:Nat)(hk:k<ps.length)(h:Cm ps[k].1 ps[k].2=false):Dd ps=false:=by
  unfold Dd;rw[List.all_eq_false];exact⟨ps[k],List.getElem_mem hk,by simp[h]⟩
theorem cQ (ps:List (Int×Int))(k:Nat)(hk:k<ps.length)(h0:Dd (ps.take k)=true)(h:Cm ps[k].1 ps[k].2=true):Dd (ps.take (k+1))=true:=by
  rw[Ib ps k hk,h0];simp[List.getD,hk,h]
theorem Px (ps:List (Int×Int))(k:Nat)(hk:k<=ps.length)(hge:¬k<ps.length)(h0:Dd (ps.take k)=true):Dd ps=true:=by
  rwa[wI ω]at h0
theorem aF (x y:Int):Cm x y=true↔(-1048576<=x/\x<=1048576)/\ -1048576<=y/\y<=1048576:=by simp[Cm]
end
section
attribute [local go_sem ↓] Go.wp_at_zero Go.wp_at_succ Ea Dz Az Ay
def Gs (w:World)(v:Value)(ps:List (Int×Int)):Prop:=
  ∃(A:Option Addr) (cap:Nat),v= .slice A ps.length cap/\(ps≠ []->∃g off,A=some ⟨g,off,none⟩/\Ug w g off ps)
theorem Gs.ext {w w':World}{v:Value}{ps:List (Int×Int)}(h:Gs w v ps)(e:Aa w w'):Gs w' v ps:=by
  obtain⟨A,A1,hv,ha⟩:=h;exact⟨A,A1,hv,fun hn=>by obtain⟨g,A0,hA,hp⟩:=ha hn;exact⟨g,A0,hA,hp.ext e⟩⟩
abbrev Bb:=List (Int×Int)
def Ch (w:World)(v:Value)(rs:List Bb):Prop:=
  ∃(A:Option Addr) (cap:Nat),v= .slice A rs.length cap/\(0<rs.length->∃g off,A=some ⟨g,off,none⟩/\∀i r,rs[i]?=some r->∃B cb,w.cell? ⟨g,off+i,none⟩=some (.slice B r.length cb)/\Gs w (.slice B r.length cb) r)
theorem Ch.ext {w w':World}{v:Value}{rs:List Bb}(h:Ch w v rs)(e:Aa w w'):Ch w' v rs:=by
  obtain⟨A,A1,hv,ha⟩:=h;refine⟨A,A1,hv,fun hn=> ?_⟩;obtain⟨g,A0,hA,hp⟩:=ha hn;refine⟨g,A0,hA,fun i r hr=> ?_⟩;obtain⟨B,cb,h1,h2⟩:=hp i r hr;exact⟨B,cb,e.get h1,h2.ext e⟩
def Gj (rs:List Bb):Nat:=rs.foldl (fun n r=>n+r.length) 0
theorem Fo {rs:List Bb}{k:Nat}{r:Bb}(h:rs[k]?=some r):Gj (rs.take (k+1))=Gj (rs.take k)+r.length:=by
  obtain⟨hk,rfl⟩:=List.getElem?_eq_some_iff.1 h;unfold Gj;rw[wV hk,List.foldl_append];rfl
theorem Wf (rs:List Bb)(n:Nat):rs.foldl (fun n r=>n+r.length) n=n+Gj rs:=by
  induction rs generalizing n with
  |nil=>rfl
  | cons r rs ih=>
    show rs.foldl (fun n r=>n+r.length) (n+r.length)=n+rs.foldl (fun n r=>n+r.length) (0+r.length);rw[ih,ih (0+r.length)];omega
theorem dZ (a b:List Bb):Gj (a++b)=Gj a+Gj b:=by
  have h:=Wf b (Gj a);rw[<-h];unfold Gj;rw[List.foldl_append]
theorem Fe (rs:List Bb)(k:Nat):Gj (rs.take k)<=Gj rs:=by
  have h:=dZ (rs.take k) (rs.drop k);rw[List.take_append_drop]at h;omega
def Hh (rs:List Bb):Bool:=decide (Gj rs<=4096)&&rs.all Dd
theorem Ou {rs:List Bb}{k:Nat}{r:Bb}(h:rs[k]?=some r)(h2:4096<Gj (rs.take (k+1))\/Dd r=false):Hh rs=false:=by
  unfold Hh;rcases h2 with h2|h2
  · have h3:decide (Gj rs<=4096)=false:=by
      rw[decide_eq_false_iff_not];have:=Fe rs (k+1);omega
    rw[h3];rfl
  have h3:rs.all Dd=false:=by
    rw[List.all_eq_false];exact⟨r,wE h,by simp[h2]⟩
  rw[h3,Bool.and_false]
theorem eM {rs:List Bb}(h1:Gj rs<=4096)(h2:∀i r,i<rs.length->rs[i]?=some r->Dd r=true):Hh rs=true:=by
  unfold Hh;rw[decide_eq_true h1,Bool.true_and,List.all_eq_true];intro r hr;obtain⟨i,hi⟩:=List.mem_iff_getElem?.1 hr;exact h2 i r (List.getElem?_eq_some_iff.1 hi).1 hi
theorem eI (x y:Int)(w:World):
    Calls prog 80 #[.agg #[iV x,iV y]] w fun e w'=>e= .returned (.bool (!Cm x y))/\Aa w w':=by
  go_enter func80,ntmps80;go_wp2_with (go_at_call 19;refine(Fw _ _ _).mono ?_;rintro e w2 ⟨rfl,hx⟩)
  go_ret;exact⟨rfl,(Ak.alloc _).trans hx⟩
theorem eO (x y:Int)(w:World):
    Calls prog 101 #[.agg #[iV x,iV y]] w fun e w'=>e= .returned (.bool (!Cm x y))/\Aa w w':=by
  go_enter func101,ntmps101;go_wp2_with (go_at_call 19;refine(Fw _ _ _).mono ?_;rintro e w2 ⟨rfl,hx⟩)
  go_ret;exact⟨rfl,(Ak.alloc _).trans hx⟩
theorem oN (u:Value)(ps:List (Int×Int))(w:World)(hu:Gs w u ps)(hn:ps.length<=1048576):
    Calls prog 130 #[u,.func (.func 80) #[] #[]] w fun e w'=>∃z:Int,e= .returned (iV z)/\(decide (0<=z))=(!Dd ps)/\Aa w w':=by
  obtain⟨A,cu,rfl,hA⟩:=hu;have HA:=zH hA;clear hA;go_enter func130,ntmps130
  go_wp2_with fail;go_loopg [8] ps.length (fun c i wr=>∃k:Nat,k<=ps.length/\c=ps.length-k/\i= iV k/\Dd (ps.take k)=true/\Aa w wr)
  case atStart=>exact⟨0,wM _,rfl,rfl,rfl,Aa.refl _⟩
  obtain⟨k,hk,rfl,rfl,ho,hx⟩:=hrel;have HO:=zH ho;have HX:=zH hx;clear ho hx;by_cases hlt:k<ps.length
  · obtain⟨g,A6,rfl,hp⟩:=HA.1 (by rintro rfl;simp at hlt)
    obtain⟨c0,c1⟩:=(hp.ext HX.1) k hlt;have A2:=zH (Ib ps k hlt);have A5:=zH (fun h=>No ps k hlt h);have A1:ps.getD k (0,0)=ps[k]:=by simp[List.getD,hlt]
    rw[A1]at c0 c1 A2;have A4:(k:Int)<(ps.length:Int):=ω
    have A3:=zH hlt;generalize ps[k]=x at*;clear hp A1 hlt;by_cases hx:Cm x.1 x.2=true
    · have hb:(!Cm x.1 x.2)=false:=by rw[hx];rfl
      go_upto_if 16 with(go_at_call 80;refine(eI _ _ _).mono ?_;rintro e w2 ⟨rfl,A0⟩)
      go_wp2_with fail;go_roundg (ps.length-(k+1))
      case measure=>have:=A3.1;omega
      case rel=>exact⟨k+1,A3.1,rfl,by go_num,by rw[A2.1,HO.1,hx];rfl,HX.1.trans A0⟩
    have hb:(!Cm x.1 x.2)=true:=by rw[eq_false_of_ne_true hx];rfl
    go_upto_if 16 with(go_at_call 80;refine(eI _ _ _).mono ?_;rintro e w2 ⟨rfl,A0⟩)
    go_wp2_with fail;go_ret;exact⟨_,rfl,by rw[A5.1 (eq_false_of_ne_true hx)];simp,HX.1.trans A0⟩
  have HE:=zH (Px ps k hk hlt HO.1);have A7:¬(k:Int)<(ps.length:Int):=ω
  go_wp2_with fail;go_ret;exact⟨_,rfl,by rw[HE.1];simp,HX.1⟩
theorem Zr (u:Value)(ps:List (Int×Int))(w:World)(hu:Gs w u ps)(hn:ps.length<=1048576):
    Calls prog 79 #[u,.func (.func 80) #[] #[]] w fun e w'=>e= .returned (.bool (!Dd ps))/\Aa w w':=by
  have HC:=zH (oN u ps w hu hn);clear hu;go_enter func79,ntmps79;go_wp2_with (go_at_call 130;refine HC.1.mono ?_;rintro e w2 ⟨z,rfl,hz,A0⟩)
  go_ret;exact⟨by rw[<-hz];rfl,A0⟩
theorem pB (u:Value)(ps:List (Int×Int))(w:World)(hu:Gs w u ps)(hn:ps.length<=1048576):
    Calls prog 130 #[u,.func (.func 101) #[] #[]] w fun e w'=>∃z:Int,e= .returned (iV z)/\(decide (0<=z))=(!Dd ps)/\Aa w w':=by
  obtain⟨A,cu,rfl,hA⟩:=hu;have HA:=zH hA;clear hA;go_enter func130,ntmps130
  go_wp2_with fail;go_loopg [8] ps.length (fun c i wr=>∃k:Nat,k<=ps.length/\c=ps.length-k/\i= iV k/\Dd (ps.take k)=true/\Aa w wr)
  case atStart=>exact⟨0,wM _,rfl,rfl,rfl,Aa.refl _⟩
  obtain⟨k,hk,rfl,rfl,ho,hx⟩:=hrel;have HO:=zH ho;have HX:=zH hx;clear ho hx;by_cases hlt:k<ps.length
  · obtain⟨g,A6,rfl,hp⟩:=HA.1 (by rintro rfl;simp at hlt)
    obtain⟨c0,c1⟩:=(hp.ext HX.1) k hlt;have A2:=zH (Ib ps k hlt);have A5:=zH (fun h=>No ps k hlt h);have A1:ps.getD k (0,0)=ps[k]:=by simp[List.getD,hlt]
    rw[A1]at c0 c1 A2;have A4:(k:Int)<(ps.length:Int):=ω
    have A3:=zH hlt;generalize ps[k]=x at*;clear hp A1 hlt;by_cases hx:Cm x.1 x.2=true
    · have hb:(!Cm x.1 x.2)=false:=by rw[hx];rfl
      go_upto_if 16 with(go_at_call 101;refine(eO _ _ _).mono ?_;rintro e w2 ⟨rfl,A0⟩)
      go_wp2_with fail;go_roundg (ps.length-(k+1))
      case measure=>have:=A3.1;omega
      case rel=>exact⟨k+1,A3.1,rfl,by go_num,by rw[A2.1,HO.1,hx];rfl,HX.1.trans A0⟩
    have hb:(!Cm x.1 x.2)=true:=by rw[eq_false_of_ne_true hx];rfl
    go_upto_if 16 with(go_at_call 101;refine(eO _ _ _).mono ?_;rintro e w2 ⟨rfl,A0⟩)
    go_wp2_with fail;go_ret;exact⟨_,rfl,by rw[A5.1 (eq_false_of_ne_true hx)];simp,HX.1.trans A0⟩
  have HE:=zH (Px ps k hk hlt HO.1);have A7:¬(k:Int)<(ps.length:Int):=ω
  go_wp2_with fail;go_ret;exact⟨_,rfl,by rw[HE.1];simp,HX.1⟩
theorem lI (u:Value)(ps:List (Int×Int))(w:World)(hu:Gs w u ps)(hn:ps.length<=1048576):
    Calls prog 79 #[u,.func (.func 101) #[] #[]] w fun e w'=>e= .returned (.bool (!Dd ps))/\Aa w w':=by
  have HC:=zH (pB u ps w hu hn);clear hu;go_enter func79,ntmps79;go_wp2_with (go_at_call 130;refine HC.1.mono ?_;rintro e w2 ⟨z,rfl,hz,A0⟩)
  go_ret;exact⟨by rw[<-hz];rfl,A0⟩
theorem Du (u:Value)(rs:List Bb)(w:World)(hu:Ch w u rs)(hn:rs.length<=1048576)(hr:∀r,r∈rs->r.length<=1048576):
    Calls prog 43 #[u] w fun e w'=>e= .returned (.bool (Hh rs))/\Aa w w':=by
  obtain⟨A,cu,rfl,hA⟩:=hu;have HA:=zH hA;have HR:=zH hr;clear hA hr;go_enter func43,ntmps43
  go_wp2_with fail;go_loopg [3,8] rs.length (fun c n i wr=>∃k m:Nat,k<=rs.length/\c=rs.length-k/\i= iV k/\n= iV m/\m=Gj (rs.take k)/\m<=4096/\(∀i r,i<k->rs[i]?=some r->Dd r=true)/\Aa w wr)
  case atStart=>exact⟨0,0,wM _,rfl,rfl,rfl,rfl,wM _,fun i r h=>absurd h (Nat.not_lt_zero _),Aa.refl _⟩
  obtain⟨k,m,hk,rfl,rfl,rfl,hm,B1,ho,hx⟩:=hrel;have HO:=zH ho;have HX:=zH hx;have HM:=zH hm;clear ho hx hm;by_cases hlt:k<rs.length
  · obtain⟨r,hr⟩:∃r,rs[k]?=some r:=⟨_,wC hlt⟩
    obtain⟨g,B0,rfl,hp⟩:=HA.1 ω;obtain⟨B,cb,h1,h2⟩:=hp k r hr;have c1:=HX.1.get h1;have HP:=zH (h2.ext HX.1);have A9:=zH (HR.1 r (wE hr));have A1:=zH hr;have A8:=zH (Fo hr);have A6:(k:Int)<(rs.length:Int):=ω
    have A5:=zH hlt;have A2:=A9.1;obtain⟨m2,A3⟩:∃m2,m2=m+r.length:=⟨_,rfl⟩;have e1:(m:Int)+(r.length:Int)=(m2:Int):=ω
    have wm:IntKind.i64.wrap (m2:Int)=(m2:Int):=by rw[IntKind.wrap_i64];omega
    have A4:=zH (show m2=Gj (rs.take (k+1))by rw[A8.1,<-HM.1];exact A3);clear hp h1 h2 hr hlt A3;by_cases hbig:4096<m2
    · have A7:(4096:Int)<(m2:Int):=ω
      have HF:=zH (Ou A1.1 (Or.inl (by rw[<-A4.1];exact hbig)));go_wp2_with fail;go_ret;exact⟨by rw[HF.1];rfl,HX.1⟩
    have A7:¬(4096:Int)<(m2:Int):=ω;by_cases hok:Dd r=true
    · have hb:(!Dd r)=false:=by rw[hok];rfl
      go_upto_region 6 with fail;go_upto_if 21 with(go_at_call 79;refine(Zr _ r _ HP.1 A2).mono ?_;rintro e w2 ⟨rfl,A0⟩)
      go_wp2_with fail;go_roundg (rs.length-(k+1))
      case measure=>have:=A5.1;omega
      case rel=>exact⟨k+1,m2,A5.1,rfl,by go_num,rfl,A4.1,ω,fun i r2 hi hr2=>by
        rcases Nat.lt_or_ge i k with h|h
        · exact HO.1 i r2 h hr2
        obtain rfl:i=k:=ω;rw[A1.1]at hr2;injection hr2 with hr2
        rw[<-hr2];exact hok,HX.1.trans A0⟩
    have hb:(!Dd r)=true:=by rw[eq_false_of_ne_true hok];rfl
    have HF:=zH (Ou A1.1 (Or.inr (eq_false_of_ne_true hok)));go_upto_region 6 with fail;go_upto_if 21 with(go_at_call 79;refine(Zr _ r _ HP.1 A2).mono ?_;rintro e w2 ⟨rfl,A0⟩)
    go_wp2_with fail;go_ret;exact⟨by rw[HF.1];rfl,HX.1.trans A0⟩
  obtain rfl:k=rs.length:=ω;have HF:=zH (eM (rs:=rs) (by have h:=HM.1;rw[wI (Bz _)]at h;omega) HO.1);have B2:¬(rs.length:Int)<(rs.length:Int):=ω
  go_wp2_with fail;go_ret;exact⟨by rw[HF.1];rfl,HX.1⟩
theorem Hv (u:Value)(ps:List (Int×Int))(w:World)(hu:Gs w u ps)(hn:ps.length<=1048576):
    Calls prog 57 #[u] w fun e w'=>e= .returned (.bool (Dd ps))/\Aa w w':=by
  have HC:=zH (lI u ps w hu hn);clear hu;go_enter func57,ntmps57;go_wp2_with (go_at_call 79;refine HC.1.mono ?_;rintro e w2 ⟨rfl,A0⟩)
  go_ret;exact⟨by simp,A0⟩
theorem nL (x y:Int)(w:World)(hv:Cm x y=true):
  Calls prog 146 #[.agg #[iV x,iV y],.agg #[iV 0,iV 0]] w fun e w'=>e= .returned (.agg #[iV x,iV y])/\Aa w w':=by
 have A4:(-1048576<=x/\x<=1048576)/\(-1048576<=y/\y<=1048576):=by simpa[Cm]using hv
 have c1:He x (-1048576) 1048576=x:=by have h:=Ki x;rw[decide_eq_true A4.1]at h;simpa using h
 have c2:He y (-1048576) 1048576=y:=by have h:=Ki y;rw[decide_eq_true A4.2]at h;simpa using h
 have c3:He 0 (-1048576) 1048576=0:=by decide
 have wx:IntKind.i64.wrap x=x:=by rw[IntKind.wrap_i64];omega
 have wy:IntKind.i64.wrap y=y:=by rw[IntKind.wrap_i64];omega
 clear hv A4;go_enter func146,ntmps146;go_upto_region 1 with fail;have hE:Aa w (((w.alloc (.cells #[iV x,iV y] 24)).alloc (.cells #[iV 0,iV 0] 24)).alloc (.cells #[iV 0,iV 0] 24)):=((Ak.alloc _).alloc _).alloc _;have A0:Al (((w.alloc (.cells #[iV x,iV y] 24)).alloc (.cells #[iV 0,iV 0] 24)).alloc (.cells #[iV 0,iV 0] 24)) w.heap.size 24 #[iV x,iV y]:=((Al.new w _ _).alloc _).alloc _;have A2:Al (((w.alloc (.cells #[iV x,iV y] 24)).alloc (.cells #[iV 0,iV 0] 24)).alloc (.cells #[iV 0,iV 0] 24)) (w.heap.size+1) 24 #[iV 0,iV 0]:=Al.alloc (by have h:=Al.new (w.alloc (.cells #[iV x,iV y] 24)) 24 #[iV 0,iV 0];simpa using h) _;have A1:Al (((w.alloc (.cells #[iV x,iV y] 24)).alloc (.cells #[iV 0,iV 0] 24)).alloc (.cells #[iV 0,iV 0] 24)) (w.heap.size+1+1) 24 #[iV 0,iV 0]:=by have h:=Al.new ((w.alloc (.cells #[iV x,iV y] 24)).alloc (.cells #[iV 0,iV 0] 24)) 24 #[iV 0,iV 0];simpa using h
 have A3:w.heap.size≠w.heap.size+1:=ω;have A5:w.heap.size≠w.heap.size+1+1:=ω;have A6:w.heap.size+1≠w.heap.size+1+1:=ω;have z3:w.heap.size<=w.heap.size+1:=ω;have z4:w.heap.size<=w.heap.size+1+1:=ω;generalize ((w.alloc (.cells #[iV x,iV y] 24)).alloc (.cells #[iV 0,iV 0] 24)).alloc (.cells #[iV 0,iV 0] 24)=wa at*;generalize w.heap.size+1+1=X4 at*;generalize w.heap.size+1=X3 at*;have z2:w.heap.size<=w.heap.size:=Bz _;generalize hX2:w.heap.size=X2 at A0 A3 A5⊢;have z22:w.heap.size<=X2:=ω;clear hX2 z2;refine wp_region_held_drew (S:=fun q=>Aa w q/\Al q X2 24 #[iV x,iV y]/\Al q X3 24 #[iV 0,iV 0]/\Al q X4 24 #[iV 0,iV 0]) (by kernel_rfl) ⟨hE.drew,A0,A2,A1⟩ (fun _=> ?_);refine mL 0 (bs 6 1) (fun q hq=>hq.2.1) underlying24 (by kernel_rfl) ⟨hE.drew,A0,A2,A1⟩ ?_;refine zl 2 (bs 6 5) (fun q hq=>hq.2.2.1) underlying24 (by kernel_rfl) ⟨hE.drew,A0,A2,A1⟩ ?_;refine mC 1 (bs 6 7) (Pe x y _) ?_;rintro e w1 ⟨rfl,h1⟩;rw[c1,c2];have k1:Aa w w1/\Al w1 X2 24 #[iV x,iV y]/\Al w1 X3 24 #[iV 0,iV 0]/\Al w1 X4 24 #[iV 0,iV 0]:=⟨hE.drew.trans h1,(show Al wa.drew X2 _ _ from A0).ext h1,(show Al wa.drew X3 _ _ from A2).ext h1,(show Al wa.drew X4 _ _ from A1).ext h1⟩;refine⟨_,rfl,k1,?_⟩;try simp only[ζ]
 refine mC 3 (bs 6 15) (Pe 0 0 _) ?_;rintro e w2 ⟨rfl,h2⟩;rw[c3];have k2:Aa w w2/\Al w2 X2 24 #[iV x,iV y]/\Al w2 X3 24 #[iV 0,iV 0]/\Al w2 X4 24 #[iV 0,iV 0]:=⟨k1.1.trans h2,k1.2.1.ext h2,k1.2.2.1.ext h2,k1.2.2.2.ext h2⟩;refine⟨_,rfl,k2,?_⟩;try simp only[ζ]
 have o1:=Ba.setCells w2 X2 #[iV x,iV y];have k3:Aa w (w2.setCells X2 0 (#[iV x,iV y]:Array Value).toList)/\Al (w2.setCells X2 0 (#[iV x,iV y]:Array Value).toList) X2 24 #[iV x,iV y]/\Al (w2.setCells X2 0 (#[iV x,iV y]:Array Value).toList) X3 24 #[iV 0,iV 0]/\Al (w2.setCells X2 0 (#[iV x,iV y]:Array Value).toList) X4 24 #[iV 0,iV 0]:=⟨o1.ext k2.1 z22,k2.2.1.setCells #[iV x,iV y] rfl,k2.2.2.1.own o1 (Ne.symm A3),k2.2.2.2.own o1 (Ne.symm A5)⟩;refine mO 4 (bs 6 31) #[iV x,iV y] k2.2.1 rfl (by kernel_rfl) (all_oneCell_toArray (by simp[Value.oneCell'])) k3 ?_
 (try simp only[Act.put])
 generalize w2.setCells X2 0 (#[iV x,iV y]:Array Value).toList=w3 at*;have o2:=Ba.setCells w3 X3 #[iV 0,iV 0];have k4:Aa w (w3.setCells X3 0 (#[iV 0,iV 0]:Array Value).toList)/\Al (w3.setCells X3 0 (#[iV 0,iV 0]:Array Value).toList) X2 24 #[iV x,iV y]/\Al (w3.setCells X3 0 (#[iV 0,iV 0]:Array Value).toList) X3 24 #[iV 0,iV 0]/\Al (w3.setCells X3 0 (#[iV 0,iV 0]:Array Value).toList) X4 24 #[iV 0,iV 0]:=⟨o2.ext k3.1 z3,k3.2.1.own o2 A3,k3.2.2.1.setCells #[iV 0,iV 0] rfl,k3.2.2.2.own o2 (Ne.symm A6)⟩;refine mO 5 (bs 6 63) #[iV 0,iV 0] k3.2.2.1 rfl (by kernel_rfl) (all_oneCell_toArray (by simp[Value.oneCell'])) k4 ?_
 (try simp only[Act.put])
 generalize w3.setCells X3 0 (#[iV 0,iV 0]:Array Value).toList=w4 at*;refine wpAnyH_done (by kernel_rfl) ?_ _;have d0:=k4.2.1.cell 0;have d1:=k4.2.1.cell 1;have d2:=k4.2.2.1.cell 0;have d3:=k4.2.2.1.cell 1;simp at d0 d1 d2 d3;have K4:=zH k4;clear k1 k2 k3 k4 h1 h2 A0 A2 A1 hE o1 o2;go_upto_region 2 with fail
 refine wp_region_lit ?_;apply qV (.pointer (π X2));apply zq (iV x);apply qV (.pointer (π X3));apply zq (iV 0);apply qV (iV x);apply zq (.pointer (some ⟨X2,1,none⟩));apply qV (iV y);apply zq (.pointer (some ⟨X3,1,none⟩));apply qV (iV 0);apply zq (iV y);apply zq (.agg #[iV x,iV y]);refine pO #[iV x,iV y] K4.1.2.2.2 rfl (by kernel_rfl) (all_oneCell_toArray (by simp[Value.oneCell'])) ?_
 (try simp only[Act.put])
 have o3:=Ba.setCells w4 X4 #[iV x,iV y];have A7:=o3.ext K4.1.1 z4;have A8:=K4.1.2.2.2.setCells #[iV x,iV y] rfl;generalize w4.setCells X4 0 (#[iV x,iV y]:Array Value).toList=w5 at*
 clear o3;go_wp2_with fail;refine bodyPost_ret (v:= .agg #[iV x,iV y]) ?_ rfl ⟨rfl,A7⟩;exact By rfl rfl (A8.loadVar rfl rfl (by rfl))
end
section
theorem sU:(prog.info? 24).map (fun i=>(i.zero,i.size,i.bytes))=some (some (.agg #[iV 0,iV 0]),2,16):=by kernel_rfl
theorem sT:(prog.info? 43).map (fun i=>(i.zero,i.size,i.bytes))=some (some (.slice none 0 0),1,24):=by kernel_rfl
def Gc (xs:List (Int×Int)):List Value:=xs.flatMap fun x=>[Value.int .i64 x.1,Value.int .i64 x.2]
theorem Xr (xs:List (Int×Int))(x:Int×Int):Gc (xs++[x])=Gc xs++[Value.int .i64 x.1,Value.int .i64 x.2]:=by simp[Gc]
theorem Zx (ps:List (Int×Int))(i:Nat)(hi:i<ps.length):(Gc ps)[i*2]?=some (iV (ps.getD i (0,0)).1)/\(Gc ps)[i*2+1]?=some (iV (ps.getD i (0,0)).2):=by
 induction ps generalizing i with
 |nil=>simp at hi
 |cons x xs ih=>
  cases i with
  |zero=>simp[Gc]
  |succ i=>
   have:=ih i (by simpa using hi);have e:Gc (x::xs)=Value.int .i64 x.1::Value.int .i64 x.2::Gc xs:=by simp[Gc]
   rw[e,show(i+1)*2=i*2+1+1 by omega,show i*2+1+1+1=(i*2+1)+1+1 by omega];simpa using this
theorem lE (x:Int×Int):∀u∈([iV x.1,iV x.2]:List Value),u.oneCell'=true:=by simp[Value.oneCell']
theorem oY (x:Int×Int):Ar [iV x.1,iV x.2]:=by intro y hy k;simp at hy;rcases hy with rfl|rfl<;>simp
theorem lG:Ar (Value.agg #[iV 0,iV 0]).cells.toList:=by intro x hx k;simp[Value.cells]at hx;rcases hx with rfl|rfl<;>simp
theorem lF:Ar (Value.slice none 0 0).cells.toList:=by intro x hx k;simp[Value.cells]at hx;rw[hx];simp
theorem nU (w:World)(a b:Value)(t:TypeId):∀(j:Nat) (u:Value),[a,b][j]?=some u->(w.alloc (.cells #[a,b] t)).cell? ((⟨w.heap.size,0,none⟩:Addr).add j)=some u:=by
  intro j u hj;match j,hj with
  |0,hj=>simp at hj;subst hj;simp[Addr.add]
  |1,hj=>simp at hj;subst hj;simp[Addr.add]
theorem Bi.pts {w:World}{base:Nat}{v:Value}{ps:List (Int×Int)}(h:Bi w base 24 2 v ps.length (Gc ps)):∃B cb,v= .slice B ps.length cb/\Gs w v ps/\∀A,B=some A->base<=A.block:=by
 obtain⟨_,⟨rfl,hz⟩|⟨g,A0,rest,rfl,hb,hB,_⟩⟩:=h
 ·have:ps=[]:=wP hz
  subst this;exact⟨none,0,rfl,⟨none,0,rfl,fun h=>absurd rfl h⟩,fun A h=>by cases h⟩
 refine⟨_,A0,rfl,⟨_,A0,rfl,fun _=>⟨g,0,rfl,fun i hi=> ?_⟩⟩,fun A h=>by injection h with h;rw[<-h];exact hb⟩;obtain⟨h1,h2⟩:=Zx ps i hi;rw[wH];exact⟨by rw[hB.cell,wL,wQ (List.getElem?_eq_some_iff.1 h1).1];exact h1,by rw[hB.cell,wL,wQ (List.getElem?_eq_some_iff.1 h2).1];exact h2⟩
theorem Gs.grown {w w':World}{B:Option Addr}{n cb:Nat}{ps:List (Int×Int)}{row:Option Nat}(h:Gs w (.slice B n cb) ps)(hg:w.grownBy w' row)(hne:∀A,B=some A->row≠some A.block):Gs w' (.slice B n cb) ps:=by
 obtain⟨A,A2,hv,ha⟩:=h;refine⟨A,A2,hv,fun hn=> ?_⟩;obtain⟨g,A0,rfl,hp⟩:=ha hn;injection hv with e1 _ _
 have A1:=hne _ e1;have hc:∀o v,w.cell? ⟨g,o,none⟩=some v->w'.cell? ⟨g,o,none⟩=some v:=fun o v hc=>
  (World.cell?_of_block (w:=w) (a:=⟨g,o,none⟩) (hg.block g (World.block_lt_of_cell? w _ hc) (Ne.symm A1))).trans hc
 exact⟨g,A0,rfl,fun i hi=>⟨hc _ _ (hp i hi).1,hc _ _ (hp i hi).2⟩⟩
def Tr (b0:Nat)(w:World)(v:Value)(done:List Bb):Prop:=∃vs:List Value,Bi w b0 43 1 v done.length vs/\vs.length=done.length/\
  ∀(i:Nat) (r:Bb),done[i]?=some r->∃(B:Option Addr) (cb:Nat),vs[i]?=some (Value.slice B r.length cb)/\Gs w (Value.slice B r.length cb) r/\(∀A,B=some A->v.ownBlock≠some A.block/\A.block<w.heap.size)/\∀A,B=some A->b0<=A.block
theorem Tr.ext {b0:Nat}{w w':World}{v:Value}{done:List Bb}(h:Tr b0 w v done)(x:Aa w w'):Tr b0 w' v done:=by
  obtain⟨vs,h1,h2,h3⟩:=h;refine⟨vs,h1.ext x,h2,fun i r hr=> ?_⟩;obtain⟨B,cb,h4,h5,h6,h7⟩:=h3 i r hr;exact⟨B,cb,h4,h5.ext x,fun A hA=>⟨(h6 A hA).1,xG (h6 A hA).2 x.size⟩,h7⟩
theorem Tr.snoc {b0 gx cap n:Nat}{w w':World}{v s:Value}{done:List Bb}{r:Bb}(_h:Tr b0 w v done)(hn:done.length=n){B:Option Addr}{cb:Nat}(hs:s= .slice B r.length cb)(hp:Gs w (.slice B r.length cb) r)(hB:∀A,B=some A->v.ownBlock≠some A.block/\A.block<w.heap.size)(hB0:∀A,B=some A->b0<=A.block)
  (vs:List Value)(hvs:∃xs,Bi w b0 43 1 v done.length xs/\xs.length=done.length/\xs=vs/\∀(i:Nat) (r:Bb),done[i]?=some r->∃(B:Option Addr) (cb:Nat),xs[i]?=some (Value.slice B r.length cb)/\Gs w (Value.slice B r.length cb) r/\(∀A,B=some A->v.ownBlock≠some A.block/\A.block<w.heap.size)/\∀A,B=some A->b0<=A.block)
  (h2:Bi w' b0 43 1 (.slice (π gx) (n+1) cap) (n+1) (vs++[s]))(h3:w.grownBy w' v.ownBlock)(hf:v.ownBlock=some gx\/w.heap.size<=gx):
  Tr b0 w' (.slice (π gx) (n+1) cap) (done++[r]):=by
 subst hn;obtain⟨xs,k1,k2,rfl,k3⟩:=hvs;have key:∀A:Addr,v.ownBlock≠some A.block/\A.block<w.heap.size->(Value.slice (π gx) (done.length+1) cap).ownBlock≠some A.block/\A.block<w'.heap.size:=by
  intro A ⟨q1,q2⟩;refine⟨fun e=> ?_,xG q2 h3.size⟩;simp[Value.ownBlock]at e;rcases hf with hf|hf
  ·exact q1 (by rw[hf,e])
  omega
 refine⟨xs++[s],by rw[wD];exact h2,by simp[k2],fun i r2 hr=> ?_⟩;by_cases hi:i<done.length
 ·rw[wQ hi]at hr
  obtain⟨B2,A1,q1,q2,q3,q4⟩:=k3 i r2 hr;exact⟨B2,A1,by rw[wQ ω];exact q1,q2.grown h3 (fun A hA=>(q3 A hA).1),fun A hA=>key A (q3 A hA),q4⟩
 rw[wJ ω]at hr;have A0:i-done.length=0:=by
  have:=(List.getElem?_eq_some_iff.1 hr).1;simp at this;omega
 rw[A0]at hr;simp at hr;subst hr;refine⟨B,cb,?_,hp.grown h3 (fun A hA=>(hB A hA).1),fun A hA=>key A (hB A hA),hB0⟩;rw[wJ ω,k2,A0,hs];rfl
theorem sO {rs:List Bb}{k j:Nat}{r:Bb}{p:Int×Int}(h:Hh rs=true)(hr:rs[k]?=some r)(hp:r[j]?=some p):Cm p.1 p.2=true:=by
  unfold Hh at h;rw[xA,List.all_eq_true]at h;have h2:=h.2 r (wE hr);unfold Dd at h2;rw[List.all_eq_true]at h2;exact h2 p (wE hp)
theorem Fc {rs:List Bb}(h:Hh rs=true):Gj rs<=4096:=by
  unfold Hh at h;rw[xA,decide_eq_true_iff]at h;exact h.1
end
section
attribute [local go_sem ↓] Go.wp_at_zero Go.wp_at_succ Az Ay
theorem Be {w w':World}{g o:Nat}{cs:List Value}(h:w.rangeAt g o cs)(x:Aa w w'):w'.rangeAt g o cs:=fun j v hv=>x.get (h j v hv)
end
section
def Ah (w w':World):Prop:=∀(v:Value) (xs:List Nat),Ej w v xs->Ej w' v xs
theorem Ah.refl (w:World):Ah w w:=fun _ _ h=>h
theorem Ah.trans {a b c:World}(h:Ah a b)(k:Ah b c):Ah a c:=fun v xs x=>k v xs (h v xs x)
theorem Ah.of_ext {w w':World}(x:Aa w w'):Ah w w':=fun _ _ h=>h.ext x
theorem Ah.of_own {w w':World}{g:Nat}{t:TypeId}{cs:Array Value}(hb:Al w g t cs)(hn:Pp cs)(o:Ba g w w'):Ah w w':=fun _ _ h=>h.own hb hn o
theorem RV.Is.dig {w w':World}{a:RV}{q:Rat}(h:a.Is w q)(d:Ah w w'):a.Is w' q:=⟨⟨h.1.1,d _ _ h.1.2⟩,⟨h.2.1,d _ _ h.2.2⟩⟩
theorem RV.In.dig {L:Nat}{w w':World}{a:RV}{q:Rat}(h:a.In L w q)(d:Ah w w'):a.In L w' q:=by
  obtain⟨y,z,⟨a1,⟨x1,h1,h2⟩,h3⟩,⟨a2,⟨x2,h4,h5⟩,h6⟩,h7⟩:=h;exact⟨y,z,⟨a1,⟨x1,d _ _ h1,h2⟩,h3⟩,⟨a2,⟨x2,d _ _ h4,h5⟩,h6⟩,h7⟩
theorem RV.In.nin {L:Nat}{w:World}{a:RV}{q:Rat}(h:a.In L w q):Ee L w #[.bool a.n,.slice a.p a.l a.c,.bool a.m,.slice a.p2 a.l2 a.c2] q:=⟨a,rfl,h⟩
theorem RV.Is.nin {L:Nat}{w:World}{a:RV}{q:Rat}(h:a.Is w q)(hl:Nm.rl q<=L):Ee L w #[.bool a.n,.slice a.p a.l a.c,.bool a.m,.slice a.p2 a.l2 a.c2] q:=⟨a,rfl,h.isIn hl⟩
theorem Dv (w:World)(g o:Nat)(vs:List Value):Ba g w (w.setCells g o vs):=Ba.setCells_l _ _ (Ba.refl g w)
inductive Dl where
  |blk (g:Nat) (t:TypeId) (cs:List Value)
  |row (t:TypeId) (size:Nat) (v:Value) (n:Nat) (xs:List Value)
def Dl.own:Dl->Option Nat
  | .blk g _ _=>some g
  | .row _ _ v _ _=>v.ownBlock
def Dl.Holds (b:Nat)(w:World):Dl->Prop
  | .blk g t cs=>b<=g/\Al w g t cs.toArray/\Ar cs
  | .row t size v n xs=>Bi w b t size v n xs
theorem Dl.Holds.ext {b:Nat}{w w':World}{e:Dl}(h:e.Holds b w)(x:Aa w w'):e.Holds b w':=by
  cases e with
  |blk g t cs=>exact⟨h.1,h.2.1.ext x,h.2.2⟩
  |row t size v n xs=>exact Bi.ext h x
theorem Bi.lt {w:World}{base:Nat}{e:TypeId}{size:Nat}{v:Value}{n:Nat}{xs:List Value}(h:Bi w base e size v n xs):∀k,v.ownBlock=some k->k<w.heap.size:=by
  intro k hk;obtain⟨h1,⟨rfl,_⟩|⟨g,A0,rest,rfl,b,hg,_⟩⟩:=h
  · simp[Value.ownBlock]at hk
  have:=hg.lt;simp[Value.ownBlock]at hk;omega
theorem Dl.Holds.ge {b:Nat}{w:World}{e:Dl}(h:e.Holds b w):∀k,e.own=some k->b<=k:=by
  cases e with
  |blk g t cs=>intro k hk;injection hk with hk;exact hk▸h.1
  |row t size v n xs=>exact Bi.block h
theorem Dl.Holds.lt {b:Nat}{w:World}{e:Dl}(h:e.Holds b w):∀k,e.own=some k->k<w.heap.size:=by
  cases e with
  |blk g t cs=>intro k hk;injection hk with hk;exact hk▸h.2.1.lt
  |row t size v n xs=>exact Bi.lt h
theorem Dl.Holds.kept {b:Nat}{w w':World}{e:Dl}{r:Option Nat}(h:e.Holds b w)(hg:w.grownBy w' r)(hne:∀k,e.own=some k->r≠some k):e.Holds b w':=by
  cases e with
  |blk g t cs=>exact⟨h.1,h.2.1.grown hg (hne g rfl),h.2.2⟩
  | row t size v n xs=>
    obtain⟨h1,h2|⟨g,A0,rest,rfl,a,hb,c⟩⟩:=h
    · exact⟨h1,.inl h2⟩
    exact⟨h1,.inr ⟨g,A0,rest,rfl,a,hb.grown hg (hne g rfl),c⟩⟩
structure Hp (w0 w:World) (m:List Dl):Prop where
  ext:Aa w0 w
  all:∀(i:Nat) (e:Dl),m[i]?=some e->e.Holds w0.heap.size w
  apart:∀(i j:Nat) (e f:Dl),m[i]?=some e->m[j]?=some f->i≠j->∀k,e.own=some k->f.own≠some k
section
variable {w0 w w':World} {m:List Dl}
theorem Hp.start (w:World):Hp w w []:=⟨Aa.refl w,fun i e h=>by simp at h,fun i j e f h=>by simp at h⟩
theorem Af {w:World}:Hp w w []:=Hp.start _
theorem Hp.step (h:Hp w0 w m)(x:Aa w w'):Hp w0 w' m:=⟨h.ext.trans x,fun i e he=>(h.all i e he).ext x,h.apart⟩
theorem Hp.dig0 (h:Hp w0 w m):Ah w0 w:=Ah.of_ext h.ext
theorem Hp.add {e:Dl}(h:Hp w0 w m)(he:e.Holds w0.heap.size w)(hf:∀(i:Nat) (f:Dl),m[i]?=some f->∀k,f.own=some k->e.own≠some k):Hp w0 w (m++[e]):=by
 have A0:∀(i:Nat) (f:Dl),(m++[e])[i]?=some f->m[i]?=some f\/(i=m.length/\f=e):=by
  intro i f hf;rcases Nat.lt_trichotomy i m.length with hl|hl|hl
  ·rw[wQ hl]at hf;exact .inl hf
  ·subst hl;rw[wJ (Bz _)]at hf;simp at hf;exact .inr ⟨rfl,hf.symm⟩
  rw[wJ (xQ hl),xP (by simp;omega)]at hf;cases hf
 refine⟨h.ext,fun i f hf=> ?_,fun i j f g hi hj hij k hk=> ?_⟩
 ·rcases A0 i f hf with h1|⟨_,rfl⟩
  ·exact h.all i f h1
  exact he
 rcases A0 i f hi with h1|⟨e1,rfl⟩<;>rcases A0 j g hj with h2|⟨e2,rfl⟩
 ·exact h.apart i j f g h1 h2 hij k hk
 ·exact hf i f h1 k hk
 ·exact fun h3=>hf j g h2 k h3 hk
 exact absurd (e1.trans e2.symm) hij
theorem Hp.alloc (h:Hp w0 w m)(t:TypeId)(cs:List Value)(hn:Ar cs):Hp w0 (w.alloc (.cells cs.toArray t)) (m++[.blk w.heap.size t cs]):=
  (h.step ((Aa.refl w).alloc _)).add ⟨h.ext.size,Al.new w t cs.toArray,hn⟩ (fun i f hf k hk e=>by
    injection e with e
    have:=(h.all i f hf).lt k hk;omega)
theorem Hp.addRow {t:TypeId}{size:Nat}{v:Value}{n:Nat}{xs:List Value}(h:Hp w0 w m)(x:Aa w w')(r:Bi w' w.heap.size t size v n xs):Hp w0 w' (m++[.row t size v n xs]):=
  (h.step x).add (by
    obtain⟨h1,h2|⟨g,A0,rest,a,b,c⟩⟩:=r
    · exact⟨h1,.inl h2⟩
    · exact⟨h1,.inr ⟨g,A0,rest,a,Aw h.ext.size b,c⟩⟩) (fun i f hf k hk e=>by
    have h1:=(h.all i f hf).lt k hk;have h2:=Bi.block r k e;omega)
theorem Hp.addNil (h:Hp w0 w m)(t:TypeId)(size:Nat):Hp w0 w (m++[.row t size (.slice none 0 0) 0 []]):=
  h.add (Bi.nil _ _ _ _) (fun _ _ _ _ _ e=>by simp[Dl.own,Value.ownBlock]at e)
theorem Hp.addEmpty (h:Hp w0 w m)(t:TypeId)(size:Nat):Hp w0 (w.alloc (.cells #[] t)) (m++[.row t size (.slice (π w.heap.size) 0 0) 0 []]):=
  h.addRow ((Aa.refl w).alloc _) (Bi.empty w _ t size (Bz _))
theorem Hp.take (h:Hp w0 w m)(n:Nat):Hp w0 w (m.take n):=by
  have A0:∀(i:Nat) (f:Dl),(m.take n)[i]?=some f->m[i]?=some f:=by
    intro i f hf;rw[List.getElem?_take]at hf;split at hf
    · exact hf
    cases hf
  exact⟨h.ext,fun i e he=>h.all i e (A0 i e he),fun i j e f hi hj=>h.apart i j e f (A0 i e hi) (A0 j f hj)⟩
theorem Hp.blk {i g:Nat}{t:TypeId}{cs:List Value}(h:Hp w0 w m)(hi:m[i]?=some (.blk g t cs)):Al w g t cs.toArray:=(h.all i _ hi).2.1
theorem Hp.noU {i g:Nat}{t:TypeId}{cs:List Value}(h:Hp w0 w m)(hi:m[i]?=some (.blk g t cs)):Ar cs:=(h.all i _ hi).2.2
theorem Hp.row {i:Nat}{t:TypeId}{size:Nat}{v:Value}{n:Nat}{xs:List Value}(h:Hp w0 w m)(hi:m[i]?=some (.row t size v n xs)):Bi w w0.heap.size t size v n xs:=h.all i _ hi
theorem Hp.range {i g:Nat}{t:TypeId}{cs:List Value}(h:Hp w0 w m)(hi:m[i]?=some (.blk g t cs))(o n:Nat):w.rangeAt g o ((cs.drop o).take n):=by
  have hr:=World.rangeAt_of_block (h.blk hi) o n;have e:(cs.toArray.extract o (o+n)).toList=(cs.drop o).take n:=by simp[List.extract_eq_take_drop]
  rw[<-e];exact hr
theorem Hp.cell {i g:Nat}{t:TypeId}{cs:List Value}(h:Hp w0 w m)(hi:m[i]?=some (.blk g t cs))(o:Nat){v:Value}(hv:cs[o]?=some v):w.cell? ⟨g,o,none⟩=some v:=by
  rw[(h.blk hi).cell o,wL,hv]
theorem Hp.ge {i k:Nat}{e:Dl}(h:Hp w0 w m)(hi:m[i]?=some e)(hk:e.own=some k):w0.heap.size<=k:=(h.all i e hi).ge k hk
theorem Hp.lt {i k:Nat}{e:Dl}(h:Hp w0 w m)(hi:m[i]?=some e)(hk:e.own=some k):k<w.heap.size:=(h.all i e hi).lt k hk
theorem Hp.turn {i:Nat}{e e':Dl}{r:Option Nat}(h:Hp w0 w m)(hi:m[i]?=some e)(hr:∀k,r=some k->e.own=some k)(hg:w.grownBy w' r)(he:e'.Holds w0.heap.size w')
  (hf:∀k,e'.own=some k->e.own=some k\/w.heap.size<=k):Hp w0 w' (m.set i e'):=by
 have hx:Aa w0 w':=h.ext.grown hg (fun k hk=>h.ge hi (hr k hk));have A4:i<m.length:=(List.getElem?_eq_some_iff.1 hi).1;have A0:∀(j:Nat) (f:Dl),(m.set i e')[j]?=some f->(j=i/\f=e')\/(j≠i/\m[j]?=some f):=by
  intro j f hj;rw[List.getElem?_set]at hj;by_cases hij:i=j
  ·rw[if_pos hij,if_pos ω]at hj
   injection hj with hj
   exact .inl ⟨hij.symm,hj.symm⟩
  rw[if_neg hij]at hj;exact .inr ⟨fun x=>hij x.symm,hj⟩
 have A2:∀(j:Nat) (f:Dl),j≠i->m[j]?=some f->∀k,f.own=some k->e'.own≠some k:=by
  intro j f hj A1 k hk A3;rcases hf k A3 with h1|h1
  ·exact h.apart j i f e A1 hi hj k hk h1
  have:=h.lt A1 hk;omega
 refine⟨hx,fun j f hj=> ?_,fun j k f g hj hk hjk b hb=> ?_⟩
 ·rcases A0 j f hj with⟨_,rfl⟩|⟨hj,A1⟩
  ·exact he
  exact(h.all j f A1).kept hg (fun k hk h3=>h.apart j i f e A1 hi hj k hk (hr k h3))
 rcases A0 j f hj with⟨e1,rfl⟩|⟨h1,h2⟩<;>rcases A0 k g hk with⟨e2,rfl⟩|⟨h3,h4⟩
 ·omega
 ·exact fun h5=>A2 k g h3 h4 b h5 hb
 ·exact A2 j f h1 h2 b hb
 exact h.apart j k f g h2 h4 hjk b hb
theorem Hp.store {i g:Nat}{t:TypeId}{cs:List Value}(h:Hp w0 w m)(hi:m[i]?=some (.blk g t cs))(o:Nat)(vs:List Value)(hl:o+vs.length<=cs.length)(hn:Ar vs):
  Hp w0 (w.setCells g o vs) (m.set i (.blk g t (cs.take o++vs++cs.drop (o+vs.length)))):=by
 have hb:=(h.blk hi).setPart o vs hl;have A0:=h.noU hi;refine h.turn (r:=some g) hi (fun k hk=>hk) ?_ ⟨h.ge hi rfl,hb,?_⟩ (fun k hk=> .inl hk)
 ·exact(Dv w g o vs)
 intro x hx;rcases List.mem_append.1 hx with hx|hx
 ·rcases List.mem_append.1 hx with hx|hx
  ·exact A0 x (List.mem_of_mem_take hx)
  exact hn x hx
 exact A0 x (List.mem_of_mem_drop hx)
theorem Hp.storeDig {i g:Nat}{t:TypeId}{cs:List Value}(h:Hp w0 w m)(hi:m[i]?=some (.blk g t cs))(o:Nat)(vs:List Value):Ah w (w.setCells g o vs):=
  Ah.of_own (h.blk hi) (h.noU hi).arr (Dv w g o vs)
theorem Hp.there {i g:Nat}{t:TypeId}{cs:List Value}(h:Hp w0 w m)(hi:m[i]?=some (.blk g t cs))(o n:Nat)(hl:o+n<=cs.length):w.there g o n:=(h.blk hi).therePart o n hl
theorem Ah.grown {base:Nat}{e:TypeId}{size:Nat}{v:Value}{n:Nat}{xs:List Value}(h:Bi w base e size v n xs)(hg:w.grownBy w' v.ownBlock):Ah w w':=by
  obtain⟨h1,⟨rfl,_⟩|⟨g,A0,rest,rfl,a,hb,_,_,_,hn⟩⟩:=h
  · exact Ah.of_ext ⟨hg.os,hg.tape,hg.output,hg.size,fun k hk=>hg.block k hk (by simp[Value.ownBlock])⟩
  exact Ah.of_own hb hn.arr hg
theorem Hp.grow {i gx cx:Nat}{t:TypeId}{size n n':Nat}{v:Value}{xs xs':List Value}(h:Hp w0 w m)(hi:m[i]?=some (.row t size v n xs))(hf:v.ownBlock=some gx\/w.heap.size<=gx)
    (h2:Bi w' w0.heap.size t size (.slice (π gx) n' cx) n' xs')(h3:w.grownBy w' v.ownBlock):Hp w0 w' (m.set i (.row t size (.slice (π gx) n' cx) n' xs')):=
  h.turn hi (fun k hk=>hk) h3 h2 (fun k hk=>by
    have hk:gx=k:=by simpa[Dl.own,Value.ownBlock]using hk
    subst hk;exact hf)
theorem Hp.growDig {i:Nat}{t:TypeId}{size n:Nat}{v:Value}{xs:List Value}(h:Hp w0 w m)(hi:m[i]?=some (.row t size v n xs))(h3:w.grownBy w' v.ownBlock):Ah w w':=Ah.grown (h.row hi) h3
end
section
variable {w0 w w':World} {m:List Dl}
theorem Bi.setPart {base:Nat}{t:TypeId}{size g n cap:Nat}{xs:List Value}(h:Bi w base t size (.slice (π g) n cap) n xs)(o:Nat)(vs:List Value)(hl:o+vs.length<=xs.length)(hn:Ar vs):
  Bi (w.setCells g o vs) base t size (.slice (π g) n cap) n (xs.take o++vs++xs.drop (o+vs.length)):=by
 have A0:(xs.take o++vs++xs.drop (o+vs.length)).length=xs.length:=by simp;omega
 obtain⟨h1,⟨hv,_⟩|⟨g',A1,rest,hv,a,hb,h3,h4,h5,h6⟩⟩:=h
 ·cases hv
 injection hv with e1 e2 e3
 injection e1 with e1
 injection e1 with e1
 subst e1;subst e3;refine⟨by rw[A0];exact h1,.inr ⟨g,cap,rest,rfl,a,?_,h3,h4,by rw[A0];exact h5,?_⟩⟩
 ·have:=hb.setPart o vs (by rw[wD];omega)
  rw[List.take_append_of_le_length ω,List.drop_append_of_le_length ω,<-wN]at this;exact this
 intro x hx;have A2:=h6;rcases List.mem_append.1 hx with hx|hx
 ·rcases List.mem_append.1 hx with hx|hx
  ·rcases List.mem_append.1 hx with hx|hx
   ·exact h6 x (List.mem_append_left _ (List.mem_of_mem_take hx))
   exact hn x hx
  exact h6 x (List.mem_append_left _ (List.mem_of_mem_drop hx))
 exact h6 x (List.mem_append_right _ hx)
theorem Bi.there {base:Nat}{t:TypeId}{size g n cap:Nat}{xs:List Value}(h:Bi w base t size (.slice (π g) n cap) n xs)(o k:Nat)(hl:o+k<=xs.length):w.there g o k:=by
  obtain⟨h1,⟨hv,_⟩|⟨g',A0,rest,hv,a,hb,h3,h4,h5,h6⟩⟩:=h
  · cases hv
  injection hv with e1 e2 e3
  injection e1 with e1
  injection e1 with e1
  subst e1;exact hb.therePart o k (by rw[wD];omega)
theorem Bi.rangeAt {base:Nat}{t:TypeId}{size g n cap:Nat}{xs:List Value}(h:Bi w base t size (.slice (π g) n cap) n xs)(o:Nat)(ys:List Value)(hy:∀j v,ys[j]?=some v->xs[o+j]?=some v):w.rangeAt g o ys:=by
  obtain⟨h1,⟨hv,_⟩|⟨g',A0,rest,hv,a,hb,h3,h4,h5,h6⟩⟩:=h
  · cases hv
  injection hv with e1 e2 e3
  injection e1 with e1
  injection e1 with e1
  subst e1;intro j v hj;have:=hy j v hj;rw[hb.cell,wL,wQ (List.getElem?_eq_some_iff.1 this).1];exact this
theorem Hw {α:Type}{f:α->List Value}{c:Nat}(hc:∀x,(f x).length=c):∀(es:List α) (k:Nat) (e:α),es[k]?=some e->∀j v,(f e)[j]?=some v->(es.flatMap f)[k*c+j]?=some v
  | [],k,e,h,_,_,_=>by simp at h
  | x::xs,0,e,h,j,v,hv=>by
    simp at h;subst h;rw[List.flatMap_cons,wQ (by have:=(List.getElem?_eq_some_iff.1 hv).1;omega)];simpa using hv
  | x::xs,k+1,e,h,j,v,hv=>by
    rw[List.flatMap_cons,wJ (by rw[hc,xL];omega),hc];have:=Hw hc xs k e (by simpa using h) j v hv;rw[show(k+1)*c+j-c=k*c+j by rw[xL];omega];exact this
theorem Dx {α:Type}{f:α->List Value}{c:Nat}(hc:∀x,(f x).length=c):∀(es:List α),(es.flatMap f).length=es.length*c
  | []=>by simp
  |x::xs=>by rw[List.flatMap_cons,wD,hc,Dx hc xs,xB,xL];omega
theorem Mn {α:Type}{f:α->List Value}{c:Nat}(hc:∀x,(f x).length=c):∀(es:List α) (k:Nat),(es.flatMap f).take (k*c)=(es.take k).flatMap f
  | [],k=>by simp
  |x::xs,0=>by simp
  |x::xs,k+1=>by rw[List.flatMap_cons,List.take_append,hc,wI (by rw[hc,xL];omega),List.take_succ_cons,List.flatMap_cons,<-Mn hc xs k,show(k+1)*c-c=k*c by rw[xL];omega]
theorem Qf {α:Type}{f:α->List Value}{c:Nat}(hc:∀x,(f x).length=c):∀(es:List α) (k:Nat),(es.flatMap f).drop (k*c)=(es.drop k).flatMap f
  | [],k=>by simp
  |x::xs,0=>by simp
  |x::xs,k+1=>by rw[List.flatMap_cons,List.drop_append,hc,List.drop_of_length_le (by rw[hc,xL];omega),List.drop_succ_cons,<-Qf hc xs k,show(k+1)*c-c=k*c by rw[xL];omega,wT]
theorem aQ {α:Type}{f:α->List Value}{c:Nat}(hc:∀x,(f x).length=c)(es:List α)(k:Nat)(hk:k<es.length)(e:α):(es.flatMap f).take (k*c)++f e++(es.flatMap f).drop (k*c+(f e).length)=(es.set k e).flatMap f:=by
  rw[Mn hc,hc,show k*c+c=(k+1)*c by rw[xL];omega,Qf hc,List.set_eq_take_append_cons_drop,if_pos hk];simp
theorem Hp.elem {α:Type}{f:α->List Value}{i:Nat}{t:TypeId}{size g n cap:Nat}{es:List α}(h:Hp w0 w m)(hi:m[i]?=some (.row t size (.slice (π g) n cap) n (es.flatMap f)))(hc:∀x,(f x).length=size){k:Nat}{e:α}(he:es[k]?=some e):w.rangeAt g (k*size) (f e):=
  (h.row hi).rangeAt _ _ (fun j v hj=>Hw hc es k e he j v hj)
theorem Bi.form {base:Nat}{t:TypeId}{size n:Nat}{v:Value}{xs:List Value}(h:Bi w base t size v n xs):∃A c,v= .slice A n c/\(0<n->∃g,A=some ⟨g,0,none⟩):=by
  obtain⟨h1,⟨rfl,rfl⟩|⟨g,A0,rest,rfl,_⟩⟩:=h
  · exact⟨none,0,rfl,fun h=>absurd h ω⟩
  exact⟨_,_,rfl,fun _=>⟨g,rfl⟩⟩
theorem Hp.storeRow {i:Nat}{t:TypeId}{size g n cap:Nat}{xs:List Value}(h:Hp w0 w m)(hi:m[i]?=some (.row t size (.slice (π g) n cap) n xs))(o:Nat)(vs:List Value)(hl:o+vs.length<=xs.length)(hn:Ar vs):
    Hp w0 (w.setCells g o vs) (m.set i (.row t size (.slice (π g) n cap) n (xs.take o++vs++xs.drop (o+vs.length)))):=
  h.turn (r:=some g) hi (fun k hk=>by simpa[Dl.own,Value.ownBlock]using hk) (Dv w g o vs) ((h.row hi).setPart o vs hl hn) (fun k hk=> .inl hk)
theorem Hp.storeRowDig {i:Nat}{t:TypeId}{size g n cap:Nat}{xs:List Value}(h:Hp w0 w m)(hi:m[i]?=some (.row t size (.slice (π g) n cap) n xs))(o:Nat)(vs:List Value):Ah w (w.setCells g o vs):=by
  refine Ah.grown (h.row hi) ?_;exact Dv w g o vs
structure Fr (G:Nat->Prop) (w w':World):Prop where
  os:w'.os=w.os
  tape:w'.tape=w.tape
  output:w'.output=w.output
  size:w.heap.size<=w'.heap.size
  block:∀k,k<w.heap.size->¬G k->w'.heap[k]?=w.heap[k]?
theorem Fr.of_ext {G:Nat->Prop}(x:Aa w w'):Fr G w w':=⟨x.os,x.tape,x.output,x.size,fun k hk _=>x.block k hk⟩
theorem Fr.trans {G:Nat->Prop}{a b c:World}(h:Fr G a b)(k:Fr G b c):Fr G a c:=⟨k.os.trans h.os,k.tape.trans h.tape,k.output.trans h.output,Aw h.size k.size,fun i hi hG=>(k.block i (xG hi h.size) hG).trans (h.block i hi hG)⟩
theorem Fr.trans_new {G:Nat->Prop}{a b c:World}{r:Option Nat}(h:Fr G a b)(k:b.grownBy c r)(hr:∀j,r=some j->G j\/a.heap.size<=j):Fr G a c:=
  ⟨k.os.trans h.os,k.tape.trans h.tape,k.output.trans h.output,Aw h.size k.size,fun i hi hG=>(k.block i (xG hi h.size) (fun e=>by
    rcases hr i e.symm with h1|h1
    · exact hG h1
    omega)).trans (h.block i hi hG)⟩
theorem Fr.cell {G:Nat->Prop}{g o:Nat}{s:Option Nat}{v:Value}(f:Fr G w w')(h:w.cell? ⟨g,o,s⟩=some v)(hn:¬G g):w'.cell? ⟨g,o,s⟩=some v:=
  (World.cell?_of_block (f.block g (World.block_lt_of_cell? w ⟨g,o,s⟩ h) hn)).trans h
theorem Fr.range {G:Nat->Prop}{g o:Nat}{cs:List Value}(f:Fr G w w')(h:w.rangeAt g o cs)(hn:¬G g):w'.rangeAt g o cs:=fun j v hv=>f.cell (h j v hv) hn
theorem Hp.offBlk {i j g g':Nat}{e:Dl}{t:TypeId}{cs:List Value}(h:Hp w0 w m)(hi:m[i]?=some e)(hj:m[j]?=some (.blk g' t cs))(hij:i≠j)(hg:e.own=some g):¬g=g':=fun e2=>h.apart i j _ _ hi hj hij g hg (congrArg some e2.symm)
theorem Hp.offRow {i j g size n:Nat}{e:Dl}{t:TypeId}{v:Value}{xs:List Value}(h:Hp w0 w m)(hi:m[i]?=some e)(hj:m[j]?=some (.row t size v n xs))(hij:i≠j)(hg:e.own=some g):¬Value.ownBlock v=some g:=fun e2=>h.apart i j _ _ hi hj hij g hg e2
end
end
section
section
variable {P:Program} {ρ:Operand->Value} {o:Oper} {w:World}
theorem tH {A B E:Int}{t t':TypeId}{x y:Operand}(ho:o.op= .binOp .add t x y t')(hx:ρ x= iV A)(hy:ρ y= iV B)(hE:A+B=E)(h1: -9223372036854775808<=E)(h2:E<=9223372036854775807):(execOp ρ o).run P w= .ok (.value (iV E)) w:=by
  have hw:IntKind.i64.wrap (A+B)=E:=by rw[IntKind.wrap_i64,hE];omega
  unfold execOp;simp only[ho,hx,hy];simp[go_sem,hw]
theorem sY {A B E:Int}{t t':TypeId}{x y:Operand}(ho:o.op= .binOp .sub t x y t')(hx:ρ x= iV A)(hy:ρ y= iV B)(hE:A-B=E)(h1: -9223372036854775808<=E)(h2:E<=9223372036854775807):(execOp ρ o).run P w= .ok (.value (iV E)) w:=by
  have hw:IntKind.i64.wrap (A-B)=E:=by rw[IntKind.wrap_i64,hE];omega
  unfold execOp;simp only[ho,hx,hy];simp[go_sem,hw]
theorem mK {A B E:Int}{t t':TypeId}{x y:Operand}(ho:o.op= .binOp .mul t x y t')(hx:ρ x= iV A)(hy:ρ y= iV B)(hE:A*B=E)(h1: -9223372036854775808<=E)(h2:E<=9223372036854775807):(execOp ρ o).run P w= .ok (.value (iV E)) w:=by
  have hw:IntKind.i64.wrap (A*B)=E:=by rw[IntKind.wrap_i64,hE];omega
  unfold execOp;simp only[ho,hx,hy];simp[go_sem,hw]
theorem tB {A B:Int}{b:Bool}{t t':TypeId}{x y:Operand}(ho:o.op= .binOp .lss t x y t')(hx:ρ x= iV A)(hy:ρ y= iV B)(hE:decide (A<B)=b):(execOp ρ o).run P w= .ok (.value (.bool b)) w:=by
  subst hE;unfold execOp;simp only[ho,hx,hy];simp[go_sem]
theorem tC {A B:Int}{b:Bool}{t t':TypeId}{x y:Operand}(ho:o.op= .binOp .leq t x y t')(hx:ρ x= iV A)(hy:ρ y= iV B)(hE:decide (A<=B)=b):(execOp ρ o).run P w= .ok (.value (.bool b)) w:=by
  subst hE;unfold execOp;simp only[ho,hx,hy];simp[go_sem]
theorem tE {A B:Int}{b:Bool}{t t':TypeId}{x y:Operand}(ho:o.op= .binOp .gtr t x y t')(hx:ρ x= iV A)(hy:ρ y= iV B)(hE:decide (B<A)=b):(execOp ρ o).run P w= .ok (.value (.bool b)) w:=by
  subst hE;unfold execOp;simp only[ho,hx,hy];simp[go_sem]
theorem tF {A B:Int}{b:Bool}{t t':TypeId}{x y:Operand}(ho:o.op= .binOp .geq t x y t')(hx:ρ x= iV A)(hy:ρ y= iV B)(hE:decide (B<=A)=b):(execOp ρ o).run P w= .ok (.value (.bool b)) w:=by
  subst hE;unfold execOp;simp only[ho,hx,hy];simp[go_sem]
theorem tG {A B:Int}{b:Bool}{t t':TypeId}{x y:Operand}(ho:o.op= .binOp .eql t x y t')(hx:ρ x= iV A)(hy:ρ y= iV B)(hE:decide (A=B)=b):(execOp ρ o).run P w= .ok (.value (.bool b)) w:=by
  subst hE;unfold execOp;simp only[ho,hx,hy];simp[go_sem];by_cases h:A=B<;>simp[h]
theorem tA {A B:Int}{b:Bool}{t t':TypeId}{x y:Operand}(ho:o.op= .binOp .neq t x y t')(hx:ρ x= iV A)(hy:ρ y= iV B)(hE:decide (A≠B)=b):(execOp ρ o).run P w= .ok (.value (.bool b)) w:=by
  subst hE;unfold execOp;simp only[ho,hx,hy];simp[go_sem];by_cases h:A=B<;>simp[h]
theorem Aq {p:Prop}[Decidable p](h:p):decide p=true:=by simpa using h
theorem Aj {p:Prop}[Decidable p](h:¬p):decide p=false:=by simpa using h
theorem mM {g off n c k size off':Nat}{z:Int}{t e:TypeId}{x y:Operand}(ho:o.op= .indexAddr t x y)(ht:P.underlying t=some (.slice e))(hs:(P.info? e).map (·.size)=some size)(hx:ρ x= .slice (some ⟨g,off,none⟩) n c)(hy:ρ y= iV z)(hz:z=(k:Int))
  (hn:k<n)(hoff:off'=off+k*size):(execOp ρ o).run P w= .ok (.value (.pointer (some ⟨g,off',none⟩))) w:=by
 subst hz;subst hoff;have A0:P.elem t=e:=by simp[Program.elem,ht]
 have h1:P.underlying t=some (.slice (P.elem t)):=by rw[A0];exact ht
 have hk:(0:Int)<=(k:Int)/\(k:Int)<(n:Int):=ω;unfold execOp;simp only[ho,hx,hy,Sem.run_bind,run_indexAt_slice _ _ _ _ _ _ _ h1,if_pos hk,A0];cases hq:P.info? e with
 |none=>simp[hq]at hs
 |some i=>
  have h2:i.size=size:=by simpa[hq]using hs
  simp[sizeOf,typeInfo,hq,h2,Addr.add]
end
def Yr (P:Program)(t e:TypeId)(size bytes:Nat):Prop:=P.underlying t=some (.slice e)/\∃i z,P.info? e=some i/\i.zero=some z/\i.size=size/\i.bytes=bytes/\z.cells.size=size/\Ar z.cells.toList/\0<size
theorem Yr.of {P:Program}{t e:TypeId}{size bytes:Nat}{z:Value}(h1:P.underlying t=some (.slice e))(h2:(P.info? e).map (fun i=>(i.zero,i.size,i.bytes))=some (some z,size,bytes))(h3:z.cells.size=size)(h4:Ar z.cells.toList)(h5:0<size):Yr P t e size bytes:=by
  obtain⟨i0,hi,A2,A1,A0⟩:=info_parts h2;exact⟨h1,i0,z,hi,A2,A1,A0,h3,h4,h5⟩
theorem Tb (w:World)(t:TypeId)(news:List Value):∀(j:Nat) (u:Value),news[j]?=some u->(w.alloc (.cells news.toArray t)).cell? ((⟨w.heap.size,0,none⟩:Addr).add j)=some u:=by
  intro j u hj;have h:=(Al.new w t news.toArray).cell j;have e:(⟨w.heap.size,0,none⟩:Addr).add j=⟨w.heap.size,j,none⟩:=by unfold Addr.add;split<;>simp_all
  rw[e,h,wL];exact hj
section
variable {P:Program} {l:List Oper} {Q:Exit->Act->World->Prop} {md:Region.Mode} {S:World->Prop} {i j ix:Nat} {oi oj:Oper} {fuel:Nat} {listed listed':Array Bool} {a:Act} {w w0:World} {m:List Dl}
theorem lU (hj:l[j]?=some oj)(hr:Region.ready md l.toArray listed=[j])(hw:Region.wanted oj (yielded l.toArray a.tmps)=true)(s x:Operand)(t:TypeId)
  (ho:oj.op= .call {callee:= .builtin .append,args:=#[s,x],argTypes:=#[t,t]}){e:TypeId}{size bytes:Nat}(el:Yr P t e size bytes){v:Value}{n:Nat}{xs:List Value}(hs:a.eval s=v)
  (hH:Hp w0 w m)(hi:m[ix]?=some (.row e size v n xs))(k c:Nat)(news:List Value)(hx:a.eval x= .slice (π w.heap.size) k c)(hl:news.length=k*size)(h1:∀u∈news,u.oneCell'=true)(hnu:Ar news)
  (hm:0<k)(A3:n+k<=maxLen)(hbytes:(n+k)*bytes<=140737488355328)(hl':listed.setIfInBounds j true=listed')
  (h:∀g A1 w',(v.ownBlock=some g\/w.heap.size<=g)->Hp w0 w' (m.set ix (.row e size (.slice (π g) (n+k) A1) (n+k) (xs++news)))->Ah w w'->(w.alloc (.cells news.toArray e)).grownBy w' v.ownBlock->
   S w'/\wpAnyH P md l.toArray Q S fuel listed' (a.put oj.dst (.slice (π g) (n+k) A1)) w'):wpAnyH P md l.toArray Q S (fuel+1) listed a (w.alloc (.cells news.toArray e)):=by
 obtain⟨ht,i,z,e1,e2,e3,e4,e5,e6,e7⟩:=el;have A0:Aa w (w.alloc (.cells news.toArray e)):=(Aa.refl w).alloc _;have A2:=hH.step A0;refine Nt hj hr hw s x t ho w0.heap.size e i z size bytes ht e1 e2 e3 e4 e5 e7 e6 v n xs hs (A2.row hi) ⟨w.heap.size,0,none⟩ k c news hx hl (Tb w e news) h1 hnu hm A3 hbytes (Aw hH.ext.size A0.size) hl' ?_;intro g A1 w' hf h2 h3 _;exact h g A1 w' (hf.imp id (fun q=>Aw A0.size q)) (A2.grow hi hf h2 h3) ((Ah.of_ext A0).trans (A2.growDig hi h3)) h3
theorem Hn {rest:List Oper}{o:Oper}{ops:Array Oper}(hw:Region.wanted o (yielded ops a.tmps)=true)(s x:Operand)(t:TypeId)
  (ho:o.op= .call {callee:= .builtin .append,args:=#[s,x],argTypes:=#[t,t]}){e:TypeId}{size bytes:Nat}(el:Yr P t e size bytes){v:Value}{n:Nat}{xs:List Value}(hs:a.eval s=v)
  (hH:Hp w0 w m)(hi:m[ix]?=some (.row e size v n xs))(k c:Nat)(news:List Value)(hx:a.eval x= .slice (π w.heap.size) k c)(hl:news.length=k*size)(h1:∀u∈news,u.oneCell'=true)(hnu:Ar news)
  (hm:0<k)(A3:n+k<=maxLen)(hbytes:(n+k)*bytes<=140737488355328)
  (h:∀g A1 w',(v.ownBlock=some g\/w.heap.size<=g)->Hp w0 w' (m.set ix (.row e size (.slice (π g) (n+k) A1) (n+k) (xs++news)))->Ah w w'->(w.alloc (.cells news.toArray e)).grownBy w' v.ownBlock->
   wpList P ops Q rest (a.put o.dst (.slice (π g) (n+k) A1)) w'):wpList P ops Q (o::rest) a (w.alloc (.cells news.toArray e)):=by
 obtain⟨ht,i,z,e1,e2,e3,e4,e5,e6,e7⟩:=el;have A0:Aa w (w.alloc (.cells news.toArray e)):=(Aa.refl w).alloc _;have A2:=hH.step A0;refine Bk hw (Dw s x t ho w0.heap.size e i z size bytes ht e1 e2 e3 e4 e5 e7 e6 v n xs hs (A2.row hi) ⟨w.heap.size,0,none⟩ k c news hx hl (Tb w e news) h1 hnu hm A3 hbytes (Aw hH.ext.size A0.size) ?_);intro g A1 w' hf h2 h3 _;exact h g A1 w' (hf.imp id (fun q=>Aw A0.size q)) (A2.grow hi hf h2 h3) ((Ah.of_ext A0).trans (A2.growDig hi h3)) h3
theorem Hp.addBlk {w':World}{g:Nat}{t:TypeId}{cs:List Value}(h:Hp w0 w m)(x:Aa w w')(hb:Al w' g t cs.toArray)(hg:w.heap.size<=g)(hn:Ar cs):Hp w0 w' (m++[.blk g t cs]):=
  (h.step x).add ⟨Aw h.ext.size hg,hb,hn⟩ (fun i f hf k hk e=>by
    injection e with e
    have:=h.lt hf hk;omega)
end
section
variable {P:Program} {l:List Oper} {Q:Exit->Act->World->Prop} {md:Region.Mode} {S:World->Prop} {i ix:Nat} {oi op:Oper} {fuel:Nat} {listed listed':Array Bool} {a:Act} {w w0:World} {m:List Dl} {ops:Array Oper} {rest:List Oper}
theorem aH {T:TypeId}{zs:List Value}(hw:Region.wanted op (yielded ops a.tmps)=true)(hv:(execOp a.eval op).run P w= .ok (.value (.pointer (π w.heap.size))) (w.alloc (.cells zs.toArray T)))
    (hH:Hp w0 w m)(hn:Ar zs)(h:∀X w',Hp w0 w' (m++[.blk X T zs])->Aa w w'->w.heap.size<=X->wpList P ops Q rest (a.put op.dst (.pointer (π X))) w'):wpList P ops Q (op::rest) a w:=
  Lp hw hv (h _ _ (hH.alloc T zs hn) ((Aa.refl w).alloc _) (Bz _))
theorem aK {T:TypeId}{zs:List Value}(hi:l[i]?=some oi)(hr:Region.ready md l.toArray listed=[i])(hw:Region.wanted oi (yielded l.toArray a.tmps)=true)
  (hv:(execOp a.eval oi).run P w= .ok (.value (.pointer (π w.heap.size))) (w.alloc (.cells zs.toArray T)))(hl:listed.setIfInBounds i true=listed')(hH:Hp w0 w m)(hn:Ar zs)
  (h:∀X w',Hp w0 w' (m++[.blk X T zs])->Aa w w'->w.heap.size<=X->S w'/\wpAnyH P md l.toArray Q S fuel listed' (a.put oi.dst (.pointer (π X))) w'):wpAnyH P md l.toArray Q S (fuel+1) listed a w:=by
 obtain⟨h1,h2⟩:=h _ _ (hH.alloc T zs hn) ((Aa.refl w).alloc _) (Bz _);exact Ns hi hr hw hv h1 hl h2
theorem lM {T:TypeId}{zs:List Value}{n:Nat}(hw:Region.wanted op (yielded ops a.tmps)=true)(hv:(execOp a.eval op).run P w= .ok (.value (.slice (π w.heap.size) n n)) (w.alloc (.cells zs.toArray T)))
    (hH:Hp w0 w m)(hn:Ar zs)(h:∀X w',Hp w0 w' (m++[.blk X T zs])->Aa w w'->w.heap.size<=X->wpList P ops Q rest (a.put op.dst (.slice (π X) n n)) w'):wpList P ops Q (op::rest) a w:=
  Lp hw hv (h _ _ (hH.alloc T zs hn) ((Aa.refl w).alloc _) (Bz _))
theorem lT {T:TypeId}{zs:List Value}{n:Nat}(hi:l[i]?=some oi)(hr:Region.ready md l.toArray listed=[i])(hw:Region.wanted oi (yielded l.toArray a.tmps)=true)
  (hv:(execOp a.eval oi).run P w= .ok (.value (.slice (π w.heap.size) n n)) (w.alloc (.cells zs.toArray T)))(hl:listed.setIfInBounds i true=listed')(hH:Hp w0 w m)(hn:Ar zs)
  (h:∀X w',Hp w0 w' (m++[.blk X T zs])->Aa w w'->w.heap.size<=X->S w'/\wpAnyH P md l.toArray Q S fuel listed' (a.put oi.dst (.slice (π X) n n)) w'):wpAnyH P md l.toArray Q S (fuel+1) listed a w:=by
 obtain⟨h1,h2⟩:=h _ _ (hH.alloc T zs hn) ((Aa.refl w).alloc _) (Bz _);exact Ns hi hr hw hv h1 hl h2
theorem rC (hw:Region.wanted op (yielded ops a.tmps)=true)(ty:TypeId)(x y:Operand)(ho:op.op= .store ty x y){g:Nat}{t:TypeId}{cs:List Value}(hH:Hp w0 w m)(hi:m[ix]?=some (.blk g t cs))(o:Nat)(vs:List Value)
    (hx:a.eval x= .pointer (some ⟨g,o,none⟩))(hy:a.eval y= .agg vs.toArray)(hl:o+vs.length<=cs.length)(hz:(P.info? ty).map (·.size)=some vs.length)(h1:∀v,v∈vs->v.oneCell'=true)(hn:Ar vs)
    (h:∀w',Hp w0 w' (m.set ix (.blk g t (cs.take o++vs++cs.drop (o+vs.length))))->Ah w w'->Ba g w w'->wpList P ops Q rest (a.put op.dst undef) w'):wpList P ops Q (op::rest) a w:=
  Bk hw (wp_store_mid ty x y ho g o vs.toArray hx hy (by simpa using hH.there hi o vs.length hl) (by simpa using hz) (all_oneCell_toArray h1) (by
    rw[List.toList_toArray];exact h _ (hH.store hi o vs hl hn) (hH.storeDig hi o vs) (Dv w g o vs)))
theorem Dm (hli:l[i]?=some oi)(hr:Region.ready md l.toArray listed=[i])(hw:Region.wanted oi (yielded l.toArray a.tmps)=true)(hlt:listed.setIfInBounds i true=listed')(ty:TypeId)(x y:Operand)(ho:oi.op= .store ty x y){g:Nat}{t:TypeId}{cs:List Value}(hH:Hp w0 w m)(hi:m[ix]?=some (.blk g t cs))(o:Nat)(vs:List Value)
    (hx:a.eval x= .pointer (some ⟨g,o,none⟩))(hy:a.eval y= .agg vs.toArray)(hl:o+vs.length<=cs.length)(hz:(P.info? ty).map (·.size)=some vs.length)(h1:∀v,v∈vs->v.oneCell'=true)(hn:Ar vs)
    (h:∀w',Hp w0 w' (m.set ix (.blk g t (cs.take o++vs++cs.drop (o+vs.length))))->Ah w w'->Ba g w w'->S w'/\wpAnyH P md l.toArray Q S fuel listed' (a.put oi.dst undef) w'):wpAnyH P md l.toArray Q S (fuel+1) listed a w:=
  El hli hr (fun K hK=>by
    rw[if_pos hw];refine wp_store_mid ty x y ho g o vs.toArray hx hy (by simpa using hH.there hi o vs.length hl) (by simpa using hz) (all_oneCell_toArray h1) ?_;rw[List.toList_toArray];obtain⟨k1,k2⟩:=h _ (hH.store hi o vs hl hn) (hH.storeDig hi o vs) (Dv w g o vs);exact hK.out _ _ k1 (fun _=>by rw[hlt];exact k2))
theorem Mx (ty:TypeId)(x y:Operand)(ho:op.op= .store ty x y)(g o:Nat)(v:Value)(hx:a.eval x= .pointer (some ⟨g,o,none⟩))(hy:a.eval y=v)(ht:w.there g o 1)
    (hz:(P.info? ty).map (·.size)=some 1)(hc:v.cells=#[v])(h1:v.oneCell'=true){K:Act->World->Prop}(h:K (a.put op.dst undef) (w.setCells g o [v])):op.wp P a w K Q:=by
  unfold Oper.wp execOp;simp only[ho,hx,hy,Instr.storeAt,Instr.sureAddr,Sem.run_bind,Sem.run_pure,Result.andThen_ok,Ol w g o ty v ht hz hc h1];exact h
theorem lL (hw:Region.wanted op (yielded ops a.tmps)=true)(ty:TypeId)(x y:Operand)(ho:op.op= .store ty x y){g:Nat}{t:TypeId}{cs:List Value}(hH:Hp w0 w m)(hi:m[ix]?=some (.blk g t cs))(o:Nat)(v:Value)
    (hx:a.eval x= .pointer (some ⟨g,o,none⟩))(hy:a.eval y=v)(hl:o+1<=cs.length)(hz:(P.info? ty).map (·.size)=some 1)(hc:v.cells=#[v])(h1:v.oneCell'=true)(hn:Ar [v])
    (h:∀w',Hp w0 w' (m.set ix (.blk g t (cs.take o++[v]++cs.drop (o+1))))->Ah w w'->Ba g w w'->wpList P ops Q rest (a.put op.dst undef) w'):wpList P ops Q (op::rest) a w:=
  Bk hw (Mx ty x y ho g o v hx hy (hH.there hi o 1 hl) hz hc h1 (h _ (hH.store hi o [v] hl hn) (hH.storeDig hi o [v]) (Dv w g o [v])))
theorem lK (hw:Region.wanted op (yielded ops a.tmps)=true)(ty:TypeId)(x y:Operand)(ho:op.op= .store ty x y){g n cap size:Nat}{t:TypeId}{xs:List Value}(hH:Hp w0 w m)(hi:m[ix]?=some (.row t size (.slice (π g) n cap) n xs))(o:Nat)(vs:List Value)
    (hx:a.eval x= .pointer (some ⟨g,o,none⟩))(hy:a.eval y= .agg vs.toArray)(hl:o+vs.length<=xs.length)(hz:(P.info? ty).map (·.size)=some vs.length)(h1:∀v,v∈vs->v.oneCell'=true)(hn:Ar vs)
    (h:∀w',Hp w0 w' (m.set ix (.row t size (.slice (π g) n cap) n (xs.take o++vs++xs.drop (o+vs.length))))->Ah w w'->Ba g w w'->wpList P ops Q rest (a.put op.dst undef) w'):wpList P ops Q (op::rest) a w:=
  Bk hw (wp_store_mid ty x y ho g o vs.toArray hx hy (by simpa using(hH.row hi).there o vs.length hl) (by simpa using hz) (all_oneCell_toArray h1) (by
    rw[List.toList_toArray];exact h _ (hH.storeRow hi o vs hl hn) (hH.storeRowDig hi o vs) (Dv w g o vs)))
theorem iF (hw:Region.wanted op (yielded ops a.tmps)=true)(ty:TypeId)(x y:Operand)(ho:op.op= .store ty x y){g n cap size:Nat}{t:TypeId}{xs:List Value}(hH:Hp w0 w m)(hi:m[ix]?=some (.row t size (.slice (π g) n cap) n xs))(o:Nat)(v:Value)
    (hx:a.eval x= .pointer (some ⟨g,o,none⟩))(hy:a.eval y=v)(hl:o+1<=xs.length)(hz:(P.info? ty).map (·.size)=some 1)(hc:v.cells=#[v])(h1:v.oneCell'=true)(hn:Ar [v])
    (h:∀w',Hp w0 w' (m.set ix (.row t size (.slice (π g) n cap) n (xs.take o++[v]++xs.drop (o+1))))->Ah w w'->Ba g w w'->wpList P ops Q rest (a.put op.dst undef) w'):wpList P ops Q (op::rest) a w:=
  Bk hw (Mx ty x y ho g o v hx hy ((hH.row hi).there o 1 hl) hz hc h1 (h _ (hH.storeRow hi o [v] hl hn) (hH.storeRowDig hi o [v]) (Dv w g o [v])))
theorem rD (hw:Region.wanted op (yielded ops a.tmps)=true)(ty:TypeId)(x:Operand)(ho:op.op= .load ty x)(g o:Nat)(cs:List Value){d:TypeDesc}(hx:a.eval x= .pointer (some ⟨g,o,none⟩))(hb:w.rangeAt g o cs)
    (hu:P.underlying ty=some d)(hd:d.isRow=true)(hz:(P.info? ty).map (·.size)=some cs.length)(h:wpList P ops Q rest (a.put op.dst (.agg cs.toArray)) w):wpList P ops Q (op::rest) a w:=
  Bk hw (wp_load_mid ty x ho g o hx cs d hb hu hd hz h)
theorem lN {g o:Nat}{v:Value}(hw:Region.wanted op (yielded ops a.tmps)=true)(hc:w.cell? ⟨g,o,none⟩=some v)(hv:∀x:World,x.cell? ⟨g,o,none⟩=some v->(execOp a.eval op).run P x= .ok (.value v) x)
    (h:wpList P ops Q rest (a.put op.dst v) w):wpList P ops Q (op::rest) a w:=Lp hw (hv w hc) h
theorem Cr {g o:Nat}{v:Value}(hi:l[i]?=some oi)(hs:Region.noSelect l.toArray=true)(hf:Region.free md l.toArray listed i=true)(hr:(Region.ready md l.toArray listed).contains i=true)
    (hQ:∀c a w,Q (.panic c) (a.put oi.dst v) w->Q (.panic c) a w)(hw:Region.wanted oi (yielded l.toArray a.tmps)=true)(hc:∀x,S x->x.cell? ⟨g,o,none⟩=some v)(hv:∀x:World,x.cell? ⟨g,o,none⟩=some v->(execOp a.eval oi).run P x= .ok (.value v) x)(hS:S w)
    (hl:listed.setIfInBounds i true=listed')(h:wpAnyH P md l.toArray Q S fuel listed' (a.put oi.dst v) w):wpAnyH P md l.toArray Q S (fuel+1) listed a w:=
  Lr hi hs hf hr hQ hw (fun x hx=>hv x (hc x hx)) hS hl h
end
end
section
namespace Stb
variable {α:Type}
theorem rev_rec {motive:List α->Prop}(nil:motive [])(snoc:∀l y,motive l->motive (l++[y]))(l:List α):motive l:=by
  have h:∀m:List α,motive m.reverse:=by
    intro m;induction m with
    |nil=>exact nil
    |cons x m ih=>rw[List.reverse_cons];exact snoc _ _ ih
  have:=h l.reverse;rwa[List.reverse_reverse]at this
def ins (lt:α->α->Bool):List α->α->List α
  | [],y=>[y]
  |x::l,y=>if lt y x then y::x::l else x::ins lt l y
def mrg (lt:α->α->Bool):List α->List α->List α
  | [],l=>l
  |x::a,[]=>x::a
  |x::a,y::b=>if lt y x then y::mrg lt (x::a) b else x::mrg lt a (y::b)
termination_by a b=>a.length+b.length
def stab (lt:α->α->Bool)(l:List α):List α:=l.foldl (ins lt) []
structure Wk (lt:α->α->Bool):Prop where
  asym:∀x y,lt x y=true->lt y x=false
  trans:∀x y z,lt y x=false->lt z y=false->lt z x=false
variable {lt:α->α->Bool}
theorem Wk.irr (h:Wk lt)(x:α):lt x x=false:=by
  cases e:lt x x with
  |false=>rfl
  |true=>have:=h.asym x x e;rw[e]at this;exact this
theorem Wk.tr (h:Wk lt){x y z:α}(a:lt x y=true)(b:lt y z=true):lt x z=true:=by
  cases e:lt x z with
  |true=>rfl
  | false=>
    have:=h.trans y z x (h.asym y z b) e;rw[a]at this;cases this
theorem mrg_nil (a:List α):mrg lt a []=a:=by cases a<;>simp[mrg]
theorem nil_mrg (a:List α):mrg lt [] a=a:=by simp[mrg]
theorem mrg_cons (x y:α)(a b:List α):mrg lt (x::a) (y::b)=if lt y x then y::mrg lt (x::a) b else x::mrg lt a (y::b):=by rw[mrg]
theorem mrg_len (a b:List α):(mrg lt a b).length=a.length+b.length:=by
  induction a,b using mrg.induct (lt:=lt)with
  |case1 l=>simp[mrg]
  |case2 x a=>simp[mrg]
  |case3 x a y b h ih=>rw[mrg,if_pos h];simp[ih];omega
  |case4 x a y b h ih=>rw[mrg,if_neg h];simp[ih];omega
theorem ins_len (l:List α)(y:α):(ins lt l y).length=l.length+1:=by
  induction l with
  |nil=>rfl
  |cons x l ih=>unfold ins;split<;>simp[ih]
theorem stab_snoc (l:List α)(y:α):stab lt (l++[y])=ins lt (stab lt l) y:=by simp[stab]
theorem stab_nil:stab lt ([]:List α)=[]:=rfl
theorem stab_len (l:List α):(stab lt l).length=l.length:=by
  induction l using rev_rec with
  |nil=>rfl
  |snoc l y ih=>rw[stab_snoc,ins_len,ih];simp
theorem mem_ins {l:List α}{y z:α}:z∈ins lt l y↔z=y\/z∈l:=by
  induction l with
  |nil=>simp[ins]
  | cons x l ih=>
    unfold ins;split
    · simp
    simp only[List.mem_cons,ih];constructor
    · rintro(h|h|h)<;>simp[h]
    rintro(h|h|h)<;>simp[h]
theorem mem_stab {l:List α}{z:α}:z∈stab lt l↔z∈l:=by
  induction l using rev_rec with
  |nil=>simp[stab]
  |snoc l y ih=>rw[stab_snoc,mem_ins,ih];simp;exact or_comm
def Srt (lt:α->α->Bool)(l:List α):Prop:=l.Pairwise fun x y=>lt y x=false
theorem ins_srt (W:Wk lt){l:List α}{y:α}(h:Srt lt l):Srt lt (ins lt l y):=by
 induction l with
 |nil=>exact List.pairwise_singleton _ _
 |cons x l ih=>
  have hx:=List.pairwise_cons.1 h;unfold ins;split
  ·rename_i hl
   refine List.pairwise_cons.2 ⟨fun z hz=> ?_,h⟩;rcases List.mem_cons.1 hz with rfl|hz
   ·exact W.asym _ _ hl
   exact W.trans y x z (W.asym _ _ hl) (hx.1 z hz)
  rename_i hl;refine List.pairwise_cons.2 ⟨fun z hz=> ?_,ih hx.2⟩;rcases mem_ins.1 hz with rfl|hz
  ·exact eq_false_of_ne_true hl
  exact hx.1 z hz
theorem stab_srt (W:Wk lt)(l:List α):Srt lt (stab lt l):=by
  induction l using rev_rec with
  |nil=>exact List.Pairwise.nil
  |snoc l y ih=>rw[stab_snoc];exact ins_srt W ih
theorem mrg_ins (W:Wk lt)(a b:List α)(y:α):mrg lt a (ins lt b y)=ins lt (mrg lt a b) y:=by
 induction a,b using mrg.induct (lt:=lt)with
 |case1 l=>simp[mrg]
 |case2 x a=>
  show mrg lt (x::a) [y]=ins lt (mrg lt (x::a) []) y;rw[mrg_nil];induction a generalizing x with
  |nil=>rw[mrg_cons,ins];split<;>simp[mrg,ins]
  |cons z a ih=>
   rw[mrg_cons,ins];split
   ·rw[mrg_nil]
   rw[ih]
 |case3 x a z b h ih=>
  rw[mrg_cons,if_pos h];by_cases hz:lt y z=true
  ·have e:ins lt (z::b) y=y::z::b:=by rw[ins,if_pos hz]
   rw[e,mrg_cons,if_pos (W.tr hz h),mrg_cons,if_pos h,ins,if_pos hz]
  have e:ins lt (z::b) y=z::ins lt b y:=by rw[ins,if_neg hz]
  rw[e,mrg_cons,if_pos h,ih,ins,if_neg hz]
 |case4 x a z b h ih=>
  rw[mrg_cons x z a b,if_neg h];by_cases hz:lt y z=true
  ·have e:ins lt (z::b) y=y::z::b:=by rw[ins,if_pos hz]
   rw[e]at ih⊢;rw[mrg_cons,ins];by_cases hx:lt y x=true
   ·rw[if_pos hx,if_pos hx,mrg_cons,if_neg h]
   rw[if_neg hx,if_neg hx,ih]
  have e:ins lt (z::b) y=z::ins lt b y:=by rw[ins,if_neg hz]
  have hx:¬lt y x=true:=by
   have:=W.trans x z y (eq_false_of_ne_true h) (eq_false_of_ne_true hz);rw[this];simp
  rw[e]at ih⊢;rw[mrg_cons,if_neg h,ih,ins,if_neg hx]
theorem mrg_stab (W:Wk lt)(l m:List α):mrg lt (stab lt l) (stab lt m)=stab lt (l++m):=by
  induction m using rev_rec with
  |nil=>rw[stab_nil,mrg_nil,xD]
  |snoc m y ih=>rw[stab_snoc,mrg_ins W,ih,<-wN,stab_snoc]
theorem mrg_app (a1 a2 b1 b2:List α)(h1:∀x,x∈a1->∀y,y∈b2->lt y x=false)(h2:∀y,y∈b1->∀x,x∈a2->lt y x=true):
  mrg lt (a1++a2) (b1++b2)=mrg lt a1 b1++mrg lt a2 b2:=by
 induction a1,b1 using mrg.induct (lt:=lt)with
 |case1 l=>
  rw[nil_mrg,wT];clear h1;induction l with
  |nil=>rfl
  |cons y l ih=>
   cases a2 with
   |nil=>simp[nil_mrg]
   |cons x a2=>
    rw[wR,mrg_cons,if_pos (h2 y (by simp) x (by simp)),ih (fun y hy=>h2 y (by simp[hy]))];rfl
 |case2 x a=>
  rw[mrg_nil,wT];clear h2;generalize hl:x::a=l at h1⊢;clear hl x a;induction l with
  |nil=>rfl
  |cons x l ih=>
   cases b2 with
   |nil=>simp[mrg_nil]
   |cons y b2=>
    have e:¬lt y x=true:=by rw[h1 x (by simp) y (by simp)];simp
    rw[wR,mrg_cons,if_neg e,ih (fun x hx=>h1 x (by simp[hx]))];rfl
 |case3 x a y b h ih=>
  rw[mrg_cons,if_pos h,wR,wR,mrg_cons,if_pos h,wR];have:=ih h1 (fun y hy=>h2 y (by simp[hy]));rw[wR]at this;rw[this]
 |case4 x a y b h ih=>
  rw[mrg_cons,if_neg h,wR,wR,mrg_cons,if_neg h,wR];have:=ih (fun x hx=>h1 x (by simp[hx])) h2;rw[wR]at this;rw[this]
theorem ins_split (l r:List α)(y:α)(h1:∀z,z∈l->lt y z=false)(h2:∀z,z∈r->lt y z=true):ins lt (l++r) y=l++y::r:=by
  induction l with
  | nil=>
    cases r with
    |nil=>rfl
    |cons z r=>rw[wT,ins,if_pos (h2 z (by simp))];rfl
  | cons z l ih=>
    have e:¬lt y z=true:=by rw[h1 z (by simp)];simp
    rw[wR,ins,if_neg e,ih (fun z hz=>h1 z (by simp[hz]))];rfl
theorem stab_take1 (l:List α):stab lt (l.take 1)=l.take 1:=by cases l<;>rfl
theorem ins_stop (W:Wk lt){l:List α}{y:α}{u:Nat}(hs:Srt lt l)(ha:∀z,z∈l.drop u->lt y z=true)(hu:u<=l.length)(h:u=0\/∃q,q+1=u/\∃hq:q<l.length,lt y l[q]=false):
  ins lt l y=l.take u++y::l.drop u:=by
 have h0:∀z,z∈l.take u->lt y z=false:=by
  intro z hz;rcases h with rfl|⟨q,rfl,hq,hy⟩
  ·simp at hz
  rw[wV hq]at hz;rcases List.mem_append.1 hz with hz|hz
  ·refine W.trans z l[q] y ?_ hy
   have e:l=l.take q++l[q]::l.drop (q+1):=by rw[<-List.drop_eq_getElem_cons hq,List.take_append_drop]
   have A0:=hs;rw[e]at A0;exact(List.pairwise_append.1 A0).2.2 z hz l[q] (List.mem_cons.2 (Or.inl rfl))
  simp at hz;rw[hz];exact hy
 have:=ins_split (lt:=lt) (l.take u) (l.drop u) y h0 ha;rwa[List.take_append_drop]at this
end Stb
end
section
section
variable {α:Type} {enc:α->List Value} {k:Nat}
theorem Kc (hk:∀x,(enc x).length=k)(xs:List α):(xs.flatMap enc).length=xs.length*k:=by
  induction xs with
  |nil=>simp
  |cons x xs ih=>rw[List.flatMap_cons,wD,ih,hk,xB,xL];omega
theorem tN {xs:List α}{i:Nat}{x:α}(h:xs[i]?=some x):xs=xs.take i++x::xs.drop (i+1)/\(xs.take i).length=i/\∀y,xs.set i y=xs.take i++y::xs.drop (i+1):=by
  obtain⟨hi,rfl⟩:=List.getElem?_eq_some_iff.1 h;refine⟨by simp,by rw[wK];omega,fun y=> ?_⟩;rw[List.set_eq_take_append_cons_drop,if_pos hi]
theorem Al.setMid {w:World}{g:Nat}{t:TypeId}{A B C:List Value}(h:Al w g t (A++(B++C)).toArray)(B':List Value)(hl:B'.length=B.length):Al (w.setCells g A.length B') g t (A++(B'++C)).toArray:=by
  have h2:=Al.setPart h A.length B' (by simp;omega);rw[hl]at h2;have e:(A++(B++C)).take A.length++B'++(A++(B++C)).drop (A.length+B.length)=A++(B'++C):=by simp
  rwa[e]at h2
structure Sw (w wr:World) (g:Nat) (T:TypeId) (enc:α->List Value) (rest:List Value) (xs:List α):Prop where
  blk:Al wr g T (xs.flatMap enc++rest).toArray
  own:Ba g w wr
variable {w wr:World} {g:Nat} {T:TypeId} {rest:List Value} {xs:List α}
theorem Sw.ext {w':World}(h:Sw w wr g T enc rest xs)(e:Aa wr w'):Sw w w' g T enc rest xs:=⟨h.blk.ext e,h.own.then_ext e⟩
theorem Sw.split (h:Sw w wr g T enc rest xs){i:Nat}{x:α}(hx:xs[i]?=some x)(hk:∀x,(enc x).length=k):
  ∃A C:List Value,A.length=i*k/\Al wr g T (A++(enc x++C)).toArray/\∀y,(xs.set i y).flatMap enc++rest=A++(enc y++C):=by
 obtain⟨e,hl,hs⟩:=tN hx;refine⟨(xs.take i).flatMap enc,(xs.drop (i+1)).flatMap enc++rest,by rw[Kc hk,hl],?_,fun y=> ?_⟩
 ·have hb:=h.blk
  rw[e]at hb;simpa[List.flatMap_append,List.flatMap_cons,wN]using hb
 rw[hs];simp[List.flatMap_append,List.flatMap_cons,wN]
theorem Sw.read (h:Sw w wr g T enc rest xs){i:Nat}{x:α}(hx:xs[i]?=some x)(hk:∀x,(enc x).length=k):wr.rangeAt g (i*k) (enc x):=by
  obtain⟨A,C,hA,hb,_⟩:=h.split hx hk;intro j v hv;rw[hb.cell,wL,wJ ω,wQ (by have:=(List.getElem?_eq_some_iff.1 hv).1;omega)];rw[show i*k+j-A.length=j by omega];exact hv
theorem Sw.there (h:Sw w wr g T enc rest xs){i:Nat}(hi:i<xs.length)(hk:∀x,(enc x).length=k):wr.there g (i*k) k:=by
  obtain⟨A,C,hA,hb,_⟩:=h.split (wC hi) hk;have:=hb.therePart (i*k) k (by simp[hk];omega);exact this
theorem Sw.put (h:Sw w wr g T enc rest xs){i:Nat}(hi:i<xs.length)(hk:∀x,(enc x).length=k)(y:α):Sw w (wr.setCells g (i*k) (enc y)) g T enc rest (xs.set i y):=by
  obtain⟨A,C,hA,hb,hs⟩:=h.split (wC hi) hk;refine⟨?_,Ba.setCells_l _ _ h.own⟩;rw[hs,<-hA];exact hb.setMid _ (by rw[hk,hk])
theorem Sw.refl (hb:Al w g T (xs.flatMap enc++rest).toArray):Sw w w g T enc rest xs:=⟨hb,Ba.refl _ _⟩
def jV (xs:List α)(i j:Nat):List α:=match xs[i]?,xs[j]?with|some x,some y=>(xs.set i y).set j x|_,_=>xs
theorem Lh {i j:Nat}{x y:α}(hx:xs[i]?=some x)(hy:xs[j]?=some y):jV xs i j=(xs.set i y).set j x:=by unfold jV;rw[hx,hy]
theorem oA (xs:List α)(i j:Nat):(jV xs i j).length=xs.length:=by unfold jV;split<;>simp
theorem eA (P M S:List α)(x y:α):jV (P++x::(M++y::S)) P.length (P.length+1+M.length)=P++y::(M++x::S):=by
 have h1:(P++x::(M++y::S))[P.length]?=some x:=by simp
 have e:P++x::(M++y::S)=(P++x::M)++y::S:=by simp
 have h2:(P++x::(M++y::S))[P.length+1+M.length]?=some y:=by
  rw[e,show P.length+1+M.length=(P++x::M).length by simp;omega];simp
 rw[Lh h1 h2];have s1:(P++x::(M++y::S)).set P.length y=(P++y::M)++y::S:=by simp
 rw[s1,show P.length+1+M.length=(P++y::M).length by simp;omega];simp
end
section
variable {P:Program} {l:List Oper} {Q:Exit->Act->World->Prop} {md:Region.Mode} {S:World->Prop} {i j:Nat} {oi oj:Oper} {fuel:Nat} {listed li lj listed':Array Bool} {a:Act} {w:World}
theorem Mj (hi:l[i]?=some oi)(hj:l[j]?=some oj)(hr:Region.ready md l.toArray listed=[i,j])(hli:listed.setIfInBounds i true=li)(hlj:listed.setIfInBounds j true=lj)
  (hri:Region.ready md l.toArray li=[j])(hrj:Region.ready md l.toArray lj=[i])(hl:li.setIfInBounds j true=listed')(hl2:lj.setIfInBounds i true=listed')
  (ty:TypeId)(x y:Operand)(ho:oi.op= .load ty x)(hoj:oj.op= .load ty y)(hg:oi.guard=none)(hgj:oj.guard=none)(g ox oy:Nat)(cx cy:List Value)(d:TypeDesc)(hu:P.underlying ty=some d)(hd:d.isRow=true)
  (hx:a.eval x= .pointer (some ⟨g,ox,none⟩))(hy:(a.put oi.dst (.agg cx.toArray)).eval y= .pointer (some ⟨g,oy,none⟩))(hy0:a.eval y= .pointer (some ⟨g,oy,none⟩))(hx1:(a.put oj.dst (.agg cy.toArray)).eval x= .pointer (some ⟨g,ox,none⟩))
  (hbx:w.rangeAt g ox cx)(hby:w.rangeAt g oy cy)(hzx:(P.info? ty).map (·.size)=some cx.length)(hzy:(P.info? ty).map (·.size)=some cy.length)(hS:S w)
  (hc:(a.put oj.dst (.agg cy.toArray)).put oi.dst (.agg cx.toArray)=(a.put oi.dst (.agg cx.toArray)).put oj.dst (.agg cy.toArray))
  (h:wpAnyH P md l.toArray Q S fuel listed' ((a.put oi.dst (.agg cx.toArray)).put oj.dst (.agg cy.toArray)) w):wpAnyH P md l.toArray Q S (fuel+1+1) listed a w:=by
 have wi:∀t,Region.wanted oi (yielded l.toArray t)=true:=fun t=>by simp only[Region.wanted,hg]
 have wj:∀t,Region.wanted oj (yielded l.toArray t)=true:=fun t=>by simp only[Region.wanted,hgj]
 refine wpAnyH_ready hr (by simp) (AllReadyH.cons (by rw[wL];exact hi) (fun K hK=> ?_) (AllReadyH.cons (by rw[wL];exact hj) (fun K hK=> ?_) AllReadyH.nil))
 ·rw[if_pos (wi _)]
  refine wp_load_mid ty x ho g ox hx cx d hbx hu hd hzx (hK.out _ _ hS (fun _=> ?_));rw[hli];refine El hj hri (fun K hK=> ?_);rw[if_pos (wj _)];refine wp_load_mid ty y hoj g oy hy cy d hby hu hd hzy (hK.out _ _ hS (fun _=> ?_));rw[hl];exact h
 rw[if_pos (wj _)];refine wp_load_mid ty y hoj g oy hy0 cy d hby hu hd hzy (hK.out _ _ hS (fun _=> ?_));rw[hlj];refine El hi hrj (fun K hK=> ?_);rw[if_pos (wi _)];refine wp_load_mid ty x ho g ox hx1 cx d hbx hu hd hzx (hK.out _ _ hS (fun _=> ?_));rw[hl2,hc];exact h
theorem Gu (hi:l[i]?=some oi)(hr:Region.ready md l.toArray listed=[i])(hg:oi.guard=none)(ty:TypeId)(x y:Operand)(ho:oi.op= .store ty x y)
    (g o:Nat)(cs:List Value)(hx:a.eval x= .pointer (some ⟨g,o,none⟩))(hy:a.eval y= .agg cs.toArray)(ht:w.there g o cs.length)
    (hz:(P.info? ty).map (·.size)=some cs.length)(h1:∀v,v∈cs->v.oneCell'=true)(hS:S (w.setCells g o cs))(hl:listed.setIfInBounds i true=listed')
    (h:wpAnyH P md l.toArray Q S fuel listed' (a.put oi.dst undef) (w.setCells g o cs)):wpAnyH P md l.toArray Q S (fuel+1) listed a w:=
  El hi hr (fun K hK=>by
    rw[if_pos (by simp only[Region.wanted,hg])];exact wp_store_mid ty x y ho g o cs.toArray hx hy (by simpa using ht) (by simpa using hz) (all_oneCell_toArray h1) (hK.out _ _ hS (fun _=>by rw[hl];exact h)))
end
end
section
section
variable {α:Type}
def Oa (xs:List α)(a b:Nat):Nat->List α
  |0=>xs
  |t+1=>jV (Oa xs a b t) (a+t) (b+t)
theorem Pq (xs:List α)(a b t:Nat):Oa xs a b (t+1)=jV (Oa xs a b t) (a+t) (b+t):=rfl
theorem jU (xs:List α)(a b t:Nat):(Oa xs a b t).length=xs.length:=by
  induction t with
  |zero=>rfl
  |succ t ih=>rw[Pq,oA,ih]
theorem Rz (P X M Y S:List α)(n:Nat)(hX:X.length=n)(hY:Y.length=n):Oa (P++(X++(M++(Y++S)))) P.length (P.length+n+M.length) n=P++(Y++(M++(X++S))):=by
 have key:∀t,t<=n->Oa (P++(X++(M++(Y++S)))) P.length (P.length+n+M.length) t=P++(Y.take t++(X.drop t++(M++(X.take t++(Y.drop t++S))))):=by
  intro t;induction t with
  |zero=>intro _;simp[Oa]
  |succ t ih=>
   intro ht;rw[Pq,ih ω];have hx:t<X.length:=ω
   have hy:t<Y.length:=ω;have ex:X.drop t=X[t]::X.drop (t+1):=List.drop_eq_getElem_cons hx;have ey:Y.drop t=Y[t]::Y.drop (t+1):=List.drop_eq_getElem_cons hy;have e1:P++(Y.take t++(X.drop t++(M++(X.take t++(Y.drop t++S)))))=(P++Y.take t)++X[t]::((X.drop (t+1)++(M++X.take t))++Y[t]::(Y.drop (t+1)++S)):=by rw[ex,ey];simp only[wN,wR]
   have l1:(P++Y.take t).length=P.length+t:=by simp;omega
   have l2:(X.drop (t+1)++(M++X.take t)).length=n-1+M.length:=by simp;omega
   have c:=eA (P++Y.take t) (X.drop (t+1)++(M++X.take t)) (Y.drop (t+1)++S) X[t] Y[t];rw[l1,l2,show P.length+t+1+(n-1+M.length)=P.length+n+M.length+t by omega]at c;rw[e1,c,wV hx,wV hy];simp only[wN,wR,wT]
 have h:=key n (Bz _);rw[h];have a1:Y.take n=Y:=wI ω;have a2:X.take n=X:=wI ω;have a3:X.drop n=[]:=List.drop_of_length_le ω;have a4:Y.drop n=[]:=List.drop_of_length_le ω;rw[a1,a2,a3,a4];simp
theorem Pf (P A R:List α)(t:Nat)(h:t<A.length):(P++(A++R))[P.length+t]?=A[t]?:=by
  rw[wJ ω,show P.length+t-P.length=t by omega,wQ h]
theorem bP (P B S:List α)(x:α)(t:Nat)(h:t<B.length):jV (P++(B.take t++x::(B.drop t++S))) (P.length+t) (P.length+t+1)=P++(B.take (t+1)++x::(B.drop (t+1)++S)):=by
 have e:B.drop t=B[t]::B.drop (t+1):=List.drop_eq_getElem_cons h;have e1:P++(B.take t++x::(B.drop t++S))=(P++B.take t)++x::([]++B[t]::(B.drop (t+1)++S)):=by rw[e];simp only[wN,wR,wT]
 have l1:(P++B.take t).length=P.length+t:=by simp;omega
 have c:=eA (P++B.take t) [] (B.drop (t+1)++S) x B[t];rw[l1,List.length_nil,xO]at c;rw[e1];refine c.trans ?_;rw[wV h];simp only[wN,wR,wT]
theorem Me (P A S:List α)(y:α)(t:Nat)(h:t<A.length):jV (P++(A.take (t+1)++y::(A.drop (t+1)++S))) (P.length+t+1) (P.length+t)=P++(A.take t++y::(A.drop t++S)):=by
 have e:A.drop t=A[t]::A.drop (t+1):=List.drop_eq_getElem_cons h;have hx:(P++(A.take (t+1)++y::(A.drop (t+1)++S)))[P.length+t+1]?=some y:=by
  rw[wJ ω,wJ (by simp;omega)];simp;rw[show P.length+t+1-P.length-min (t+1) A.length=0 by omega];rfl
 have hy:(P++(A.take (t+1)++y::(A.drop (t+1)++S)))[P.length+t]?=some A[t]:=by
  rw[wJ ω,wQ (by simp;omega)];rw[show P.length+t-P.length=t by omega];simp[h]
 rw[Lh hx hy];have e1:P++(A.take (t+1)++y::(A.drop (t+1)++S))=(P++A.take t)++A[t]::([]++y::(A.drop (t+1)++S)):=by rw[wV h];simp only[wN,wR,wT]
 have l1:(P++A.take t).length=P.length+t:=by simp;omega
 rw[e1,e];have s1:((P++A.take t)++A[t]::([]++y::(A.drop (t+1)++S))).set (P.length+t+1) A[t]=(P++A.take t)++A[t]::([]++A[t]::(A.drop (t+1)++S)):=by
  rw[<-l1,List.set_append_right _ _ ω];simp
 rw[s1,<-l1,List.set_append_right _ _ ω,Nat.sub_self,List.set_cons_zero];simp only[wN,wR,wT]
namespace Stb
variable {lt:α->α->Bool}
theorem mrg_one_right (A:List α)(y:α):mrg lt A [y]=ins lt A y:=by
  induction A with
  |nil=>simp[mrg,ins]
  | cons x A ih => rw[mrg_cons,ins];split;· rw[mrg_nil]
                   rw[ih]
theorem mrg_one_left (B1 B2:List α)(x:α)(h1:∀z,z∈B1->lt z x=true)(h2:∀z,z∈B2->lt z x=false):mrg lt [x] (B1++B2)=B1++x::B2:=by
  have h:=mrg_app (lt:=lt) [] [x] B1 B2 (by simp) (fun y hy z hz=>by simp at hz;rw[hz];exact h1 y hy);have h3:=mrg_app (lt:=lt) [x] [] [] B2 (fun z hz y hy=>by simp at hz;rw[hz];exact h2 y hy) (by simp);simp only[xD,wT,nil_mrg,mrg_nil,List.singleton_append]at h h3;rw[h,h3]
theorem Srt.le (W:Wk lt){l:List α}(h:Srt lt l){i j:Nat}{x y:α}(hi:l[i]?=some x)(hj:l[j]?=some y)(hij:i<=j):lt y x=false:=by
  rcases Nat.lt_or_ge i j with hlt|hge
  · obtain⟨h1,rfl⟩:=List.getElem?_eq_some_iff.1 hi
    obtain⟨h2,rfl⟩:=List.getElem?_eq_some_iff.1 hj;exact(List.pairwise_iff_getElem.1 h) i j h1 h2 hlt
  obtain rfl:i=j:=ω;rw[hi]at hj;injection hj with hj
  subst hj;exact W.irr x
theorem mem_take {l:List α}{n:Nat}{z:α}(h:z∈l.take n):∃i,i<n/\l[i]?=some z:=by
  obtain⟨i,hi⟩:=List.mem_iff_getElem?.1 h;rw[List.getElem?_take]at hi;by_cases h1:i<n
  · rw[if_pos h1]at hi;exact⟨i,h1,hi⟩
  rw[if_neg h1]at hi;cases hi
theorem mem_drop {l:List α}{n:Nat}{z:α}(h:z∈l.drop n):∃i,n<=i/\l[i]?=some z:=by
  obtain⟨i,hi⟩:=List.mem_iff_getElem?.1 h;rw[List.getElem?_drop]at hi;exact⟨n+i,ω,hi⟩
theorem one_left (W:Wk lt){B:List α}{x:α}{s:Nat}(hB:Srt lt B)(h1:s=0\/∃z,B[s-1]?=some z/\lt z x=true)(h2:B.length<=s\/∃z,B[s]?=some z/\lt z x=false):mrg lt [x] B=B.take s++x::B.drop s:=by
 have h:=mrg_one_left (lt:=lt) (B.take s) (B.drop s) x (fun z hz=>by
  obtain⟨i,hi,hg⟩:=mem_take hz;rcases h1 with rfl|⟨u,hu,hl⟩
  ·omega
  ·have:=hB.le W hg hu (ω)
   cases e:lt z x with
   |true=>rfl
   |false=>rw[W.trans x z u e this]at hl;cases hl) (fun z hz=>by
  obtain⟨i,hi,hg⟩:=mem_drop hz;rcases h2 with h2|⟨u,hu,hl⟩
  ·have:=(List.getElem?_eq_some_iff.1 hg).1;omega
  exact W.trans x u z hl (hB.le W hu hg hi))
 rwa[List.take_append_drop]at h
theorem one_right (W:Wk lt){A:List α}{y:α}{s:Nat}(hA:Srt lt A)(h1:s=0\/∃z,A[s-1]?=some z/\lt y z=false)(h2:A.length<=s\/∃z,A[s]?=some z/\lt y z=true):mrg lt A [y]=A.take s++y::A.drop s:=by
 rw[mrg_one_right];have h:=ins_split (lt:=lt) (A.take s) (A.drop s) y (fun z hz=>by
  obtain⟨i,hi,hg⟩:=mem_take hz;rcases h1 with rfl|⟨u,hu,hl⟩
  ·omega
  ·exact W.trans z u y (hA.le W hg hu ω) hl) (fun z hz=>by
  obtain⟨i,hi,hg⟩:=mem_drop hz;rcases h2 with h2|⟨u,hu,hl⟩
  ·have:=(List.getElem?_eq_some_iff.1 hg).1;omega
  have:=hA.le W hu hg hi;cases e:lt y z with
  |true=>rfl
  |false=>rw[W.trans u z y this e]at hl;cases hl)
 rwa[List.take_append_drop]at h
theorem sym_split (W:Wk lt){A B:List α}{s r:Nat}(hA:Srt lt A)(hB:Srt lt B)(h1:s=0\/B.length<=r\/∃x y,A[s-1]?=some x/\B[r]?=some y/\lt y x=false)(h2:r=0\/A.length<=s\/∃x y,A[s]?=some x/\B[r-1]?=some y/\lt y x=true):
  mrg lt A B=mrg lt (A.take s) (B.take r)++mrg lt (A.drop s) (B.drop r):=by
 have h:=mrg_app (lt:=lt) (A.take s) (A.drop s) (B.take r) (B.drop r) (fun x hx y hy=>by
  obtain⟨i,hi,A1⟩:=mem_take hx;obtain⟨j,hj,A0⟩:=mem_drop hy;rcases h1 with rfl|h1|⟨u,v,hu,hv,hl⟩
  ·omega
  ·have:=(List.getElem?_eq_some_iff.1 A0).1;omega
  ·exact W.trans x v y (W.trans x u v (hA.le W A1 hu ω) hl) (hB.le W hv A0 hj)) (fun y hy x hx=>by
  obtain⟨i,hi,A0⟩:=mem_take hy;obtain⟨j,hj,A1⟩:=mem_drop hx;rcases h2 with rfl|h2|⟨u,v,hu,hv,hl⟩
  ·omega
  ·have:=(List.getElem?_eq_some_iff.1 A1).1;omega
  have k1:=hA.le W hu A1 hj;have k2:=hB.le W A0 hv ω;cases e:lt y x with
  |true=>rfl
  |false=>rw[W.trans u y v (W.trans u x y k1 e) k2]at hl;cases hl)
 rwa[List.take_append_drop,List.take_append_drop]at h
theorem mrg_take_nil {A B:List α}{s r:Nat}(h:¬(0<s/\0<r)):mrg lt (A.take s) (B.take r)=A.take s++B.take r:=by
  rcases Nat.eq_zero_or_pos s with rfl|h1
  · simp[nil_mrg]
  obtain rfl:r=0:=ω;simp[mrg_nil]
theorem mrg_drop_nil {A B:List α}{s r:Nat}(h:¬(s<A.length/\r<B.length)):mrg lt (A.drop s) (B.drop r)=A.drop s++B.drop r:=by
  rcases Nat.lt_or_ge s A.length with h1|h1
  · rw[List.drop_of_length_le (show B.length<=r by omega),mrg_nil,xD]
  rw[List.drop_of_length_le h1,nil_mrg,wT]
theorem srt_take {l:List α}(h:Srt lt l)(n:Nat):Srt lt (l.take n):=h.sublist (List.take_sublist n l)
theorem srt_drop {l:List α}(h:Srt lt l)(n:Nat):Srt lt (l.drop n):=h.sublist (List.drop_sublist n l)
end Stb
end
theorem Fj {α:Type}{l:List α}(h:0<l.length):l≠ []:=by intro e;rw[e]at h;simp at h
def nN (P A B S a m b N ss mid M n p:Nat):Prop:=P=a/\a+A=m/\m+B=b/\P+(A+(B+S))=N/\2<=A/\2<=B/\ss=a+b/\mid=ss/2/\a+M=mid/\n=mid+m/\p+1=n
def tT (A B a M lo hi st r0:Nat):Prop:=st=a+lo/\r0=a+hi/\lo<=hi/\hi<=A/\hi<=M/\M<=lo+B
theorem rS {P A B S a m b N ss mid M n p lo hi st r0 s e i j:Nat}(hsz:N<=100000)(hF:nN P A B S a m b N ss mid M n p)(hG:tT A B a M lo hi st r0)(hls:lo<=s)(heh:e<=hi)(hi_:i=a+s)(hj_:j=a+e)(hlt:s<e):
  ∃sq h c ph:Nat,(sq=i+j/\h=sq/2/\ph+h=p/\i<j/\sq<=200000/\h<N/\ph<N/\i<=100000/\p<=200000)/\(h=a+c/\s<=c/\c<e)/\c<A/\M-c-1<B/\P+c=h/\P+A+(M-c-1)=ph:=by
 obtain⟨f1,f2,f3,f4,f5,f6,f7,f8,f9,A1,A0⟩:=hF;obtain⟨g1,g2,g3,g4,g5,g6⟩:=hG;refine⟨i+j,(i+j)/2,(i+j)/2-a,p-(i+j)/2,?_⟩;have h1:a+s<=(i+j)/2:=ω
 have h2:(i+j)/2<a+e:=ω;have h3:i+j<=200000:=ω;generalize hh:(i+j)/2=h at*;exact⟨⟨rfl,rfl,ω,ω,h3,ω,ω,ω,ω⟩,⟨ω,ω,ω⟩,ω,ω,ω,ω⟩
theorem nV {P A B S a m b N ss mid M n p lo hi st r0 s i:Nat}(hsz:N<=100000)(hF:nN P A B S a m b N ss mid M n p)(hG:tT A B a M lo hi st r0)(hls:lo<=s)(heh:s<=hi)(hi_:i=a+s):
  ∃r en:Nat,(s+r=M/\en+i=n/\r<=B/\s<=A/\en<=200000)/\P+(s+(r+((A-s)+((B-r)+S))))=N/\((i<m↔s<A)/\(m<en↔0<r)/\(a<i↔0<s)/\(i<mid↔0<r)/\(mid<en↔s<A)/\(en<b↔r<B))/\
   (P+s=i/\i+(A-s)=m/\m+r=en/\a+s=i/\i+r=mid/\mid+(A-s)=en/\en+(B-r)=b/\P+(s+r)=mid/\P=a)/\s+r<A+B/\(A-s)+(B-r)<A+B:=by
 obtain⟨f1,f2,f3,f4,f5,f6,f7,f8,f9,A1,A0⟩:=hF;obtain⟨g1,g2,g3,g4,g5,g6⟩:=hG;have hm:0<M/\M<A+B:=ω
 refine⟨M-s,m+(M-s),⟨ω,ω,ω,ω,ω⟩,ω,⟨ω,ω,ω,ω,ω,ω⟩,⟨ω,ω,ω,ω,ω,ω,ω,ω,ω⟩,ω,ω⟩
theorem nZ {P A B S a m b N ss mid M n p:Nat}(hsz:N<=100000)(hF:nN P A B S a m b N ss mid M n p)(h:mid<m):∃st lo,st+b=n/\st<=200000/\st=a+lo/\lo+B=M/\mid=a+M/\lo<=M/\M<=A:=by
  obtain⟨f1,f2,f3,f4,f5,f6,f7,f8,f9,A1,A0⟩:=hF;exact⟨n-b,n-b-a,ω,ω,ω,ω,ω,ω,ω⟩
theorem nW {P A B S a m b N ss mid M n p:Nat}(hF:nN P A B S a m b N ss mid M n p)(h:¬mid<m):A<=M/\M<=B/\m=a+A:=by
  obtain⟨f1,f2,f3,f4,f5,f6,f7,f8,f9,A1,A0⟩:=hF;exact⟨ω,ω,ω⟩
end
end Go.Proofs.YthlfilomhgeheaaGreat
