import Derived.Deep.DeepCutAuto
import Derived.Test.YthlfilomhgeheaaGreatM1
set_option maxRecDepth 100000
set_option maxHeartbeats 4000000
namespace Go.Proofs.YthlfilomhgeheaaGreat
open Go.RowKit
open Go.Proofs.Tryz
section
attribute [local go_sem ↓] Go.wp_at_zero Go.wp_at_succ Az Ay
theorem Gn (w:World)(n m:Bool)(u v:Value):∀w',Aa (w.alloc (.cells #[.bool n,u,.bool m,v] 31)) w'->
    w'.cell? ⟨w.heap.size,0,none⟩=some (.bool n)/\w'.cell? ⟨w.heap.size,1,none⟩=some u/\w'.cell? ⟨w.heap.size,2,none⟩=some (.bool m)/\w'.cell? ⟨w.heap.size,3,none⟩=some v/\
    w'.frozen? ⟨w.heap.size,0,none⟩=false/\w'.frozen? ⟨w.heap.size,1,none⟩=false/\w'.frozen? ⟨w.heap.size,2,none⟩=false/\w'.frozen? ⟨w.heap.size,3,none⟩=false:=fun w' h=>
  ⟨h.get (by simp),h.get (by simp),h.get (by simp),h.get (by simp),(h.frozen (by simp)).trans (World.frozen?_alloc_at _ _ _ _ (by simp)),(h.frozen (by simp)).trans (World.frozen?_alloc_at _ _ _ _ (by simp)),(h.frozen (by simp)).trans (World.frozen?_alloc_at _ _ _ _ (by simp)),(h.frozen (by simp)).trans (World.frozen?_alloc_at _ _ _ _ (by simp))⟩
abbrev Jo (w:World)(g:Nat)(u0 u1 u2 u3:Value):World:=(((w.setCell ⟨g,0,none⟩ u0).setCell ⟨g,1,none⟩ u1).setCell ⟨g,2,none⟩ u2).setCell ⟨g,3,none⟩ u3
theorem Zv {w:World}{g:Nat}{t:TypeId}{a b c d:Value}(h:Al w g t #[a,b,c,d])(u0 u1 u2 u3:Value):Al (Jo w g u0 u1 u2 u3) g t #[u0,u1,u2,u3]:=
  (((h.set_ 0 u0).set_ 1 u1).set_ 2 u2).set_ 3 u3
theorem Gx (w:World)(g:Nat)(u0 u1 u2 u3:Value):Ba g w (Jo w g u0 u1 u2 u3):=((((Ba.refl g w).set_at 0 none u0).set_at 1 none u1).set_at 2 none u2).set_at 3 none u3
theorem Al.own {w w':World}{g g':Nat}{t:TypeId}{cs:Array Value}(h:Al w g t cs)(e:Ba g' w w')(hne:g≠g'):Al w' g t cs:=
  (e.block g (Al.lt h) (fun x=>hne (by injection x))).trans h
theorem Xc {w0 wb:World}{A B:Nat}{t:TypeId}{a0 a1 a2 a3 d0 d1 d2 d3:Value}{n m n' m':Bool}{x1 x2 x3 x4:Option Addr}{y1 z1 y2 z2 y3 z3 y4 z4:Nat}{q r:Rat}
    (hA:Al wb A t #[a0,a1,a2,a3])(hB:Al wb B t #[d0,d1,d2,d3])(hAB:A≠B)(nA:Pp #[a0,a1,a2,a3])(nB:Pp #[d0,d1,d2,d3])(h0:Aa w0 wb)(hwA:w0.heap.size<=A)(hwB:w0.heap.size<=B)
    (hq:Cx wb n (.slice x1 y1 z1) m (.slice x2 y2 z2) q)(hr:Cx wb n' (.slice x3 y3 z3) m' (.slice x4 y4 z4) r):
    ∀wm,wm=Jo (Jo wb A (.bool n) (.slice x1 y1 z1) (.bool m) (.slice x2 y2 z2)) B (.bool n') (.slice x3 y3 z3) (.bool m') (.slice x4 y4 z4)->
    Al wm A t #[.bool n,.slice x1 y1 z1,.bool m,.slice x2 y2 z2]/\Al wm B t #[.bool n',.slice x3 y3 z3,.bool m',.slice x4 y4 z4]/\Cx wm n (.slice x1 y1 z1) m (.slice x2 y2 z2) q/\Cx wm n' (.slice x3 y3 z3) m' (.slice x4 y4 z4) r/\Aa w0 wm/\
    (∀X tx cs,X≠A->X≠B->Al wb X tx cs->Al wm X tx cs):=by
  rintro wm rfl;have o1:=Gx wb A (.bool n) (.slice x1 y1 z1) (.bool m) (.slice x2 y2 z2);have o2:=Gx (Jo wb A (.bool n) (.slice x1 y1 z1) (.bool m) (.slice x2 y2 z2)) B (.bool n') (.slice x3 y3 z3) (.bool m') (.slice x4 y4 z4);have b1:=Zv hA (.bool n) (.slice x1 y1 z1) (.bool m) (.slice x2 y2 z2);have b2:=Al.own hB o1 hAB.symm;exact⟨b1.own o2 hAB,Zv b2 _ _ _ _,(hq.own hA nA o1).own b2 nB o2,(hr.own hA nA o1).own b2 nB o2,o2.ext (o1.ext h0 hwA) hwB,fun X tx cs h1 h2 hX=>(hX.own o1 h1).own o2 h2⟩
theorem Al.new_at (w:World)(g:Nat)(h:g=w.heap.size)(t:TypeId)(cs:Array Value):Al (w.alloc (.cells cs t)) g t cs:=by subst h;exact Al.new w t cs
def Gf (A B:Nat)(t:TypeId)(csA csB:Array Value)(w:World):Prop:=Al w A t csA/\Al w B t csB
theorem Gf.drew {A B:Nat}{t:TypeId}{csA csB:Array Value}{w:World}(h:Gf A B t csA csB w):Gf A B t csA csB w.drew:=h
theorem Gf.ext {A B:Nat}{t:TypeId}{csA csB:Array Value}{w w':World}(h:Gf A B t csA csB w)(e:Aa w w'):Gf A B t csA csB w':=⟨h.1.ext e,h.2.ext e⟩
theorem Gf.via {A B:Nat}{t:TypeId}{csA csB:Array Value}{w w':World}(e:Aa w w')(h:Gf A B t csA csB w):Gf A B t csA csB w':=h.ext e
theorem Gf.store {A B:Nat}{t:TypeId}{csA csB:Array Value}{w:World}(h:Gf A B t csA csB w){p:Addr}(h1:A≠p.block)(h2:B≠p.block)(u:Value):Gf A B t csA csB (w.setCell p u):=⟨h.1.far h1 u,h.2.far h2 u⟩
theorem Gf.cells {A B:Nat}{t:TypeId}{a0 a1 a2 a3 d0 d1 d2 d3:Value}{w:World}(h:Gf A B t #[a0,a1,a2,a3] #[d0,d1,d2,d3] w):
    w.cell? ⟨A,0,none⟩=some a0/\w.cell? ⟨A,1,none⟩=some a1/\w.cell? ⟨A,2,none⟩=some a2/\w.cell? ⟨A,3,none⟩=some a3/\w.cell? ⟨B,0,none⟩=some d0/\w.cell? ⟨B,1,none⟩=some d1/\w.cell? ⟨B,2,none⟩=some d2/\w.cell? ⟨B,3,none⟩=some d3:=
  ⟨h.1.cell 0,h.1.cell 1,h.1.cell 2,h.1.cell 3,h.2.cell 0,h.2.cell 1,h.2.cell 2,h.2.cell 3⟩
def vL (x y d:Int)(w:World)(e:Ending)(w':World):Prop:=
  ∃n1 v1 n2 v2 n3 v3,e= .returned (.tuple #[.agg #[.bool n1,v1],.agg #[.bool n2,v2],.agg #[.bool n3,v3]])/\Bu w' n1 v1 x/\Bu w' n2 v2 y/\Bu w' n3 v3 d/\Aa w w'
abbrev Ja (w:World)(g:Nat)(u0 u1:Value):World:=(w.setCell ⟨g,0,none⟩ u0).setCell ⟨g,1,none⟩ u1
theorem Ip (w:World)(g:Nat)(u0 u1:Value):Ba g w (Ja w g u0 u1):=((Ba.refl g w).set_at 0 none u0).set_at 1 none u1
theorem oB {w0 w:World}{X Y D:Nat}{t:TypeId}{a b c d e f:Value}{u0 u1 u2 u3 u4 u5:Value}(hX:Al w X t #[a,b])(hY:Al w Y t #[c,d])(hD:Al w D t #[e,f])(nX:Pp #[a,b])(nY:Pp #[c,d])(nD:Pp #[e,f])
    (h1:Y≠X)(h2:D≠X)(h3:D≠Y)(hw:Aa w0 w)(s1:w0.heap.size<=X)(s2:w0.heap.size<=Y)(s3:w0.heap.size<=D):
    (∀n v z,Bu w n v z->Bu (Ja (Ja (Ja w X u0 u1) Y u2 u3) D u4 u5) n v z)/\Aa w0 (Ja (Ja (Ja w X u0 u1) Y u2 u3) D u4 u5):=by
  have o1:=Ip w X u0 u1;have o2:=Ip (Ja w X u0 u1) Y u2 u3;have o3:=Ip (Ja (Ja w X u0 u1) Y u2 u3) D u4 u5;exact⟨fun n v z h=>((h.own hX nX o1).own (hY.own o1 h1) nY o2).own ((hD.own o1 h2).own o2 h3) nD o3,o3.ext (o2.ext (o1.ext hw s1) s2) s3⟩
def Qk (w:World)(q r:Rat)(w':World):Prop:=
  ∃ b1 x1 y1 z1 b2 x2 y2 z2 b3 x3 y3 z3 b4 x4 y4 z4,Al w' w.heap.size 31 #[.bool b1,.slice x1 y1 z1,.bool b2,.slice x2 y2 z2]/\Al w' (w.heap.size+1) 31 #[.bool b3,.slice x3 y3 z3,.bool b4,.slice x4 y4 z4]/\
    Cx w' b1 (.slice x1 y1 z1) b2 (.slice x2 y2 z2) q/\Cx w' b3 (.slice x3 y3 z3) b4 (.slice x4 y4 z4) r/\Aa w w'
def Wu (X:Nat)(w':World):Prop:=Al w' X 29 θ/\Al w' (X+1) 29 θ/\Al w' (X+1+1) 29 θ
theorem Mq (n m n' m':Bool)(u v u' v':Value)(L:Nat)(q r:Rat)(w:World)(h:Dt L w n u m v q)(h':Dt L w n' u' m' v' r)(hL:L<=70000):
    Calls prog 51 #[.agg #[.bool n,u,.bool m,v],.agg #[.bool n',u',.bool m',v']] w (vL (q.num*r.den) (r.num*q.den) (q.den*r.den) w):=by
  obtain⟨p1,l1,c1,p2,l2,c2,rfl,rfl⟩:=h.form;obtain⟨p3,l3,c3,p4,l4,c4,rfl,rfl⟩:=h'.form;have C3:=zH (fun W (x:Aa w W)=>Hk n m (.slice p1 l1 c1) (.slice p2 l2 c2) L q W (h.ext x) ω);have C2:=zH (fun W (x:Aa w W)=>Hk n' m' (.slice p3 l3 c3) (.slice p4 l4 c4) L r W (h'.ext x) ω);have hE:Aa w ((((μ (μ w n p1 l1 c1 m p2 l2 c2) n' p3 l3 c3 m' p4 l4 c4).alloc (.cells θ 29)).alloc (.cells θ 29)).alloc (.cells θ 29)):=((((Ak.alloc _).alloc _).alloc _).alloc _).alloc _;have HE:=zH hE;have A1:Nm.nl q.num.natAbs<=L+1/\Nm.nl (q.den:Int).natAbs<=L+1/\Nm.nl r.num.natAbs<=L+1/\Nm.nl (r.den:Int).natAbs<=L+1:=by
    have h1:=h.rl;have h2:=h'.rl;unfold Nm.rl at h1 h2;simp only[xM];omega
  have C4:=zH (Gn w n m (.slice p1 l1 c1) (.slice p2 l2 c2));have B6:=zH (Gn (μ w n p1 l1 c1 m p2 l2 c2) n' m' (.slice p3 l3 c3) (.slice p4 l4 c4));have HW:=zH (show∀W,Aa ((((μ (μ w n p1 l1 c1 m p2 l2 c2) n' p3 l3 c3 m' p4 l4 c4).alloc (.cells θ 29)).alloc (.cells θ 29)).alloc (.cells θ 29)) W->Aa (μ w n p1 l1 c1 m p2 l2 c2) W/\Aa (μ (μ w n p1 l1 c1 m p2 l2 c2) n' p3 l3 c3 m' p4 l4 c4) W from
    fun W x=>⟨((((Ak.alloc _).alloc _).alloc _).alloc _).trans x,(((Ak.alloc _).alloc _).alloc _).trans x⟩)
  clear h h' hE;go_enter func51,ntmps51;go_wp2_with fail;go_upto_region 1 with fail;go_cut [] (fun wx=>Qk w q r wx/\Wu (w.heap.size+1+1) wx)
  case first=>
    go_region_with (first|(go_at_call 54;((with_reducible refine(C3.1 _ (HE.1.trans (by first|assumption|exact Aa.drew Ak))).mono ?_));rintro e wa ⟨b1,t1,b2,t2,rfl,B2,B0⟩;obtain⟨x1,y1,z1,x2,y2,z2,rfl,rfl⟩:=B2.form;have B7:Aa ((((μ (μ w n p1 l1 c1 m p2 l2 c2) n' p3 l3 c3 m' p4 l4 c4).alloc (.cells θ 29)).alloc (.cells θ 29)).alloc (.cells θ 29)) wa:=(by first|exact(Aa.drew Ak).trans B0|exact Aa.trans (by assumption) B0);have ga:=B6.1 wa (HW.1 wa B7).2;simp only[wG]at ga)|(go_at_call 54;((with_reducible refine(C2.1 _ (HE.1.trans (by first|assumption|exact Aa.drew Ak))).mono ?_));rintro e wb ⟨b3,t3,b4,t4,rfl,B1,A9⟩;obtain⟨x3,y3,z3,x4,y4,z4,rfl,rfl⟩:=B1.form;have A0:Aa ((((μ (μ w n p1 l1 c1 m p2 l2 c2) n' p3 l3 c3 m' p4 l4 c4).alloc (.cells θ 29)).alloc (.cells θ 29)).alloc (.cells θ 29)) wb:=(by first|exact Aa.trans (by assumption) A9);clear ga;have ga:=C4.1 wb (HW.1 wb A0).1;have gb:=B6.1 wb (HW.1 wb A0).2;simp only[wG]at gb))
    all_goals
      have A7:=Xc (w0:=w) (t:=31) (Al.ext (Al.new w _ _) (HW.1 wb A0).1) (Al.ext (Al.new (μ w n p1 l1 c1 m p2 l2 c2) _ _) (HW.1 wb A0).2) (by simp) (Ox _ _ _ _ _ _ _ _) (Ox _ _ _ _ _ _ _ _) (HE.1.trans A0) (Bz _) (by simp) (B2.ext A9) B1;simp only[wG]at A7;obtain⟨wm,A4⟩:∃wm,wm=Jo (Jo wb w.heap.size (.bool b1) (.slice x1 y1 z1) (.bool b2) (.slice x2 y2 z2)) (w.heap.size+1) (.bool b3) (.slice x3 y3 z3) (.bool b4) (.slice x4 y4 z4):=⟨_,rfl⟩;obtain⟨s1,s2,s3,s4,s5,s6⟩:=A7 wm A4;simp only[Jo]at A4;rw[<-A4];have B5:=zH (s6 (w.heap.size+1+1) 29 θ ω ω (Al.ext (Al.new_at (μ (μ w n p1 l1 c1 m p2 l2 c2) n' p3 l3 c3 m' p4 l4 c4) _ (by simp) _ _) (((Ak.alloc _).alloc _).trans A0)));have B4:=zH (s6 (w.heap.size+1+1+1) 29 θ ω ω (Al.ext (Al.new_at ((μ (μ w n p1 l1 c1 m p2 l2 c2) n' p3 l3 c3 m' p4 l4 c4).alloc (.cells θ 29)) _ (by simp) _ _) ((Ak.alloc _).trans A0)));have B3:=zH (s6 (w.heap.size+1+1+1+1) 29 θ ω ω (Al.ext (Al.new_at (((μ (μ w n p1 l1 c1 m p2 l2 c2) n' p3 l3 c3 m' p4 l4 c4).alloc (.cells θ 29)).alloc (.cells θ 29)) _ (by simp) _ _) A0));have HM:=zH (show Qk w q r wm/\Wu (w.heap.size+1+1) wm from⟨⟨_,_,_,_,_,_,_,_,_,_,_,_,_,_,_,_,s1,s2,s3,s4,s5⟩,B5.1,B4.1,B3.1⟩);clear A7 A4 s1 s2 s3 s4 s5 s6 B2 B1 ga gb B0 A9 B7 A0;go_wp2_with fail
      go_meet
      exact HM.1
  clear C3 C2 HE C4 B6 HW;obtain⟨⟨b1,x1,y1,z1,b2,x2,y2,z2,b3,x3,y3,z3,b4,x4,y4,z4,s1,s2,s3,s4,s5⟩,k0,k1,k2⟩:=hcut;have H1:=zH (fun W (x:Aa wc W)=>Iv _ _ _ _ (L+1) q.num r.den W ((s3.ext x).1.isIn A1.1) ((s4.ext x).2.isIn A1.2.2.2) ω);have H2:=zH (fun W (x:Aa wc W)=>Iv _ _ _ _ (L+1) r.num q.den W ((s4.ext x).1.isIn A1.2.2.1) ((s3.ext x).2.isIn A1.2.1) ω);have H3:=zH (fun W (x:Aa wc W)=>Iv _ _ _ _ (L+1) q.den r.den W ((s3.ext x).2.isIn A1.2.1) ((s4.ext x).2.isIn A1.2.2.2) ω);have D6:=zH s5;have B5:=zH k0;have B4:=zH k1;have B3:=zH k2;have HS:=zH (show Gf w.heap.size (w.heap.size+1) 31 #[.bool b1,.slice x1 y1 z1,.bool b2,.slice x2 y2 z2] #[.bool b3,.slice x3 y3 z3,.bool b4,.slice x4 y4 z4] wc from⟨s1,s2⟩);clear s1 s2 s3 s4 s5 k0 k1 k2 A1;go_wp2_with fail
  have B8:w.heap.size<=w.heap.size+1+1/\w.heap.size<=w.heap.size+1+1+1/\w.heap.size<=w.heap.size+1+1+1+1:=ω;have A5:=zH B8;clear B8;have D5:=A5;generalize hD:w.heap.size+1+1+1+1=D at*
  generalize hY:w.heap.size+1+1+1=Y at*;generalize hX:w.heap.size+1+1=X at*;generalize hB:w.heap.size+1=B at*;generalize hA:w.heap.size=A at*;have n1:A≠B:=ω;have n2:A≠X:=ω;have n3:A≠Y:=ω;have n4:A≠D:=ω;have n5:B≠X:=ω;have n6:B≠Y:=ω;have n7:B≠D:=ω;have n8:X≠Y:=ω;have n9:X≠D:=ω;have D3:Y≠D:=ω;have D2:=n8.symm;have D1:=n9.symm;have A6:=D3.symm;have HA:=zH hA;clear hA hB hX hY hD;have gl:∀w',Gf A B 31 #[.bool b1,.slice x1 y1 z1,.bool b2,.slice x2 y2 z2] #[.bool b3,.slice x3 y3 z3,.bool b4,.slice x4 y4 z4] w'->w'.cell? ⟨A,0,none⟩=some (.bool b1)/\w'.cell? ⟨A,1,none⟩=some (.slice x1 y1 z1)/\w'.cell? ⟨A,2,none⟩=some (.bool b2)/\w'.cell? ⟨A,3,none⟩=some (.slice x2 y2 z2)/\
      w'.cell? ⟨B,0,none⟩=some (.bool b3)/\w'.cell? ⟨B,1,none⟩=some (.slice x3 y3 z3)/\w'.cell? ⟨B,2,none⟩=some (.bool b4)/\w'.cell? ⟨B,3,none⟩=some (.slice x4 y4 z4):=fun w' h=>Gf.cells h
  have D4:=HS.1;go_region_held3 (fun w'=>Gf A B 31 #[.bool b1,.slice x1 y1 z1,.bool b2,.slice x2 y2 z2] #[.bool b3,.slice x3 y3 z3,.bool b4,.slice x4 y4 z4] w') (first|(with_reducible assumption)|(with_reducible exact Gf.drew D4)|(with_reducible refine Gf.store (Gf.store ?_ (by simp[*]) (by simp[*]) _) (by simp[*]) (by simp[*]) _;with_reducible assumption)|(with_reducible (apply Gf.via;assumption;assumption)))
    (first|(go_at_call 55;((with_reducible refine(H1.1 _ (by first|assumption|exact Aa.drew Ak)).mono ?_));rintro e wx ⟨k1,r1,rfl,C1,A8⟩;obtain⟨f1,f2,f3,rfl⟩:=C1.form;have hx:Aa wc wx:=Aa.trans (by first|assumption|exact Aa.drew Ak) A8)|(go_at_call 55;((with_reducible refine(H2.1 _ (by first|assumption|exact Aa.drew Ak)).mono ?_));rintro e wy ⟨k2,r2,rfl,C0,A3⟩;obtain⟨f4,f5,f6,rfl⟩:=C0.form;have hx:Aa wc wy:=Aa.trans (by first|assumption|exact Aa.drew Ak) A3)|(go_at_call 55;((with_reducible refine(H3.1 _ (by first|assumption|exact Aa.drew Ak)).mono ?_));rintro e wz ⟨k3,r3,rfl,B9,A2⟩;obtain⟨f7,f8,f9,rfl⟩:=B9.form;have hx:Aa wc wz:=Aa.trans (by first|assumption|exact Aa.drew Ak) A2;have X0:=Al.ext B5.1 hx;have X1:=Al.ext B4.1 hx;have X2:=Al.ext B3.1 hx;have D0:=X0.cell 0;have C9:=X0.cell 1;have C8:=X1.cell 0;have C7:=X1.cell 1;have C6:=X2.cell 0;have C5:=X2.cell 1;have E2:=X0.frozen 0;have E1:=X0.frozen 1;have E0:=X1.frozen 0;have D9:=X1.frozen 1;have D8:=X2.frozen 0;have D7:=X2.frozen 1;simp at D0 C9 C8 C7 C6 C5))
  go_wp2_with fail;have st:=oB (w0:=w) (u0:= .bool k1) (u1:= .slice f1 f2 f3) (u2:= .bool k2) (u3:= .slice f4 f5 f6) (u4:= .bool k3) (u5:= .slice f7 f8 f9) X0 X1 X2 (Pz _ _ _ _) (Pz _ _ _ _) (Pz _ _ _ _) D2 D1 A6 (D6.1.trans hx) (by rw[HA.1];exact A5.1.1) (by rw[HA.1];exact A5.1.2.1) (by rw[HA.1];exact A5.1.2.2);simp only[Ja]at st;refine bodyPost_ret (v:= .tuple #[.agg #[.bool k1,.slice f1 f2 f3],.agg #[.bool k2,.slice f4 f5 f6],.agg #[.bool k3,.slice f7 f8 f9]]) ?_ rfl ⟨_,_,_,_,_,_,rfl,st.1 _ _ _ (C1.ext (A3.trans A2)),st.1 _ _ _ (C0.ext A2),st.1 _ _ _ B9,st.2⟩;simp[results,results51,go_sem, *]
def Di (q r:Rat):Int:=(q.num*r.den-r.num*q.den).sign
theorem rcmp_lt {q r:Rat}:Di q r<0↔q<r:=by
  unfold Di;rw[Nm.rcmp_lt,Int.sign_neg_iff];omega
theorem If {q r:Rat}:0<Di q r↔r<q:=by
  unfold Di;rw[Nm.rcmp_lt,Int.sign_pos_iff];omega
theorem rcmp_eq {q r:Rat}:Di q r=0↔q=r:=by
  unfold Di;rw[Nm.rcmp_eq,Int.sign_eq_zero_iff_zero];omega
theorem Oz {q r:Rat}{L:Nat}(h1:Nm.rl q<=L)(h2:Nm.rl r<=L):Nm.nl (q.num*r.den).natAbs<=2*L/\Nm.nl (r.num*q.den).natAbs<=2*L/\Nm.nl ((q.den:Int)*r.den).natAbs<=2*L:=by
  unfold Nm.rl at h1 h2;have a:=Cq q.num r.den L L ω (by rw[xM];omega);have b:=Cq r.num q.den L L ω (by rw[xM];omega);have c:=Cq (q.den:Int) r.den L L (by rw[xM];omega) (by rw[xM];omega);omega
theorem kZ (n m n' m':Bool)(u v u' v':Value)(L:Nat)(q r:Rat)(w:World)(h:Dt L w n u m v q)(h':Dt L w n' u' m' v' r)(hL:L<=70000):
    Calls prog 47 #[.agg #[.bool n,u,.bool m,v],.agg #[.bool n',u',.bool m',v']] w (Qj (Di q r) w):=by
  have A0:=Oz (L:=L+1) (q:=q) (r:=r) (by have:=h.rl;omega) (by have:=h'.rl;omega);obtain⟨p1,l1,c1,p2,l2,c2,rfl,rfl⟩:=h.form;obtain⟨p3,l3,c3,p4,l4,c4,rfl,rfl⟩:=h'.form;have hE:Aa w (μ (μ w n p1 l1 c1 m p2 l2 c2) n' p3 l3 c3 m' p4 l4 c4):=(Ak.alloc _).alloc _;have HC:=zH (Mq n m n' m' _ _ _ _ L q r _ (h.ext hE) (h'.ext hE) hL);have HI:=zH (fun W n1 v1 n2 v2 (x:Bu W n1 v1 (q.num*r.den)) (y:Bu W n2 v2 (r.num*q.den))=>mB n1 n2 v1 v2 (2*(L+1)) _ _ W (x.isIn A0.1) (y.isIn A0.2.1) ω);have HE:=zH hE;clear h h' hE A0;unfold Di;go_enter func47,ntmps47
  go_wp2_with fail;refine HC.1.mono ?_;rintro e w1 ⟨n1,v1,n2,v2,n3,v3,rfl,i1,i2,i3,he⟩;obtain⟨f1,f2,f3,rfl⟩:=i1.form;obtain⟨f4,f5,f6,rfl⟩:=i2.form;obtain⟨f7,f8,f9,rfl⟩:=i3.form;have I1:=zH i1;have I2:=zH i2;clear i1 i2 i3;go_wp2_with fail
  refine(HI.1 _ _ _ _ _ (I1.1.ext (((Ak.alloc _).alloc _).alloc _)) (I2.1.ext (((Ak.alloc _).alloc _).alloc _))).mono ?_;rintro e w2 ⟨rfl,A1⟩;go_wp2_with fail;go_ret;exact⟨rfl,(HE.1.trans he).trans ((((Ak.alloc _).alloc _).alloc _).trans A1)⟩
theorem lA (n m n' m':Bool)(u v u' v':Value)(L:Nat)(q r:Rat)(w:World)(h:Dt L w n u m v q)(h':Dt L w n' u' m' v' r)(hL:L<=70000):
    Calls prog 25 #[.agg #[.bool n,u,.bool m,v],.agg #[.bool n',u',.bool m',v']] w (Fn (q+r) w):=by
  have A2:=Oz (L:=L+1) (q:=q) (r:=r) (by have:=h.rl;omega) (by have:=h'.rl;omega);obtain⟨p1,l1,c1,p2,l2,c2,rfl,rfl⟩:=h.form;obtain⟨p3,l3,c3,p4,l4,c4,rfl,rfl⟩:=h'.form;have hE:Aa w ((μ (μ w n p1 l1 c1 m p2 l2 c2) n' p3 l3 c3 m' p4 l4 c4).alloc (.cells #[.bool false,.slice none 0 0,.bool false,.slice none 0 0] 31)):=((Ak.alloc _).alloc _).alloc _;have HC:=zH (Mq n m n' m' _ _ _ _ L q r _ (h.ext hE) (h'.ext hE) hL);have HI:=zH (fun W n1 v1 n2 v2 (x:Bu W n1 v1 (q.num*r.den)) (y:Bu W n2 v2 (r.num*q.den))=>Pd n1 n2 v1 v2 (2*(L+1)) _ _ W (x.isIn A2.1) (y.isIn A2.2.1) ω);have A1:=Ks _ _ _ A2.1 A2.2.1;have A9:(q.den:Int)*r.den≠0:=Int.mul_ne_zero (by have:=q.den_nz;omega) (by have:=r.den_nz;omega);have B0:=zH (fun W n1 v1 n2 v2 (x:Bu W n1 v1 (q.num*r.den+r.num*q.den)) (y:Bu W n2 v2 ((q.den:Int)*r.den))=>(show Calls prog 52 #[.agg #[.bool n1,v1],.agg #[.bool n2,v2]] W (Fn (q+r) W)by
    rw[Nm.add_eq];exact Iu n1 n2 v1 v2 (2*(L+1)+1) _ _ W (x.isIn A1) (y.isIn ω) ω A9))
  have HG:=zH (Ha (μ (μ w n p1 l1 c1 m p2 l2 c2) n' p3 l3 c3 m' p4 l4 c4));have B2:=zH (fun w1 n1 t1 n2 t2 u0 u1 u2 u3=>Dq (w:=(μ w n p1 l1 c1 m p2 l2 c2).alloc (.cells #[.bool n',.slice p3 l3 c3,.bool m',.slice p4 l4 c4] 31)) (w1:=w1) (n:=n1) (u:=t1) (m:=n2) (v:=t2) (q:=q+r) (u0:=u0) (u1:=u1) (u2:=u2) (u3:=u3));have HE:=zH hE;clear h h' hE A2 A1 A9;go_enter func25,ntmps25
  go_wp2_with fail;refine HC.1.mono ?_;rintro e w1 ⟨n1,v1,n2,v2,n3,v3,rfl,i1,i2,i3,he⟩;obtain⟨f1,f2,f3,rfl⟩:=i1.form;obtain⟨f4,f5,f6,rfl⟩:=i2.form;obtain⟨f7,f8,f9,rfl⟩:=i3.form;have I1:=zH i1;have I2:=zH i2;have I3:=zH i3;clear i1 i2 i3;go_wp2_with fail
  have A7:=he.size;simp only[wG]at A7;obtain⟨wm,A0⟩:∃wm,wm=(ν (ν w1 n1 f1 f2 f3) n2 f4 f5 f6).alloc (.cells #[.bool n3,.slice f7 f8 f9] 29):=⟨_,rfl⟩;rw[<-A0];have A3:Aa w1 wm:=by rw[A0];exact((Ak.alloc _).alloc _).alloc _
  have m0:Al wm w1.heap.size 29 #[.bool n1,.slice f1 f2 f3]:=by rw[A0];exact((Al.new w1 _ _).alloc _).alloc _
  have m1:Al wm (w1.heap.size+1) 29 #[.bool n2,.slice f4 f5 f6]:=by rw[A0];exact(Al.new_at _ _ (by simp) _ _).alloc _
  have m2:Al wm (w1.heap.size+1+1) 29 #[.bool n3,.slice f7 f8 f9]:=by rw[A0];exact Al.new_at _ _ (by simp) _ _
  have h1:=fun W (x:Aa wm W)=>HI.1 W _ _ _ _ (I1.1.ext (A3.trans x)) (I2.1.ext (A3.trans x))
  have h2:=fun W b t (x:Aa wm W) (y:Bu W b t (q.num*r.den+r.num*q.den))=>B0.1 W _ _ _ _ y (I3.1.ext (A3.trans x))
  have H1:=zH h1;have H2:=zH h2;have B1:=zH (he.trans A3);have gl:∀w',Ba (w.heap.size+1+1) wm w'->w'.cell? ⟨w1.heap.size,0,none⟩=some (.bool n1)/\w'.cell? ⟨w1.heap.size,1,none⟩=some (.slice f1 f2 f3)/\w'.cell? ⟨w1.heap.size+1,0,none⟩=some (.bool n2)/\w'.cell? ⟨w1.heap.size+1,1,none⟩=some (.slice f4 f5 f6)/\w'.cell? ⟨w1.heap.size+1+1,0,none⟩=some (.bool n3)/\w'.cell? ⟨w1.heap.size+1+1,1,none⟩=some (.slice f7 f8 f9):=fun w' x=>
    ⟨(m0.own x ω).cell 0,(m0.own x ω).cell 1,(m1.own x ω).cell 0,(m1.own x ω).cell 1,(m2.own x ω).cell 0,(m2.own x ω).cell 1⟩
  clear A0 A3 m0 m1 m2 h1 h2 A7 HI B0 I1 I2 I3;go_region_held3 (fun w'=>Ba (w.heap.size+1+1) wm w') (first|(with_reducible assumption)|(with_reducible exact Ba.drew (Ba.refl _ _))|(with_reducible (apply Ba.of_ext;assumption))|(with_reducible (refine Ba.set_at (Ba.set_at (Ba.set_at (Ba.set_at ?_ _ _ _) _ _ _) _ _ _) _ _ _;first|assumption|(apply Ba.of_ext;assumption))))
    (first|(go_at_call 53;((with_reducible refine(H1.1 _ (by first|assumption|exact Aa.drew Ak)).mono ?_));rintro e wx ⟨k1,r1,rfl,A8,A5⟩;obtain⟨g1,g2,g3,rfl⟩:=A8.form;have hx:Aa wm wx:=Aa.trans (by first|assumption|exact Aa.drew Ak) A5)|(go_at_call 52;((with_reducible refine(H2.1 _ _ _ (by first|assumption|exact Aa.drew Ak) A8).mono ?_));rintro e wy ⟨b1,t1,b2,t2,rfl,hc,A4⟩;obtain⟨x1,y1,z1,x2,y2,z2,rfl,rfl⟩:=hc.form;have A6:Aa wm wy:=Aa.trans hx A4;have gk:=HG.1 _ (B1.1.trans A6);simp only[wG]at gk))
  go_wp2_with fail;have st:=B2.1 _ _ _ _ _ (.bool b1) (.slice x1 y1 z1) (.bool b2) (.slice x2 y2 z2) (B1.1.trans A6) hc;simp only[wG]at st;refine bodyPost_ret (v:= .agg #[.bool b1,.slice x1 y1 z1,.bool b2,.slice x2 y2 z2]) ?_ rfl ⟨_,_,_,_,rfl,st.1,((Ak.alloc _).alloc _).trans st.2⟩;simp[results,results25,go_sem, *]
theorem kL (n m n' m':Bool)(u v u' v':Value)(L:Nat)(q r:Rat)(w:World)(h:Dt L w n u m v q)(h':Dt L w n' u' m' v' r)(hL:L<=70000):
    Calls prog 27 #[.agg #[.bool n,u,.bool m,v],.agg #[.bool n',u',.bool m',v']] w (Fn (q-r) w):=by
  have A2:=Oz (L:=L+1) (q:=q) (r:=r) (by have:=h.rl;omega) (by have:=h'.rl;omega);obtain⟨p1,l1,c1,p2,l2,c2,rfl,rfl⟩:=h.form;obtain⟨p3,l3,c3,p4,l4,c4,rfl,rfl⟩:=h'.form;have hE:Aa w ((μ (μ w n p1 l1 c1 m p2 l2 c2) n' p3 l3 c3 m' p4 l4 c4).alloc (.cells #[.bool false,.slice none 0 0,.bool false,.slice none 0 0] 31)):=((Ak.alloc _).alloc _).alloc _;have HC:=zH (Mq n m n' m' _ _ _ _ L q r _ (h.ext hE) (h'.ext hE) hL);have HI:=zH (fun W n1 v1 n2 v2 (x:Bu W n1 v1 (q.num*r.den)) (y:Bu W n2 v2 (r.num*q.den))=>aP n1 n2 v1 v2 (2*(L+1)) _ _ W (x.isIn A2.1) (y.isIn A2.2.1) ω);have A1:=Np _ _ _ A2.1 A2.2.1;have A9:(q.den:Int)*r.den≠0:=Int.mul_ne_zero (by have:=q.den_nz;omega) (by have:=r.den_nz;omega);have B0:=zH (fun W n1 v1 n2 v2 (x:Bu W n1 v1 (q.num*r.den-r.num*q.den)) (y:Bu W n2 v2 ((q.den:Int)*r.den))=>(show Calls prog 52 #[.agg #[.bool n1,v1],.agg #[.bool n2,v2]] W (Fn (q-r) W)by
    rw[Nm.sub_eq];exact Iu n1 n2 v1 v2 (2*(L+1)+1) _ _ W (x.isIn A1) (y.isIn ω) ω A9))
  have HG:=zH (Ha (μ (μ w n p1 l1 c1 m p2 l2 c2) n' p3 l3 c3 m' p4 l4 c4));have B2:=zH (fun w1 n1 t1 n2 t2 u0 u1 u2 u3=>Dq (w:=(μ w n p1 l1 c1 m p2 l2 c2).alloc (.cells #[.bool n',.slice p3 l3 c3,.bool m',.slice p4 l4 c4] 31)) (w1:=w1) (n:=n1) (u:=t1) (m:=n2) (v:=t2) (q:=q-r) (u0:=u0) (u1:=u1) (u2:=u2) (u3:=u3));have HE:=zH hE;clear h h' hE A2 A1 A9;go_enter func27,ntmps27
  go_wp2_with fail;refine HC.1.mono ?_;rintro e w1 ⟨n1,v1,n2,v2,n3,v3,rfl,i1,i2,i3,he⟩;obtain⟨f1,f2,f3,rfl⟩:=i1.form;obtain⟨f4,f5,f6,rfl⟩:=i2.form;obtain⟨f7,f8,f9,rfl⟩:=i3.form;have I1:=zH i1;have I2:=zH i2;have I3:=zH i3;clear i1 i2 i3;go_wp2_with fail
  have A7:=he.size;simp only[wG]at A7;obtain⟨wm,A0⟩:∃wm,wm=(ν (ν w1 n1 f1 f2 f3) n2 f4 f5 f6).alloc (.cells #[.bool n3,.slice f7 f8 f9] 29):=⟨_,rfl⟩;rw[<-A0];have A3:Aa w1 wm:=by rw[A0];exact((Ak.alloc _).alloc _).alloc _
  have m0:Al wm w1.heap.size 29 #[.bool n1,.slice f1 f2 f3]:=by rw[A0];exact((Al.new w1 _ _).alloc _).alloc _
  have m1:Al wm (w1.heap.size+1) 29 #[.bool n2,.slice f4 f5 f6]:=by rw[A0];exact(Al.new_at _ _ (by simp) _ _).alloc _
  have m2:Al wm (w1.heap.size+1+1) 29 #[.bool n3,.slice f7 f8 f9]:=by rw[A0];exact Al.new_at _ _ (by simp) _ _
  have h1:=fun W (x:Aa wm W)=>HI.1 W _ _ _ _ (I1.1.ext (A3.trans x)) (I2.1.ext (A3.trans x))
  have h2:=fun W b t (x:Aa wm W) (y:Bu W b t (q.num*r.den-r.num*q.den))=>B0.1 W _ _ _ _ y (I3.1.ext (A3.trans x))
  have H1:=zH h1;have H2:=zH h2;have B1:=zH (he.trans A3);have gl:∀w',Ba (w.heap.size+1+1) wm w'->w'.cell? ⟨w1.heap.size,0,none⟩=some (.bool n1)/\w'.cell? ⟨w1.heap.size,1,none⟩=some (.slice f1 f2 f3)/\w'.cell? ⟨w1.heap.size+1,0,none⟩=some (.bool n2)/\w'.cell? ⟨w1.heap.size+1,1,none⟩=some (.slice f4 f5 f6)/\w'.cell? ⟨w1.heap.size+1+1,0,none⟩=some (.bool n3)/\w'.cell? ⟨w1.heap.size+1+1,1,none⟩=some (.slice f7 f8 f9):=fun w' x=>
    ⟨(m0.own x ω).cell 0,(m0.own x ω).cell 1,(m1.own x ω).cell 0,(m1.own x ω).cell 1,(m2.own x ω).cell 0,(m2.own x ω).cell 1⟩
  clear A0 A3 m0 m1 m2 h1 h2 A7 HI B0 I1 I2 I3;go_region_held3 (fun w'=>Ba (w.heap.size+1+1) wm w') (first|(with_reducible assumption)|(with_reducible exact Ba.drew (Ba.refl _ _))|(with_reducible (apply Ba.of_ext;assumption))|(with_reducible (refine Ba.set_at (Ba.set_at (Ba.set_at (Ba.set_at ?_ _ _ _) _ _ _) _ _ _) _ _ _;first|assumption|(apply Ba.of_ext;assumption))))
    (first|(go_at_call 56;((with_reducible refine(H1.1 _ (by first|assumption|exact Aa.drew Ak)).mono ?_));rintro e wx ⟨k1,r1,rfl,A8,A5⟩;obtain⟨g1,g2,g3,rfl⟩:=A8.form;have hx:Aa wm wx:=Aa.trans (by first|assumption|exact Aa.drew Ak) A5)|(go_at_call 52;((with_reducible refine(H2.1 _ _ _ (by first|assumption|exact Aa.drew Ak) A8).mono ?_));rintro e wy ⟨b1,t1,b2,t2,rfl,hc,A4⟩;obtain⟨x1,y1,z1,x2,y2,z2,rfl,rfl⟩:=hc.form;have A6:Aa wm wy:=Aa.trans hx A4;have gk:=HG.1 _ (B1.1.trans A6);simp only[wG]at gk))
  go_wp2_with fail;have st:=B2.1 _ _ _ _ _ (.bool b1) (.slice x1 y1 z1) (.bool b2) (.slice x2 y2 z2) (B1.1.trans A6) hc;simp only[wG]at st;refine bodyPost_ret (v:= .agg #[.bool b1,.slice x1 y1 z1,.bool b2,.slice x2 y2 z2]) ?_ rfl ⟨_,_,_,_,rfl,st.1,((Ak.alloc _).alloc _).trans st.2⟩;simp[results,results27,go_sem, *]
theorem kP (n m n' m':Bool)(u v u' v':Value)(L:Nat)(q r:Rat)(w:World)(h:Dt L w n u m v q)(h':Dt L w n' u' m' v' r)(hL:L<=70000):
    Calls prog 26 #[.agg #[.bool n,u,.bool m,v],.agg #[.bool n',u',.bool m',v']] w (Fn (q*r) w):=by
  obtain⟨p1,l1,c1,p2,l2,c2,rfl,rfl⟩:=h.form;obtain⟨p3,l3,c3,p4,l4,c4,rfl,rfl⟩:=h'.form;have C1:=zH (fun W (x:Aa w W)=>Hk n m (.slice p1 l1 c1) (.slice p2 l2 c2) L q W (h.ext x) ω);have C0:=zH (fun W (x:Aa w W)=>Hk n' m' (.slice p3 l3 c3) (.slice p4 l4 c4) L r W (h'.ext x) ω);have hE:Aa w ((μ (μ w n p1 l1 c1 m p2 l2 c2) n' p3 l3 c3 m' p4 l4 c4).alloc (.cells #[.bool false,.slice none 0 0,.bool false,.slice none 0 0] 31)):=((Ak.alloc _).alloc _).alloc _;have HE:=zH hE;have A0:Nm.nl q.num.natAbs<=L+1/\Nm.nl (q.den:Int).natAbs<=L+1/\Nm.nl r.num.natAbs<=L+1/\Nm.nl (r.den:Int).natAbs<=L+1:=by
    have h1:=h.rl;have h2:=h'.rl;unfold Nm.rl at h1 h2;simp only[xM];omega
  have C2:=zH (Gn w n m (.slice p1 l1 c1) (.slice p2 l2 c2));have B4:=zH (Gn (μ w n p1 l1 c1 m p2 l2 c2) n' m' (.slice p3 l3 c3) (.slice p4 l4 c4));have HW:=zH (show∀W,Aa ((μ (μ w n p1 l1 c1 m p2 l2 c2) n' p3 l3 c3 m' p4 l4 c4).alloc (.cells #[.bool false,.slice none 0 0,.bool false,.slice none 0 0] 31)) W->Aa (μ w n p1 l1 c1 m p2 l2 c2) W/\Aa (μ (μ w n p1 l1 c1 m p2 l2 c2) n' p3 l3 c3 m' p4 l4 c4) W from
    fun W x=>⟨((Ak.alloc _).alloc _).trans x,(Ak.alloc _).trans x⟩)
  clear h h' hE;have B9:(q.den:Int)*r.den≠0:=Int.mul_ne_zero (by have:=q.den_nz;omega) (by have:=r.den_nz;omega);have C9:=zH (fun W n1 v1 n2 v2 (x:Bu W n1 v1 (q.num*r.num)) (y:Bu W n2 v2 ((q.den:Int)*r.den))=>(show Calls prog 52 #[.agg #[.bool n1,v1],.agg #[.bool n2,v2]] W (Fn (q*r) W)by
    rw[Nm.mul_eq];exact Iu n1 n2 v1 v2 (L+1+(L+1)) _ _ W (x.isIn (Cq _ _ _ _ A0.1 A0.2.2.1)) (y.isIn (Cq _ _ _ _ A0.2.1 A0.2.2.2)) ω B9))
  clear B9;go_enter func26,ntmps26;go_wp2_with fail;go_upto_region 1 with fail;go_cut [] (fun wx=>Qk w q r wx/\Al wx (w.heap.size+1+1) 31 #[.bool false,.slice none 0 0,.bool false,.slice none 0 0])
  case first=>
    go_region_with (first|(go_at_call 54;((with_reducible refine(C1.1 _ (HE.1.trans (by first|assumption|exact Aa.drew Ak))).mono ?_));rintro e wa ⟨b1,t1,b2,t2,rfl,B2,B0⟩;obtain⟨x1,y1,z1,x2,y2,z2,rfl,rfl⟩:=B2.form;have B5:Aa ((μ (μ w n p1 l1 c1 m p2 l2 c2) n' p3 l3 c3 m' p4 l4 c4).alloc (.cells #[.bool false,.slice none 0 0,.bool false,.slice none 0 0] 31)) wa:=(by first|exact(Aa.drew Ak).trans B0|exact Aa.trans (by assumption) B0);have ga:=B4.1 wa (HW.1 wa B5).2;simp only[wG]at ga)|(go_at_call 54;((with_reducible refine(C0.1 _ (HE.1.trans (by first|assumption|exact Aa.drew Ak))).mono ?_));rintro e wb ⟨b3,t3,b4,t4,rfl,B1,A9⟩;obtain⟨x3,y3,z3,x4,y4,z4,rfl,rfl⟩:=B1.form;have A1:Aa ((μ (μ w n p1 l1 c1 m p2 l2 c2) n' p3 l3 c3 m' p4 l4 c4).alloc (.cells #[.bool false,.slice none 0 0,.bool false,.slice none 0 0] 31)) wb:=(by first|exact Aa.trans (by assumption) A9);clear ga;have ga:=C2.1 wb (HW.1 wb A1).1;have gb:=B4.1 wb (HW.1 wb A1).2;simp only[wG]at gb))
    all_goals
      have A6:=Xc (w0:=w) (t:=31) (Al.ext (Al.new w _ _) (HW.1 wb A1).1) (Al.ext (Al.new (μ w n p1 l1 c1 m p2 l2 c2) _ _) (HW.1 wb A1).2) (by simp) (Ox _ _ _ _ _ _ _ _) (Ox _ _ _ _ _ _ _ _) (HE.1.trans A1) (Bz _) (by simp) (B2.ext A9) B1;simp only[wG]at A6;obtain⟨wm,A5⟩:∃wm,wm=Jo (Jo wb w.heap.size (.bool b1) (.slice x1 y1 z1) (.bool b2) (.slice x2 y2 z2)) (w.heap.size+1) (.bool b3) (.slice x3 y3 z3) (.bool b4) (.slice x4 y4 z4):=⟨_,rfl⟩;obtain⟨s1,s2,s3,s4,s5,s6⟩:=A6 wm A5;simp only[Jo]at A5;rw[<-A5];have B3:=zH (s6 (w.heap.size+1+1) 31 #[.bool false,.slice none 0 0,.bool false,.slice none 0 0] ω ω (Al.ext (Al.new_at (μ (μ w n p1 l1 c1 m p2 l2 c2) n' p3 l3 c3 m' p4 l4 c4) _ (by simp) _ _) A1));have HM:=zH (show Qk w q r wm/\Al wm (w.heap.size+1+1) 31 #[.bool false,.slice none 0 0,.bool false,.slice none 0 0]from⟨⟨_,_,_,_,_,_,_,_,_,_,_,_,_,_,_,_,s1,s2,s3,s4,s5⟩,B3.1⟩);clear A6 A5 s1 s2 s3 s4 s5 s6 B2 B1 ga gb B0 A9 B5 A1;go_wp2_with fail
      go_meet
      exact HM.1
  clear C1 C0 HE C2 B4 HW;obtain⟨⟨b1,x1,y1,z1,b2,x2,y2,z2,b3,x3,y3,z3,b4,x4,y4,z4,s1,s2,s3,s4,s5⟩,k0⟩:=hcut;have H1:=zH (fun W (x:Aa wc W)=>Iv _ _ _ _ (L+1) q.num r.num W ((s3.ext x).1.isIn A0.1) ((s4.ext x).1.isIn A0.2.2.1) ω);have H2:=zH (fun W (x:Aa wc W)=>Iv _ _ _ _ (L+1) q.den r.den W ((s3.ext x).2.isIn A0.2.1) ((s4.ext x).2.isIn A0.2.2.2) ω);have D0:=zH s5;have B3:=zH k0;have HS:=zH (And.intro s1 s2);clear s1 s2 s3 s4 s5 k0 A0;go_wp2_with fail
  have C8:=zH (show w.heap.size<=w.heap.size+1+1 by omega);generalize hX:w.heap.size+1+1=X at*;generalize hB:w.heap.size+1=B at*;generalize hA:w.heap.size=A at*;have n1:A≠B:=ω;have n2:A≠X:=ω;have n5:B≠X:=ω;have HA:=zH hA;clear hA hB hX;have m0:=HS.1.1;have m1:=HS.1.2;have gl:∀w',Ba X wc w'->w'.cell? ⟨A,0,none⟩=some (.bool b1)/\w'.cell? ⟨A,1,none⟩=some (.slice x1 y1 z1)/\w'.cell? ⟨A,2,none⟩=some (.bool b2)/\w'.cell? ⟨A,3,none⟩=some (.slice x2 y2 z2)/\
      w'.cell? ⟨B,0,none⟩=some (.bool b3)/\w'.cell? ⟨B,1,none⟩=some (.slice x3 y3 z3)/\w'.cell? ⟨B,2,none⟩=some (.bool b4)/\w'.cell? ⟨B,3,none⟩=some (.slice x4 y4 z4):=fun w' x=>
    ⟨(m0.own x n2).cell 0,(m0.own x n2).cell 1,(m0.own x n2).cell 2,(m0.own x n2).cell 3,(m1.own x n5).cell 0,(m1.own x n5).cell 1,(m1.own x n5).cell 2,(m1.own x n5).cell 3⟩
  clear m0 m1;go_region_held3 (fun w'=>Ba X wc w') (first|(with_reducible assumption)|(with_reducible exact Ba.drew (Ba.refl _ _))|(with_reducible (apply Ba.of_ext;assumption))|(with_reducible (refine Ba.set_at (Ba.set_at (Ba.set_at (Ba.set_at ?_ _ _ _) _ _ _) _ _ _) _ _ _;first|assumption|(apply Ba.of_ext;assumption))))
    (first|(go_at_call 55;((with_reducible refine(H1.1 _ (by first|assumption|exact Aa.drew Ak)).mono ?_));rintro e wx ⟨k1,r1,rfl,B8,A8⟩;obtain⟨f1,f2,f3,rfl⟩:=B8.form;have hx:Aa wc wx:=Aa.trans (by first|assumption|exact Aa.drew Ak) A8)|(go_at_call 55;((with_reducible refine(H2.1 _ (by first|assumption|exact Aa.drew Ak)).mono ?_));rintro e wy ⟨k2,r2,rfl,B7,A4⟩;obtain⟨f4,f5,f6,rfl⟩:=B7.form;have C7:Aa wc wy:=Aa.trans hx A4)|(go_at_call 52;((with_reducible refine(C9.1 _ _ _ _ _ (B8.ext A4) B7).mono ?_));rintro e wz ⟨j1,t1,j2,t2,rfl,hc,A7⟩;obtain⟨g1,g2,g3,g4,g5,g6,rfl,rfl⟩:=hc.form;have B6:Aa wc wz:=Aa.trans C7 A7;have X0:=Al.ext B3.1 B6;have C6:=X0.cell 0;have C5:=X0.cell 1;have C4:=X0.cell 2;have C3:=X0.cell 3;have D4:=X0.frozen 0;have D3:=X0.frozen 1;have D2:=X0.frozen 2;have D1:=X0.frozen 3;simp at C6 C5 C4 C3))
  go_wp2_with fail;have o:=Gx wz X (.bool j1) (.slice g1 g2 g3) (.bool j2) (.slice g4 g5 g6);have A2:=hc.own X0 (Ox _ _ _ _ _ _ _ _) o;have A3:=o.ext (D0.1.trans B6) (by rw[HA.1];exact C8.1);simp only[Jo]at A2 A3;refine bodyPost_ret (v:= .agg #[.bool j1,.slice g1 g2 g3,.bool j2,.slice g4 g5 g6]) ?_ rfl ⟨_,_,_,_,rfl,A2,A3⟩;simp[results,results26,go_sem, *]
theorem kN (n m n' m':Bool)(u v u' v':Value)(L:Nat)(q r:Rat)(w:World)(h:Dt L w n u m v q)(h':Dt L w n' u' m' v' r)(hL:L<=70000)(hr:r≠0):
    Calls prog 72 #[.agg #[.bool n,u,.bool m,v],.agg #[.bool n',u',.bool m',v']] w (Kj (q/r) 0 w):=by
  obtain⟨p1,l1,c1,p2,l2,c2,rfl,rfl⟩:=h.form;obtain⟨p3,l3,c3,p4,l4,c4,rfl,rfl⟩:=h'.form;have C1:=zH (fun W (x:Aa w W)=>Hk n m (.slice p1 l1 c1) (.slice p2 l2 c2) L q W (h.ext x) ω);have C0:=zH (fun W (x:Aa w W)=>Hk n' m' (.slice p3 l3 c3) (.slice p4 l4 c4) L r W (h'.ext x) ω);have hE:Aa w ((μ (μ w n p1 l1 c1 m p2 l2 c2) n' p3 l3 c3 m' p4 l4 c4).alloc (.cells #[.bool false,.slice none 0 0,.bool false,.slice none 0 0] 31)):=((Ak.alloc _).alloc _).alloc _;have HE:=zH hE;have A0:Nm.nl q.num.natAbs<=L+1/\Nm.nl (q.den:Int).natAbs<=L+1/\Nm.nl r.num.natAbs<=L+1/\Nm.nl (r.den:Int).natAbs<=L+1:=by
    have h1:=h.rl;have h2:=h'.rl;unfold Nm.rl at h1 h2;simp only[xM];omega
  have C2:=zH (Gn w n m (.slice p1 l1 c1) (.slice p2 l2 c2));have B4:=zH (Gn (μ w n p1 l1 c1 m p2 l2 c2) n' m' (.slice p3 l3 c3) (.slice p4 l4 c4));have HW:=zH (show∀W,Aa ((μ (μ w n p1 l1 c1 m p2 l2 c2) n' p3 l3 c3 m' p4 l4 c4).alloc (.cells #[.bool false,.slice none 0 0,.bool false,.slice none 0 0] 31)) W->Aa (μ w n p1 l1 c1 m p2 l2 c2) W/\Aa (μ (μ w n p1 l1 c1 m p2 l2 c2) n' p3 l3 c3 m' p4 l4 c4) W from
    fun W x=>⟨((Ak.alloc _).alloc _).trans x,(Ak.alloc _).trans x⟩)
  clear h h' hE;have B9:(q.den:Int)*r.num≠0:=Int.mul_ne_zero (by have:=q.den_nz;omega) (fun h=>hr (Rat.num_eq_zero.1 h));have C9:=zH (fun W n1 v1 n2 v2 (x:Bu W n1 v1 (q.num*r.den)) (y:Bu W n2 v2 ((q.den:Int)*r.num))=>(show Calls prog 98 #[.agg #[.bool n1,v1],.agg #[.bool n2,v2]] W (Kj (q/r) 0 W)by
    rw[Nm.div_eq];exact Sm n1 n2 v1 v2 (L+1+(L+1)) _ _ W (x.isIn (Cq _ _ _ _ A0.1 A0.2.2.2)) (y.isIn (Cq _ _ _ _ A0.2.1 A0.2.2.1)) ω B9))
  clear B9 hr;go_enter func72,ntmps72;go_wp2_with fail;go_upto_region 1 with fail;go_cut [] (fun wx=>Qk w q r wx/\Al wx (w.heap.size+1+1) 31 #[.bool false,.slice none 0 0,.bool false,.slice none 0 0])
  case first=>
    go_region_with (first|(go_at_call 54;((with_reducible refine(C1.1 _ (HE.1.trans (by first|assumption|exact Aa.drew Ak))).mono ?_));rintro e wa ⟨b1,t1,b2,t2,rfl,B2,B0⟩;obtain⟨x1,y1,z1,x2,y2,z2,rfl,rfl⟩:=B2.form;have B5:Aa ((μ (μ w n p1 l1 c1 m p2 l2 c2) n' p3 l3 c3 m' p4 l4 c4).alloc (.cells #[.bool false,.slice none 0 0,.bool false,.slice none 0 0] 31)) wa:=(by first|exact(Aa.drew Ak).trans B0|exact Aa.trans (by assumption) B0);have ga:=B4.1 wa (HW.1 wa B5).2;simp only[wG]at ga)|(go_at_call 54;((with_reducible refine(C0.1 _ (HE.1.trans (by first|assumption|exact Aa.drew Ak))).mono ?_));rintro e wb ⟨b3,t3,b4,t4,rfl,B1,A9⟩;obtain⟨x3,y3,z3,x4,y4,z4,rfl,rfl⟩:=B1.form;have A1:Aa ((μ (μ w n p1 l1 c1 m p2 l2 c2) n' p3 l3 c3 m' p4 l4 c4).alloc (.cells #[.bool false,.slice none 0 0,.bool false,.slice none 0 0] 31)) wb:=(by first|exact Aa.trans (by assumption) A9);clear ga;have ga:=C2.1 wb (HW.1 wb A1).1;have gb:=B4.1 wb (HW.1 wb A1).2;simp only[wG]at gb))
    all_goals
      have A6:=Xc (w0:=w) (t:=31) (Al.ext (Al.new w _ _) (HW.1 wb A1).1) (Al.ext (Al.new (μ w n p1 l1 c1 m p2 l2 c2) _ _) (HW.1 wb A1).2) (by simp) (Ox _ _ _ _ _ _ _ _) (Ox _ _ _ _ _ _ _ _) (HE.1.trans A1) (Bz _) (by simp) (B2.ext A9) B1;simp only[wG]at A6;obtain⟨wm,A5⟩:∃wm,wm=Jo (Jo wb w.heap.size (.bool b1) (.slice x1 y1 z1) (.bool b2) (.slice x2 y2 z2)) (w.heap.size+1) (.bool b3) (.slice x3 y3 z3) (.bool b4) (.slice x4 y4 z4):=⟨_,rfl⟩;obtain⟨s1,s2,s3,s4,s5,s6⟩:=A6 wm A5;simp only[Jo]at A5;rw[<-A5];have B3:=zH (s6 (w.heap.size+1+1) 31 #[.bool false,.slice none 0 0,.bool false,.slice none 0 0] ω ω (Al.ext (Al.new_at (μ (μ w n p1 l1 c1 m p2 l2 c2) n' p3 l3 c3 m' p4 l4 c4) _ (by simp) _ _) A1));have HM:=zH (show Qk w q r wm/\Al wm (w.heap.size+1+1) 31 #[.bool false,.slice none 0 0,.bool false,.slice none 0 0]from⟨⟨_,_,_,_,_,_,_,_,_,_,_,_,_,_,_,_,s1,s2,s3,s4,s5⟩,B3.1⟩);clear A6 A5 s1 s2 s3 s4 s5 s6 B2 B1 ga gb B0 A9 B5 A1;go_wp2_with fail
      go_meet
      exact HM.1
  clear C1 C0 HE C2 B4 HW;obtain⟨⟨b1,x1,y1,z1,b2,x2,y2,z2,b3,x3,y3,z3,b4,x4,y4,z4,s1,s2,s3,s4,s5⟩,k0⟩:=hcut;have H1:=zH (fun W (x:Aa wc W)=>Iv _ _ _ _ (L+1) q.num r.den W ((s3.ext x).1.isIn A0.1) ((s4.ext x).2.isIn A0.2.2.2) ω);have H2:=zH (fun W (x:Aa wc W)=>Iv _ _ _ _ (L+1) q.den r.num W ((s3.ext x).2.isIn A0.2.1) ((s4.ext x).1.isIn A0.2.2.1) ω);have D0:=zH s5;have B3:=zH k0;have HS:=zH (And.intro s1 s2);clear s1 s2 s3 s4 s5 k0 A0;go_wp2_with fail
  have C8:=zH (show w.heap.size<=w.heap.size+1+1 by omega);generalize hX:w.heap.size+1+1=X at*;generalize hB:w.heap.size+1=B at*;generalize hA:w.heap.size=A at*;have n1:A≠B:=ω;have n2:A≠X:=ω;have n5:B≠X:=ω;have HA:=zH hA;clear hA hB hX;have m0:=HS.1.1;have m1:=HS.1.2;have gl:∀w',Ba X wc w'->w'.cell? ⟨A,0,none⟩=some (.bool b1)/\w'.cell? ⟨A,1,none⟩=some (.slice x1 y1 z1)/\w'.cell? ⟨A,2,none⟩=some (.bool b2)/\w'.cell? ⟨A,3,none⟩=some (.slice x2 y2 z2)/\
      w'.cell? ⟨B,0,none⟩=some (.bool b3)/\w'.cell? ⟨B,1,none⟩=some (.slice x3 y3 z3)/\w'.cell? ⟨B,2,none⟩=some (.bool b4)/\w'.cell? ⟨B,3,none⟩=some (.slice x4 y4 z4):=fun w' x=>
    ⟨(m0.own x n2).cell 0,(m0.own x n2).cell 1,(m0.own x n2).cell 2,(m0.own x n2).cell 3,(m1.own x n5).cell 0,(m1.own x n5).cell 1,(m1.own x n5).cell 2,(m1.own x n5).cell 3⟩
  clear m0 m1;go_region_held3 (fun w'=>Ba X wc w') (first|(with_reducible assumption)|(with_reducible exact Ba.drew (Ba.refl _ _))|(with_reducible (apply Ba.of_ext;assumption))|(with_reducible (refine Ba.set_at (Ba.set_at (Ba.set_at (Ba.set_at ?_ _ _ _) _ _ _) _ _ _) _ _ _;first|assumption|(apply Ba.of_ext;assumption))))
    (first|(go_at_call 55;((with_reducible refine(H1.1 _ (by first|assumption|exact Aa.drew Ak)).mono ?_));rintro e wx ⟨k1,r1,rfl,B8,A8⟩;obtain⟨f1,f2,f3,rfl⟩:=B8.form;have hx:Aa wc wx:=Aa.trans (by first|assumption|exact Aa.drew Ak) A8)|(go_at_call 55;((with_reducible refine(H2.1 _ (by first|assumption|exact Aa.drew Ak)).mono ?_));rintro e wy ⟨k2,r2,rfl,B7,A4⟩;obtain⟨f4,f5,f6,rfl⟩:=B7.form;have C7:Aa wc wy:=Aa.trans hx A4)|(go_at_call 98;((with_reducible refine(C9.1 _ _ _ _ _ (B8.ext A4) B7).mono ?_));rintro e wz ⟨j1,t1,j2,t2,rfl,hc,A7⟩;obtain⟨g1,g2,g3,g4,g5,g6,rfl,rfl⟩:=hc.form;have B6:Aa wc wz:=Aa.trans C7 A7;have X0:=Al.ext B3.1 B6;have C6:=X0.cell 0;have C5:=X0.cell 1;have C4:=X0.cell 2;have C3:=X0.cell 3;have D4:=X0.frozen 0;have D3:=X0.frozen 1;have D2:=X0.frozen 2;have D1:=X0.frozen 3;simp at C6 C5 C4 C3))
  go_wp2_with fail;have o:=Gx wz X (.bool j1) (.slice g1 g2 g3) (.bool j2) (.slice g4 g5 g6);have A2:=hc.own X0 (Ox _ _ _ _ _ _ _ _) o;have A3:=o.ext (D0.1.trans B6) (by rw[HA.1];exact C8.1);simp only[Jo]at A2 A3;refine bodyPost_ret (v:= .tuple #[.agg #[.bool j1,.slice g1 g2 g3,.bool j2,.slice g4 g5 g6],iV 0]) ?_ rfl ⟨_,_,_,_,rfl,A2,A3⟩;simp[results,results72,go_sem, *]
def Eo (w:World)(B:Nat)(v:Value)(xs:List Nat):Prop:=w.ownsRow B 96 1 v xs.length (Bw xs)
theorem Eo.dig {w:World}{B:Nat}{v:Value}{xs:List Nat}(h:Eo w B v xs)(hd:Nm.Dg xs):Ej w v xs:=Ir h hd
theorem Eo.start (w:World):Eo (w.alloc (.cells #[] 96)) w.heap.size (.slice (π w.heap.size) 0 0) []:=
  ⟨by simp[Bw],.inr ⟨w.heap.size,0,#[],rfl,Bz _,heap_alloc_new w _,Bz _,wM _,by simp,by simp[Bw]⟩⟩
theorem Eo.block {w:World}{B:Nat}{v:Value}{xs:List Nat}(h:Eo w B v xs):∀k,v.ownBlock=some k->B<=k:=by
  intro k hk;rcases h.2 with⟨rfl,_⟩|⟨g,cap,cur,rfl,hg,_⟩
  · simp[Value.ownBlock]at hk
  simp[Value.ownBlock]at hk;omega
theorem Eo.more {w:World}{B:Nat}{v:Value}{xs:List Nat}{d:Nat}(h:w.ownsRow B 96 1 v (xs.length+1) (Bw xs++[.int .u32 (d:Int)])):Eo w B v (xs++[d]):=by
  unfold Eo;rw[wD,Cs];exact h
theorem Gy (w:World)(a:Value)(t:TypeId):∀(j:Nat) (u:Value),[a][j]?=some u->(w.alloc (.cells #[a] t)).cell? ((⟨w.heap.size,0,none⟩:Addr).add j)=some u:=by
  intro j u hj;match j,hj with
  |0,hj=>simp at hj;subst hj;simp[Addr.add]
theorem Rx (xs:List Nat)(t:Nat)(h:t<xs.length):xs.take (t+1)=xs.take t++[xs.getD t 0]:=by
  rw[wV h,wF,wC h];rfl
theorem Er (v:Value)(xs:List Nat)(i:Int)(w:World)(h:Ej w v xs)(h0:0<=i)(hi:i<=2000000):
    Calls prog 181 #[v,iV i] w fun e w'=>e= .returned (.int .u64 (xs.getD i.toNat 0:Nat))/\w=w':=by
  obtain⟨p,A1,rfl,hc,hd,hp⟩:=h;obtain⟨k,rfl⟩:=Int.eq_ofNat_of_zero_le h0;rw[Int.toNat_natCast];have A0:=hd.getD k;by_cases hk:k<xs.length
  · obtain⟨b,o,rfl,hb⟩:=hp (ω)
    have c0:=hb k hk;clear hb hp hd;generalize xs.getD k 0=x at c0 A0;go_enter func181,ntmps181;go_wp2_with fail;go_ret;exact⟨rfl,rfl⟩
  have e:xs.getD k 0=0:=by rw[wF,xP ω];rfl
  rw[e];clear hp hd A0 e;go_enter func181,ntmps181;go_wp2_with fail;go_ret;exact⟨rfl,rfl⟩
def uQ (n:Nat)(w:World)(e:Ending)(w':World):Prop:=∃v,e= .returned v/\Ce w' v n/\(∀k,v.ownBlock=some k->w.heap.size<=k)/\Aa w w'
theorem Om (v:Value)(L n:Nat)(w:World)(h:Bp L w v n)(hL:L<=1000000):
    Calls prog 129 #[v] w (uQ n w):=by
  obtain⟨xs,⟨p,B7,rfl,hc,hd,hp⟩,hv,hn⟩:=h;have HP:=zH hp;have HV:=zH hv;clear hp hv;obtain⟨i0,hi,B1,B0,A9⟩:=info_parts Nd;go_enter func129,ntmps129
  go_wp2_with fail;go_loop [3] (fun i=>∃k:Nat,k<=xs.length/\i= iV k/\Nm.val (xs.drop k)=0) (fun i=>(intOf i).toNat)
  case atStart=>exact⟨xs.length,Bz _,rfl,by simp[Nm.val]⟩
  obtain⟨k,hk,rfl,hz⟩:=hrel;have HZ:=zH hz;clear hz;by_cases hstop:k=0\/xs.getD (k-1) 0≠0
  · have HR:=zH (Nm.digs_take hd k hk HZ.1 hstop)
    have A6:k=0\/∃j b o x,k=j+1/\p=some ⟨b,o,none⟩/\w.cell? ⟨b,o+j,none⟩=some (.int .u32 ((x:Nat):Int))/\((x:Int)==0)=false:=by
      rcases hstop with h0|h0
      · exact .inl h0
      rcases Nat.eq_zero_or_pos k with h1|h1
      · exact .inl h1
      obtain⟨b,o,B2,hb⟩:=HP.1 ω;exact .inr ⟨k-1,b,o,xs.getD (k-1) 0,ω,B2,hb _ ω,by simp only[beq_eq_false_iff_ne,ne_eq];omega⟩
    have B4:=zH A6;clear hstop A6;rcases B4.1 with rfl|⟨j,b,o,x,rfl,rfl,c0,g0⟩
    · skip
      go_wp2_with fail;go_loopw [4,5] (fun v i wr=>∃t:Nat,t<=0/\i= iV t/\Eo wr w.heap.size v (xs.take t)/\Aa w wr) (fun _ i _=>0-(intOf i).toNat)
      case atStart=>exact⟨0,wM _,rfl,Eo.start w,Ak.alloc _⟩
      obtain⟨t,ht,rfl,A0,he⟩:=hrel;obtain rfl:t=0:=ω;go_wp2_with fail;go_ret;refine⟨_,rfl,?_,A0.block,he⟩;unfold Ce;rw[<-HV.1,HR.1];exact A0.dig (hd.take _)
    skip
    go_wp2_with fail;go_loopw [4,5] (fun v i wr=>∃t:Nat,t<=(j+1)/\i= iV t/\Eo wr w.heap.size v (xs.take t)/\Aa w wr) (fun _ i _=>(j+1)-(intOf i).toNat)
    case atStart=>exact⟨0,wM _,rfl,Eo.start w,Ak.alloc _⟩
    obtain⟨t,ht,rfl,A0,he⟩:=hrel;by_cases hlt:t<(j+1)
    · obtain⟨b2,o2,A5,A7⟩:=HP.1 (ω)
      obtain⟨rfl,rfl⟩:b=b2/\o=o2:=by injection A5 with A5;injection A5 with h1 h2;exact⟨h1,h2⟩
      have c1:=he.get (A7 t ω);clear A7;have HT:=zH (Rx xs t ω);generalize xs.getD t 0=y at c1 HT
      have A8:=zH (show(xs.take t).length=t by rw[wK];omega);have A1:=A0;unfold Eo at A1;rw[A8.1]at A1;have B5:=zH A0.block;have B6:=he.size;clear A0;go_wp2_with (at_builtin;refine wpList_append_own _ rfl _ _ 27 rfl w.heap.size 96 i0 (.int .u32 0) 1 4 underlying27 hi B1 B0 A9 rfl (by decide) _ _ _ rfl (A1.alloc _) ⟨wr.heap.size,0,none⟩ 1 1 [.int .u32 (y:Int)] rfl rfl (Gy _ _ _) (by simp[Value.oneCell']) (by unfold maxLen;omega) ω (by simp;omega) ?_;intro v' w2 A2 A3 _)
      go_roundw
      case rel=>
        refine⟨t+1,ω,by go_num,?_,(he.alloc _).grown A3 (fun k hk=>Aw (Bz _) (B5.1 k hk))⟩;rw[HT.1];exact Eo.more (by rw[A8.1];exact A2)
      case measure=>simp[intOf]<;>omega
    obtain rfl:t=(j+1):=ω;go_wp2_with fail;go_ret;refine⟨_,rfl,?_,A0.block,he⟩;unfold Ce;rw[<-HV.1,HR.1];exact A0.dig (hd.take _)
  obtain⟨j,rfl⟩:∃j,k=j+1:=⟨k-1,ω⟩;have A4:xs.getD j 0=0:=by
    rcases Nat.eq_zero_or_pos (xs.getD j 0)with h0|h0
    · exact h0
    exact absurd (.inr (by rw[Nat.add_sub_cancel];omega)) hstop
  obtain⟨b,o,rfl,hb⟩:=HP.1 ω;have c0:=hb j ω;rw[A4]at c0;have B3:=zH A4;clear hb hstop A4;go_wp2_with fail
  go_round
  case rel=>exact⟨j,ω,rfl,My ω B3.1 HZ.1⟩
  case measure=>simp[intOf]<;>omega
theorem Dh (v:Value)(L n:Nat)(w:World)(h:Bp L w v n)(hL:L<=1000000):
    Calls prog 129 #[v] w (Md n w):=
  (Om v L n w h hL).mono fun _ _ ⟨v,he,hc,_,hx⟩=>⟨v,he,hc,hx⟩
end
namespace Nm
def pad (xs:List Nat)(N:Nat):List Nat:=xs++List.replicate (N-xs.length) 0
theorem pad_length {xs:List Nat}{N:Nat}(h:xs.length<=N):(pad xs N).length=N:=by unfold pad;rw[wD,List.length_replicate];omega
theorem pad_val (xs:List Nat)(N:Nat):val (pad xs N)=val xs:=by unfold pad;rw[val_append,val_zeros,Nat.mul_zero,xO]
theorem pad_dg {xs:List Nat}(h:Dg xs)(N:Nat):Dg (pad xs N):=h.append (Dg.zeros _)
theorem pad_getD (xs:List Nat)(N i:Nat):(pad xs N).getD i 0=xs.getD i 0:=by
  unfold pad;rw[wF,wF];by_cases h:i<xs.length
  · rw[wQ h]
  rw[wJ ω,xP (l:=xs) ω,List.getElem?_replicate];split<;>rfl
theorem drop_eq_of {xs ys:List Nat}{j:Nat}(hl:xs.length=ys.length)(h:∀l,j<=l->xs.getD l 0=ys.getD l 0):xs.drop j=ys.drop j:=by
  apply List.ext_getElem
  · rw[List.length_drop,List.length_drop,hl]
  intro i h1 h2;rw[List.length_drop]at h1 h2;have:=h (j+i) ω;rw[wF,wF,wC ω,wC ω]at this;simpa using this
theorem val_lt_ofD {xs ys:List Nat}{j:Nat}(hx:Dg xs)(h:∀l,j+1<=l->xs.getD l 0=ys.getD l 0)(hlt:xs.getD j 0<ys.getD j 0):val xs<val ys:=by
  obtain⟨N,hN⟩:∃N,N=max (max xs.length ys.length) (j+1):=⟨_,rfl⟩;rw[<-pad_val xs N,<-pad_val ys N];have l1:=pad_length (xs:=xs) (N:=N) ω;have l2:=pad_length (xs:=ys) (N:=N) ω;exact val_lt_of (i:=j) (pad_dg hx N) (by rw[l1,l2]) (by rw[l1];omega) (drop_eq_of (by rw[l1,l2]) (fun l hl=>by rw[pad_getD,pad_getD];exact h l hl)) (by rw[pad_getD,pad_getD];exact hlt)
theorem val_eq_ofD {xs ys:List Nat}(h:∀l,xs.getD l 0=ys.getD l 0):val xs=val ys:=by
  obtain⟨N,hN⟩:∃N,N=max xs.length ys.length:=⟨_,rfl⟩;rw[<-pad_val xs N,<-pad_val ys N];have l1:=pad_length (xs:=xs) (N:=N) ω;have l2:=pad_length (xs:=ys) (N:=N) ω;have:=drop_eq_of (xs:=pad xs N) (ys:=pad ys N) (j:=0) (by rw[l1,l2]) (fun l _=>by rw[pad_getD,pad_getD];exact h l);rw[List.drop_zero,List.drop_zero]at this;rw[this]
theorem val_snoc (os:List Nat)(d:Nat):val (os++[d])=val os+4294967296^os.length*d:=by
  rw[val_append];simp[val]
theorem snoc_round {xs ys os:List Nat}{k c:Nat}(hk:os.length=k)(h:val os+4294967296^k*c=val (xs.take k)+val (ys.take k))(x y:Nat)(hx:xs.getD k 0=x)(hy:ys.getD k 0=y):
    val (os++[(c+(x+y))%4294967296])+4294967296^(k+1)*((c+(x+y))/4294967296)=val (xs.take (k+1))+val (ys.take (k+1)):=by
  rw[val_snoc,val_take_succD,val_take_succD,Nat.pow_succ,hx,hy,hk];exact round_arith h (Nat.mod_add_div _ _).symm
theorem snoc_sub {xs ys os:List Nat}{k s:Nat}(hk:os.length=k)(h:val os+val (ys.take k)=val (xs.take k)+4294967296^k*s)(x y d b:Nat)(hx:xs.getD k 0=x)(hy:ys.getD k 0=y)(e:x+4294967296*b=d+y+s):
    val (os++[d])+val (ys.take (k+1))=val (xs.take (k+1))+4294967296^(k+1)*b:=by
  rw[val_snoc,val_take_succD,val_take_succD,Nat.pow_succ,hx,hy,hk];exact sub_arith h rfl e
theorem snoc_sub_done {xs ys os:List Nat}{n s:Nat}(hx:Dg xs)(ho:Dg os)(hn:os.length=n)(hxn:xs.length=n)(hle:val ys<=val xs)(h:val os+val (ys.take n)=val (xs.take n)+4294967296^n*s):val os=val xs-val ys:=by
  have h1:=val_lt_pow hx (k:=n) ω;rw[val_take_len (xs:=xs) (xF hxn),val_take_of_lt (xs:=ys) (Nat.lt_of_le_of_lt hle h1)]at h;exact borrow_none hle (val_lt_pow ho (xF hn)) h
theorem snoc_times {xs os:List Nat}{k c d:Nat}(hk:os.length=k)(h:val os+4294967296^k*c=val (xs.take k)*d)(x l c2:Nat)(hx:xs.getD k 0=x)(e:x*d+c=l+4294967296*c2):
    val (os++[l])+4294967296^(k+1)*c2=val (xs.take (k+1))*d:=by
  rw[val_snoc,val_take_succD,Nat.pow_succ,hx,hk,xL,<-h,Nat.mul_assoc _ x d];have e2:4294967296^k*(x*d+c)=4294967296^k*(l+4294967296*c2):=congrArg (4294967296^k* ·) e;rw[wY,wY,<-Nat.mul_assoc _ 4294967296]at e2;generalize 4294967296^k*4294967296*c2=z at e2⊢
  generalize 4294967296^k*(x*d)=z2 at e2⊢;omega
end Nm
section
attribute [local go_sem ↓] Go.wp_at_zero Go.wp_at_succ Az Ay
theorem Vd (u v:Value)(L a b:Nat)(w:World)(hu:Bp L w u a)(hv:Bp L w v b)(hL:L<=1000000):
    Calls prog 182 #[u,v] w (Qj (Ky a b) w):=by
  obtain⟨xs,hx,A5,A7⟩:=hu;obtain⟨ys,hy,A4,A6⟩:=hv;have A9:=zH hx.dg;have A8:=zH hy.dg;have HX:=zH hx;have HY:=zH hy;obtain⟨p,cp,rfl,_,_,_⟩:=hx;obtain⟨q,cq,rfl,_,_,_⟩:=hy;have A1:=zH A5;have A0:=zH A4;obtain⟨n,hn⟩:∃n:Nat,max (xs.length:Int) (ys.length:Int)=(n:Int):=⟨max xs.length ys.length,ω⟩;have B1:xs.length<=n:=ω
  have B0:ys.length<=n:=ω;have B2:n<=1000000:=ω;clear A5 A4 A7 A6;have HN:=zH hn;go_enter func182,ntmps182
  go_wp2_with fail;clear hn;go_loopw [5] (fun i wr=>∃k:Nat,k<=n/\i= iV ((k:Int)-1)/\(∀l,k<=l->xs.getD l 0=ys.getD l 0)/\w=wr) (fun i _=>(intOf i+1).toNat)
  case atStart=>
    refine⟨n,Bz _,rfl,fun l hl=> ?_,rfl⟩;rw[wF,wF,xP ω,xP ω]
  obtain⟨k,hk,rfl,hz,rfl⟩:=hrel;have HZ:=zH hz;clear hz;match k,hk,HZ with
  | 0,hk,HZ=>
    have HE:=zH (Nm.val_eq_ofD (xs:=xs) (ys:=ys) (fun l=>HZ.1 l (wM _)));rw[A1.1,A0.1]at HE;go_wp2_with fail;go_ret;refine⟨Ey ?_,Aa.refl _⟩;rw[HE.1,Kx]
  | j+1,hk,HZ=>
    have D1:=Er _ xs (j:Int) w HX.1 ω ω;have D2:=Er _ ys (j:Int) w HY.1 ω ω;rw[Int.toNat_natCast]at D1 D2;generalize hgx:xs.getD j 0=x at D1
    generalize hgy:ys.getD j 0=y at D2;have E1:=zH D1;have E2:=zH D2;have A3:=zH hgx;have A2:=zH hgy;clear D1 D2 hgx hgy;rcases Nat.lt_trichotomy x y with hlt|heq|hgt
    · have HR:=zH (Nm.val_lt_ofD A9.1 HZ.1 (by rw[A3.1,A2.1];exact hlt))
      rw[A1.1,A0.1]at HR;go_wp2_with (first|(go_at_call 181;((with_reducible refine E1.1.mono ?_));rintro e w1 ⟨rfl,rfl⟩)|(go_at_call 181;((with_reducible refine E2.1.mono ?_));rintro e w1 ⟨rfl,rfl⟩))
      go_ret;exact⟨Ey (Ji (Int.ofNat_lt.2 HR.1)).symm,Aa.refl _⟩
    · subst heq
      have HE:=zH (show∀l,j<=l->xs.getD l 0=ys.getD l 0 from fun l hl=>by
        rcases Nat.eq_or_lt_of_le hl with h|h
        · subst h;rw[A3.1,A2.1]
        exact HZ.1 l h)
      go_wp2_with (first|(go_at_call 181;((with_reducible refine E1.1.mono ?_));rintro e w1 ⟨rfl,rfl⟩)|(go_at_call 181;((with_reducible refine E2.1.mono ?_));rintro e w1 ⟨rfl,rfl⟩))
      go_roundw
      case rel=>exact⟨j,ω,by go_num,HE.1,by trivial⟩
      case measure=>simp[intOf]<;>omega
    have HR:=zH (Nm.val_lt_ofD A8.1 (fun l hl=>(HZ.1 l hl).symm) (by rw[A3.1,A2.1];exact hgt));rw[A1.1,A0.1]at HR;go_wp2_with (first|(go_at_call 181;((with_reducible refine E1.1.mono ?_));rintro e w1 ⟨rfl,rfl⟩)|(go_at_call 181;((with_reducible refine E2.1.mono ?_));rintro e w1 ⟨rfl,rfl⟩))
    go_ret;exact⟨Ey (Jj (Int.ofNat_lt.2 HR.1)).symm,Aa.refl _⟩
theorem gO (u v:Value)(L a b:Nat)(w:World)(hu:Bp L w u a)(hv:Bp L w v b)(hL:L<=400000):
    Calls prog 160 #[u,v] w (Md (a+b) w):=by
  obtain⟨xs,hx,B0,B6⟩:=hu;obtain⟨ys,hy,A9,B4⟩:=hv;have C5:=zH hx.dg;have C4:=zH hy.dg;have HX:=zH hx;have HY:=zH hy;obtain⟨p,cp,rfl,_,_,_⟩:=hx;obtain⟨q,cq,rfl,_,_,_⟩:=hy;have C0:=zH B0;have B9:=zH A9;obtain⟨n,hn⟩:∃n:Nat,max (xs.length:Int) (ys.length:Int)=(n:Int):=⟨max xs.length ys.length,ω⟩;have B7:xs.length<=n:=ω
  have B5:ys.length<=n:=ω;have C7:n<=400000:=ω;clear B0 A9 B6 B4;obtain⟨i0,hi,A8,A7,A6⟩:=info_parts Nd;go_enter func160,ntmps160;go_wp2_with fail;go_loopw [5,6,7] (fun o c i wr=>∃k s:Nat,∃os:List Nat,k<=n/\i= iV k/\c= .int .u64 s/\s<=1/\os.length=k/\Nm.Dg os/\wr.ownsRow w.heap.size 96 1 o k (Bw os)/\Nm.val os+4294967296^k*s=Nm.val (xs.take k)+Nm.val (ys.take k)/\Aa w wr) (fun _ _ i _=>n-(intOf i).toNat)
  case atStart=>exact⟨0,0,[],wM _,rfl,rfl,ω,rfl,Nm.Dg.nil,Eo.start w,by simp[Nm.val],Ak.alloc _⟩
  obtain⟨k,s,os,hk,rfl,rfl,hs,A4,B1,A2,hv,he⟩:=hrel;have HV:=zH hv;have HO:=zH B1;have HL:=zH A4;have B3:=zH (Eo.block (show Eo wr w.heap.size _ os by unfold Eo;rw[A4];exact A2));have C6:=he.size;clear hv B1 A4;by_cases hlt:k<n
  · have D1:=Er _ xs (k:Int) wr (HX.1.ext he) ω (ω)
    have D2:=Er _ ys (k:Int) wr (HY.1.ext he) ω ω;have b1:=C5.1.getD k;have b2:=C4.1.getD k;have HR:=zH (Nm.snoc_round HL.1 HV.1);rw[Int.toNat_natCast]at D1 D2;generalize hgx:xs.getD k 0=x at D1 b1
    generalize hgy:ys.getD k 0=y at D2 b2;have C1:=zH (HR.1 x y hgx hgy);have E1:=zH D1;have E2:=zH D2;clear hgx hgy HR D1 D2;have e0:((x:Int)+y+s)%4294967296=(((s+(x+y))%4294967296:Nat):Int):=ω
    have C3:=zH e0;clear e0;go_wp2_with fail;refine E1.1.mono ?_;rintro e w1 ⟨rfl,rfl⟩;go_wp2_with fail;refine E2.1.mono ?_;rintro e w1 ⟨rfl,rfl⟩;go_wp2_with (at_builtin;refine wpList_append_own _ rfl _ _ 27 rfl w.heap.size 96 i0 (.int .u32 0) 1 4 underlying27 hi A8 A7 A6 rfl (by decide) _ _ _ rfl (A2.alloc _) ⟨wr.heap.size,0,none⟩ 1 1 [.int .u32 (((x:Int)+y+s)%4294967296)] rfl rfl (Gy _ _ _) (by simp[Value.oneCell']) (by unfold maxLen;omega) ω (by simp;omega) ?_;intro v' w2 A0 A1 _)
    go_roundw
    case rel=>
      refine⟨k+1,(s+(x+y))/4294967296,os++[(s+(x+y))%4294967296],ω,by go_num,Gp ω,ω,by rw[wD,HL.1];rfl,HO.1.append (Nm.Dg.cons ω Nm.Dg.nil),?_,C1.1,(he.alloc _).grown A1 (fun k hk=>B3.1 k hk)⟩;rw[Cs];rw[C3.1]at A0;exact A0
    case measure=>simp[intOf]<;>omega
  obtain rfl:k=n:=ω;have A3:Nm.val (os++[s])=a+b:=by
    rw[Nm.val_snoc,HL.1,HV.1,Nm.val_take_len B7,Nm.val_take_len B5,C0.1,B9.1]
  have A5:=zH A3;clear A3;go_wp2_with (at_builtin;refine wpList_append_own _ rfl _ _ 27 rfl w.heap.size 96 i0 (.int .u32 0) 1 4 underlying27 hi A8 A7 A6 rfl (by decide) _ _ _ rfl (A2.alloc _) ⟨wr.heap.size,0,none⟩ 1 1 [.int .u32 (s:Int)] rfl rfl (Gy _ _ _) (by simp[Value.oneCell']) (by unfold maxLen;omega) ω (by simp;omega) ?_;intro v' w2 A0 A1 _)
  have B2:(os++[s]).length=k+1:=by rw[wD,HL.1];rfl
  refine(Dh v' (k+1) (a+b) w2 ⟨os++[s],Ir (base:=w.heap.size) (by rw[B2,Cs];exact A0) (HO.1.append (Nm.Dg.cons ω Nm.Dg.nil)),A5.1,ω⟩ ω).mono ?_;rintro e w3 ⟨v3,rfl,hc,B8⟩;have HC:=zH hc;clear hc B2;have C2:=zH ((he.alloc _).grown A1 (fun k hk=>B3.1 k hk));go_wp2_with fail
  go_ret;exact⟨v3,rfl,HC.1,C2.1.trans B8⟩
theorem fQ (u:Value)(L a d:Nat)(w:World)(hu:Bp L w u a)(hL:L<=400000)(hd:d<4294967296):
    Calls prog 195 #[u,.int .u64 d] w (Md (a*d) w):=by
  obtain⟨xs,hx,A9,C0⟩:=hu;have B9:=zH hx.dg;obtain⟨p,cp,rfl,_,_,B0⟩:=hx;have HX:=zH B0;have B5:=zH A9;clear A9 B0;obtain⟨i0,hi,A8,A7,A6⟩:=info_parts Nd;go_enter func195,ntmps195
  go_wp2_with fail;go_loopw [5,6,7] (fun o c i wr=>∃k s:Nat,∃os:List Nat,k<=xs.length/\i= iV k/\c= .int .u64 s/\s<4294967296/\os.length=k/\Nm.Dg os/\wr.ownsRow w.heap.size 96 1 o k (Bw os)/\Nm.val os+4294967296^k*s=Nm.val (xs.take k)*d/\Aa w wr) (fun _ _ i _=>xs.length-(intOf i).toNat)
  case atStart=>exact⟨0,0,[],wM _,rfl,rfl,ω,rfl,Nm.Dg.nil,Eo.start w,by simp[Nm.val],Ak.alloc _⟩
  obtain⟨k,s,os,hk,rfl,rfl,hs,A4,B1,A2,hv,he⟩:=hrel;have HV:=zH hv;have HO:=zH B1;have HL:=zH A4;have B3:=zH (Eo.block (show Eo wr w.heap.size _ os by unfold Eo;rw[A4];exact A2));have C1:=he.size;clear hv B1 A4;by_cases hlt:k<xs.length
  · obtain⟨b,o,rfl,hb⟩:=HX.1 (ω)
    have c0:=he.get (hb k hlt);clear hb;have b1:=B9.1.getD k;have HR:=zH (Nm.snoc_times HL.1 HV.1);generalize hgx:xs.getD k 0=x at c0 b1
    have B6:=zH (fun l c2 e=>HR.1 x l c2 hgx e);clear hgx HR;have m1:=Nm.digit_mul b1 hd;have m2:(0:Int)<=(x:Int)*(d:Int):=by rw[<-wZ];exact Int.natCast_nonneg _
    have m3:(x:Int)*(d:Int)<=18446744065119617025:=by rw[<-wZ];exact Int.ofNat_le.2 m1
    have B8:=zH (show((x:Int)*d+s)%4294967296=(((x*d+s)%4294967296:Nat):Int)by omega);go_wp2_with (at_builtin;refine wpList_append_own _ rfl _ _ 27 rfl w.heap.size 96 i0 (.int .u32 0) 1 4 underlying27 hi A8 A7 A6 rfl (by decide) _ _ _ rfl (A2.alloc _) ⟨wr.heap.size,0,none⟩ 1 1 [.int .u32 (((x:Int)*d+s)%4294967296)] rfl rfl (Gy _ _ _) (by simp[Value.oneCell']) (by unfold maxLen;omega) ω (by simp;omega) ?_;intro v' w2 A0 A1 _)
    go_roundw
    case rel=>
      refine⟨k+1,(x*d+s)/4294967296,os++[(x*d+s)%4294967296],ω,by go_num,Gp ω,ω,by rw[wD,HL.1];rfl,HO.1.append (Nm.Dg.cons ω Nm.Dg.nil),?_,B6.1 _ _ (Nat.mod_add_div _ _).symm,(he.alloc _).grown A1 (fun k hk=>B3.1 k hk)⟩;rw[Cs];rw[B8.1]at A0;exact A0
    case measure=>simp[intOf]<;>omega
  obtain rfl:k=xs.length:=ω;have A3:Nm.val (os++[s])=a*d:=by
    rw[Nm.val_snoc,HL.1,HV.1,Nm.val_take_len (Bz _),B5.1]
  have A5:=zH A3;clear A3;go_wp2_with (at_builtin;refine wpList_append_own _ rfl _ _ 27 rfl w.heap.size 96 i0 (.int .u32 0) 1 4 underlying27 hi A8 A7 A6 rfl (by decide) _ _ _ rfl (A2.alloc _) ⟨wr.heap.size,0,none⟩ 1 1 [.int .u32 (s:Int)] rfl rfl (Gy _ _ _) (by simp[Value.oneCell']) (by unfold maxLen;omega) ω (by simp;omega) ?_;intro v' w2 A0 A1 _)
  have B2:(os++[s]).length=xs.length+1:=by rw[wD,HL.1];rfl
  refine(Dh v' (xs.length+1) (a*d) w2 ⟨os++[s],Ir (base:=w.heap.size) (by rw[B2,Cs];exact A0) (HO.1.append (Nm.Dg.cons ω Nm.Dg.nil)),A5.1,ω⟩ ω).mono ?_;rintro e w3 ⟨v3,rfl,hc,B4⟩;have HC:=zH hc;clear hc B2;have B7:=zH ((he.alloc _).grown A1 (fun k hk=>B3.1 k hk));go_wp2_with fail
  go_ret;exact⟨v3,rfl,HC.1,B7.1.trans B4⟩
def qP (a b:Nat)(w:World)(e:Ending)(w':World):Prop:=
  (b<=a/\∃v,e= .returned (.tuple #[v,.bool true])/\Ce w' v (a-b)/\(∀k,v.ownBlock=some k->w.heap.size<=k)/\Aa w w')\/(a<b/\e= .returned (.tuple #[.slice none 0 0,.bool false])/\Aa w w')
theorem Ni (u v:Value)(L a b:Nat)(w:World)(hu:Bp L w u a)(hv:Bp L w v b)(hL:L<=400000):
    Calls prog 161 #[u,v] w (qP a b w):=by
  have C1:=zH (Vd u v L a b w hu hv ω);by_cases hab:a<b
  · rw[Ji ω]at C1
    have A5:=zH hab;clear hab hu hv;go_enter func161,ntmps161;go_wp2_with fail;refine C1.1.mono ?_;rintro e w1 ⟨rfl,he⟩;go_wp2_with fail;go_ret2;exact .inr ⟨A5.1,rfl,he⟩
  have B0:(0:Int)<=Ky (a:Int) (b:Int):=by
    by_cases h:(b:Int)<a
    · rw[Jj h];omega
    have:(a:Int)=b:=ω;rw[this,Kx];exact Int.le_refl _
  generalize Ky (a:Int) (b:Int)=c at C1 B0;obtain⟨xs,hx,A8,C5⟩:=hu;obtain⟨ys,hy,A7,C4⟩:=hv;have B3:=zH hx.dg;have C2:=zH hy.dg;have HX:=zH hx;have HY:=zH hy;obtain⟨p,cp,rfl,_,_,_⟩:=hx;obtain⟨q,cq,rfl,_,_,_⟩:=hy;have B2:=zH A8;have B1:=zH A7;have A5:=zH (Nat.le_of_not_lt hab);clear A8 A7 hab;obtain⟨i0,hi,B6,B5,B4⟩:=info_parts Nd;go_enter func161,ntmps161
  go_wp2_with fail;refine C1.1.mono ?_;rintro e w1 ⟨rfl,A4⟩;go_wp2_with fail;clear C1 B0;go_loopw [6,7,8] (fun o c i wr=>∃k s:Nat,∃os:List Nat,k<=xs.length/\i= iV k/\c= .int .u64 s/\s<=1/\os.length=k/\Nm.Dg os/\wr.ownsRow w1.heap.size 96 1 o k (Bw os)/\Nm.val os+Nm.val (ys.take k)=Nm.val (xs.take k)+4294967296^k*s/\Aa w1 wr) (fun _ _ i _=>xs.length-(intOf i).toNat)
  case atStart=>exact⟨0,0,[],wM _,rfl,rfl,ω,rfl,Nm.Dg.nil,Eo.start w1,by simp[Nm.val],Ak.alloc _⟩
  obtain⟨k,s,os,hk,rfl,rfl,hs,A6,A9,A0,hv,he⟩:=hrel;have HV:=zH hv;have HO:=zH A9;have HL:=zH A6;have C3:=zH (Eo.block (show Eo wr w1.heap.size _ os by unfold Eo;rw[A6];exact A0));have C6:=he.size;clear hv A9 A6;by_cases hlt:k<xs.length
  · have D1:=Er _ xs (k:Int) wr (HX.1.ext (A4.trans he)) ω (ω)
    have D2:=Er _ ys (k:Int) wr (HY.1.ext (A4.trans he)) ω ω;have b1:=B3.1.getD k;have b2:=C2.1.getD k;have HR:=zH (Nm.snoc_sub HL.1 HV.1);rw[Int.toNat_natCast]at D1 D2;generalize hgx:xs.getD k 0=x at D1 b1
    generalize hgy:ys.getD k 0=y at D2 b2;have B8:=zH (fun d b e=>HR.1 x y d b hgx hgy e);have E1:=zH D1;have E2:=zH D2;clear hgx hgy HR D1 D2;have C0:=zH (show(4294967296+(x:Int)-y-s)%4294967296=(((4294967296+x-y-s)%4294967296:Nat):Int)by omega);go_wp2_with fail
    refine E1.1.mono ?_;rintro e w3 ⟨rfl,rfl⟩;go_wp2_with fail;refine E2.1.mono ?_;rintro e w3 ⟨rfl,rfl⟩;go_wp2_with (at_builtin;refine wpList_append_own _ rfl _ _ 27 rfl w1.heap.size 96 i0 (.int .u32 0) 1 4 underlying27 hi B6 B5 B4 rfl (by decide) _ _ _ rfl (A0.alloc _) ⟨wr.heap.size,0,none⟩ 1 1 [.int .u32 ((4294967296+(x:Int)-y-s)%4294967296)] rfl rfl (Gy _ _ _) (by simp[Value.oneCell']) (by unfold maxLen;omega) ω (by simp;omega) ?_;intro v' w2 A1 A3 _)
    go_roundw
    case rel=>
      refine⟨k+1,1-(4294967296+x-y-s)/4294967296,os++[(4294967296+x-y-s)%4294967296],ω,by go_num,Gp ω,ω,by rw[wD,HL.1];rfl,HO.1.append (Nm.Dg.cons ω Nm.Dg.nil),?_,B8.1 _ _ ω,(he.alloc _).grown A3 (fun k hk=>C3.1 k hk)⟩;rw[Cs];rw[C0.1]at A1;exact A1
    case measure=>simp[intOf]<;>omega
  obtain rfl:k=xs.length:=ω;have A2:Nm.val os=a-b:=by
    rw[Nm.snoc_sub_done B3.1 HO.1 HL.1 rfl (by rw[B2.1,B1.1];exact A5.1) HV.1,B2.1,B1.1]
  have HN:=zH (fun o (h:wr.ownsRow w1.heap.size 96 1 o xs.length (Bw os))=>Om o xs.length (a-b) wr ⟨os,Ir (base:=w1.heap.size) (by rw[HL.1];exact h) HO.1,A2,by rw[HL.1];exact Bz _⟩ ω);have B9:=zH A0;clear A2 A0;go_wp2_with fail
  refine(HN.1 _ B9.1).mono ?_;rintro e w3 ⟨v3,rfl,hc,hf,B7⟩;have HC:=zH hc;have HF:=zH hf;clear hc hf;go_wp2_with fail
  go_ret2;exact .inl ⟨A5.1,v3,rfl,HC.1,fun k hk=>Aw (A4.trans he).size (HF.1 k hk),(A4.trans he).trans B7⟩
theorem Vc (u v:Value)(L a b:Nat)(w:World)(hu:Bp L w u a)(hv:Bp L w v b)(hL:L<=400000):
    Calls prog 161 #[u,v] w (nP a b w):=
  (Ni u v L a b w hu hv hL).mono fun _ _ h=>by
    rcases h with⟨h1,v,he,hc,_,hx⟩|h
    · exact .inl ⟨h1,v,he,hc,hx⟩
    exact .inr h
theorem Fi.drewN {w:World}{g:Nat}{os:List Nat}(h:Fi w g os)(n:Nat):Fi (w.drewN n) g os:=h
theorem gJ (u v:Value)(L a b:Nat)(w:World)(hu:Bp L w u a)(hv:Bp L w v b)(hL:L<=400000):
    Calls prog 159 #[u,v] w (Md (a*b) w):=by
  obtain⟨xs,hx,B0,C9⟩:=hu;obtain⟨ys,hy,A9,C8⟩:=hv;have C7:=zH hx.dg;have C6:=zH hy.dg;obtain⟨p,cp,rfl,D1,_,B4⟩:=hx;obtain⟨q,cq,rfl,D0,_,B3⟩:=hy;have HX:=zH B4;have HY:=zH B3;have C4:=zH B0;have C3:=zH A9;clear B4 B3 B0 A9;have C2:=fun w=>Fk (xs.length+ys.length+1) ω ((xs.length:Int)+(ys.length:Int)+1) ω w
  go_enter func159,ntmps159;go_wp2_with fail;clear C2;go_loopw [6] (fun i wr=>∃k:Nat,∃os:List Nat,k<=xs.length/\i= iV k/\os.length=xs.length+ys.length+1/\Nm.Dg os/\Fi wr w.heap.size os/\Nm.Zeros os (k+ys.length)/\Nm.val os=Nm.val (xs.take k)*Nm.val ys/\Aa w wr) (fun i _=>xs.length-(intOf i).toNat)
  case atStart=>exact⟨0,List.replicate (xs.length+ys.length+1) 0,wM _,rfl,by simp,Nm.Dg.zeros _,Gl _ _,Nm.Zeros.all _ _,by rw[Nm.val_zeros];simp[Nm.val],Ak.alloc _⟩
  obtain⟨k,os,hk,rfl,B5,B6,hb,hz,hv,he⟩:=hrel;have HV:=zH hv;have HO:=zH B6;have HL:=zH B5;have HZ:=zH hz;clear hv B6 B5 hz;by_cases hlt:k<xs.length
  · obtain⟨bx,ox,rfl,B8⟩:=HX.1 (ω)
    have c0:=B8 k hlt;have x1:=C7.1.getD k;generalize hgx:xs.getD k 0=x at c0 x1
    have C5:=zH hgx;have C0:=zH c0;clear hgx B8 c0;go_wp2_with fail
    obtain⟨wo,C1⟩:∃wo:World,wo=wr:=⟨_,rfl⟩;subst C1;go_loopw [7,8] (fun c i wr2=>∃j s:Nat,∃os:List Nat,j<=ys.length/\i= iV j/\c= .int .u64 s/\s<4294967296/\os.length=xs.length+ys.length+1/\Nm.Dg os/\Fi wr2 w.heap.size os/\Nm.Zeros os (k+ys.length)/\Nm.val os+4294967296^(k+j)*s=Nm.val (xs.take k)*Nm.val ys+4294967296^k*(x*Nm.val (ys.take j))/\Aa w wr2) (fun _ i _=>ys.length-(intOf i).toNat)
    case atStart=>exact⟨0,0,os,wM _,rfl,rfl,ω,HL.1,HO.1,hb,HZ.1,Nm.mul_start HV.1,he⟩
    obtain⟨j,s,A5,hj,rfl,rfl,hs,A3,A4,A1,A8,B2,A0⟩:=hrel;have B9:=zH B2;have A7:=zH A4;have A2:=zH A3;have A6:=zH A8;clear B2 A4 A3 A8;by_cases hjl:j<ys.length
    · obtain⟨D2,oy,rfl,B7⟩:=HY.1 (ω)
      have c1:=A0.get (B7 j hjl);have cw:=A0.get C0.1;clear B7
      have y1:=C6.1.getD j;have o1:=A7.1.getD (k+j);have c2:=A1.cell (i:=k+j) (by rw[A2.1];omega);have f2:=A1.frozen (k+j);generalize hgy:ys.getD j 0=y at c1 y1
      generalize hgo:A5.getD (k+j) 0=o at c2 o1;have HR:=zH (fun d c2 e=>Nm.mul_round (by rw[A2.1];omega) B9.1 y o d c2 hgy hgo e);clear hgy hgo;have m1:=Nm.digit_mul x1 y1;have m2:(0:Int)<=(x:Int)*(y:Int):=by rw[<-wZ];exact Int.natCast_nonneg _
      have m3:(x:Int)*(y:Int)<=18446744065119617025:=by rw[<-wZ];exact Int.ofNat_le.2 m1
      have i0:(0:Int)<=(k:Int):=ω;have i1:(k:Int)<(xs.length:Int):=ω;have i2:(0:Int)<=(j:Int):=ω;have i3:(j:Int)<(ys.length:Int):=ω;have i4:(0:Int)<=(k:Int)+(j:Int):=ω;have i5:(k:Int)+(j:Int)<(xs.length:Int)+(ys.length:Int)+1:=ω;have i6:((k:Int)+(j:Int)).toNat=k+j:=ω;have i7:IntKind.i64.wrap ((k:Int)+(j:Int))=(k:Int)+(j:Int):=IntWalk.i64_in _ ω;have I7:=zH i7;go_wp2_with fail
      go_quiet (fail)
      clear i6 i7;go_wp2_with fail;go_roundw
      case rel=>exact⟨j+1,(s+(x*y+o))/4294967296,A5.set (k+j) ((s+(x*y+o))%4294967296),ω,by go_num,Gp ω,ω,by rw[wO];exact A2.1,A7.1.set _ ω,(A1.drewN _).setI (k+j) _ ω,A6.1.set ω,HR.1 _ _ ω,(A0.drewN _).setCell (Bz _) _⟩
      case measure=>simp[intOf]<;>omega
    obtain rfl:j=ys.length:=ω;have c2:=A1.cell (i:=k+ys.length) (by rw[A2.1];omega);have f2:=A1.frozen (k+ys.length);have HR:=zH (Nm.mul_row (by rw[A2.1];omega) A6.1 C5.1 B9.1);go_wp2_with fail
    go_roundw
    case rel=>exact⟨k+1,A5.set (k+ys.length) s,ω,by go_num,by rw[wO];exact A2.1,A7.1.set _ ω,A1.setI (k+ys.length) _ ω,(A6.1.mono ω).set ω,HR.1,A0.setCell (Bz _) _⟩
    case measure=>simp[intOf]<;>omega
  obtain rfl:k=xs.length:=ω;have B1:Nm.val os=a*b:=by rw[HV.1,xK,C4.1,C3.1]
  have S1:=Dh (.slice (π w.heap.size) os.length (xs.length+ys.length+1)) (xs.length+ys.length+1) (a*b) wr ⟨os,hb.dig HO.1 _ (xF HL.1),B1,xF HL.1⟩ ω;rw[HL.1]at S1;have S2:=zH S1;clear B1 S1;go_wp2_with fail
  refine S2.1.mono ?_;rintro e w2 ⟨v2,rfl,hc,A0⟩;have HC:=zH hc;clear hc;go_wp2_with fail
  go_ret;exact⟨v2,rfl,HC.1,he.trans A0⟩
theorem kA (x k:Nat)(hk:k<32)(hx:x<4294967296):IntKind.u64.wrap ((x:Int)*2^(k%32))=((x*2^k:Nat):Int)/\x*2^k<=9223372034707292160:=by
  obtain⟨h1,h2,h3,h4,h5⟩:=Nm.shl_parts hx hk;have A0:x*2^k<=9223372034707292160:=Nat.mul_le_mul (show x<=4294967295 by omega) h4;refine⟨?_,A0⟩;rw[Nat.mod_eq_of_lt hk];have e:(x:Int)*2^k=((x*2^k:Nat):Int):=by rw[wZ,Int.natCast_pow];rfl
  rw[e];generalize x*2^k=z at A0;rw[IntKind.wrap_u64];omega
theorem rP (u:Value)(L a m:Nat)(w:World)(hu:Bp L w u a)(hL:L<=400000)(hm:m<32):
    Calls prog 194 #[u,iV m] w (Md (a*2^m) w):=by
  obtain⟨xs,hx,B0,C3⟩:=hu;have C2:=zH hx.dg;obtain⟨p,cp,rfl,_,_,B1⟩:=hx;have HX:=zH B1;have B8:=zH B0;clear B0 B1;obtain⟨i0,hi,A9,A8,A7⟩:=info_parts Nd;have q1:(m:Int)/32=0:=ω
  have B6:=fun w=>Fk 0 ω 0 rfl w
  go_enter func194,ntmps194;go_wp2_with fail;clear B6 q1;go_loopw [5,6,7] (fun o c i wr=>∃k s:Nat,∃os:List Nat,k<=xs.length/\i= iV k/\c= .int .u64 s/\s<4294967296/\os.length=k/\Nm.Dg os/\wr.ownsRow w.heap.size 96 1 o k (Bw os)/\Nm.val os+4294967296^k*s=Nm.val (xs.take k)*2^m/\Aa w wr) (fun _ _ i _=>xs.length-(intOf i).toNat)
  case atStart=>exact⟨0,0,[],wM _,rfl,rfl,ω,rfl,Nm.Dg.nil,Eo.start w,by simp[Nm.val],Ak.alloc _⟩
  obtain⟨k,s,os,hk,rfl,rfl,hs,A5,B2,A2,hv,he⟩:=hrel;have HV:=zH hv;have HO:=zH B2;have HL:=zH A5;have B4:=zH (Eo.block (show Eo wr w.heap.size _ os by unfold Eo;rw[A5];exact A2));have C4:=he.size;clear hv B2 A5;by_cases hlt:k<xs.length
  · obtain⟨b,o,rfl,hb⟩:=HX.1 (ω)
    have c0:=he.get (hb k hlt);clear hb;have b1:=C2.1.getD k;have HR:=zH (Nm.snoc_times HL.1 HV.1);generalize hgx:xs.getD k 0=x at c0 b1
    have A4:=fun l c2 e=>HR.1 x l c2 hgx e
    obtain⟨hw,B5⟩:=kA x m hm b1;generalize x*2^m=z at hw B5 A4;have B9:=zH A4;clear hgx HR A4;have C1:=zH (show((z:Int)+s)%4294967296=(((z+s)%4294967296:Nat):Int)by omega);go_wp2_with (at_builtin;refine wpList_append_own _ rfl _ _ 27 rfl w.heap.size 96 i0 (.int .u32 0) 1 4 underlying27 hi A9 A8 A7 rfl (by decide) _ _ _ rfl (A2.alloc _) ⟨wr.heap.size,0,none⟩ 1 1 [.int .u32 (((z:Int)+s)%4294967296)] rfl rfl (Gy _ _ _) (by simp[Value.oneCell']) (by unfold maxLen;omega) ω (by simp;omega) ?_;intro v' w2 A0 A1 _)
    go_roundw
    case rel=>
      refine⟨k+1,(z+s)/4294967296,os++[(z+s)%4294967296],ω,by go_num,Gp ω,ω,by rw[wD,HL.1];rfl,HO.1.append (Nm.Dg.cons ω Nm.Dg.nil),?_,B9.1 _ _ (Nat.mod_add_div _ _).symm,(he.alloc _).grown A1 (fun k hk=>B4.1 k hk)⟩;rw[Cs];rw[C1.1]at A0;exact A0
    case measure=>simp[intOf]<;>omega
  obtain rfl:k=xs.length:=ω;have A3:Nm.val (os++[s])=a*2^m:=by
    rw[Nm.val_snoc,HL.1,HV.1,Nm.val_take_len (Bz _),B8.1]
  have A6:=zH A3;clear A3;go_wp2_with (at_builtin;refine wpList_append_own _ rfl _ _ 27 rfl w.heap.size 96 i0 (.int .u32 0) 1 4 underlying27 hi A9 A8 A7 rfl (by decide) _ _ _ rfl (A2.alloc _) ⟨wr.heap.size,0,none⟩ 1 1 [.int .u32 (s:Int)] rfl rfl (Gy _ _ _) (by simp[Value.oneCell']) (by unfold maxLen;omega) ω (by simp;omega) ?_;intro v' w2 A0 A1 _)
  have B3:(os++[s]).length=xs.length+1:=by rw[wD,HL.1];rfl
  refine(Dh v' (xs.length+1) (a*2^m) w2 ⟨os++[s],Ir (base:=w.heap.size) (by rw[B3,Cs];exact A0) (HO.1.append (Nm.Dg.cons ω Nm.Dg.nil)),A6.1,ω⟩ ω).mono ?_;rintro e w3 ⟨v3,rfl,hc,B7⟩;have HC:=zH hc;clear hc B3;have C0:=zH ((he.alloc _).grown A1 (fun k hk=>B4.1 k hk));go_wp2_with fail
  go_ret;exact⟨v3,rfl,HC.1,C0.1.trans B7⟩
theorem Nm.snoc_shr {xs os:List Nat}{i k:Nat}(hd:Nm.Dg xs)(hk:k<32)(hol:os.length=i)(hix:i<xs.length)(h:Nm.val os=(Nm.val xs/2^k)%4294967296^i)(x y:Nat)(hx:xs.getD i 0=x)(hy:xs.getD (i+1) 0=y):
    Nm.val (os++[(x+y*4294967296)/2^k%4294967296])=(Nm.val xs/2^k)%4294967296^(i+1):=by
  have e:=Nm.shr_round (os:=os++[0]) (i:=i) hd hk (by simp[hol]) hix (by rw[List.take_append_of_le_length ω,wI ω];exact h) x y hx hy;rw[<-e];congr 1;subst hol;rw[wI]<;>simp
theorem kW (x y k:Nat):((y:Int)*4294967296+x)/2^k%4294967296=(((x+y*4294967296)/2^k%4294967296:Nat):Int):=by
  rw[Int.natCast_emod,Int.natCast_ediv,Int.natCast_pow,Int.natCast_add,wZ,Int.add_comm];rfl
theorem Sj (u:Value)(L a k:Nat)(w:World)(hu:Bp L w u a)(hL:L<=400000)(hk:k<32):
    Calls prog 184 #[u,iV k] w (Md (a*2^k) w):=by
  have S1:=zH (rP u L a k w hu hL hk);have q3:min (k:Int) 4096=k:=ω
  have q4:decide ((0:Int)<=(k:Int))=true:=by simp
  clear hu;go_enter func184,ntmps184;go_wp2_with fail;refine S1.1.mono ?_;rintro e w1 ⟨u1,rfl,hx,he⟩;go_wp2_with fail;go_ret;exact⟨u1,rfl,hx,he⟩
theorem kM (u:Value)(L a k:Nat)(w:World)(hu:Bp L w u a)(hL:L<=400000)(hk:k<32)(hk0:0<k):
    Calls prog 184 #[u,iV (-(k:Int))] w (Md (a/2^k) w):=by
  obtain⟨xs,hx,A6,B9⟩:=hu;have A3:=zH hx.dg;have B1:=zH hx;obtain⟨p,cp,rfl,C1,_,_⟩:=hx;have A5:=zH A6;clear A6;obtain⟨i0,hi,B4,B3,B2⟩:=info_parts Nd;have q1:(k:Int)/32=0:=ω
  have q2:(k:Int)%32=k:=ω;by_cases hn0:xs.length=0
  · have A8:a/2^k=0:=by
      rw[<-A5.1,wP hn0];exact Nat.zero_div _
    have B6:=zH A8;clear A8;have bb:decide (-(k:Int)< -32*(xs.length:Int))=true:=by simp;omega
    have B0:decide (k=0)=false:=by simp;omega
    go_enter func184,ntmps184;go_wp2_with fail;go_ret;rw[B6.1];refine⟨_,rfl,?_,Ak.alloc _⟩;unfold Ce;rw[Nm.digs_zero];exact(Eo.start w).dig Nm.Dg.nil
  have bb:decide (-(k:Int)< -32*(xs.length:Int))=false:=by simp;omega
  have B0:decide (k=0)=false:=by simp;omega
  go_enter func184,ntmps184;go_wp2_with fail;clear bb B0 q1;go_loopw [5,6] (fun o i wr=>∃j:Nat,∃os:List Nat,j<=xs.length/\i= iV j/\os.length=j/\Nm.Dg os/\wr.ownsRow w.heap.size 96 1 o j (Bw os)/\Nm.val os=(Nm.val xs/2^k)%4294967296^j/\Aa w wr) (fun _ i _=>xs.length-(intOf i).toNat)
  case atStart=>exact⟨0,[],wM _,rfl,rfl,Nm.Dg.nil,Eo.start w,by simp[Nm.val,Nat.mod_one],Ak.alloc _⟩
  obtain⟨j,os,hj,rfl,A4,A9,A1,hv,he⟩:=hrel;have HV:=zH hv;have HO:=zH A9;have HL:=zH A4;have B8:=zH (Eo.block (show Eo wr w.heap.size _ os by unfold Eo;rw[A4];exact A1));have C0:=he.size;clear hv A9 A4;by_cases hlt:j<xs.length
  · have d1:∀i:Int,i=(j:Int)->Calls prog 181 #[.slice p xs.length cp,iV i] wr fun e w'=>e= .returned (.int .u64 (xs.getD j 0:Nat))/\wr=w':=fun i h=>by
      subst h;exact Er _ xs j wr (B1.1.ext he) ω (ω)
    have d2:∀i:Int,i=((j+1:Nat):Int)->Calls prog 181 #[.slice p xs.length cp,iV i] wr fun e w'=>e= .returned (.int .u64 (xs.getD (j+1) 0:Nat))/\wr=w':=fun i h=>by
      subst h;exact Er _ xs ((j+1:Nat):Int) wr (B1.1.ext he) ω (ω)
    have b1:=A3.1.getD j;have b2:=A3.1.getD (j+1);have HR:=zH (Nm.snoc_shr A3.1 hk HL.1 hlt HV.1);generalize hgx:xs.getD j 0=x at d1 b1
    generalize hgy:xs.getD (j+1) 0=y at d2 b2;have B7:=zH (HR.1 x y hgx hgy);have D1:=zH d1;have D2:=zH d2;clear hgx hgy HR d1 d2;go_wp2_with fail
    refine(D2.1 _ ω).mono ?_;rintro e w2 ⟨rfl,rfl⟩;go_wp2_with fail;refine(D1.1 _ ω).mono ?_;rintro e w2 ⟨rfl,rfl⟩;go_wp2_with (at_builtin;refine wpList_append_own _ rfl _ _ 27 rfl w.heap.size 96 i0 (.int .u32 0) 1 4 underlying27 hi B4 B3 B2 rfl (by decide) _ _ _ rfl (A1.alloc _) ⟨wr.heap.size,0,none⟩ 1 1 [.int .u32 (((y:Int)*4294967296+x)/2^k%4294967296)] rfl rfl (Gy _ _ _) (by simp[Value.oneCell']) (by unfold maxLen;omega) ω (by simp;omega) ?_;intro v' w2 A0 A2 _)
    go_roundw
    case rel=>
      refine⟨j+1,os++[(x+y*4294967296)/2^k%4294967296],ω,by go_num,by rw[wD,HL.1];rfl,HO.1.append (Nm.Dg.cons (Nat.mod_lt _ ω) Nm.Dg.nil),?_,B7.1,(he.alloc _).grown A2 (fun k hk=>B8.1 k hk)⟩;rw[Cs];rw[kW x y k]at A0;exact A0
    case measure=>simp[intOf]<;>omega
  obtain rfl:j=xs.length:=ω;have A7:Nm.val os=a/2^k:=by
    rw[HV.1,A5.1];exact Nat.mod_eq_of_lt (Nat.lt_of_le_of_lt (Nat.div_le_self _ _) (by rw[<-A5.1];exact Nm.val_lt_pow A3.1 (Bz _)))
  have S1:=zH (Dh _ xs.length (a/2^k) wr ⟨os,Eo.dig (B:=w.heap.size) (by unfold Eo;rw[HL.1];exact A1) HO.1,A7,by rw[HL.1];exact Bz _⟩ ω);clear A7;go_wp2_with fail;refine S1.1.mono ?_;rintro e w2 ⟨v2,rfl,hc,B5⟩;go_wp2_with fail;go_ret;exact⟨v2,rfl,hc,he.trans B5⟩
theorem Nm.half_done {x j:Nat}(hx0:x≠0)(hx:x<4294967296)(h:x/2^j=0)(hp:j=0\/x/2^(j-1)≠0):
    1<=j/\j<=32/\2147483648<=x*2^(32-j)/\(x+1)*2^(32-j)<=4294967296:=by
  have A1:x<2^j:=by
    rcases Nat.lt_or_ge x (2^j)with h1|h1
    · exact h1
    have:=(Nat.div_pos h1 (Nat.two_pow_pos j));omega
  have hj:j≠0:=by
    rintro rfl;simp at A1;exact hx0 A1
  have A2:2^(j-1)<=x:=by
    rcases hp with h1|h1
    · exact absurd h1 hj
    rcases Nat.lt_or_ge x (2^(j-1))with h2|h2
    · exact absurd (Nat.div_eq_of_lt h2) h1
    exact h2
  have A0:j<=32:=by
    rcases Nat.lt_or_ge 32 j with h1|h1
    · have:2^32<=2^(j-1):=Nat.pow_le_pow_right ω (ω)
      have h2:(2:Nat)^32=4294967296:=by decide
      omega
    exact h1
  have e1:2^(j-1)*2^(32-j)=2147483648:=by
    rw[<-Nat.pow_add,show j-1+(32-j)=31 by omega]
  have e2:2^j*2^(32-j)=4294967296:=by
    rw[<-Nat.pow_add,show j+(32-j)=32 by omega]
  have m1:=xC (2^(32-j)) A2;have m2:=xC (2^(32-j)) (show x+1<=2^j by omega);rw[e1]at m1;rw[e2]at m2;exact⟨ω,A0,m1,m2⟩
def rK (n:Nat)(w:World)(e:Ending)(w':World):Prop:=
  ∃j m:Nat,e= .returned (iV (32*(m:Int)+j))/\Nm.nl n=m+1/\1<=j/\j<=32/\2147483648<=(Nm.digs n).getD m 0*2^(32-j)/\((Nm.digs n).getD m 0+1)*2^(32-j)<=4294967296/\Aa w w'
theorem Zn (u:Value)(L a:Nat)(w:World)(hu:Bp L w u a)(hL:L<=300000)(h0:a≠0):
    Calls prog 183 #[u] w (rK a w):=by
  have A6:=hu.nl;have S1:=zH (Dh u L a w hu ω);have A3:=Nm.dg_digs a;have ht:=Nm.tight_digs a;obtain⟨m,hm⟩:∃m,(Nm.digs a).length=m+1:=by
    have:=Nm.nl_eq_zero (n:=a);unfold Nm.nl at this;exact⟨(Nm.digs a).length-1,ω⟩
  have A0:(Nm.digs a).getD m 0≠0:=by
    have:=ht (by intro h;rw[h]at hm;cases hm);rw[List.getLast_eq_getElem]at this;rw[Nm.getD_eq ω];simpa[hm]using this
  have A2:=A3.getD m;have B1:m+1<=L:=by unfold Nm.nl at A6;omega
  unfold Md Ce at S1;unfold rK Nm.nl;clear ht A6 hu h0;generalize Nm.digs a=xs at S1 hm A0 A2 A3⊢;have HM:=zH hm;generalize hgx:xs.getD m 0=x at A0 A2⊢;have A7:=zH hgx;have B3:=zH A3;have A5:=zH A0;clear hgx hm A3 A0;go_enter func183,ntmps183
  go_wp2_with fail;refine S1.1.mono ?_;rintro e w1 ⟨u1,rfl,hx,he⟩;obtain⟨p,B2,rfl,A4,_,hp⟩:=hx;rw[HM.1]at hp A4⊢;obtain⟨b,o,rfl,hb⟩:=hp ω;have c0:=hb m ω;rw[A7.1]at c0;clear hp hb S1;have g0:((m:Int)+1==0)=false:=beq_eq_false_iff_ne.2 ω;go_wp2_with fail
  go_loop [4,5] (fun n v=>∃j t:Nat,n= iV (32*(m:Int)+j)/\v= .int .u32 t/\t=x/2^j/\(j=0\/x/2^(j-1)≠0)) (fun _ v=>(intOf v).toNat)
  case atStart=>exact⟨0,x,by simp<;>omega,rfl,by simp,.inl rfl⟩
  obtain⟨j,t,rfl,rfl,ht,hj⟩:=hrel;have HT:=zH ht;have HJ:=zH hj;have A8:j<=32:=by
    rcases Nat.lt_or_ge 32 j with h1|h1
    · exfalso
      rcases hj with h2|h2
      · omega
      refine h2 (Nat.div_eq_of_lt (xG A2 ?_));exact Aw (show 4294967296<=2^32 by decide) (Nat.pow_le_pow_right ω ω)
    exact h1
  have B0:t<=x:=by rw[ht];exact Nat.div_le_self _ _
  clear ht hj;by_cases h0:t=0
  · subst h0
    have HD:=zH (Nm.half_done A5.1 A2 HT.1.symm HJ.1);go_wp2_with fail;go_ret;obtain⟨d1,d2,d3,d4⟩:=HD.1;have A1:=A7.1;rw[wF]at A1;exact⟨j,m,rfl,HM.1,d1,d2,by rw[A1];exact d3,by rw[A1];exact d4,he⟩
  have HN:=zH (show t/2=x/2^(j+1)by rw[HT.1,Nat.div_div_eq_div_mul,Nat.pow_succ]);have A9:=zH (show x/2^(j+1-1)≠0 by rw[Nat.add_sub_cancel,<-HT.1];exact h0);have g1:decide ((0:Int)<(t:Int))=true:=by simp;omega
  go_wp2_with fail;go_round
  case rel=>exact⟨j+1,t/2,by go_num,by go_num,HN.1,.inr A9.1⟩
  case measure=>simp[intOf]<;>omega
theorem Nm.most_le {xs ys:List Nat}{m:Nat}(hx:Nm.Dg xs)(hy:ys.length=m+1)(hr:Nm.val xs<4294967296*Nm.val ys)(hyd:Nm.Dg ys)(ht:ys.getD m 0≠0):
    Nm.val xs/Nm.val ys<=(xs.getD (m+1) 0*4294967296+xs.getD m 0)/ys.getD m 0:=by
  have hv:Nm.val ys=Nm.val (ys.take m)+4294967296^m*ys.getD m 0:=by
    rw[<-Nm.val_take_succD,Nm.val_take_len ω]
  have A1:Nm.val xs<4294967296^(m+2):=by
    have h1:=Nm.val_lt_pow hyd (xF hy);have h2:(4294967296:Nat)^(m+2)=4294967296*4294967296^(m+1):=by rw[Nat.pow_succ _ (m+1),xN]
    rw[h2];exact xG hr (wW _ (xQ h1))
  have A0:Nm.val xs=Nm.val (xs.take m)+4294967296^m*(xs.getD m 0+4294967296*xs.getD (m+1) 0):=by
    rw[<-Nm.val_take_of_lt A1,Nm.val_take_succD,Nm.val_take_succD,Nat.pow_succ,wY,Nat.mul_assoc,Nat.add_assoc]
  have hq:=Nat.div_mul_le_self (Nm.val xs) (Nm.val ys);have A3:=Nm.val_take_lt hx m;have A2:=Nm.pow_pos32 m;generalize Nm.val xs/Nm.val ys=q at hq⊢
  rw[Nat.le_div_iff_mul_le ω];rw[xN (xs.getD (m+1) 0),Nat.add_comm];generalize xs.getD m 0+4294967296*xs.getD (m+1) 0=X at A0⊢;generalize ys.getD m 0=y at hv⊢;have h3:4294967296^m*(q*y)<4294967296^m*(X+1):=by
    have h4:4294967296^m*(q*y)<=q*Nm.val ys:=by
      rw[hv,wY,Nat.mul_left_comm];exact Nat.le_add_left _ _
    rw[wY];omega
  have:=Nat.lt_of_mul_lt_mul_left h3;omega
def nQ (r b:Nat)(w:World)(e:Ending)(w':World):Prop:=∃v,e= .returned (.tuple #[.int .u64 ((r/b:Nat):Int),v])/\Ce w' v (r%b)/\(∀k,v.ownBlock=some k->w.heap.size<=k)/\Aa w w'
theorem Nm.less_once {d b r:Nat}(h:r<b*d):1<=d/\b<=b*d/\b*d-b=b*(d-1):=by
  have hd:d≠0:=by rintro rfl;omega
  obtain⟨e,rfl⟩:∃e,d=e+1:=⟨d-1,ω⟩;rw[Nat.mul_succ];exact⟨ω,ω,by simp⟩
theorem iE (u v:Value)(L r b:Nat)(w:World)(hu:Bp L w u r)(hv:Ce w v b)(hL:L<=300000)(hbL:Nm.nl b<=L)(h0:b≠0)(hr:r<4294967296*b):
    Calls prog 185 #[u,v] w (nQ r b w):=by
  have HT:=zH (fun w' (h:Aa w w') (d:Nat) (hd:d<4294967296)=>fQ v L b d w' ((hv.ext h).isIn hbL) ω hd);have HC:=zH (fun p c w' (h:Aa w w') (hp:Bp (L+1) w' p c)=>Vd p u (L+1) c r w' hp ((hu.ext h).mono ω) ω);have HS:=zH (fun p c w' (h:Aa w w') (hp:Bp (L+1) w' p c)=>Ni p v (L+1) c b w' hp (((hv.ext h).isIn hbL).mono ω) ω);have E1:=zH (fun p c w' (h:Aa w w') (hp:Bp (L+1) w' p c)=>Ni u p (L+1) r c w' ((hu.ext h).mono ω) hp ω);have F3:=hu.nl;obtain⟨xs,hx,A6,F2⟩:=hu;have F7:=zH hx.dg;have A9:=Nm.dg_digs b;have A5:=Nm.val_digs b;have ht:=Nm.tight_digs b;obtain⟨m,hm⟩:∃m,(Nm.digs b).length=m+1:=by
    have:=Nm.nl_eq_zero (n:=b);unfold Nm.nl at this;exact⟨(Nm.digs b).length-1,ω⟩
  have A2:(Nm.digs b).getD m 0≠0:=by
    have:=ht (by intro h;rw[h]at hm;cases hm);rw[List.getLast_eq_getElem]at this;rw[Nm.getD_eq ω];simpa[hm]using this
  have C5:=A9.getD m;have F4:m+1<=L:=by unfold Nm.nl at hbL;omega
  have HG:=zH (Nm.most_le hx.dg hm (by rw[A6,A5];exact hr) A9 A2);rw[A6,A5]at HG;unfold Ce at hv;have D1:Hd (∀w',Aa w w'->∀i:Int,i=(m:Int)+1->Calls prog 181 #[u,iV i] w' fun e wr=>e= .returned (.int .u64 ((xs.getD ((m:Int)+1).toNat 0:Nat):Int))/\w'=wr):=zH (fun w' h i hi=>by
    subst hi;exact Er u xs ((m:Int)+1) w' (hx.ext h) ω ω)
  have D2:Hd (∀w',Aa w w'->∀i:Int,i=(m:Int)->Calls prog 181 #[u,iV i] w' fun e wr=>e= .returned (.int .u64 ((xs.getD ((m:Int)).toNat 0:Nat):Int))/\w'=wr):=zH (fun w' h i hi=>by
    subst hi;exact Er u xs ((m:Int)) w' (hx.ext h) ω ω)
  have C7:=hx.dg.getD (m+1);have C8:=hx.dg.getD m;rw[show((m:Int)+1).toNat=m+1 by omega]at D1;rw[show(m:Int).toNat=m by omega]at D2;obtain⟨p,F5,rfl,B0,_,hp⟩:=hv;rw[hm]at hp B0 HT HS⊢;obtain⟨bb,o,rfl,hb⟩:=hp ω;have c0:∀w',Aa w w'->w'.cell? ⟨bb,o+m,none⟩=some (.int .u32 (((Nm.digs b).getD m 0:Nat):Int)):=fun w' h=>h.get (hb m ω)
  clear hp hb A5 ht hx A9 hm;generalize (Nm.digs b).getD m 0=y at c0 HG A2 C5;generalize xs.getD (m+1) 0=x1 at D1 C7 HG;generalize xs.getD m 0=x0 at D2 C8 HG;have HR:=zH hr;have E8:=zH (show r/b<4294967296 by rw[Nat.div_lt_iff_lt_mul ω];exact hr);have F1:=zH h0;clear hr h0 A6;have D6:IntKind.u64.wrap (y:Int)=y:=IntWalk.u64_in _ ω;have D5:IntKind.i64.wrap (m:Int)=m:=IntWalk.i64_in _ ω;have D4:(0:Int)<=(m:Int):=ω
  have D3:(m:Int)<(m:Int)+1:=ω;have D0:IntKind.u64.wrap ((x1:Int)*4294967296)=(x1:Int)*4294967296:=IntWalk.u64_in _ ω;have C9:IntKind.u64.wrap ((x1:Int)*4294967296+x0)=(x1:Int)*4294967296+x0:=IntWalk.u64_in _ ω;obtain⟨q,hq⟩:∃q,q=(x1*4294967296+x0)/y:=⟨_,rfl⟩;rw[<-hq]at HG;have D7:q<=18446744073709551615:=by rw[hq];exact Aw (Nat.div_le_self _ _) (ω)
  have B5:((x1:Int)*4294967296+x0)/y=(q:Int):=by rw[hq,Int.natCast_ediv];rfl
  clear hq;have E2:=zH B5;clear B5;have e0:Aa w w:=Aa.refl _;go_enter func185,ntmps185
  go_wp2_with fail;go_region_held3 (fun w'=>Aa w w') (first|assumption|exact Aa.drew Ak|(apply Aa.via;assumption;assumption))
    (first|(go_at_call 181;((with_reducible refine(D1.1 _ (by first|assumption|exact Aa.drew Ak) _ ω).mono ?_));rintro e wx ⟨rfl,rfl⟩)|(go_at_call 181;((with_reducible refine(D2.1 _ (by first|assumption|exact Aa.drew Ak) _ ω).mono ?_));rintro e wx ⟨rfl,rfl⟩))
  clear D6 D5 D4 D3 D0 C9 c0 D1 D2;obtain⟨d0,E0⟩:∃d0,d0=min q 4294967295:=⟨_,rfl⟩;have A3:min (((x1:Int)*4294967296+x0)/y) 4294967295=(d0:Int):=by rw[E2.1];omega
  have B3:=zH A3;clear A3;have B9:d0<4294967296:=ω
  have E9:=zH (show r/b<=d0 by have h1:=HG.1;have h2:=E8.1;omega);have S1:=zH (HT.1 _ ((Aa.refl w).drew) d0 B9);have C4:Aa w w.drew:=(Aa.refl w).drew;clear E0 D7 HG HT;go_wp2_with fail
  rw[B3.1];refine S1.1.mono ?_;rintro e w2 ⟨p1,rfl,C0,D9⟩;have E4:=zH (C0.isIn (Aw (Nm.nl_mul b d0) (show Nm.nl b+Nm.nl d0<=L+1 by have:=Nm.nl_le (n:=d0) (k:=1) ω;omega)));have C6:=C4.trans D9;clear C0 S1;go_wp2_with fail
  go_loopw [8,9] (fun dv pv wr=>∃d:Nat,dv= .int .u64 d/\d<4294967296/\Bp (L+1) wr pv (b*d)/\r/b<=d/\Aa w wr) (fun dv _ _=>(intOf dv).toNat)
  case atStart=>exact⟨d0,rfl,B9,E4.1,E9.1,C6⟩
  obtain⟨d,rfl,hd,hp,B7,he⟩:=hrel;have C3:=zH B7;have HP:=zH hp;have C1:=zH (HC.1 _ _ _ he hp);clear B7 hp;by_cases hlt:r<b*d
  · obtain⟨l1,l2,l3⟩:=Nm.less_once hlt
    rw[Jj ω]at C1;have A4:r/b<=d-1:=by
      have h1:=Nat.div_mul_le_self r b;have h2:r/b≠d:=by
        intro h3;rw[h3,xN]at h1;omega
      have:=C3.1;omega
    have B4:=zH A4;have S2:=zH (fun pv w' (h:Aa w w') (hp:Bp (L+1) w' pv (b*d))=>HS.1 pv (b*d) w' h hp);have F6:=zH hlt;have C2:=zH (And.intro l2 l3);clear A4 hlt l2 l3;go_wp2_with fail
    refine C1.1.mono ?_;rintro e w3 ⟨rfl,A0⟩;go_wp2_with fail;refine(S2.1 _ _ (he.trans A0) (HP.1.ext A0)).mono ?_;rintro e w4 (⟨_,p4,rfl,A1,_,A7⟩|⟨B1,_⟩)
    · have B6:Nm.nl (b*d-b)<=L+1:=Aw (Nm.nl_mono (Nat.sub_le _ _)) HP.1.nl
      have B2:=A1.isIn B6;rw[C2.1.2]at B2;have E3:=zH B2;clear A1 B6 B2;go_wp2_with fail
      go_roundw
      case rel=>exact⟨d-1,by go_num,ω,E3.1,B4.1,(he.trans A0).trans A7⟩
      case measure=>simp[intOf]<;>omega
    exact absurd C2.1.1 (ω)
  have D8:Ky ((b*d:Nat):Int) (r:Int)<=0:=by
    rcases Nat.lt_or_ge (b*d) r with h|h
    · rw[Ji ω];omega
    rw[show b*d=r by omega,Kx];omega
  have A8:d=r/b:=by
    have h1:d<=r/b:=by
      rw[Nat.le_div_iff_mul_le (Nat.pos_of_ne_zero F1.1),xN];omega
    exact Nat.le_antisymm h1 C3.1
  generalize Ky ((b*d:Nat):Int) (r:Int)=c at C1 D8;have hm:r-b*d=r%b:=by
    rw[A8];have:=Nat.div_add_mod r b;omega
  have E7:=zH A8;have HM:=zH hm;have E5:=zH (Nat.le_of_not_lt hlt);have S2:=zH (fun pv w' (h:Aa w w') (hp:Bp (L+1) w' pv (b*d))=>E1.1 pv (b*d) w' h hp);clear A8 hm hlt;go_wp2_with fail
  refine C1.1.mono ?_;rintro e w3 ⟨rfl,A0⟩;go_wp2_with fail;refine(S2.1 _ _ (he.trans A0) (HP.1.ext A0)).mono ?_;rintro e w4 (⟨_,p4,rfl,A1,B8,A7⟩|⟨B1,_⟩)
  · rw[HM.1]at A1
    have F0:=zH A1;have E6:=zH B8;clear A1 B8;go_wp2_with fail
    go_ret2;unfold nQ;rw[<-E7.1];exact⟨_,rfl,F0.1,fun k hk=>Aw (he.trans A0).size (E6.1 k hk),(he.trans A0).trans A7⟩
  exact absurd E5.1 (ω)
theorem Eo.one (w:World)(x:Nat):Eo (w.alloc (.cells #[.int .u32 (x:Int)] 96)) w.heap.size (.slice (π w.heap.size) 1 1) [x]:=
  ⟨by simp[Bw],.inr ⟨w.heap.size,1,#[.int .u32 (x:Int)],rfl,Bz _,heap_alloc_new w _,Bz _,by unfold maxLen;omega,by simp,by simp[Bw]⟩⟩
theorem Ce.far {w:World}{v:Value}{n B:Nat}(h:Ce w v n)(hf:∀k,v.ownBlock=some k->B<=k){p:Addr}(hp:p.block<B)(u:Value):Ce (w.setCell p u) v n:=by
  obtain⟨q,A0,rfl,hc,hd,hq⟩:=h;refine⟨q,A0,rfl,hc,hd,fun h0=> ?_⟩;obtain⟨b,o,rfl,hb⟩:=hq h0;have hB:=hf b rfl;refine⟨b,o,rfl,fun i hi=> ?_⟩;rw[World.cell?_setCell_far _ _ _ _ (by show p.block≠b;omega)];exact hb i hi
theorem Nm.nl_shl (a k:Nat)(hk:k<32):Nm.nl (a*2^k)<=Nm.nl a+1:=by
  have h2:2^k<4294967296^1:=Nat.lt_of_le_of_lt (Nat.pow_le_pow_right ω (show k<=31 by omega)) (by decide);have h3:=Nm.nl_le h2;have:=Nm.nl_mul a (2^k);omega
theorem Nm.divmod_shl (a b k:Nat):(a*2^k)/(b*2^k)=a/b/\(a*2^k)%(b*2^k)=a%b*2^k:=
  ⟨Nat.mul_div_mul_right a b (Nat.two_pow_pos k),Nat.mul_mod_mul_right (2^k) a b⟩
theorem Nm.next_lt {x r V:Nat}(hx:x<4294967296)(hr:r<V):x+4294967296*r<4294967296*V:=by
  have:=wW 4294967296 (show r+1<=V by omega);omega
theorem Qr (u v:Value)(L a b:Nat)(w:World)(hu:Bp L w u a)(hv:Bp L w v b)(hL:L<=200000)(hb:b≠0):
    Calls prog 162 #[u,v] w (Wv (a/b) (a%b) w):=by
  have C1:=hv.nl;have S1:=zH (Dh v L b w hv ω);have S2:=zH (fun p w' (h:Ce w' p b)=>Zn p L b w' (h.isIn C1) ω hb);have SA:=zH (fun w' (h:Aa w w') (k:Nat) (hk:k<32)=>Sj u L a k w' (hu.ext h) ω hk);have SB:=zH (fun p w' (h:Ce w' p b) (k:Nat) (hk:k<32)=>Sj p L b k w' (h.isIn C1) ω hk);have HB:=zH hb;have E4:=hu.nl;obtain⟨i0,hi,H0,G9,G8⟩:=info_parts Nd;obtain⟨mb,E5⟩:∃mb,Nm.nl b=mb+1:=by
    have:=Nm.nl_eq_zero (n:=b);exact⟨Nm.nl b-1,ω⟩
  have G3:=zH E5;have I2:=zH C1;have I3:=zH E4;have H4:mb+1<=L:=ω
  clear hu hv hb E5 E4 C1;go_enter func162,ntmps162;go_wp2_with fail;refine S1.1.mono ?_;rintro e w1 ⟨t,rfl,ht,H7⟩;obtain⟨pt,ct,rfl⟩:=ht.form;rw[G3.1]at ht⊢;have HT:=zH ht;have g0:((mb:Int)+1==0)=false:=beq_eq_false_iff_ne.2 ω;clear ht S1;go_wp2_with fail
  refine(S2.1 _ _ HT.1).mono ?_;rintro e w2 ⟨j,m,rfl,hm,H6,H5,_,_,A3⟩;obtain rfl:m=mb:=by have:=G3.1;omega
  clear hm S2;go_wp2_with fail;obtain⟨k,hk⟩:∃k,k=32-j:=⟨_,rfl⟩;rw[show 32*((m:Int)+1)-(32*(m:Int)+j)=(k:Int)by omega];have A0:k<32:=ω
  have G6:=zH (H7.trans A3);clear hk H6 H5;refine(SA.1 _ G6.1 k A0).mono ?_;rintro e w3 ⟨pu,rfl,hu,F0⟩;have HU:=zH hu;clear hu;go_wp2_with fail
  refine(SB.1 _ _ (HT.1.ext (A3.trans F0)) k A0).mono ?_;rintro e w4 ⟨pv,rfl,hv,E9⟩;have HV:=zH hv;obtain⟨D5,cu,rfl⟩:=HU.1.form;have HD:=zH (Nm.divmod_shl a b k);have C3:=zH (Aw (Nm.nl_shl b k A0) (Nat.add_le_add_right I2.1 1));have C0:=Aw (Nm.nl_shl a k A0) (Nat.add_le_add_right I3.1 1);have B6:=zH (Nat.mul_pos (Nat.pos_of_ne_zero HB.1) (Nat.two_pow_pos k));have G5:=zH ((G6.1.trans F0).trans E9);have B7:=zH (show Ej w4 (.slice D5 (Nm.nl (a*2^k)) cu) (Nm.digs (a*2^k))from HU.1.ext E9);have C2:=Nm.dg_digs (a*2^k);have B9:=Nm.val_digs (a*2^k);unfold Nm.nl at C0 B7⊢;generalize a*2^k=U0 at HD B7 C2 B9 C0⊢
  generalize b*2^k=V0 at HD C3 B6 HV;generalize Nm.digs U0=us at B7 C2 B9 C0⊢;have G7:=zH (And.intro C2 B9);clear C2 B9 hv HU SA SB;obtain⟨n,hn⟩:∃n,n=us.length:=⟨_,rfl⟩;rw[<-hn]at B7 C0⊢;have HN:=zH hn;clear hn;have H3:=fun w=>Fk n ω (n:Int) rfl w
  go_wp2_with fail;clear H3;obtain⟨wq,J0⟩:∃wq,wq=w4.alloc (.cells (Bw (List.replicate n 0)).toArray 96):=⟨_,rfl⟩;go_loopw [12,13] (fun rv i wr=>∃j r:Nat,∃qs:List Nat,j<=n/\i= iV ((j:Int)-1)/\Ce wr rv r/\(∀k,rv.ownBlock=some k->w4.heap.size+1<=k)/\r<V0/\qs.length=n/\Nm.Dg qs/\Fi wr w4.heap.size qs/\Nm.val (qs.drop j)*V0+r=Nm.val (us.drop j)/\Aa w4 wr) (fun _ i _=>(intOf i+1).toNat)
  case atStart=>
    refine⟨n,0,List.replicate n 0,Bz _,rfl,?_,?_,B6.1,by simp,Nm.Dg.zeros _,(Gl w4 _).ext (Ak.alloc _),?_,(Ak.alloc _).alloc _⟩
    · unfold Ce
      rw[Nm.digs_zero];exact⟨_,0,rfl,Bz _,Nm.Dg.nil,fun h0=>absurd rfl (Nat.ne_of_lt h0).symm⟩
    · intro k hk
      simp[Value.ownBlock]at hk;omega
    rw[List.drop_of_length_le (by simp),List.drop_of_length_le (by rw[HN.1];exact Bz _)];simp[Nm.val]
  obtain⟨j,r,qs,hj,rfl,hr,D6,E7,D7,D8,F5,A8,he⟩:=hrel;have HR:=zH hr;have J5:=zH D6;have C5:=zH E7;have A7:=zH D7;have F8:=zH D8;have D4:=zH F5;have A1:=zH A8;clear hr D6 E7 D7 D8 F5 A8;match j,hj,A1 with
  | 0,hj,A1=>
    have B3:=Nm.div_of C5.1 A1.1;rw[List.drop_zero,List.drop_zero,G7.1.2,HD.1.1,HD.1.2]at B3;have S1:=zH (Dh (.slice (π w4.heap.size) qs.length n) qs.length (a/b) wr ⟨qs,D4.1.dig F8.1 _ (xF A7.1),B3.1,Bz _⟩ (by rw[A7.1];omega));rw[A7.1]at S1;have C7:=HR.1;rw[B3.2]at C7;have H8:=zH C7;have I7:=zH B3;clear C7 B3;go_wp2_with fail
    refine S1.1.mono ?_;rintro e w6 ⟨qv,rfl,hq,A6⟩;have F7:=zH hq;clear hq;have B0:Nm.nl (a%b*2^k)<=L+1:=by
      rw[<-I7.1.2];exact Aw (Nm.nl_mono (xQ C5.1)) C3.1
    have F6:=zH ((H8.1.isIn B0).ext A6);clear B0;go_wp2_with fail;by_cases hk0:k=0
    · have S2:=Sj _ (L+1) _ 0 w6 F6.1 ω (ω)
      rw[show a%b*2^k*2^0=a%b by rw[hk0,Nat.pow_zero,xR,xR]]at S2;rw[show-(k:Int)=((0:Nat):Int)by omega];refine S2.mono ?_;rintro e w7 ⟨pr,rfl,hr,B4⟩;go_wp2_with fail;go_ret3
      exact⟨_,_,rfl,F7.1.ext B4,hr,((G5.1.trans he).trans A6).trans B4⟩
    have S2:=kM _ (L+1) _ k w6 F6.1 ω A0 ω;rw[Nat.mul_div_cancel _ (Nat.two_pow_pos k)]at S2;refine S2.mono ?_;rintro e w7 ⟨pr,rfl,hr,B4⟩;go_wp2_with fail;go_ret3
    exact⟨_,_,rfl,F7.1.ext B4,hr,((G5.1.trans he).trans A6).trans B4⟩
  | kk+1,hj,A1=>
    rw[show((kk+1:Nat):Int)-1=(kk:Int)by omega];have H2:=Al.lt D4.1;obtain⟨p',c',E1,_,_,E2⟩:=B7.1;obtain⟨bu,ou,D9,F3⟩:=E2 (by have:=HN.1;omega);have C8:D5=some ⟨bu,ou,none⟩:=by
      injection E1 with h1 h2 h3
      rw[h1,D9]
    subst C8;have c0:=he.get (F3 kk (by have:=HN.1;omega));clear E1 D9 E2 F3;have x1:=G7.1.1.getD kk;have F9:=zH (fun x q r2 (hx:us.getD kk 0=x) e=>Nm.one_round (j:=kk) (os:=qs) (xs:=us) (by rw[A7.1];omega) (by have:=HN.1;omega) A1.1 x q r2 hx e);generalize hgx:us.getD kk 0=x at c0 x1
    have G0:=zH (fun q r2 e=>F9.1 x q r2 hgx e);clear hgx F9;have G1:=zH (Nm.next_lt x1 C5.1);have B0:Nm.nl r<=L+1:=Aw (Nm.nl_mono (xQ C5.1)) C3.1;have C6:=Nm.val_digs r;have D0:=Nm.dg_digs r;unfold Ce at HR;unfold Nm.nl at B0;generalize Nm.digs r=ds at HR B0 C6 D0
    obtain⟨pr,cr,rfl,J4,_,E0⟩:=HR.1;have H9:=zH E0;have D2:=zH (And.intro D0 C6);clear E0 C6 D0;go_wp2_with fail
    obtain⟨wo,H1⟩:∃wo:World,wo=wr:=⟨_,rfl⟩;subst H1;go_loopw [14,15] (fun nx i wr2=>∃t:Nat,t<=ds.length/\i= iV t/\wr2.ownsRow wo.heap.size 96 1 nx (t+1) (Bw (x::ds.take t))/\Aa wo wr2) (fun _ i _=>ds.length-(intOf i).toNat)
    case atStart=>exact⟨0,wM _,rfl,Eo.one wo x,Ak.alloc _⟩
    obtain⟨t,ht,rfl,A2,A3⟩:=hrel;have J1:=A3.size;by_cases htl:t<ds.length
    · obtain⟨br,I9,rfl,F4⟩:=H9.1 (ω)
      have c1:=A3.get (F4 t htl);clear F4;have HT:=zH (Rx ds t htl);generalize ds.getD t 0=y at c1 HT
      have I8:=zH (show∀k,Value.ownBlock _=some k->wo.heap.size<=k from Eo.block (xs:=x::ds.take t) (show Eo _ wo.heap.size _ (x::ds.take t)by unfold Eo;rw[show(x::ds.take t).length=t+1 by rw[xB,wK];omega];exact A2));go_wp2_with (at_builtin;refine wpList_append_own _ rfl _ _ 27 rfl wo.heap.size 96 i0 (.int .u32 0) 1 4 underlying27 hi H0 G9 G8 rfl (by decide) _ _ _ rfl (A2.alloc _) ⟨wr.heap.size,0,none⟩ 1 1 [.int .u32 (y:Int)] rfl rfl (Gy _ _ _) (by simp[Value.oneCell']) (by unfold maxLen;omega) ω (by simp;omega) ?_;intro v' w5 A9 B2 _)
      go_roundw
      case rel=>
        refine⟨t+1,ω,by go_num,?_,(A3.alloc _).grown B2 (fun k hk=>I8.1 k hk)⟩;rw[HT.1,<-wR,Cs];exact A9
      case measure=>simp[intOf]<;>omega
    obtain rfl:t=ds.length:=ω;have A5:Nm.val (x::ds)=x+4294967296*r:=by
      rw[<-D2.1.2];rfl
    have I4:=zH (fun o (h:wr.ownsRow wo.heap.size 96 1 o (ds.length+1) (Bw (x::ds.take ds.length)))=>Dh o (ds.length+1) (x+4294967296*r) wr ⟨x::ds,Ir (base:=wo.heap.size) (by rw[xK]at h;exact h) (Nm.Dg.cons x1 D2.1.1),A5,Bz _⟩ ω);have HW:=zH A2;have B1:Nm.nl (x+4294967296*r)<=L+3:=by
      rw[<-A5];exact Aw (Nm.nl_val (Nm.Dg.cons x1 D2.1.1)) (by rw[xB];omega)
    have I1:=zH B1;have F1:=Nat.div_add_mod (x+4294967296*r) V0;have C9:=Nat.mod_lt (x+4294967296*r) B6.1;have F2:(x+4294967296*r)/V0<4294967296:=by rw[Nat.div_lt_iff_lt_mul B6.1];exact G1.1
    have C4:=zH (fun nv w' (h:Ce w' nv (x+4294967296*r)) (B5:Aa w4 w')=>iE nv pv (L+3) (x+4294967296*r) V0 w' (h.isIn I1.1) (HV.1.ext B5) ω (Aw C3.1 ω) (Nat.ne_of_gt B6.1) G1.1);unfold nQ at C4;have G2:=zH (show 4294967296*r+x=(x+4294967296*r)/V0*V0+(x+4294967296*r)%V0 by rw[xN _ V0,F1,Nat.add_comm]);have D1:=zH (G0.1 _ _ G2.1);clear F1 B1 A5;generalize (x+4294967296*r)/V0=d at C4 F2 D1
    generalize (x+4294967296*r)%V0=r2 at C4 C9 D1;have I5:=zH C9;clear A2 C9 G2 G0;go_wp2_with fail;refine(I4.1 _ HW.1).mono ?_;rintro e w5 ⟨nv,rfl,E3,B5⟩;have I0:=zH E3;have B8:=zH ((he.trans A3).trans B5);clear E3;go_wp2_with fail
    refine(C4.1 _ _ I0.1 B8.1).mono ?_;rintro e w6 ⟨lv,rfl,E6,E8,A6⟩;have I6:=zH E6;have G4:=zH E8;clear E6 E8;have A4:=D4.1.ext ((A3.trans B5).trans A6);have c2:=A4.cell (i:=kk) (by rw[A7.1];omega);have f2:=A4.frozen kk;have D3:=zH A4;have J3:=A3.size;have J2:=B5.size;clear A4;go_wp2_with fail
    go_roundw
    case rel=>
      refine⟨kk,r2,qs.set kk d,ω,rfl,I6.1.far G4.1 (by show w4.heap.size<w5.heap.size;omega) _,fun k hk=> ?_,I5.1,by rw[wO];exact A7.1,F8.1.set _ F2,D3.1.setI kk d ω,D1.1,(B8.1.trans A6).setCell (Bz _) _⟩;have:=G4.1 k hk;omega
    case measure=>simp[intOf]<;>omega
theorem kV (u v:Value)(L a b:Nat)(w:World)(hu:Bp L w u a)(hv:Bp L w v b)(hL:L<=200000):
    Calls prog 126 #[u,v] w (Md (a.gcd b) w):=by
  have A8:=hv.nl;have A9:=hu.nl;have S1:=zH (Dh u L a w hu ω);have S2:=zH (fun w' (h:Aa w w')=>Dh v L b w' (hv.ext h) ω);clear hu hv;go_enter func126,ntmps126
  go_wp2_with fail;refine S1.1.mono ?_;rintro e w1 ⟨u1,rfl,hx,A5⟩;go_wp2_with fail;refine(S2.1 w1 A5).mono ?_;rintro e w2 ⟨v1,rfl,hy,A4⟩;have HX:=zH (hx.ext A4);have HY:=zH hy;clear S1 S2 hx hy;go_wp2_with fail
  go_loopg [5,6] b (fun y u v wr=>∃x:Nat,Ce wr u x/\Ce wr v y/\x.gcd y=a.gcd b/\Nm.nl x<=L/\Nm.nl y<=L/\Aa w2 wr)
  case atStart=>exact⟨a,HX.1,HY.1,rfl,A9,A8,Aa.refl _⟩
  obtain⟨x,hx,hy,hg,B0,A0,he⟩:=hrel;have HG:=zH hg;clear hg;by_cases h0:gk=0
  · subst h0
    have B7:=zH (show x=a.gcd b by rw[<-HG.1,Nat.gcd_zero_right]);obtain⟨p,B1,rfl⟩:=hy.form;rw[Nm.nl_zero];have B2:=zH hx;clear hx hy;go_wp2_with fail
    go_ret;refine⟨_,rfl,?_,A5.trans (A4.trans he)⟩;rw[<-B7.1];exact B2.1
  have A7:=zH (Qr _ _ L x gk wr (hx.isIn B0) (hy.isIn A0) hL h0);have A2:=Nat.mod_lt x (show 0<gk by omega);have B5:=zH A2;have B6:=zH (show gk.gcd (x%gk)=a.gcd b by rw[<-HG.1,Nat.gcd_comm x gk,Nat.gcd_rec gk x,Nat.gcd_comm]);have B3:=zH (Aw (Nm.nl_mono (xQ A2)) A0);have A6:=zH hy;have A1:0<Nm.nl gk:=by
    have:=Nm.nl_eq_zero (n:=gk);omega
  obtain⟨p,B1,rfl⟩:=hy.form;have B4:=zH A0;clear hx hy A2 A0;generalize Nm.nl gk=l at A7 A1 A6⊢
  go_wp2_with fail;refine A7.1.mono ?_;rintro e w3 ⟨qv,rv,rfl,hq,hr,A3⟩;have HR:=zH hr;clear hq hr;go_wp2_with fail
  go_roundg (x%gk)
  case measure=>exact B5.1
  case rel=>exact⟨gk,A6.1.ext A3,HR.1,B6.1,B4.1,B3.1,he.trans A3⟩
theorem Ev (n:Bool)(v:Value)(L a:Nat)(w:World)(hv:Bp L w v a)(hL:L<=1000000):
    Calls prog 78 #[.bool n,v] w (Kz (sg n a) w):=by
  have HG:=zH (Ic w);have HN:=zH (Dh v L a _ (hv.ext ((Aa.refl w).alloc (.cells θ 29))) hL);have HA:=zH (Xf n a);have A1:(n&&decide (0<Nm.nl a))=decide (sg n a<0):=by
    have:=Nm.nl_eq_zero (n:=a);rw[Bool.eq_iff_iff];cases n
    · simp[sg]
    simp[sg];omega
  have HF:=zH A1;have A2:=hv.nl;clear hv A1;generalize hl:Nm.nl a=l at A2 HF
  have HL:=zH hl;clear hl;cases n
  · go_enter func78,ntmps78
    go_wp2_with fail;refine HN.1.mono ?_;rintro e w1 ⟨v1,rfl,hc,he⟩;have HC:=zH hc;obtain⟨p,A0,rfl⟩:=hc.form;rw[HL.1]at HC⊢;have gk:=HG.1 _ he;clear hc;go_wp2_with fail
    have st:=Cl (u0:= .bool false) (u1:= .slice p l A0) he (show Bu w1 (decide (sg false a<0)) (.slice p l A0) (sg false a)from⟨rfl,by rw[HA.1];exact HC.1⟩);rw[<-HF.1]at st;refine bodyPost_ret (v:= .agg #[.bool false,.slice p l A0]) ?_ rfl ⟨_,_,rfl,st.1,st.2⟩;simp[results,results78,go_sem, *]
  by_cases h0:0<l
  · go_enter func78,ntmps78
    go_wp2_with fail;refine HN.1.mono ?_;rintro e w1 ⟨v1,rfl,hc,he⟩;have HC:=zH hc;obtain⟨p,A0,rfl⟩:=hc.form;rw[HL.1]at HC⊢;have gk:=HG.1 _ he;clear hc;go_wp2_with fail
    have st:=Cl (u0:= .bool true) (u1:= .slice p l A0) he (show Bu w1 (decide (sg true a<0)) (.slice p l A0) (sg true a)from⟨rfl,by rw[HA.1];exact HC.1⟩);rw[<-HF.1,show decide (0<l)=true by simpa using h0]at st;refine bodyPost_ret (v:= .agg #[.bool true,.slice p l A0]) ?_ rfl ⟨_,_,rfl,st.1,st.2⟩;simp[results,results78,go_sem, *]
  obtain rfl:l=0:=ω;go_enter func78,ntmps78;go_wp2_with fail;refine HN.1.mono ?_;rintro e w1 ⟨v1,rfl,hc,he⟩;have HC:=zH hc;obtain⟨p,A0,rfl⟩:=hc.form;rw[HL.1]at HC⊢;have gk:=HG.1 _ he;clear hc;go_wp2_with fail
  have st:=Cl (u0:= .bool false) (u1:= .slice p 0 A0) he (show Bu w1 (decide (sg true a<0)) (.slice p 0 A0) (sg true a)from⟨rfl,by rw[HA.1];exact HC.1⟩);rw[<-HF.1]at st;refine bodyPost_ret (v:= .agg #[.bool false,.slice p 0 A0]) ?_ rfl ⟨_,_,rfl,st.1,st.2⟩;simp[results,results78,go_sem, *]
theorem Mi (n:Bool)(v:Value)(L:Nat)(z:Int)(w:World)(h:Cb L w n v z)(hL:L<=300000):
    Calls prog 127 #[.agg #[.bool n,v]] w (Kz (-z) w):=by
  obtain⟨ha,hz⟩:=h.abs;obtain⟨p,l,A2,rfl⟩:=h.form;have HG:=zH (Ic (ν w n p l A2));have A3:sg (!n) z.natAbs= -z:=by
    cases n
    · rw[Gv]at hz;rw[Bool.not_false,Id];omega
    rw[Id]at hz;rw[Bool.not_true,Gv];omega
  have hN:=Ev (!n) (.slice p l A2) L z.natAbs _ (ha.ext (((Aa.refl w).alloc (.cells #[.bool n,.slice p l A2] 29)).alloc (.cells θ 29))) ω;rw[A3]at hN;have HN:=zH hN;clear h ha hz A3 hN;go_enter func127,ntmps127
  go_wp2_with fail;refine HN.1.mono ?_;rintro e w2 ⟨b,v2,rfl,A1,A4⟩;have gk:=HG.1 _ A4;simp only[wG]at gk;have A5:=zH A1;obtain⟨p2,l2,A0,rfl⟩:=A1.form;clear A1;go_wp2_with fail
  have st:=Cl (u0:= .bool b) (u1:= .slice p2 l2 A0) A4 A5.1;simp only[wG]at st;refine bodyPost_ret (v:= .agg #[.bool b,.slice p2 l2 A0]) ?_ rfl ⟨_,_,rfl,st.1,(Ak.alloc _).trans st.2⟩;simp[results,results127,go_sem, *]
theorem Gb (n m:Bool)(u v:Value)(L:Nat)(y z:Int)(w:World)(hu:Cb L w n u y)(hv:Cb L w m v z)(hL:L<=150000):
    Calls prog 120 #[.agg #[.bool n,u],.agg #[.bool m,v]] w (Kz (y*z) w):=by
  obtain⟨ha,hy⟩:=hu.abs;obtain⟨hb,hz⟩:=hv.abs;have A5:=ha.nl;have A4:=hb.nl;obtain⟨p,l,cp,rfl⟩:=hu.form;obtain⟨q,k,cq,rfl⟩:=hv.form;have H1:=zH (fun W (h:Aa (ν (ν w n p l cp) m q k cq) W)=>gJ _ _ L y.natAbs z.natAbs W (ha.ext ((((Aa.refl w).alloc _).alloc _).trans h)) (hb.ext ((((Aa.refl w).alloc _).alloc _).trans h)) ω);have hn:=fun W t (h:Ce W t (y.natAbs*z.natAbs))=>Ev (n != m) t (2*L) (y.natAbs*z.natAbs) W (h.isIn (by have:=Nm.nl_mul y.natAbs z.natAbs;omega)) (ω)
  rw[kD,<-hy,<-hz]at hn;have HG:=zH (Ic (ν (ν w n p l cp) m q k cq));have g:∀w',Aa (ν (ν w n p l cp) m q k cq) w'->
      w'.cell? ⟨w.heap.size,0,none⟩=some (.bool n)/\w'.cell? ⟨w.heap.size,1,none⟩=some (.slice p l cp)/\w'.cell? ⟨w.heap.size+1,0,none⟩=some (.bool m)/\w'.cell? ⟨w.heap.size+1,1,none⟩=some (.slice q k cq):=fun w' h=>
    ⟨h.get (by simp),h.get (by simp),h.get (by simp),h.get (by simp)⟩
  have A6:=zH (fun w1 b t u0 u1=>Cl (w:=(ν (ν w n p l cp) m q k cq)) (w1:=w1) (n:=b) (v:=t) (z:=y*z) (u0:=u0) (u1:=u1));clear hu hv ha hb hy hz A5 A4;have HN:=zH (fun W t x (hx:x=(n != m)) (h:Ce W t (y.natAbs*z.natAbs))=>(show Calls prog 78 #[.bool x,t] W (Kz (y*z) W)by subst hx;exact hn W t h));clear hn;go_enter func120,ntmps120
  go_wp2_with fail;go_region_held3 (fun w'=>Aa (ν (ν w n p l cp) m q k cq) w') (first|assumption|exact Aa.drew (Aa.alloc Ak _)|(apply Aa.via;assumption;assumption)|(refine Aa.setCell (Aa.setCell ?_ (by simp) _) (by simp) _;assumption))
    (first|(go_at_call 159;refine(H1.1 _ (by assumption)).mono ?_;rintro e w1 ⟨v1,rfl,hc,A2⟩)|(go_at_call 78;refine(HN.1 _ _ _ (by cases n<;>cases m<;>rfl) hc).mono ?_;rintro e w2 ⟨b,v2,rfl,A3,A1⟩;obtain⟨p2,l2,A0,rfl⟩:=A3.form;have gk:=HG.1 _ (Aa.trans (Aa.trans (Aa.drew Ak) A2) A1);simp only[wG]at gk))
  go_wp2_with fail;have st:=A6.1 _ _ _ (.bool b) (.slice p2 l2 A0) (Aa.trans (Aa.trans (Aa.drew Ak) A2) A1) A3;simp only[wG]at st;refine bodyPost_ret (v:= .agg #[.bool b,.slice p2 l2 A0]) ?_ rfl ⟨_,_,rfl,st.1,((Ak.alloc _).alloc _).trans st.2⟩;simp[results,results120,go_sem, *]
theorem Vl (n m:Bool)(u v:Value)(L:Nat)(y z:Int)(w:World)(hu:Cb L w n u y)(hv:Cb L w m v z)(hL:L<=150000):
    Calls prog 123 #[.agg #[.bool n,u],.agg #[.bool m,v]] w (Kz (y+z) w):=by
  obtain⟨ha,hy⟩:=hu.abs;obtain⟨hb,hz⟩:=hv.abs;have A6:=ha.nl;have A5:=hb.nl;obtain⟨p,l,cp,rfl⟩:=hu.form;obtain⟨q,k,cq,rfl⟩:=hv.form;have HA:=zH (fun W (h:Aa (ν (ν w n p l cp) m q k cq) W)=>ha.ext ((((Aa.refl w).alloc _).alloc _).trans h));have HB:=zH (fun W (h:Aa (ν (ν w n p l cp) m q k cq) W)=>hb.ext ((((Aa.refl w).alloc _).alloc _).trans h));have HG:=zH (Ic (ν (ν w n p l cp) m q k cq));have g:∀w',Aa (ν (ν w n p l cp) m q k cq) w'->
      w'.cell? ⟨w.heap.size,0,none⟩=some (.bool n)/\w'.cell? ⟨w.heap.size,1,none⟩=some (.slice p l cp)/\w'.cell? ⟨w.heap.size+1,0,none⟩=some (.bool m)/\w'.cell? ⟨w.heap.size+1,1,none⟩=some (.slice q k cq):=fun w' h=>
    ⟨h.get (by simp),h.get (by simp),h.get (by simp),h.get (by simp)⟩
  have B0:=zH (fun w1 b t u0 u1=>Cl (w:=(ν (ν w n p l cp) m q k cq)) (w1:=w1) (n:=b) (v:=t) (z:=y+z) (u0:=u0) (u1:=u1));clear hu hv ha hb;by_cases hnm:n=m
  · subst hnm
    have H1:=zH (fun W h=>gO _ _ L y.natAbs z.natAbs W (HA.1 W h) (HB.1 W h) ω);have hn:=fun W t (h:Ce W t (y.natAbs+z.natAbs))=>Ev n t (L+1) (y.natAbs+z.natAbs) W (h.isIn (by have:=Nm.nl_add y.natAbs z.natAbs;omega)) (ω)
    rw[Qo,<-hy,<-hz]at hn;have HN:=zH hn;clear hn hy hz A6 A5;go_enter func123,ntmps123
    go_wp2_with fail;go_region_held3 (fun w'=>Aa (ν (ν w n p l cp) n q k cq) w') (first|assumption|exact Aa.drew (Aa.alloc Ak _)|(apply Aa.via;assumption;assumption)|(refine Aa.setCell (Aa.setCell ?_ (by simp) _) (by simp) _;assumption))
      (first|(go_at_call 160;refine(H1.1 _ (by assumption)).mono ?_;rintro e w1 ⟨v1,rfl,hc,A1⟩)|(go_at_call 78;refine(HN.1 _ _ hc).mono ?_;rintro e w2 ⟨b,v2,rfl,A2,A3⟩;obtain⟨p2,l2,A0,rfl⟩:=A2.form;have gk:=HG.1 _ (Aa.trans (Aa.trans (Aa.drew Ak) A1) A3);simp only[wG]at gk))
    go_wp2_with fail;have st:=B0.1 _ _ _ (.bool b) (.slice p2 l2 A0) (Aa.trans (Aa.trans (Aa.drew Ak) A1) A3) A2;simp only[wG]at st;refine bodyPost_ret (v:= .agg #[.bool b,.slice p2 l2 A0]) ?_ rfl ⟨_,_,rfl,st.1,((Ak.alloc _).alloc _).trans st.2⟩;simp[results,results123,go_sem, *]
  have B9:(n==m)=false:=by simpa using hnm
  have B4:=zH hnm;clear hnm;have A7:Aa (ν (ν w n p l cp) m q k cq) ((ν (ν w n p l cp) m q k cq).alloc (.cells θ 29)):=Ak.alloc _;have A8:=zH A7;have H1:=zH (Vc _ _ L y.natAbs z.natAbs _ (HA.1 _ A7) (HB.1 _ A7) ω);have H2:=zH (fun W h=>Vc _ _ L z.natAbs y.natAbs W (HB.1 W h) (HA.1 W h) ω);clear A7;by_cases hab:z.natAbs<=y.natAbs
  · have hn:=fun W t (h:Ce W t (y.natAbs-z.natAbs))=>Ev n t L (y.natAbs-z.natAbs) W (h.isIn (Aw (Nm.nl_mono (Nat.sub_le _ _)) A6)) (ω)
    rw[Uy B4.1 hab,<-hy,<-hz]at hn;have HN:=zH hn;have B2:=zH hab;clear hn hy hz A6 A5 hab;go_enter func123,ntmps123
    go_wp2_with fail;refine H1.1.mono ?_;rintro e w1 (⟨_,v1,rfl,hc,A1⟩|⟨A4,_,_⟩)
    · have HC:=zH hc
      have gw:=g _ (A8.1.trans A1);clear hc;go_wp2_with fail;refine(HN.1 _ _ HC.1).mono ?_;rintro e w2 ⟨b,v2,rfl,A2,A3⟩;have B1:=zH A2;obtain⟨p2,l2,A0,rfl⟩:=A2.form;clear A2;have gk:=HG.1 _ (A1.trans A3);simp only[wG]at gk;go_wp2_with fail
      have st:=B0.1 _ _ _ (.bool b) (.slice p2 l2 A0) (A1.trans A3) B1.1;simp only[wG]at st;refine bodyPost_ret (v:= .agg #[.bool b,.slice p2 l2 A0]) ?_ rfl ⟨_,_,rfl,st.1,((Ak.alloc _).alloc _).trans st.2⟩;simp[results,results123,go_sem, *]
    exact absurd B2.1 (Nat.not_le_of_lt A4)
  have hn:=fun W t (h:Ce W t (z.natAbs-y.natAbs))=>Ev m t L (z.natAbs-y.natAbs) W (h.isIn (Aw (Nm.nl_mono (Nat.sub_le _ _)) A5)) (ω)
  rw[Ux B4.1 ω,<-hy,<-hz]at hn;have HN:=zH hn;have B2:=zH hab;clear hn hy hz A6 A5 hab;go_enter func123,ntmps123
  go_wp2_with fail;refine H1.1.mono ?_;rintro e w1 (⟨B5,_⟩|⟨A4,rfl,A1⟩)
  · exact absurd B5 B2.1
  have gw:=g _ (A8.1.trans A1);have B7:=zH (H2.1 _ (A8.1.trans A1));have B6:=zH A4;clear A4;go_wp2_with fail
  refine B7.1.mono ?_;rintro e w2 (⟨_,v1,rfl,hc,A3⟩|⟨A9,_,_⟩)
  · have HC:=zH hc
    have B8:=g _ ((A8.1.trans A1).trans A3);clear hc gw;go_wp2_with fail;refine(HN.1 _ _ HC.1).mono ?_;rintro e w3 ⟨b,v2,rfl,A2,B3⟩;have B1:=zH A2;obtain⟨p2,l2,A0,rfl⟩:=A2.form;clear A2;have gk:=HG.1 _ ((A1.trans A3).trans B3);simp only[wG]at gk;go_wp2_with fail
    have st:=B0.1 _ _ _ (.bool b) (.slice p2 l2 A0) ((A1.trans A3).trans B3) B1.1;simp only[wG]at st;refine bodyPost_ret (v:= .agg #[.bool b,.slice p2 l2 A0]) ?_ rfl ⟨_,_,rfl,st.1,((Ak.alloc _).alloc _).trans st.2⟩;simp[results,results123,go_sem, *]
  exact absurd (xQ B6.1) (Nat.not_le_of_lt A9)
theorem hC (n m:Bool)(u v:Value)(L:Nat)(y z:Int)(w:World)(hu:Cb L w n u y)(hv:Cb L w m v z)(hL:L<=150000):
    Calls prog 163 #[.agg #[.bool n,u],.agg #[.bool m,v]] w (Kz (y-z) w):=by
  have A1:=hv.nl;obtain⟨p,l,cp,rfl⟩:=hu.form;obtain⟨q,k,cq,rfl⟩:=hv.form;have HA:=zH (fun W (h:Aa (ν (ν w n p l cp) m q k cq) W)=>hu.ext ((((Aa.refl w).alloc _).alloc _).trans h));have HB:=zH (fun W (h:Aa (ν (ν w n p l cp) m q k cq) W)=>hv.ext ((((Aa.refl w).alloc _).alloc _).trans h));have HG:=zH (Ic (ν (ν w n p l cp) m q k cq));have g:∀w',Aa (ν (ν w n p l cp) m q k cq) w'->
      w'.cell? ⟨w.heap.size,0,none⟩=some (.bool n)/\w'.cell? ⟨w.heap.size,1,none⟩=some (.slice p l cp)/\w'.cell? ⟨w.heap.size+1,0,none⟩=some (.bool m)/\w'.cell? ⟨w.heap.size+1,1,none⟩=some (.slice q k cq):=fun w' h=>
    ⟨h.get (by simp),h.get (by simp),h.get (by simp),h.get (by simp)⟩
  have A5:=zH (fun w1 b t u0 u1=>Cl (w:=(ν (ν w n p l cp) m q k cq)) (w1:=w1) (n:=b) (v:=t) (z:=y-z) (u0:=u0) (u1:=u1));have H1:=zH (fun W h=>Mi _ _ L z W (HB.1 W h) ω);have H2:=zH (fun W b t h (hc:Bu W b t (-z))=>(show Calls prog 123 #[.agg #[.bool n,.slice p l cp],.agg #[.bool b,t]] W (Kz (y-z) W)by
    rw[Int.sub_eq_add_neg];exact Vl _ _ _ _ L y (-z) W (HA.1 W h) (hc.isIn (by rw[Int.natAbs_neg];exact A1)) hL))
  clear hu hv A1;go_enter func163,ntmps163;go_wp2_with fail;go_region_held3 (fun w'=>Aa (ν (ν w n p l cp) m q k cq) w') (first|assumption|exact Aa.drew (Aa.alloc Ak _)|(apply Aa.via;assumption;assumption)|(refine Aa.setCell (Aa.setCell ?_ (by simp) _) (by simp) _;assumption))
    (first|(go_at_call 127;refine(H1.1 _ (by assumption)).mono ?_;rintro e w1 ⟨b1,v1,rfl,hc,A3⟩)|(go_at_call 123;refine(H2.1 _ _ _ (by assumption) hc).mono ?_;rintro e w2 ⟨b,v2,rfl,A4,A2⟩;obtain⟨p2,l2,A0,rfl⟩:=A4.form;have gk:=HG.1 _ (Aa.trans (Aa.trans (Aa.drew Ak) A3) A2);simp only[wG]at gk))
  go_wp2_with fail;have st:=A5.1 _ _ _ (.bool b) (.slice p2 l2 A0) (Aa.trans (Aa.trans (Aa.drew Ak) A3) A2) A4;simp only[wG]at st;refine bodyPost_ret (v:= .agg #[.bool b,.slice p2 l2 A0]) ?_ rfl ⟨_,_,rfl,st.1,((Ak.alloc _).alloc _).trans st.2⟩;simp[results,results163,go_sem, *]
theorem Sf {z:Int}:z.sign=if z.natAbs=0 then 0 else if z<0 then-1 else 1:=by
  rcases Int.lt_trichotomy z 0 with h|h|h
  · rw[Int.sign_eq_neg_one_of_neg h,if_neg ω,if_pos h]
  · subst h;rfl
  rw[Int.sign_eq_one_of_pos h,if_neg ω,if_neg ω]
theorem Hl (n:Bool)(v:Value)(L:Nat)(z:Int)(w:World)(h:Cb L w n v z)(hL:L<=300000):
    Calls prog 76 #[.agg #[.bool n,v]] w fun e w'=>e= .returned (iV z.sign)/\Aa w w':=by
  obtain⟨ha,hz⟩:=h.abs;have A2:=Ev n v L z.natAbs _ (ha.ext ((Aa.refl w).alloc (.cells #[.bool n,v] 29))) ω;rw[<-hz]at A2;have HN:=zH A2;obtain⟨p,l,A5,rfl⟩:=h.form;have A3:=ha.nl;have HS:=zH (Sf (z:=z));clear h ha hz A2;go_enter func76,ntmps76
  go_wp2_with fail;refine HN.1.mono ?_;rintro e w1 ⟨b,v1,rfl,⟨hb,hc⟩,he⟩;obtain⟨p1,A4,rfl⟩:=hc.form;have A0:=Nm.nl_eq_zero (n:=z.natAbs);clear hc HN;generalize Nm.nl z.natAbs=l1 at A0 A3⊢
  by_cases h0:l1=0
  · subst h0
    have HR:=zH (show z.sign=0 by rw[HS.1,if_pos (A0.1 rfl)]);clear A0 hb;go_wp2_with fail;go_ret;exact⟨Ey HR.1.symm,((Ak.alloc _).trans he).alloc _⟩
  have g0:((l1:Int)==0)=false:=beq_eq_false_iff_ne.2 ω;have A1:¬z.natAbs=0:=fun h=>h0 (A0.2 h)
  by_cases hneg:z<0
  · have HR:=zH (show z.sign= -1 by rw[HS.1,if_neg A1,if_pos hneg])
    obtain rfl:b=true:=by rw[hb];simpa using hneg
    clear hb A0 A1 hneg;go_wp2_with fail;go_ret;exact⟨Ey HR.1.symm,((Ak.alloc _).trans he).alloc _⟩
  have HR:=zH (show z.sign=1 by rw[HS.1,if_neg A1,if_neg hneg]);obtain rfl:b=false:=by rw[hb];simpa using hneg
  clear hb A0 A1 hneg;go_wp2_with fail;go_ret;exact⟨Ey HR.1.symm,((Ak.alloc _).trans he).alloc _⟩
theorem hO (n m:Bool)(u v:Value)(L:Nat)(y z:Int)(w:World)(hu:Cb L w n u y)(hv:Cb L w m v z)(hL:L<=150000):
    Calls prog 155 #[.agg #[.bool n,u],.agg #[.bool m,v]] w (Qj (y-z).sign w):=by
  have A0:=Np y z L hu.nl hv.nl;obtain⟨p,l,cp,rfl⟩:=hu.form;obtain⟨q,k,cq,rfl⟩:=hv.form;have H1:=zH (hC _ _ _ _ L y z _ (hu.ext (((Aa.refl w).alloc (.cells #[.bool n,.slice p l cp] 29)).alloc (.cells #[.bool m,.slice q k cq] 29))) (hv.ext (((Aa.refl w).alloc (.cells #[.bool n,.slice p l cp] 29)).alloc (.cells #[.bool m,.slice q k cq] 29))) hL);have H2:=zH (fun W b t (hc:Bu W b t (y-z))=>Hl b t (L+1) (y-z) W (hc.isIn A0) ω);clear hu hv A0;go_enter func155,ntmps155
  go_wp2_with fail;refine H1.1.mono ?_;rintro e w1 ⟨b,t,rfl,hc,A2⟩;have HC:=zH hc;clear hc;go_wp2_with fail
  refine(H2.1 _ _ _ HC.1).mono ?_;rintro e w2 ⟨rfl,A1⟩;go_wp2_with fail;go_ret;exact⟨rfl,(((Ak.alloc _).alloc _).trans A2).trans A1⟩
theorem bN {u:Nat}(h:u<18446744073709551616):Nm.Dg [u%4294967296,u/4294967296]/\Nm.val [u%4294967296,u/4294967296]=u:=
  ⟨Nm.Dg.cons ω (Nm.Dg.cons ω Nm.Dg.nil),by simp only[Nm.val];omega⟩
theorem Yt (w:World)(g x y:Nat)(t:TypeId)(hg:g=w.heap.size)(hd:Nm.Dg [x,y]):Ej (w.alloc (.cells #[.int .u32 (x:Int),.int .u32 (y:Int)] t)) (.slice (π g) 2 2) [x,y]:=by
  subst hg;exact⟨_,2,rfl,Bz _,hd,fun _=>⟨w.heap.size,0,rfl,fun i hi=>by
    match i,hi with
    |0,_=>simp
    |1,_=>simp⟩⟩
theorem Gk (n:Int)(w:World)(h1: -9223372036854775808<=n)(h2:n<=9223372036854775807):
    Calls prog 42 #[iV n] w (Kz n w):=by
  have HG:=zH (Ic w);obtain⟨u,hu⟩:∃u,u=n.natAbs:=⟨_,rfl⟩;have A6:u<18446744073709551616:=ω
  have HD:=zH (bN A6);by_cases hn:n<0
  · have A4:(u:Int)= -n:=ω
    have HN:=zH (fun W v (h:Bp 2 W v u)=>Ev true v 2 u W h ω);rw[Id,show-(u:Int)=n by omega]at HN;go_enter func42,ntmps42;go_wp2_with fail;rw[show IntKind.u64.wrap (-IntKind.u64.wrap n)=(u:Int)by simp only[IntKind.wrap_u64];omega];rw[show(u:Int)%4294967296=((u%4294967296:Nat):Int)by omega];first|rw[show(u:Int)/4294967296%4294967296=((u/4294967296:Nat):Int)by omega]|rw[show(u:Int)/4294967296=((u/4294967296:Nat):Int)by omega]
    generalize u%4294967296=x at HD⊢;generalize u/4294967296=y at HD⊢;refine(HN.1 _ _ ⟨_,Yt _ (w.heap.size+1) x y _ (by simp) HD.1.1,HD.1.2,Bz _⟩).mono ?_;rintro e w2 ⟨b,v2,rfl,A0,A1⟩;have A2:=(Aa.refl (ν w false none 0 0)).alloc (.cells #[.int .u32 (x:Int),.int .u32 (y:Int)] 96);have gk:=HG.1 _ (A2.trans A1);have A5:=zH A0;obtain⟨p,l2,A3,rfl⟩:=A0.form;clear A0 hu;go_wp2_with fail
    have st:=Cl (u0:= .bool b) (u1:= .slice p l2 A3) (A2.trans A1) A5.1;refine bodyPost_ret (v:= .agg #[.bool b,.slice p l2 A3]) ?_ rfl ⟨_,_,rfl,st.1,st.2⟩;simp[results,results42,go_sem, *]
  have A4:(u:Int)=n:=ω;have HN:=zH (fun W v (h:Bp 2 W v u)=>Ev false v 2 u W h ω);rw[Gv,A4]at HN;go_enter func42,ntmps42;go_wp2_with fail;try rw[show IntKind.u64.wrap n=(u:Int)by simp only[IntKind.wrap_u64];omega]
  try rw[<-A4]
  rw[show(u:Int)%4294967296=((u%4294967296:Nat):Int)by omega];first|rw[show(u:Int)/4294967296%4294967296=((u/4294967296:Nat):Int)by omega]|rw[show(u:Int)/4294967296=((u/4294967296:Nat):Int)by omega]
  generalize u%4294967296=x at HD⊢;generalize u/4294967296=y at HD⊢;refine(HN.1 _ _ ⟨_,Yt _ (w.heap.size+1) x y _ (by simp) HD.1.1,HD.1.2,Bz _⟩).mono ?_;rintro e w2 ⟨b,v2,rfl,A0,A1⟩;have A2:=(Aa.refl (ν w false none 0 0)).alloc (.cells #[.int .u32 (x:Int),.int .u32 (y:Int)] 96);have gk:=HG.1 _ (A2.trans A1);have A5:=zH A0;obtain⟨p,l2,A3,rfl⟩:=A0.form;clear A0 hu;go_wp2_with fail
  have st:=Cl (u0:= .bool b) (u1:= .slice p l2 A3) (A2.trans A1) A5.1;refine bodyPost_ret (v:= .agg #[.bool b,.slice p l2 A3]) ?_ rfl ⟨_,_,rfl,st.1,st.2⟩;simp[results,results42,go_sem, *]
def uP (q r:Int)(w:World)(e:Ending)(w':World):Prop:=
  ∃n1 v1 n2 v2,e= .returned (.tuple #[.agg #[.bool n1,v1],.agg #[.bool n2,v2],iV 0])/\Bu w' n1 v1 q/\Bu w' n2 v2 r/\Aa w w'
theorem Xe {n:Bool}{a b:Nat}{y q:Int}(hb:b≠0)(hy:y=sg n a)(h:y=q*(b:Int)):a%b=0/\sg n (a/b)=q:=by
  have A0:b∣a:=by
    have h1:(b:Int)∣y:=⟨q,by rw[h,Int.mul_comm]⟩;have h2:=Int.natAbs_dvd_natAbs.2 h1;rw[hy,Xf]at h2;simpa using h2
  refine⟨Nat.mod_eq_zero_of_dvd A0,?_⟩;obtain⟨c,rfl⟩:=A0;rw[Nat.mul_div_cancel_left _ (Nat.pos_of_ne_zero hb)];have A1:(b:Int)≠0:=ω
  apply Int.eq_of_mul_eq_mul_right A1;rw[<-h,hy];cases n
  · simp only[Gv]
    rw[wZ,Int.mul_comm]
  simp only[Id];rw[wZ,Int.neg_mul,Int.mul_comm]
theorem Yw {w0 w:World}{X Y:Nat}{t:TypeId}{a b c d:Value}{u0 u1 u2 u3:Value}(hX:Al w X t #[a,b])(hY:Al w Y t #[c,d])(nX:Pp #[a,b])(nY:Pp #[c,d])
    (h1:Y≠X)(hw:Aa w0 w)(s1:w0.heap.size<=X)(s2:w0.heap.size<=Y):
    (∀n v z,Bu w n v z->Bu (Ja (Ja w X u0 u1) Y u2 u3) n v z)/\Aa w0 (Ja (Ja w X u0 u1) Y u2 u3):=by
  have o1:=Ip w X u0 u1;have o2:=Ip (Ja w X u0 u1) Y u2 u3;exact⟨fun n v z h=>(h.own hX nX o1).own (hY.own o1 h1) nY o2,o2.ext (o1.ext hw s1) s2⟩
theorem Vk (n m:Bool)(u v:Value)(L:Nat)(y z q:Int)(w:World)(hu:Cb L w n u y)(hv:Cb L w m v z)(hL:L<=150000)(hz:0<z)(hyz:y=q*z):
    Calls prog 128 #[.agg #[.bool n,u],.agg #[.bool m,v]] w (uP q 0 w):=by
  obtain⟨ha,hy⟩:=hu.abs;obtain⟨hb,C1⟩:=hv.abs;have C3:=ha.nl;have E3:=hb.nl;obtain rfl:m=false:=by
    cases m
    · rfl
    rw[Id]at C1;omega
  have C2:z=(z.natAbs:Int):=ω;have A9:=Xe (q:=q) (b:=z.natAbs) ω hy (by rw[<-C2];exact hyz);obtain⟨p,l,cp,rfl⟩:=hu.form;obtain⟨p2,k,cq,rfl⟩:=hv.form;have C7:=zH (show Aa w ((((w.alloc (.cells #[.bool n,.slice p l cp] 29)).alloc (.cells #[.bool false,.slice p2 k cq] 29)).alloc (.cells θ 29)).alloc (.cells θ 29))from(((Ak.alloc _).alloc _).alloc _).alloc _);have HS:=zH (fun W (h:Aa w W)=>Hl false (.slice p2 k cq) L z W (hv.ext h) ω);have E9:=zH (fun W (h:Aa w W)=>Qr (.slice p l cp) (.slice p2 k cq) L y.natAbs z.natAbs W (ha.ext h) (hb.ext h) ω ω);have hn:=fun W t (h:Ce W t (y.natAbs/z.natAbs))=>Ev n t L _ W (h.isIn (Aw (Nm.nl_div _ _) C3)) (ω)
  rw[A9.2]at hn;have HN:=zH (fun W t x (hx:x=n) (h:Ce W t (y.natAbs/z.natAbs))=>(show Calls prog 78 #[.bool x,t] W (Kz q W)by subst hx;exact hn W t h));have hr:=fun W t (h:Ce W t (y.natAbs%z.natAbs))=>Ev n t L _ W (h.isIn (by rw[A9.1,Nm.nl_zero];omega)) (ω)
  rw[A9.1,show sg n 0=0 by cases n<;>rfl]at hr;have HR:=zH hr;have E8:=zH A9.1;have E6:=zH (show z.sign=1 from Int.sign_eq_one_of_pos hz);have C5:=zH (fun W b t (h:Bu W b t 0)=>Hl b t 0 0 W (h.isIn (by simp[Nm.nl_zero])) ω);have g:∀w',Aa ((w.alloc (.cells #[.bool n,.slice p l cp] 29)).alloc (.cells #[.bool false,.slice p2 k cq] 29)) w'->
      w'.cell? ⟨w.heap.size,0,none⟩=some (.bool n)/\w'.cell? ⟨w.heap.size,1,none⟩=some (.slice p l cp)/\w'.cell? ⟨w.heap.size+1,0,none⟩=some φ/\w'.cell? ⟨w.heap.size+1,1,none⟩=some (.slice p2 k cq):=fun w' h=>
    ⟨h.get (by simp),h.get (by simp),h.get (by simp),h.get (by simp)⟩
  have HG:=zH g;clear hu hv ha hb hy C1 C3 E3 C2 A9 hn hr g hz hyz;go_enter func128,ntmps128;go_wp2_with fail;refine(HS.1 _ C7.1).mono ?_;rintro e w1 ⟨rfl,A4⟩;rw[E6.1];have E1:=zH (C7.1.trans A4);have gw:=HG.1 _ ((Ak.alloc _).alloc _ |>.trans A4);go_wp2_with fail
  refine(E9.1 _ E1.1).mono ?_;rintro e w2 ⟨qv,rv,rfl,hq,B4,A3⟩;have HQ:=zH hq;rw[E8.1]at B4;have E7:=zH B4;have E5:=HG.1 _ (((Ak.alloc _).alloc _ |>.trans A4).trans A3);clear hq B4 gw;go_wp2_with fail
  refine(HN.1 _ _ _ (by cases n<;>rfl) HQ.1).mono ?_;rintro e w3 ⟨b1,t1,rfl,B6,A2⟩;have C6:=zH B6;obtain⟨x1,y1,z1,rfl⟩:=B6.form;have E4:=HG.1 _ ((((Ak.alloc _).alloc _ |>.trans A4).trans A3).trans A2);have F1:w.heap.size+1+1+1<w3.heap.size:=by
    have h1:=A4.size;have h2:=A3.size;have h3:=A2.size;simp only[wG]at h1;omega
  have D7:w.heap.size<w3.heap.size:=ω;have D6:w.heap.size+1<w3.heap.size:=ω;clear B6 E5;go_wp2_with fail;refine(HR.1 _ _ ?_).mono ?_
  · exact E7.1.ext (A2.alloc _)
  rintro e w4 ⟨b2,t2,rfl,B5,A0⟩;have C0:=zH B5;obtain⟨x2,y2,z2,rfl⟩:=B5.form;clear B5;have C4:=HG.1 _ (((((Ak.alloc _).alloc _ |>.trans A4).trans A3).trans A2).trans (((Aa.refl w3).alloc _).trans A0));have A8:w4.cell? ⟨w3.heap.size,0,none⟩=some (.bool b1)/\w4.cell? ⟨w3.heap.size,1,none⟩=some (.slice x1 y1 z1):=⟨A0.get (by simp),A0.get (by simp)⟩;have F0:w3.heap.size+1<=w4.heap.size:=by
    have h1:=A0.size;simp only[wG]at h1;omega
  have D5:w.heap.size<w4.heap.size:=ω;have D4:w.heap.size+1<w4.heap.size:=ω;have D3:w3.heap.size<w4.heap.size:=ω;clear E4;cases n
  · go_wp2_with fail
    have D2:w.heap.size+1+1≠w.heap.size+1+1+1:=ω;have X0:=Al.ext (Al.new_at ((w.alloc (.cells #[.bool false,.slice p l cp] 29)).alloc (.cells #[.bool false,.slice p2 k cq] 29)) (w.heap.size+1+1) (by simp) 29 θ) ((Ak.alloc _).trans (((A4.trans A3).trans A2).trans (((Aa.refl w3).alloc (.cells #[.bool b1,.slice x1 y1 z1] 29)).trans ((A0.alloc (.cells #[.bool b2,.slice x2 y2 z2] 29))))));have X1:=Al.ext (Al.new_at (((w.alloc (.cells #[.bool false,.slice p l cp] 29)).alloc (.cells #[.bool false,.slice p2 k cq] 29)).alloc (.cells θ 29)) (w.heap.size+1+1+1) (by simp) 29 θ) (((A4.trans A3).trans A2).trans (((Aa.refl w3).alloc (.cells #[.bool b1,.slice x1 y1 z1] 29)).trans ((A0.alloc (.cells #[.bool b2,.slice x2 y2 z2] 29)))));have B9:=zH X0;have B8:=zH X1;have B3:=X0.cell 0;have B2:=X0.cell 1;have B1:=X1.cell 0;have B0:=X1.cell 1;have D1:=X0.frozen 0;have D0:=X0.frozen 1;have C9:=X1.frozen 0;have C8:=X1.frozen 1;simp at B3 B2 B1 B0;have E2:(w4.alloc (.cells #[.bool b2,.slice x2 y2 z2] 29)).cell? ⟨w3.heap.size,0,none⟩=some (.bool b1):=Aa.get ((Aa.refl w4).alloc (.cells #[.bool b2,.slice x2 y2 z2] 29)) A8.1;have E0:(w4.alloc (.cells #[.bool b2,.slice x2 y2 z2] 29)).cell? ⟨w3.heap.size,1,none⟩=some (.slice x1 y1 z1):=Aa.get ((Aa.refl w4).alloc (.cells #[.bool b2,.slice x2 y2 z2] 29)) A8.2;have D9:(w4.alloc (.cells #[.bool b2,.slice x2 y2 z2] 29)).cell? ⟨w4.heap.size,0,none⟩=some (.bool b2):=by simp
    have D8:(w4.alloc (.cells #[.bool b2,.slice x2 y2 z2] 29)).cell? ⟨w4.heap.size,1,none⟩=some (.slice x2 y2 z2):=by simp
    have B7:=zH (show Aa w (w4.alloc (.cells #[.bool b2,.slice x2 y2 z2] 29))from((((E1.1.trans A3).trans A2).trans ((Aa.refl w3).alloc _)).trans A0).alloc _);have A7:=zH (C6.1.ext (((Aa.refl w3).alloc (.cells #[.bool b1,.slice x1 y1 z1] 29)).trans (A0.alloc (.cells #[.bool b2,.slice x2 y2 z2] 29))));have A6:=zH (C0.1.ext ((Aa.refl w4).alloc (.cells #[.bool b2,.slice x2 y2 z2] 29)));have A1:=zH (show w.heap.size<=w.heap.size+1+1/\w.heap.size<=w.heap.size+1+1+1 by omega);clear X0 X1 C4 A8;generalize (w4.alloc (.cells #[.bool b2,.slice x2 y2 z2] 29))=w5 at*
    generalize hQ:w4.heap.size=Q at*;generalize hP:w3.heap.size=P at*;generalize hB:w.heap.size+1+1+1=B at*;generalize hA:w.heap.size+1+1=A at*;have n1:A≠P:=ω;have n2:A≠Q:=ω;have n3:B≠P:=ω;have n4:B≠Q:=ω;have n5:A≠B:=ω;go_region_held3 (fun x=>x.cell? ⟨P,0,none⟩=some (.bool b1)/\x.cell? ⟨P,1,none⟩=some (.slice x1 y1 z1)/\x.cell? ⟨Q,0,none⟩=some (.bool b2)/\x.cell? ⟨Q,1,none⟩=some (.slice x2 y2 z2)) (go_keep) (fail)
    go_wp2_with fail;have st:=Yw (w0:=w) (u0:= .bool b1) (u1:= .slice x1 y1 z1) (u2:= .bool b2) (u3:= .slice x2 y2 z2) B9.1.drew B8.1.drew (Pz _ _ _ _) (Pz _ _ _ _) (Ne.symm n5) B7.1.drew A1.1.1 A1.1.2;simp only[Ja]at st;refine bodyPost_ret (v:= .tuple #[.agg #[.bool b1,.slice x1 y1 z1],.agg #[.bool b2,.slice x2 y2 z2],iV 0]) ?_ rfl ⟨_,_,_,_,rfl,st.1 _ _ _ A7.1,st.1 _ _ _ A6.1,st.2⟩;simp[results,results128,go_sem, *]
  go_wp2_with fail;refine(C5.1 _ _ _ (C0.1.ext (Ak.alloc _))).mono ?_;rintro e w5 ⟨rfl,A5⟩;rw[show Int.sign 0=0 from rfl];go_wp2_with fail;clear C5;have D2:w.heap.size+1+1≠w.heap.size+1+1+1:=ω
  have X0:=Al.ext (Al.new_at ((w.alloc (.cells #[.bool true,.slice p l cp] 29)).alloc (.cells #[.bool false,.slice p2 k cq] 29)) (w.heap.size+1+1) (by simp) 29 θ) ((Ak.alloc _).trans (((A4.trans A3).trans A2).trans (((Aa.refl w3).alloc (.cells #[.bool b1,.slice x1 y1 z1] 29)).trans (((A0.alloc (.cells #[.bool b2,.slice x2 y2 z2] 29)).trans A5)))));have X1:=Al.ext (Al.new_at (((w.alloc (.cells #[.bool true,.slice p l cp] 29)).alloc (.cells #[.bool false,.slice p2 k cq] 29)).alloc (.cells θ 29)) (w.heap.size+1+1+1) (by simp) 29 θ) (((A4.trans A3).trans A2).trans (((Aa.refl w3).alloc (.cells #[.bool b1,.slice x1 y1 z1] 29)).trans (((A0.alloc (.cells #[.bool b2,.slice x2 y2 z2] 29)).trans A5))));have B9:=zH X0;have B8:=zH X1;have B3:=X0.cell 0;have B2:=X0.cell 1;have B1:=X1.cell 0;have B0:=X1.cell 1;have D1:=X0.frozen 0;have D0:=X0.frozen 1;have C9:=X1.frozen 0;have C8:=X1.frozen 1;simp at B3 B2 B1 B0;have E2:w5.cell? ⟨w3.heap.size,0,none⟩=some (.bool b1):=Aa.get (((Aa.refl w4).alloc (.cells #[.bool b2,.slice x2 y2 z2] 29)).trans A5) A8.1;have E0:w5.cell? ⟨w3.heap.size,1,none⟩=some (.slice x1 y1 z1):=Aa.get (((Aa.refl w4).alloc (.cells #[.bool b2,.slice x2 y2 z2] 29)).trans A5) A8.2;have D9:w5.cell? ⟨w4.heap.size,0,none⟩=some (.bool b2):=A5.get (by simp);have D8:w5.cell? ⟨w4.heap.size,1,none⟩=some (.slice x2 y2 z2):=A5.get (by simp);have B7:=zH (show Aa w w5 from(((((E1.1.trans A3).trans A2).trans ((Aa.refl w3).alloc _)).trans A0).alloc _).trans A5);have A7:=zH (C6.1.ext (((Aa.refl w3).alloc (.cells #[.bool b1,.slice x1 y1 z1] 29)).trans ((A0.alloc (.cells #[.bool b2,.slice x2 y2 z2] 29)).trans A5)));have A6:=zH (C0.1.ext (((Aa.refl w4).alloc (.cells #[.bool b2,.slice x2 y2 z2] 29)).trans A5));have A1:=zH (show w.heap.size<=w.heap.size+1+1/\w.heap.size<=w.heap.size+1+1+1 by omega);clear X0 X1 C4 A8;generalize hQ:w4.heap.size=Q at*
  generalize hP:w3.heap.size=P at*;generalize hB:w.heap.size+1+1+1=B at*;generalize hA:w.heap.size+1+1=A at*;have n1:A≠P:=ω;have n2:A≠Q:=ω;have n3:B≠P:=ω;have n4:B≠Q:=ω;have n5:A≠B:=ω;go_region_held3 (fun x=>x.cell? ⟨P,0,none⟩=some (.bool b1)/\x.cell? ⟨P,1,none⟩=some (.slice x1 y1 z1)/\x.cell? ⟨Q,0,none⟩=some (.bool b2)/\x.cell? ⟨Q,1,none⟩=some (.slice x2 y2 z2)) (go_keep) (fail)
  go_wp2_with fail;have st:=Yw (w0:=w) (u0:= .bool b1) (u1:= .slice x1 y1 z1) (u2:= .bool b2) (u3:= .slice x2 y2 z2) B9.1.drew B8.1.drew (Pz _ _ _ _) (Pz _ _ _ _) (Ne.symm n5) B7.1.drew A1.1.1 A1.1.2;simp only[Ja]at st;refine bodyPost_ret (v:= .tuple #[.agg #[.bool b1,.slice x1 y1 z1],.agg #[.bool b2,.slice x2 y2 z2],iV 0]) ?_ rfl ⟨_,_,_,_,rfl,st.1 _ _ _ A7.1,st.1 _ _ _ A6.1,st.2⟩;simp[results,results128,go_sem, *]
theorem Xk {y z:Int}(hz:z≠0):
    (0<z->y=(Rat.divInt y z).num*(y.natAbs.gcd z.natAbs:Nat)/\z=((Rat.divInt y z).den:Int)*(y.natAbs.gcd z.natAbs:Nat))/\
    (z<0-> -y=(Rat.divInt y z).num*(y.natAbs.gcd z.natAbs:Nat)/\ -z=((Rat.divInt y z).den:Int)*(y.natAbs.gcd z.natAbs:Nat)):=by
  obtain⟨e1,e2⟩:=Nm.num_of_pair y z hz;have e3:=Nm.den_of_pair y z hz;have d1:(Rat.divInt y z).num.natAbs*y.natAbs.gcd z.natAbs=y.natAbs:=by rw[e1];exact Nat.div_mul_cancel (Nat.gcd_dvd_left _ _)
  have d2:(Rat.divInt y z).den*y.natAbs.gcd z.natAbs=z.natAbs:=by rw[e3];exact Nat.div_mul_cancel (Nat.gcd_dvd_right _ _)
  generalize (Rat.divInt y z).num=a at*;generalize (Rat.divInt y z).den=b at*;generalize y.natAbs.gcd z.natAbs=g at*;have A1:(b:Int)*(g:Int)=(z.natAbs:Int):=by rw[<-d2,wZ]
  have A0:a*(g:Int)=if a<0 then-(y.natAbs:Int)else(y.natAbs:Int):=by
    rw[<-d1,wZ];split
    · rw[<-Int.neg_mul];congr 1;omega
    congr 1;omega
  clear e1 e3 d1 d2;constructor
  · intro hp
    rw[Int.sign_eq_one_of_pos hp,Int.mul_one,Int.sign_neg_iff]at e2;refine⟨?_,ω⟩;rw[A0];split
    · have:=e2.1 ‹_›;omega
    have:¬y<0:=fun h=> ‹¬a<0› (e2.2 h)
    omega
  intro hn;rw[Int.sign_eq_neg_one_of_neg hn]at e2;have e4:a<0↔0<y:=by
    rw[e2,<-Int.sign_pos_iff];omega
  refine⟨?_,ω⟩;rw[A0];split
  · have:=e4.1 ‹_›;omega
  have:¬0<y:=fun h=> ‹¬a<0› (e4.2 h)
  omega
theorem Zw {w:World}{g:Nat}{t:TypeId}{a b:Value}(h:Al w g t #[a,b])(u0 u1:Value):Al (Ja w g u0 u1) g t #[u0,u1]:=(h.set_ 0 u0).set_ 1 u1
def tV (L:Nat)(w:World)(G:Nat)(a b g:Int)(w':World):Prop:=
  ∃ b1 p1 l1 k1 b2 p2 l2 k2 b3 p3 l3 k3,Al w' w.heap.size 29 #[.bool b1,.slice p1 l1 k1]/\Al w' (w.heap.size+1) 29 #[.bool b2,.slice p2 l2 k2]/\Al w' G 29 #[.bool b3,.slice p3 l3 k3]/\
    Al w' (w.heap.size+1+1) 31 #[.bool false,.slice none 0 0,.bool false,.slice none 0 0]/\
    Cb L w' b1 (.slice p1 l1 k1) (a*g)/\Cb L w' b2 (.slice p2 l2 k2) (b*g)/\Cb L w' b3 (.slice p3 l3 k3) g/\Aa w w'
theorem Gw (n m:Bool)(u v:Value)(L:Nat)(y z:Int)(w:World)(hu:Cb L w n u y)(hv:Cb L w m v z)(hL:L<=150000)(hz:z≠0):
    Calls prog 77 #[.agg #[.bool n,u],.agg #[.bool m,v]] w (Fn (Rat.divInt y z) w):=by
  have C5:=hv.nl;have D7:=hu.nl;have D6:=hu.abs.1;have D5:=hv.abs.1;obtain⟨p,l,cp,rfl⟩:=hu.form;obtain⟨q,k,cq,rfl⟩:=hv.form;have D8:y.natAbs.gcd z.natAbs≠0:=by
    intro h;have:=Nat.eq_zero_of_gcd_eq_zero_right h;omega
  have C9:Nm.nl (y.natAbs.gcd z.natAbs)<=L:=Aw (Nm.nl_mono (Nat.gcd_le_right _ ω)) C5;have C0:Aa w (((ν (ν w n p l cp) m q k cq).alloc (.cells #[.bool false,.slice none 0 0,.bool false,.slice none 0 0] 31))):=((Ak.alloc _).alloc _).alloc _;have G6:=zH C0;have H1:=zH (kV _ _ L y.natAbs z.natAbs _ (D6.ext C0) (D5.ext C0) ω);have HA:=zH (fun W (h:Aa w W)=>hu.ext h);have HB:=zH (fun W (h:Aa w W)=>hv.ext h);have C4:=fun W t (h:Ce W t (y.natAbs.gcd z.natAbs))=>Ev false t L _ W (h.isIn C9) (ω)
  have HP:=zH (Xk (y:=y) hz);generalize hq:Rat.divInt y z=r at HP⊢;have C1:=zH (And.intro D7 (And.intro C5 C9));clear C0 hu hv D6 D5 C9 hq D7 C5;generalize y.natAbs.gcd z.natAbs=g at*;rw[Gv]at C4;have E6:=zH C4;have E9:=zH D8;have HZ:=zH hz;clear C4 D8 hz;go_enter func77,ntmps77
  go_wp2_with fail;refine H1.1.mono ?_;rintro e w1 ⟨gv,rfl,hg,F2⟩;have G3:=zH hg;clear hg;go_wp2_with fail
  refine(E6.1 _ _ G3.1).mono ?_;rintro e w2 ⟨b3,H6,rfl,C6,F1⟩;obtain⟨p3,l3,k3,rfl⟩:=C6.form;have G4:=zH C6;clear C6;have A2:=F2.trans F1;have A0:Aa (ν (ν w n p l cp) m q k cq) w2:=(Ak.alloc _).trans A2;have B3:w2.cell? ⟨w.heap.size,0,none⟩=some (.bool n)/\w2.cell? ⟨w.heap.size,1,none⟩=some (.slice p l cp)/\w2.cell? ⟨w.heap.size+1,0,none⟩=some (.bool m)/\w2.cell? ⟨w.heap.size+1,1,none⟩=some (.slice q k cq):=
    ⟨A0.get (by simp),A0.get (by simp),A0.get (by simp),A0.get (by simp)⟩
  have sz:w.heap.size+1+1<w2.heap.size:=by
    have h1:=A2.size;simp only[wG]at h1;omega
  have H5:w.heap.size<w2.heap.size:=ω;have H4:w.heap.size+1<w2.heap.size:=ω;have E4:=zH (fun W (h:Aa w W)=>Hl m (.slice q k cq) L z W (HB.1 W h) ω);have F0:=zH (G6.1.trans A2);have B8:=zH A0;have D2:=zH A2;clear A0 A2;go_wp2_with fail
  refine(E4.1 _ (F0.1.alloc _)).mono ?_;rintro e w3 ⟨rfl,A4⟩;have F3:w3.cell? ⟨w.heap.size,0,none⟩=some (.bool n)/\w3.cell? ⟨w.heap.size,1,none⟩=some (.slice p l cp)/\w3.cell? ⟨w.heap.size+1,0,none⟩=some (.bool m)/\w3.cell? ⟨w.heap.size+1,1,none⟩=some (.slice q k cq):=
    ⟨(((Aa.refl w2).alloc _).trans A4).get B3.1,(((Aa.refl w2).alloc _).trans A4).get B3.2.1,(((Aa.refl w2).alloc _).trans A4).get B3.2.2.1,(((Aa.refl w2).alloc _).trans A4).get B3.2.2.2⟩
  have b1:Al w3 w.heap.size 29 #[.bool n,.slice p l cp]:=Al.ext (Al.new_at w _ rfl _ _) ((Ak.alloc _).trans (B8.1.trans (((Aa.refl w2).alloc _).trans A4)));have b2:Al w3 (w.heap.size+1) 29 #[.bool m,.slice q k cq]:=Al.ext (Al.new_at (ν w n p l cp) _ (by simp) _ _) (B8.1.trans (((Aa.refl w2).alloc _).trans A4));have E3:Al w3 w2.heap.size 29 #[.bool b3,.slice p3 l3 k3]:=Al.ext (Al.new_at w2 _ rfl _ _) A4;have b4:Al w3 (w.heap.size+1+1) 31 #[.bool false,.slice none 0 0,.bool false,.slice none 0 0]:=Al.ext (Al.new_at (ν (ν w n p l cp) m q k cq) _ (by simp) _ _) (D2.1.trans (((Aa.refl w2).alloc _).trans A4));have A3:=zH ((F0.1.alloc _).trans A4);have E8:=zH (G4.1.ext (((Aa.refl w2).alloc _).trans A4));have A6:=zH (And.intro b1 (And.intro b2 (And.intro E3 b4)));clear b1 b2 E3 b4 B3;go_upto_if 20 with fail
  go_cut [] (fun wx=>tV L w w2.heap.size r.num r.den g wx)
  case first=>
    by_cases hneg:z<0
    · have hs:z.sign= -1:=Int.sign_eq_neg_one_of_neg hneg
      have B6:=zH (HP.1.2 hneg);rw[hs];clear hs;go_wp2_with fail;refine(Mi n (.slice p l cp) L y w3 (HA.1 _ A3.1) ω).mono ?_;rintro e w4 ⟨b1,t1,rfl,C8,B0⟩;obtain⟨x1,y1,z1,rfl⟩:=C8.form;have k1:=Al.ext A6.1.1 B0;have k2:=Al.ext A6.1.2.1 B0;have B5:=k1.cell 0;have B4:=k1.cell 1;have F5:=k1.frozen 0;have F4:=k1.frozen 1;have A8:=k2.cell 0;have A7:=k2.cell 1;simp at B5 B4 A8 A7;have D1:=zH k1;have G0:=zH k2;have H0:=zH C8;clear k1 k2 C8 F3;go_wp2_with fail
      have o1:=Ip w4 w.heap.size (.bool b1) (.slice x1 y1 z1);have e4:Aa w (Ja w4 w.heap.size (.bool b1) (.slice x1 y1 z1)):=o1.ext (A3.1.trans B0) (Bz _);have E5:=zH (Mi m (.slice q k cq) L z _ (HB.1 _ e4) ω);have j1:=Zw D1.1 (.bool b1) (.slice x1 y1 z1);have j2:=G0.1.own o1 ω;have J3:=zH ((Al.ext A6.1.2.2.1 B0).own o1 ω);have J4:=zH ((Al.ext A6.1.2.2.2 B0).own o1 ω);have B7:=zH (H0.1.own D1.1 (Pz _ _ _ _) o1);have E7:=zH ((E8.1.ext B0).own D1.1 (Pz _ _ _ _) o1);obtain⟨wm,B9⟩:∃wm,wm=Ja w4 w.heap.size (.bool b1) (.slice x1 y1 z1):=⟨_,rfl⟩;rw[<-B9]at o1 e4 E5 j1 j2 J3 J4 B7 E7;simp only[Ja]at B9;rw[<-B9];have G5:=zH e4;have G2:=zH j1;have G1:=zH j2;clear B9 o1 e4 j1 j2 B5 B4 A8 A7 F5 F4;refine E5.1.mono ?_;rintro e w5 ⟨b2,t2,rfl,C7,A1⟩;obtain⟨x2,y2,z2,rfl⟩:=C7.form;have G9:=zH C7;have k2:=Al.ext G1.1 A1;have A8:=k2.cell 0;have A7:=k2.cell 1;have f20:=k2.frozen 0;have f21:=k2.frozen 1;simp at A8 A7;have A5:=zH k2;clear k2 C7;go_wp2_with fail
      go_meet
      have o2:=Ip w5 (w.heap.size+1) (.bool b2) (.slice x2 y2 z2);have i1:=(B7.1.ext A1).own A5.1 (Pz _ _ _ _) o2;have i2:=G9.1.own A5.1 (Pz _ _ _ _) o2;have i3:=(E7.1.ext A1).own A5.1 (Pz _ _ _ _) o2;refine⟨b1,x1,y1,z1,b2,x2,y2,z2,b3,p3,l3,k3,(Al.ext G2.1 A1).own o2 ω,Zw A5.1 _ _,(Al.ext J3.1 A1).own o2 ω,(Al.ext J4.1 A1).own o2 ω,?_,?_,i3.isIn (by rw[xM];exact C1.1.2.2),o2.ext (G5.1.trans A1) ω⟩
      · rw[<-B6.1.1];exact i1.isIn (by rw[Int.natAbs_neg];exact C1.1.1)
      rw[<-B6.1.2];exact i2.isIn (by rw[Int.natAbs_neg];exact C1.1.2.1)
    have hs:z.sign=1:=Int.sign_eq_one_of_pos (by have:=HZ.1;omega);have B6:=zH (HP.1.1 (by have:=HZ.1;omega));rw[hs];clear hs;go_wp2_with fail
    go_meet
    refine⟨n,p,l,cp,m,q,k,cq,b3,p3,l3,k3,A6.1.1,A6.1.2.1,A6.1.2.2.1,A6.1.2.2.2,?_,?_,E8.1.isIn (by rw[xM];exact C1.1.2.2),A3.1⟩
    · rw[<-B6.1.1];exact HA.1 _ A3.1
    rw[<-B6.1.2];exact HB.1 _ A3.1
  obtain⟨b1,x1,y1,z1,b2,x2,y2,z2,b4,x4,y4,z4,s1,s2,s3,s4,i1,i2,i3,hx⟩:=hcut;have G8:=zH (fun W (x:Aa wc W)=>Vk b1 b4 _ _ L _ _ r.num W (i1.ext x) (i3.ext x) hL (by have:=E9.1;omega) rfl);have G7:=zH (fun W (x:Aa wc W)=>Vk b2 b4 _ _ L _ _ (r.den:Int) W (i2.ext x) (i3.ext x) hL (by have:=E9.1;omega) rfl);have HX:=zH hx;have HS:=zH (show∀W,Aa wc W->Al W w.heap.size 29 #[.bool b1,.slice x1 y1 z1]/\Al W (w.heap.size+1) 29 #[.bool b2,.slice x2 y2 z2]/\Al W w2.heap.size 29 #[.bool b4,.slice x4 y4 z4]/\Al W (w.heap.size+1+1) 31 #[.bool false,.slice none 0 0,.bool false,.slice none 0 0]from fun W x=>⟨s1.ext x,s2.ext x,s3.ext x,s4.ext x⟩);clear i1 i2 i3 hx s1 s2 s3 s4 H1 E6 E4 HP;have g0:=HS.1 wc Ak;have B5:=g0.1.cell 0;have B4:=g0.1.cell 1;have E2:=g0.2.2.1.cell 0;have E1:=g0.2.2.1.cell 1;simp at B5 B4 E2 E1;clear g0;go_wp2_with fail
  refine(G8.1 _ Ak).mono ?_;rintro e w5 ⟨n1,v1,n2,v2,rfl,C3,D4,A1⟩;obtain⟨f1,f2,f3,rfl⟩:=C3.form;obtain⟨f4,f5,f6,rfl⟩:=D4.form;have F9:=zH C3;have g5:=HS.1 w5 A1;have A8:=g5.2.1.cell 0;have A7:=g5.2.1.cell 1;have E0:=g5.2.2.1.cell 0;have D9:=g5.2.2.1.cell 1;have z1:w.heap.size+1<w5.heap.size:=Al.lt g5.2.1;have z2:w2.heap.size<w5.heap.size:=Al.lt g5.2.2.1;have z0:w.heap.size<w5.heap.size:=ω
  have z3:w2.heap.size<w5.heap.size+1:=ω;have z4:w.heap.size+1<w5.heap.size+1:=ω;simp at A8 A7 E0 D9;clear g5 C3 D4 B5 B4 E2 E1;go_wp2_with fail;refine(G7.1 _ ((A1.alloc _).alloc _)).mono ?_;rintro e w6 ⟨n3,v3,n4,v4,rfl,C2,D3,A9⟩;obtain⟨g1,g2,g3,rfl⟩:=C2.form;obtain⟨g4,g5,g6,rfl⟩:=D3.form;have F8:=zH C2;have k6:=HS.1 w6 (((A1.alloc _).alloc _).trans A9);have z5:w.heap.size+1+1<w6.heap.size:=Al.lt k6.2.2.2;have d0:=k6.2.2.2.cell 0;have d1:=k6.2.2.2.cell 1;have d2:=k6.2.2.2.cell 2;have d3:=k6.2.2.2.cell 3;have e0:=k6.2.2.2.frozen 0;have e1:=k6.2.2.2.frozen 1;have e2:=k6.2.2.2.frozen 2;have e3:=k6.2.2.2.frozen 3;have F7:=zH k6.2.2.2;simp at d0 d1 d2 d3;have p0:w6.cell? ⟨w5.heap.size,0,none⟩=some (.bool n1):=A9.get (by simp);have p1:w6.cell? ⟨w5.heap.size,1,none⟩=some (.slice f1 f2 f3):=A9.get (by simp);have z6:w5.heap.size+1<w6.heap.size:=by
    have h1:=A9.size;simp only[wG]at h1;omega
  have z7:w5.heap.size<w6.heap.size:=ω;have z8:w5.heap.size<w6.heap.size+1:=ω;have z9:w.heap.size+1<w6.heap.size:=ω;have H3:w.heap.size+1+1≠w6.heap.size:=ω;have H2:w.heap.size+1+1≠w6.heap.size+1:=ω;have D0:=zH (F9.1.ext (((Ak.alloc _).alloc _).trans A9));have F6:=zH (HX.1.trans (((A1.alloc _).alloc _).trans A9));clear k6 C2 D3 A8 A7 E0 D9;go_wp2_with fail
  have o:=Gx w6 (w.heap.size+1+1) (.bool n1) (.slice f1 f2 f3) (.bool n3) (.slice g1 g2 g3);have B1:Cx _ n1 (.slice f1 f2 f3) n3 (.slice g1 g2 g3) r:=Cx.own (⟨D0.1,F8.1⟩:Cx w6 n1 (.slice f1 f2 f3) n3 (.slice g1 g2 g3) r) F7.1 (Ox _ _ _ _ _ _ _ _) o;have B2:=o.ext F6.1 ω;simp only[Jo]at B1 B2;refine bodyPost_ret (v:= .agg #[.bool n1,.slice f1 f2 f3,.bool n3,.slice g1 g2 g3]) ?_ rfl ⟨_,_,_,_,rfl,B1.ext ((Ak.alloc _).alloc _),(B2.alloc _).alloc _⟩;simp[results,results77,go_sem, *]
theorem Nb (a:Int)(w:World)(h1: -9223372036854775808<=a)(h2:a<=9223372036854775807):
    Calls prog 31 #[iV a] w (Fn (a:Rat) w):=by
  have HF:=zH (fun W=>Gk a W h1 h2);have A5:=zH (fun W=>Gk 1 W ω ω);have HG:=zH (Ha w);have A4:=zH (fun w1 n1 t1 n2 t2 u0 u1 u2 u3=>Dq (w:=w) (w1:=w1) (n:=n1) (u:=t1) (m:=n2) (v:=t2) (q:=(a:Rat)) (u0:=u0) (u1:=u1) (u2:=u2) (u3:=u3));clear h1 h2;go_enter func31,ntmps31
  go_wp2_with fail;refine(HF.1 _).mono ?_;rintro e w1 ⟨b1,t1,rfl,A2,A3⟩;have A7:=zH A2;obtain⟨p1,l1,k1,rfl⟩:=A2.form;clear A2;go_wp2_with fail
  refine(A5.1 _).mono ?_;rintro e w2 ⟨b2,t2,rfl,A1,A0⟩;have A6:=zH A1;obtain⟨p2,l2,k2,rfl⟩:=A1.form;have gk:=HG.1 _ (A3.trans A0);clear A1;go_wp2_with fail
  have st:=A4.1 _ _ _ _ _ (.bool b1) (.slice p1 l1 k1) (.bool b2) (.slice p2 l2 k2) (A3.trans A0) (Zo (A7.1.ext A0) A6.1);refine bodyPost_ret (v:= .agg #[.bool b1,.slice p1 l1 k1,.bool b2,.slice p2 l2 k2]) ?_ rfl ⟨_,_,_,_,rfl,st.1,st.2⟩;simp[results,results31,go_sem, *]
theorem Ez (n m:Bool)(u v:Value)(L:Nat)(q:Rat)(w:World)(h:Dt L w n u m v q)(hL:L<=150000):
    Calls prog 122 #[.agg #[.bool n,u,.bool m,v]] w (Fn q w):=by
  obtain⟨y,z,hu,hv,hq⟩:=h;obtain⟨p,l,cp,rfl⟩:=hu.form;obtain⟨q2,k,cq,rfl⟩:=hv.form;have A0:Aa w (μ (μ w n p l cp m q2 k cq) false none 0 0 false none 0 0):=(Ak.alloc _).alloc _;have HG:=zH (Ha (μ w n p l cp m q2 k cq));have A3:=zH (fun w1 n1 t1 n2 t2 u0 u1 u2 u3=>Dq (w:=w.alloc (.cells #[.bool n,.slice p l cp,.bool m,.slice q2 k cq] 31)) (w1:=w1) (n:=n1) (u:=t1) (m:=n2) (v:=t2) (q:=q) (u0:=u0) (u1:=u1) (u2:=u2) (u3:=u3));have HS:=zH (Hl m (.slice q2 k cq) L z _ (hv.ext A0) ω);by_cases hz:z=0
  · subst hz
    have A5:q=((0:Int):Rat):=by rw[hq,Rat.divInt_zero];rfl
    subst A5;have HF:=zH (fun W=>Nb 0 W ω ω);clear hu hv hq A0;go_enter func122,ntmps122
    go_wp2_with fail;refine HS.1.mono ?_;rintro e w1 ⟨rfl,he⟩;rw[show Int.sign 0=0 from rfl];go_wp2_with fail;refine(HF.1 _).mono ?_;rintro e w2 ⟨b1,t1,b2,t2,rfl,hc,A1⟩;have HC:=zH hc;obtain⟨p1,l1,k1,p2,l2,k2,rfl,rfl⟩:=hc.form;have hE:=he.trans A1;have gk:=HG.1 _ hE;simp only[wG]at gk;have HE:=zH hE;clear hc hE;go_wp2_with fail
    have st:=A3.1 _ _ _ _ _ (.bool b1) (.slice p1 l1 k1) (.bool b2) (.slice p2 l2 k2) HE.1 HC.1;simp only[wG]at st;refine bodyPost_ret (v:= .agg #[.bool b1,.slice p1 l1 k1,.bool b2,.slice p2 l2 k2]) ?_ rfl ⟨_,_,_,_,rfl,st.1,(Ak.alloc _).trans st.2⟩;simp[results,results122,go_sem, *]
  have A2:=fun W (x:Aa w W)=>Gw n m (.slice p l cp) (.slice q2 k cq) L y z W (hu.ext x) (hv.ext x) hL hz
  rw[<-hq]at A2;have HN:=zH A2;have A4:(z.sign==0)=false:=by
    rw[beq_eq_false_iff_ne,ne_eq,Int.sign_eq_zero_iff_zero];exact hz
  have A6:=zH A0;have hb:Aa (μ w n p l cp m q2 k cq) (μ (μ w n p l cp m q2 k cq) false none 0 0 false none 0 0):=Ak.alloc _;have HB:=zH hb;generalize z.sign=sz at HS A4
  clear hu hv hq A0 hz A2 hb;go_enter func122,ntmps122;go_wp2_with fail;refine HS.1.mono ?_;rintro e w1 ⟨rfl,he⟩;have gr:=Gn w n m (.slice p l cp) (.slice q2 k cq) _ (HB.1.trans he);go_wp2_with fail
  refine(HN.1 _ (A6.1.trans he)).mono ?_;rintro e w2 ⟨b1,t1,b2,t2,rfl,hc,A1⟩;have HC:=zH hc;obtain⟨p1,l1,k1,p2,l2,k2,rfl,rfl⟩:=hc.form;have hE:=he.trans A1;have gk:=HG.1 _ hE;simp only[wG]at gk;have HE:=zH hE;clear hc hE gr;go_wp2_with fail
  have st:=A3.1 _ _ _ _ _ (.bool b1) (.slice p1 l1 k1) (.bool b2) (.slice p2 l2 k2) HE.1 HC.1;simp only[wG]at st;refine bodyPost_ret (v:= .agg #[.bool b1,.slice p1 l1 k1,.bool b2,.slice p2 l2 k2]) ?_ rfl ⟨_,_,_,_,rfl,st.1,(Ak.alloc _).trans st.2⟩;simp[results,results122,go_sem, *]
theorem gW (n m:Bool)(u v:Value)(L:Nat)(q:Rat)(w:World)(h:Dt L w n u m v q)(hL:L<=140000):
    Calls prog 124 #[.agg #[.bool n,u,.bool m,v]] w (Fn (-q) w):=by
  obtain⟨p,l,cp,q2,k,cq,rfl,rfl⟩:=h.form;have A4:Aa w ((w.alloc (.cells #[.bool n,.slice p l cp,.bool m,.slice q2 k cq] 31)).alloc (.cells #[.bool false,.slice none 0 0,.bool false,.slice none 0 0] 31)):=(Ak.alloc _).alloc _;have HN:=zH (Ez n m _ _ L q _ (h.ext A4) ω);have HG:=zH (Ha (w.alloc (.cells #[.bool n,.slice p l cp,.bool m,.slice q2 k cq] 31)));have C2:=zH (fun w1 n1 t1 n2 t2 u0 u1 u2 u3=>Dq (w:=w.alloc (.cells #[.bool n,.slice p l cp,.bool m,.slice q2 k cq] 31)) (w1:=w1) (n:=n1) (u:=t1) (m:=n2) (v:=t2) (q:= -q) (u0:=u0) (u1:=u1) (u2:=u2) (u3:=u3));have hr:=h.rl;have A9:Nm.nl q.num.natAbs<=L+1:=by unfold Nm.rl at hr;omega
  clear h A4 hr;go_enter func124,ntmps124;go_wp2_with fail;refine HN.1.mono ?_;rintro e w1 ⟨b1,t1,b2,t2,rfl,hc,he⟩;obtain⟨p1,l1,k1,p2,l2,k2,rfl,rfl⟩:=hc.form;have HC:=zH hc;have B4:=zH (fun W (x:Aa w1 W)=>Mi b1 (.slice p1 l1 k1) (L+1) q.num W ((hc.1.ext x).isIn A9) ω);have HE:=zH he;clear hc;go_wp2_with fail
  have X0:=Al.ext (Al.new_at (w.alloc (.cells #[.bool n,.slice p l cp,.bool m,.slice q2 k cq] 31)) (w.heap.size+1) (by simp) 31 #[.bool false,.slice none 0 0,.bool false,.slice none 0 0]) (HE.1.alloc (.cells #[.bool b1,.slice p1 l1 k1,.bool b2,.slice p2 l2 k2] 31));have B0:=Al.new_at w1 w1.heap.size rfl 31 #[.bool b1,.slice p1 l1 k1,.bool b2,.slice p2 l2 k2];have B2:=zH X0;have B1:=Al.lt (Al.ext (Al.new_at (w.alloc (.cells #[.bool n,.slice p l cp,.bool m,.slice q2 k cq] 31)) (w.heap.size+1) (by simp) 31 #[.bool false,.slice none 0 0,.bool false,.slice none 0 0]) HE.1);have B6:=zH (show Aa w (w1.alloc (.cells #[.bool b1,.slice p1 l1 k1,.bool b2,.slice p2 l2 k2] 31))from((Ak.alloc _).alloc _).trans (HE.1.alloc _));have B5:=zH (fun W (x:Aa (w1.alloc (.cells #[.bool b1,.slice p1 l1 k1,.bool b2,.slice p2 l2 k2] 31)) W)=>B4.1 W ((Ak.alloc _).trans x));have B7:=zH (HC.1.2.ext ((Aa.refl w1).alloc (.cells #[.bool b1,.slice p1 l1 k1,.bool b2,.slice p2 l2 k2] 31)));have B3:=zH (show w.heap.size<=w.heap.size+1 by omega);clear X0;generalize (w1.alloc (.cells #[.bool b1,.slice p1 l1 k1,.bool b2,.slice p2 l2 k2] 31))=wb at*
  generalize hX:w1.heap.size=X at*;generalize hR:w.heap.size+1=R at*;have n1:X≠R:=ω;have gl:∀x,Ba R wb x->x.cell? ⟨X,0,none⟩=some (.bool b1)/\x.cell? ⟨X,1,none⟩=some (.slice p1 l1 k1)/\x.cell? ⟨X,2,none⟩=some (.bool b2)/\x.cell? ⟨X,3,none⟩=some (.slice p2 l2 k2):=fun x h=>
    ⟨(B0.own h n1).cell 0,(B0.own h n1).cell 1,(B0.own h n1).cell 2,(B0.own h n1).cell 3⟩
  clear B0 hX B1;go_region_held3 (fun x=>Ba R wb x) (first|(with_reducible assumption)|(with_reducible exact Ba.drew (Ba.refl _ _))|(with_reducible (apply Ba.of_ext;assumption))|(with_reducible (refine Ba.set_at (Ba.set_at (Ba.set_at (Ba.set_at ?_ _ _ _) _ _ _) _ _ _) _ _ _;first|assumption|(apply Ba.of_ext;assumption))))
    (first|(go_at_call 127;((with_reducible refine(B5.1 _ (by first|assumption|exact Aa.drew Ak)).mono ?_));rintro e wz ⟨j1,t1,rfl,hi,A3⟩;obtain⟨g1,g2,g3,rfl⟩:=hi.form;have A2:Aa wb wz:=Aa.trans (by first|assumption|exact Aa.drew Ak) A3;have X0:=Al.ext B2.1 A2;have A8:=X0.cell 0;have A7:=X0.cell 1;have A6:=X0.cell 2;have A5:=X0.cell 3;have C1:=X0.frozen 0;have C0:=X0.frozen 1;have B9:=X0.frozen 2;have B8:=X0.frozen 3;simp at A8 A7 A6 A5))
  go_wp2_with fail;have o:=Gx wz R (.bool j1) (.slice g1 g2 g3) (.bool b2) (.slice p2 l2 k2);have A0:Cx _ j1 (.slice g1 g2 g3) b2 (.slice p2 l2 k2) (-q):=Cx.own (⟨by rw[Rat.neg_num];exact hi,by rw[Rat.neg_den];exact B7.1.ext A2⟩:Cx wz j1 (.slice g1 g2 g3) b2 (.slice p2 l2 k2) (-q)) X0 (Ox _ _ _ _ _ _ _ _) o;have A1:=o.ext (B6.1.trans A2) B3.1;simp only[Jo]at A0 A1;refine bodyPost_ret (v:= .agg #[.bool j1,.slice g1 g2 g3,.bool b2,.slice p2 l2 k2]) ?_ rfl ⟨_,_,_,_,rfl,A0,A1⟩;simp[results,results124,go_sem, *]
theorem Ej.set {w:World}{v:Value}{xs:List Nat}(h:Ej w v xs){p:Addr}{c:Value}(hc:w.cell? p=some c)(hn:∀x:Int,c≠ .int .u32 x)(u:Value):Ej (w.setCell p u) v xs:=by
  obtain⟨q,A1,rfl,A0,hd,hq⟩:=h;refine⟨q,A1,rfl,A0,hd,fun h0=> ?_⟩;obtain⟨b,o,rfl,hb⟩:=hq h0;refine⟨b,o,rfl,fun i hi=> ?_⟩;have h1:=hb i hi;rw[World.cell?_setCell_other _ _ _ _ (by
    rintro rfl;rw[hc]at h1;exact hn _ (Option.some.inj h1))]
  exact h1
theorem Cx.setB {w:World}{n m:Bool}{u v:Value}{q:Rat}(h:Cx w n u m v q){p:Addr}{b:Bool}(hc:w.cell? p=some (.bool b))(x:Value):Cx (w.setCell p x) n u m v q:=
  ⟨⟨h.1.1,Ej.set h.1.2 hc (fun _=>by simp) x⟩,⟨h.2.1,Ej.set h.2.2 hc (fun _=>by simp) x⟩⟩
theorem Cx.setS {w:World}{n m:Bool}{u v:Value}{q:Rat}(h:Cx w n u m v q){p:Addr}{a:Option Addr}{l c:Nat}(hc:w.cell? p=some (.slice a l c))(x:Value):Cx (w.setCell p x) n u m v q:=
  ⟨⟨h.1.1,Ej.set h.1.2 hc (fun _=>by simp) x⟩,⟨h.2.1,Ej.set h.2.2 hc (fun _=>by simp) x⟩⟩
theorem Cx.via {w w':World}{n m:Bool}{u v:Value}{q:Rat}(e:Aa w w')(h:Cx w n u m v q):Cx w' n u m v q:=h.ext e
theorem Cx.alloc {w:World}{n m:Bool}{u v:Value}{q:Rat}(h:Cx w n u m v q)(o:Obj):Cx (w.alloc o) n u m v q:=h.ext (Ak.alloc o)
theorem Wr {W w1:World}(hb:Aa W w1):(∀b o,b<W.heap.size->w1.cell? ⟨b,o,none⟩=W.cell? ⟨b,o,none⟩)/\(∀b o,b<W.heap.size->w1.frozen? ⟨b,o,none⟩=W.frozen? ⟨b,o,none⟩):=
  ⟨fun b o h=>hb.cell (p:=⟨b,o,none⟩) h,fun b o h=>hb.frozen (p:=⟨b,o,none⟩) h⟩
def vK (w:World)(q r:Rat)(s t:Value)(w':World):Prop:=
  ∃ X Y b1 x1 y1 z1 b2 x2 y2 z2 b3 x3 y3 z3 b4 x4 y4 z4,s= .pointer (π X)/\t= .pointer (π Y)/\w.heap.size<=X/\w.heap.size<=Y/\
    (w'.cell? ⟨X,0,none⟩=some (.bool b1)/\w'.cell? ⟨X,1,none⟩=some (.slice x1 y1 z1)/\w'.cell? ⟨X,2,none⟩=some (.bool b2)/\w'.cell? ⟨X,3,none⟩=some (.slice x2 y2 z2))/\
    (w'.cell? ⟨Y,0,none⟩=some (.bool b3)/\w'.cell? ⟨Y,1,none⟩=some (.slice x3 y3 z3)/\w'.cell? ⟨Y,2,none⟩=some (.bool b4)/\w'.cell? ⟨Y,3,none⟩=some (.slice x4 y4 z4))/\
    Cx w' b1 (.slice x1 y1 z1) b2 (.slice x2 y2 z2) q/\Cx w' b3 (.slice x3 y3 z3) b4 (.slice x4 y4 z4) r/\Aa w w'
theorem gX (n m n' m':Bool)(u v u' v':Value)(L:Nat)(q r:Rat)(w:World)(h:Dt L w n u m v q)(h':Dt L w n' u' m' v' r)(hL:L<=70000):
    Calls prog 69 #[.agg #[.bool n,u,.bool m,v],.agg #[.bool n',u',.bool m',v']] w (Fn (q*r) w):=by
  obtain⟨p1,l1,c1,p2,l2,c2,rfl,rfl⟩:=h.form;obtain⟨p3,l3,c3,p4,l4,c4,rfl,rfl⟩:=h'.form;have B7:=zH (fun W (x:Aa w W)=>Ez n m (.slice p1 l1 c1) (.slice p2 l2 c2) L q W (h.ext x) ω);have B6:=zH (fun W (x:Aa w W)=>Ez n' m' (.slice p3 l3 c3) (.slice p4 l4 c4) L r W (h'.ext x) ω);have A0:Nm.nl q.num.natAbs<=L+1/\Nm.nl (q.den:Int).natAbs<=L+1/\Nm.nl r.num.natAbs<=L+1/\Nm.nl (r.den:Int).natAbs<=L+1:=by
    have h1:=h.rl;have h2:=h'.rl;unfold Nm.rl at h1 h2;simp only[xM];omega
  have B5:=zH A0;clear h h' A0;go_enter func69,ntmps69;go_wp2_with fail;have gA:∀x,Aa (((w.alloc (.cells #[.bool n,.slice p1 l1 c1,.bool m,.slice p2 l2 c2] 31)).alloc (.cells #[.bool n',.slice p3 l3 c3,.bool m',.slice p4 l4 c4] 31)).alloc (.cells #[.bool false,.slice none 0 0,.bool false,.slice none 0 0] 31)) x->x.cell? ⟨w.heap.size,0,none⟩=some (.bool n)/\x.cell? ⟨w.heap.size,1,none⟩=some (.slice p1 l1 c1)/\x.cell? ⟨w.heap.size,2,none⟩=some (.bool m)/\x.cell? ⟨w.heap.size,3,none⟩=some (.slice p2 l2 c2)/\
      x.cell? ⟨w.heap.size+1,0,none⟩=some (.bool n')/\x.cell? ⟨w.heap.size+1,1,none⟩=some (.slice p3 l3 c3)/\x.cell? ⟨w.heap.size+1,2,none⟩=some (.bool m')/\x.cell? ⟨w.heap.size+1,3,none⟩=some (.slice p4 l4 c4):=fun x hx=>by
    have a1:=Gn w n m (.slice p1 l1 c1) (.slice p2 l2 c2) x (((Ak.alloc _).alloc _).trans hx);have a2:=Gn (w.alloc (.cells #[.bool n,.slice p1 l1 c1,.bool m,.slice p2 l2 c2] 31)) n' m' (.slice p3 l3 c3) (.slice p4 l4 c4) x ((Ak.alloc _).trans hx);simp only[wG]at a2;exact⟨a1.1,a1.2.1,a1.2.2.1,a1.2.2.2.1,a2.1,a2.2.1,a2.2.2.1,a2.2.2.2.1⟩
  have A7:=zH (show Aa w (((w.alloc (.cells #[.bool n,.slice p1 l1 c1,.bool m,.slice p2 l2 c2] 31)).alloc (.cells #[.bool n',.slice p3 l3 c3,.bool m',.slice p4 l4 c4] 31)).alloc (.cells #[.bool false,.slice none 0 0,.bool false,.slice none 0 0] 31))from((Ak.alloc _).alloc _).alloc _);have B4:=zH (Al.new_at ((w.alloc (.cells #[.bool n,.slice p1 l1 c1,.bool m,.slice p2 l2 c2] 31)).alloc (.cells #[.bool n',.slice p3 l3 c3,.bool m',.slice p4 l4 c4] 31)) (w.heap.size+1+1) (by simp) 31 #[.bool false,.slice none 0 0,.bool false,.slice none 0 0]);have hz:(((w.alloc (.cells #[.bool n,.slice p1 l1 c1,.bool m,.slice p2 l2 c2] 31)).alloc (.cells #[.bool n',.slice p3 l3 c3,.bool m',.slice p4 l4 c4] 31)).alloc (.cells #[.bool false,.slice none 0 0,.bool false,.slice none 0 0] 31)).heap.size=w.heap.size+1+1+1:=by simp
  have B3:=zH hz;clear hz;generalize (((w.alloc (.cells #[.bool n,.slice p1 l1 c1,.bool m,.slice p2 l2 c2] 31)).alloc (.cells #[.bool n',.slice p3 l3 c3,.bool m',.slice p4 l4 c4] 31)).alloc (.cells #[.bool false,.slice none 0 0,.bool false,.slice none 0 0] 31))=wb at*;go_cut [5,6] (fun s t wx=>vK wb q r s t wx)
  case first=>
    clear B4 B5;go_region_held3 (fun x=>Aa wb x) ((first|(with_reducible assumption)|((repeat (first|(with_reducible assumption)|(with_reducible exact Aa.refl _)|(with_reducible apply Aa.drew)|(with_reducible apply Aa.alloc)|((with_reducible refine Aa.setCell ?_ ?_ _);rotate_left;focus (first|omega|(simp;done)|(simp;omega)))|(with_reducible (apply Aa.via;assumption))));done)))
      (first|(go_at_call 122;((with_reducible refine(B7.1 _ (A7.1.trans (by first|assumption|exact Aa.drew Ak))).mono ?_));rintro e wa ⟨b1,t1,b2,t2,rfl,C5,B1⟩;obtain⟨x1,y1,z1,x2,y2,z2,rfl,rfl⟩:=C5.form;have C3:=B1.size;(try simp at C3);obtain⟨ka,fa⟩:=Wr B1;(try simp at ka);(try simp at fa);(try have l1:wb.heap.size<wa.heap.size:=ω);(try have l2:wb.heap.size+1<wa.heap.size:=ω))|(go_at_call 122;((with_reducible refine(B6.1 _ (A7.1.trans (by first|assumption|exact Aa.drew Ak))).mono ?_));rintro e wd ⟨b3,t3,b4,t4,rfl,C4,B0⟩;obtain⟨x3,y3,z3,x4,y4,z4,rfl,rfl⟩:=C4.form;have C2:=B0.size;(try simp at C2);obtain⟨kb,fb⟩:=Wr B0;(try simp at kb);(try simp at fb);(try have l3:wb.heap.size<wd.heap.size:=ω);(try have l4:wb.heap.size+1<wd.heap.size:=ω);(try have l5:wa.heap.size<wd.heap.size:=ω);(try have l6:wa.heap.size+1<wd.heap.size:=ω)))
    all_goals go_wp2_with fail
    all_goals go_meet
    all_goals have D4:∀a:Nat,a<a+1+1:=fun a=>ω
    all_goals try have q1:wa.heap.size≠wb.heap.size:=ω
    all_goals try have q2:wb.heap.size≠wa.heap.size:=ω
    all_goals try have q3:wb.heap.size<wa.heap.size+1:=ω
    all_goals refine⟨_,_,b1,x1,y1,z1,b2,x2,y2,z2,b3,x3,y3,z3,b4,x4,y4,z4,rfl,rfl,?_,?_,⟨?_,?_,?_,?_⟩,⟨?_,?_,?_,?_⟩,?_,?_,?_⟩
    all_goals first
      |(with_reducible assumption)
      |omega
      |(simp[go_sem, *];done)
      |(rw[World.cell?_setCell_far,World.cell?_setCell_far,World.cell?_setCell_far,World.cell?_setCell_far]<;>first|(simp[go_sem, *];done)|(simp;omega))
      |((repeat (first|(with_reducible assumption)|(with_reducible apply Cx.drew)|(with_reducible apply Cx.alloc)|((with_reducible refine Cx.setB (b:=false) ?_ ?_ _);rotate_left;focus (simp[go_sem, *];done))|((with_reducible refine Cx.setS (a:=none) (l:=0) (c:=0) ?_ ?_ _);rotate_left;focus (simp[go_sem, *];done))|(with_reducible (apply Cx.via;assumption))));done)
      |(first|(with_reducible assumption)|((repeat (first|(with_reducible assumption)|(with_reducible exact Aa.refl _)|(with_reducible apply Aa.drew)|(with_reducible apply Aa.alloc)|((with_reducible refine Aa.setCell ?_ ?_ _);rotate_left;focus (first|omega|(simp;done)|(simp;omega)))|(with_reducible (apply Aa.via;assumption))));done))
  clear B7 B6 gA;obtain⟨X,Y,b1,x1,y1,z1,b2,x2,y2,z2,b3,x3,y3,z3,b4,x4,y4,z4,rfl,rfl,hX,hY,cX,cY,s3,s4,s5⟩:=hcut;have A0:=B5.1;have H1:=zH (fun W (x:Aa wc W)=>Gb _ _ _ _ (L+1) q.num r.num W ((s3.ext x).1.isIn A0.1) ((s4.ext x).1.isIn A0.2.2.1) ω);have H2:=zH (fun W (x:Aa wc W)=>Gb _ _ _ _ (L+1) q.den r.den W ((s3.ext x).2.isIn A0.2.1) ((s4.ext x).2.isIn A0.2.2.2) ω);have B2:(q.den:Int)*r.den≠0:=Int.mul_ne_zero (by have:=q.den_nz;omega) (by have:=r.den_nz;omega);have C8:=zH (fun W n1 v1 n2 v2 (x:Bu W n1 v1 (q.num*r.num)) (y:Bu W n2 v2 ((q.den:Int)*r.den))=>(show Calls prog 77 #[.agg #[.bool n1,v1],.agg #[.bool n2,v2]] W (Fn (q*r) W)by
    rw[Nm.mul_eq];exact Gw n1 n2 v1 v2 (L+1+(L+1)) _ _ W (x.isIn (Cq _ _ _ _ A0.1 A0.2.2.1)) (y.isIn (Cq _ _ _ _ A0.2.1 A0.2.2.2)) ω B2))
  clear B2;have C6:=zH (B4.1.ext s5);have C9:=zH (A7.1.trans s5);have A1:=zH (And.intro cX cY);have n2:X≠w.heap.size+1+1:=by have:=B3.1;omega
  have n5:Y≠w.heap.size+1+1:=by have:=B3.1;omega
  have C7:=zH (show w.heap.size<=w.heap.size+1+1 by omega);clear s3 s4 s5 cX cY A0 hX hY;go_wp2_with fail;generalize hR:w.heap.size+1+1=R at*;have gl:∀w',Ba R wc w'->w'.cell? ⟨X,0,none⟩=some (.bool b1)/\w'.cell? ⟨X,1,none⟩=some (.slice x1 y1 z1)/\w'.cell? ⟨X,2,none⟩=some (.bool b2)/\w'.cell? ⟨X,3,none⟩=some (.slice x2 y2 z2)/\
      w'.cell? ⟨Y,0,none⟩=some (.bool b3)/\w'.cell? ⟨Y,1,none⟩=some (.slice x3 y3 z3)/\w'.cell? ⟨Y,2,none⟩=some (.bool b4)/\w'.cell? ⟨Y,3,none⟩=some (.slice x4 y4 z4):=fun w' x=>
    ⟨x.get A1.1.1.1 n2,x.get A1.1.1.2.1 n2,x.get A1.1.1.2.2.1 n2,x.get A1.1.1.2.2.2 n2,x.get A1.1.2.1 n5,x.get A1.1.2.2.1 n5,x.get A1.1.2.2.2.1 n5,x.get A1.1.2.2.2.2 n5⟩
  go_region_held3 (fun w'=>Ba R wc w') (first|(with_reducible assumption)|(with_reducible exact Ba.drew (Ba.refl _ _))|(with_reducible (apply Ba.of_ext;assumption))|(with_reducible (refine Ba.set_at (Ba.set_at (Ba.set_at (Ba.set_at ?_ _ _ _) _ _ _) _ _ _) _ _ _;first|assumption|(apply Ba.of_ext;assumption))))
    (first|(go_at_call 120;((with_reducible refine(H1.1 _ (by first|assumption|exact Aa.drew Ak)).mono ?_));rintro e wx ⟨k1,r1,rfl,A9,A6⟩;obtain⟨f1,f2,f3,rfl⟩:=A9.form;have D6:Aa wc wx:=Aa.trans (by first|assumption|exact Aa.drew Ak) A6)|(go_at_call 120;((with_reducible refine(H2.1 _ (by first|assumption|exact Aa.drew Ak)).mono ?_));rintro e wy ⟨k2,r2,rfl,A8,A4⟩;obtain⟨f4,f5,f6,rfl⟩:=A8.form;have D5:Aa wc wy:=Aa.trans (by first|assumption|exact Aa.drew Ak) A4)|(go_at_call 77;((with_reducible refine(C8.1 _ _ _ _ _ (A9.ext A4) A8).mono ?_));rintro e wz ⟨j1,t1,j2,t2,rfl,hc,A5⟩;obtain⟨g1,g2,g3,g4,g5,g6,rfl,rfl⟩:=hc.form;have hx:Aa wc wz:=Aa.trans (by first|assumption|exact Aa.drew Ak) A5;have X0:=Al.ext C6.1 hx;have C1:=X0.cell 0;have C0:=X0.cell 1;have B9:=X0.cell 2;have B8:=X0.cell 3;have D3:=X0.frozen 0;have D2:=X0.frozen 1;have D1:=X0.frozen 2;have D0:=X0.frozen 3;simp at C1 C0 B9 B8))
  go_wp2_with fail;have o:=Gx wz R (.bool j1) (.slice g1 g2 g3) (.bool j2) (.slice g4 g5 g6);have A2:=hc.own X0 (Ox _ _ _ _ _ _ _ _) o;have A3:=o.ext (C9.1.trans hx) C7.1;simp only[Jo]at A2 A3;refine bodyPost_ret (v:= .agg #[.bool j1,.slice g1 g2 g3,.bool j2,.slice g4 g5 g6]) ?_ rfl ⟨_,_,_,_,rfl,A2,A3⟩;simp[results,results69,go_sem, *]
theorem Vj (n m n' m':Bool)(u v u' v':Value)(L:Nat)(q r:Rat)(w:World)(h:Dt L w n u m v q)(h':Dt L w n' u' m' v' r)(hL:L<=70000):
    Calls prog 68 #[.agg #[.bool n,u,.bool m,v],.agg #[.bool n',u',.bool m',v']] w (Fn (q+r) w):=by
  obtain⟨p1,l1,c1,p2,l2,c2,rfl,rfl⟩:=h.form;obtain⟨p3,l3,c3,p4,l4,c4,rfl,rfl⟩:=h'.form;have C3:=zH (fun W (x:Aa w W)=>Ez n m (.slice p1 l1 c1) (.slice p2 l2 c2) L q W (h.ext x) ω);have C2:=zH (fun W (x:Aa w W)=>Ez n' m' (.slice p3 l3 c3) (.slice p4 l4 c4) L r W (h'.ext x) ω);have A0:Nm.nl q.num.natAbs<=L+1/\Nm.nl (q.den:Int).natAbs<=L+1/\Nm.nl r.num.natAbs<=L+1/\Nm.nl (r.den:Int).natAbs<=L+1:=by
    have h1:=h.rl;have h2:=h'.rl;unfold Nm.rl at h1 h2;simp only[xM];omega
  have C1:=zH A0;clear h h' A0;go_enter func68,ntmps68;go_wp2_with fail;have gA:∀x,Aa (((w.alloc (.cells #[.bool n,.slice p1 l1 c1,.bool m,.slice p2 l2 c2] 31)).alloc (.cells #[.bool n',.slice p3 l3 c3,.bool m',.slice p4 l4 c4] 31)).alloc (.cells #[.bool false,.slice none 0 0,.bool false,.slice none 0 0] 31)) x->x.cell? ⟨w.heap.size,0,none⟩=some (.bool n)/\x.cell? ⟨w.heap.size,1,none⟩=some (.slice p1 l1 c1)/\x.cell? ⟨w.heap.size,2,none⟩=some (.bool m)/\x.cell? ⟨w.heap.size,3,none⟩=some (.slice p2 l2 c2)/\
      x.cell? ⟨w.heap.size+1,0,none⟩=some (.bool n')/\x.cell? ⟨w.heap.size+1,1,none⟩=some (.slice p3 l3 c3)/\x.cell? ⟨w.heap.size+1,2,none⟩=some (.bool m')/\x.cell? ⟨w.heap.size+1,3,none⟩=some (.slice p4 l4 c4):=fun x hx=>by
    have a1:=Gn w n m (.slice p1 l1 c1) (.slice p2 l2 c2) x (((Ak.alloc _).alloc _).trans hx);have a2:=Gn (w.alloc (.cells #[.bool n,.slice p1 l1 c1,.bool m,.slice p2 l2 c2] 31)) n' m' (.slice p3 l3 c3) (.slice p4 l4 c4) x ((Ak.alloc _).trans hx);simp only[wG]at a2;exact⟨a1.1,a1.2.1,a1.2.2.1,a1.2.2.2.1,a2.1,a2.2.1,a2.2.2.1,a2.2.2.2.1⟩
  have B1:=zH (show Aa w (((w.alloc (.cells #[.bool n,.slice p1 l1 c1,.bool m,.slice p2 l2 c2] 31)).alloc (.cells #[.bool n',.slice p3 l3 c3,.bool m',.slice p4 l4 c4] 31)).alloc (.cells #[.bool false,.slice none 0 0,.bool false,.slice none 0 0] 31))from((Ak.alloc _).alloc _).alloc _);have C0:=zH (Al.new_at ((w.alloc (.cells #[.bool n,.slice p1 l1 c1,.bool m,.slice p2 l2 c2] 31)).alloc (.cells #[.bool n',.slice p3 l3 c3,.bool m',.slice p4 l4 c4] 31)) (w.heap.size+1+1) (by simp) 31 #[.bool false,.slice none 0 0,.bool false,.slice none 0 0]);have hz:(((w.alloc (.cells #[.bool n,.slice p1 l1 c1,.bool m,.slice p2 l2 c2] 31)).alloc (.cells #[.bool n',.slice p3 l3 c3,.bool m',.slice p4 l4 c4] 31)).alloc (.cells #[.bool false,.slice none 0 0,.bool false,.slice none 0 0] 31)).heap.size=w.heap.size+1+1+1:=by simp
  have B9:=zH hz;clear hz;generalize (((w.alloc (.cells #[.bool n,.slice p1 l1 c1,.bool m,.slice p2 l2 c2] 31)).alloc (.cells #[.bool n',.slice p3 l3 c3,.bool m',.slice p4 l4 c4] 31)).alloc (.cells #[.bool false,.slice none 0 0,.bool false,.slice none 0 0] 31))=wb at*;go_cut [5,6] (fun s t wx=>vK wb q r s t wx)
  case first=>
    clear C0 C1;go_region_held3 (fun x=>Aa wb x) ((first|(with_reducible assumption)|((repeat (first|(with_reducible assumption)|(with_reducible exact Aa.refl _)|(with_reducible apply Aa.drew)|(with_reducible apply Aa.alloc)|((with_reducible refine Aa.setCell ?_ ?_ _);rotate_left;focus (first|omega|(simp;done)|(simp;omega)))|(with_reducible (apply Aa.via;assumption))));done)))
      (first|(go_at_call 122;((with_reducible refine(C3.1 _ (B1.1.trans (by first|assumption|exact Aa.drew Ak))).mono ?_));rintro e wa ⟨b1,t1,b2,t2,rfl,D1,B7⟩;obtain⟨x1,y1,z1,x2,y2,z2,rfl,rfl⟩:=D1.form;have C9:=B7.size;(try simp at C9);obtain⟨ka,fa⟩:=Wr B7;(try simp at ka);(try simp at fa);(try have l1:wb.heap.size<wa.heap.size:=ω);(try have l2:wb.heap.size+1<wa.heap.size:=ω))|(go_at_call 122;((with_reducible refine(C2.1 _ (B1.1.trans (by first|assumption|exact Aa.drew Ak))).mono ?_));rintro e wd ⟨b3,t3,b4,t4,rfl,D0,B6⟩;obtain⟨x3,y3,z3,x4,y4,z4,rfl,rfl⟩:=D0.form;have C8:=B6.size;(try simp at C8);obtain⟨kb,fb⟩:=Wr B6;(try simp at kb);(try simp at fb);(try have l3:wb.heap.size<wd.heap.size:=ω);(try have l4:wb.heap.size+1<wd.heap.size:=ω);(try have l5:wa.heap.size<wd.heap.size:=ω);(try have l6:wa.heap.size+1<wd.heap.size:=ω)))
    all_goals go_wp2_with fail
    all_goals go_meet
    all_goals have E1:∀a:Nat,a<a+1+1:=fun a=>ω
    all_goals try have q1:wa.heap.size≠wb.heap.size:=ω
    all_goals try have q2:wb.heap.size≠wa.heap.size:=ω
    all_goals try have q3:wb.heap.size<wa.heap.size+1:=ω
    all_goals refine⟨_,_,b1,x1,y1,z1,b2,x2,y2,z2,b3,x3,y3,z3,b4,x4,y4,z4,rfl,rfl,?_,?_,⟨?_,?_,?_,?_⟩,⟨?_,?_,?_,?_⟩,?_,?_,?_⟩
    all_goals first
      |(with_reducible assumption)
      |omega
      |(simp[go_sem, *];done)
      |(rw[World.cell?_setCell_far,World.cell?_setCell_far,World.cell?_setCell_far,World.cell?_setCell_far]<;>first|(simp[go_sem, *];done)|(simp;omega))
      |((repeat (first|(with_reducible assumption)|(with_reducible apply Cx.drew)|(with_reducible apply Cx.alloc)|((with_reducible refine Cx.setB (b:=false) ?_ ?_ _);rotate_left;focus (simp[go_sem, *];done))|((with_reducible refine Cx.setS (a:=none) (l:=0) (c:=0) ?_ ?_ _);rotate_left;focus (simp[go_sem, *];done))|(with_reducible (apply Cx.via;assumption))));done)
      |(first|(with_reducible assumption)|((repeat (first|(with_reducible assumption)|(with_reducible exact Aa.refl _)|(with_reducible apply Aa.drew)|(with_reducible apply Aa.alloc)|((with_reducible refine Aa.setCell ?_ ?_ _);rotate_left;focus (first|omega|(simp;done)|(simp;omega)))|(with_reducible (apply Aa.via;assumption))));done))
  clear C3 C2 gA;obtain⟨X,Y,b1,x1,y1,z1,b2,x2,y2,z2,b3,x3,y3,z3,b4,x4,y4,z4,rfl,rfl,hX,hY,cX,cY,s3,s4,s5⟩:=hcut;have A0:=C1.1;have H1:=zH (fun W (x:Aa wc W)=>Gb _ _ _ _ (L+1) q.num r.den W ((s3.ext x).1.isIn A0.1) ((s4.ext x).2.isIn A0.2.2.2) ω);have H2:=zH (fun W (x:Aa wc W)=>Gb _ _ _ _ (L+1) r.num q.den W ((s4.ext x).1.isIn A0.2.2.1) ((s3.ext x).2.isIn A0.2.1) ω);have H3:=zH (fun W (x:Aa wc W)=>Gb _ _ _ _ (L+1) q.den r.den W ((s3.ext x).2.isIn A0.2.1) ((s4.ext x).2.isIn A0.2.2.2) ω);have A7:=Cq q.num r.den _ _ A0.1 A0.2.2.2;have A6:=Cq r.num q.den _ _ A0.2.2.1 A0.2.1;have D6:=zH (fun W n1 v1 n2 v2 (x:Bu W n1 v1 (q.num*r.den)) (y:Bu W n2 v2 (r.num*q.den))=>Vl n1 n2 v1 v2 (L+1+(L+1)) _ _ W (x.isIn A7) (y.isIn A6) ω);have B8:(q.den:Int)*r.den≠0:=Int.mul_ne_zero (by have:=q.den_nz;omega) (by have:=r.den_nz;omega);have D4:=zH (fun W n1 v1 n2 v2 (x:Bu W n1 v1 (q.num*r.den+r.num*q.den)) (y:Bu W n2 v2 ((q.den:Int)*r.den))=>(show Calls prog 77 #[.agg #[.bool n1,v1],.agg #[.bool n2,v2]] W (Fn (q+r) W)by
    rw[Nm.add_eq];exact Gw n1 n2 v1 v2 (L+1+(L+1)+1) _ _ W (x.isIn (Ks _ _ _ A7 A6)) (y.isIn (Aw (Cq _ _ _ _ A0.2.1 A0.2.2.2) ω)) ω B8))
  clear B8 A7 A6;have D2:=zH (C0.1.ext s5);have D5:=zH (B1.1.trans s5);have A1:=zH (And.intro cX cY);have n2:X≠w.heap.size+1+1:=by have:=B9.1;omega
  have n5:Y≠w.heap.size+1+1:=by have:=B9.1;omega
  have D3:=zH (show w.heap.size<=w.heap.size+1+1 by omega);clear s3 s4 s5 cX cY A0 hX hY;go_wp2_with fail;generalize hR:w.heap.size+1+1=R at*;have gl:∀w',Ba R wc w'->w'.cell? ⟨X,0,none⟩=some (.bool b1)/\w'.cell? ⟨X,1,none⟩=some (.slice x1 y1 z1)/\w'.cell? ⟨X,2,none⟩=some (.bool b2)/\w'.cell? ⟨X,3,none⟩=some (.slice x2 y2 z2)/\
      w'.cell? ⟨Y,0,none⟩=some (.bool b3)/\w'.cell? ⟨Y,1,none⟩=some (.slice x3 y3 z3)/\w'.cell? ⟨Y,2,none⟩=some (.bool b4)/\w'.cell? ⟨Y,3,none⟩=some (.slice x4 y4 z4):=fun w' x=>
    ⟨x.get A1.1.1.1 n2,x.get A1.1.1.2.1 n2,x.get A1.1.1.2.2.1 n2,x.get A1.1.1.2.2.2 n2,x.get A1.1.2.1 n5,x.get A1.1.2.2.1 n5,x.get A1.1.2.2.2.1 n5,x.get A1.1.2.2.2.2 n5⟩
  go_region_held3 (fun w'=>Ba R wc w') (first|(with_reducible assumption)|(with_reducible exact Ba.drew (Ba.refl _ _))|(with_reducible (apply Ba.of_ext;assumption))|(with_reducible (refine Ba.set_at (Ba.set_at (Ba.set_at (Ba.set_at ?_ _ _ _) _ _ _) _ _ _) _ _ _;first|assumption|(apply Ba.of_ext;assumption))))
    (first|(go_at_call 120;((with_reducible refine(H1.1 _ (by first|assumption|exact Aa.drew Ak)).mono ?_));rintro e wx ⟨k1,r1,rfl,B5,B0⟩;obtain⟨f1,f2,f3,rfl⟩:=B5.form;have E5:Aa wc wx:=Aa.trans (by first|assumption|exact Aa.drew Ak) B0)|(go_at_call 120;((with_reducible refine(H2.1 _ (by first|assumption|exact Aa.drew Ak)).mono ?_));rintro e wy ⟨k2,r2,rfl,B4,A5⟩;obtain⟨f4,f5,f6,rfl⟩:=B4.form;have E4:Aa wc wy:=Aa.trans (by first|assumption|exact Aa.drew Ak) A5)|(go_at_call 123;((with_reducible refine(D6.1 _ _ _ _ _ (B5.ext A5) B4).mono ?_));rintro e wt ⟨k4,r4,rfl,B2,A9⟩;obtain⟨E8,E7,E6,rfl⟩:=B2.form;have E2:Aa wc wt:=Aa.trans (by first|assumption|exact Aa.drew Ak) A9)|(go_at_call 120;((with_reducible refine(H3.1 _ (by first|assumption|exact Aa.drew Ak)).mono ?_));rintro e wu ⟨k3,r3,rfl,B3,A4⟩;obtain⟨f7,f8,f9,rfl⟩:=B3.form;have E3:Aa wc wu:=Aa.trans (by first|assumption|exact Aa.drew Ak) A4)|(go_at_call 77;((with_reducible refine(D4.1 _ _ _ _ _ (B2.ext A4) B3).mono ?_));rintro e wz ⟨j1,t1,j2,t2,rfl,hc,A8⟩;obtain⟨g1,g2,g3,g4,g5,g6,rfl,rfl⟩:=hc.form;have hx:Aa wc wz:=Aa.trans (by first|assumption|exact Aa.drew Ak) A8;have X0:=Al.ext D2.1 hx;have C7:=X0.cell 0;have C6:=X0.cell 1;have C5:=X0.cell 2;have C4:=X0.cell 3;have E0:=X0.frozen 0;have D9:=X0.frozen 1;have D8:=X0.frozen 2;have D7:=X0.frozen 3;simp at C7 C6 C5 C4))
  go_wp2_with fail;have o:=Gx wz R (.bool j1) (.slice g1 g2 g3) (.bool j2) (.slice g4 g5 g6);have A2:=hc.own X0 (Ox _ _ _ _ _ _ _ _) o;have A3:=o.ext (D5.1.trans hx) D3.1;simp only[Jo]at A2 A3;refine bodyPost_ret (v:= .agg #[.bool j1,.slice g1 g2 g3,.bool j2,.slice g4 g5 g6]) ?_ rfl ⟨_,_,_,_,rfl,A2,A3⟩;simp[results,results68,go_sem, *]
end
end Go.Proofs.YthlfilomhgeheaaGreat
