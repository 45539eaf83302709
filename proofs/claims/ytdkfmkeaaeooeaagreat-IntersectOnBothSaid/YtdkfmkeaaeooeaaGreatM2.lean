/- Contracts that the claim stands on: XRatD to XRefS. -/
import Derived.Deep.DeepCutAuto
import Derived.Test.YtdkfmkeaaeooeaaGreatM1
set_option maxRecDepth 100000
set_option maxHeartbeats 4000000
namespace Go.Proofs.YtdkfmkeaaeooeaaGreat
open Go.RowKit
section
attribute [local go_sem ↓] Go.wp_at_zero Go.wp_at_succ run_max_ii run_min_ii
theorem ratBox (w:World)(n m:Bool)(u v:Value):∀w',Ext (w.alloc (.cells #[.bool n,u,.bool m,v] 30)) w'->
    w'.cell? ⟨w.heap.size,0,none⟩=some (.bool n)/\w'.cell? ⟨w.heap.size,1,none⟩=some u/\w'.cell? ⟨w.heap.size,2,none⟩=some (.bool m)/\w'.cell? ⟨w.heap.size,3,none⟩=some v/\
    w'.frozen? ⟨w.heap.size,0,none⟩=false/\w'.frozen? ⟨w.heap.size,1,none⟩=false/\w'.frozen? ⟨w.heap.size,2,none⟩=false/\w'.frozen? ⟨w.heap.size,3,none⟩=false:=fun w' h=>
  ⟨h.get (by simp),h.get (by simp),h.get (by simp),h.get (by simp),(h.frozen (by simp)).trans (World.frozen?_alloc_at _ _ _ _ (by simp)),(h.frozen (by simp)).trans (World.frozen?_alloc_at _ _ _ _ (by simp)),(h.frozen (by simp)).trans (World.frozen?_alloc_at _ _ _ _ (by simp)),(h.frozen (by simp)).trans (World.frozen?_alloc_at _ _ _ _ (by simp))⟩
abbrev put4 (w:World)(g:Nat)(u0 u1 u2 u3:Value):World:=(((w.setCell ⟨g,0,none⟩ u0).setCell ⟨g,1,none⟩ u1).setCell ⟨g,2,none⟩ u2).setCell ⟨g,3,none⟩ u3
theorem put4_blk {w:World}{g:Nat}{t:TypeId}{a b c d:Value}(h:Blk w g t #[a,b,c,d])(u0 u1 u2 u3:Value):Blk (put4 w g u0 u1 u2 u3) g t #[u0,u1,u2,u3]:=
  (((h.set_ 0 u0).set_ 1 u1).set_ 2 u2).set_ 3 u3
theorem put4_own (w:World)(g:Nat)(u0 u1 u2 u3:Value):Own g w (put4 w g u0 u1 u2 u3):=((((Own.refl g w).set_at 0 none u0).set_at 1 none u1).set_at 2 none u2).set_at 3 none u3
theorem Blk.own {w w':World}{g g':Nat}{t:TypeId}{cs:Array Value}(h:Blk w g t cs)(e:Own g' w w')(hne:g≠g'):Blk w' g t cs:=
  (e.block g (Blk.lt h) (fun x=>hne (by injection x))).trans h
theorem stored2 {w0 wb:World}{A B:Nat}{t:TypeId}{a0 a1 a2 a3 d0 d1 d2 d3:Value}{n m n' m':Bool}{x1 x2 x3 x4:Option Addr}{y1 z1 y2 z2 y3 z3 y4 z4:Nat}{q r:Rat}
    (hA:Blk wb A t #[a0,a1,a2,a3])(hB:Blk wb B t #[d0,d1,d2,d3])(hAB:A≠B)(nA:NoU #[a0,a1,a2,a3])(nB:NoU #[d0,d1,d2,d3])(h0:Ext w0 wb)(hwA:w0.heap.size<=A)(hwB:w0.heap.size<=B)
    (hq:RatC wb n (.slice x1 y1 z1) m (.slice x2 y2 z2) q)(hr:RatC wb n' (.slice x3 y3 z3) m' (.slice x4 y4 z4) r):
    ∀wm,wm=put4 (put4 wb A (.bool n) (.slice x1 y1 z1) (.bool m) (.slice x2 y2 z2)) B (.bool n') (.slice x3 y3 z3) (.bool m') (.slice x4 y4 z4)->
    Blk wm A t #[.bool n,.slice x1 y1 z1,.bool m,.slice x2 y2 z2]/\Blk wm B t #[.bool n',.slice x3 y3 z3,.bool m',.slice x4 y4 z4]/\RatC wm n (.slice x1 y1 z1) m (.slice x2 y2 z2) q/\RatC wm n' (.slice x3 y3 z3) m' (.slice x4 y4 z4) r/\Ext w0 wm/\
    (∀X tx cs,X≠A->X≠B->Blk wb X tx cs->Blk wm X tx cs):=by
  rintro wm rfl;have o1:=put4_own wb A (.bool n) (.slice x1 y1 z1) (.bool m) (.slice x2 y2 z2);have o2:=put4_own (put4 wb A (.bool n) (.slice x1 y1 z1) (.bool m) (.slice x2 y2 z2)) B (.bool n') (.slice x3 y3 z3) (.bool m') (.slice x4 y4 z4);have b1:=put4_blk hA (.bool n) (.slice x1 y1 z1) (.bool m) (.slice x2 y2 z2);have b2:=Blk.own hB o1 hAB.symm;exact⟨b1.own o2 hAB,put4_blk b2 _ _ _ _,(hq.own hA nA o1).own b2 nB o2,(hr.own hA nA o1).own b2 nB o2,o2.ext (o1.ext h0 hwA) hwB,fun X tx cs h1 h2 hX=>(hX.own o1 h1).own o2 h2⟩
theorem Blk.new_at (w:World)(g:Nat)(h:g=w.heap.size)(t:TypeId)(cs:Array Value):Blk (w.alloc (.cells cs t)) g t cs:=by subst h;exact Blk.new w t cs
def Boxes (A B:Nat)(t:TypeId)(csA csB:Array Value)(w:World):Prop:=Blk w A t csA/\Blk w B t csB
theorem Boxes.drew {A B:Nat}{t:TypeId}{csA csB:Array Value}{w:World}(h:Boxes A B t csA csB w):Boxes A B t csA csB w.drew:=h
theorem Boxes.ext {A B:Nat}{t:TypeId}{csA csB:Array Value}{w w':World}(h:Boxes A B t csA csB w)(e:Ext w w'):Boxes A B t csA csB w':=⟨h.1.ext e,h.2.ext e⟩
theorem Boxes.via {A B:Nat}{t:TypeId}{csA csB:Array Value}{w w':World}(e:Ext w w')(h:Boxes A B t csA csB w):Boxes A B t csA csB w':=h.ext e
theorem Boxes.store {A B:Nat}{t:TypeId}{csA csB:Array Value}{w:World}(h:Boxes A B t csA csB w){p:Addr}(h1:A≠p.block)(h2:B≠p.block)(u:Value):Boxes A B t csA csB (w.setCell p u):=⟨h.1.far h1 u,h.2.far h2 u⟩
theorem Boxes.cells {A B:Nat}{t:TypeId}{a0 a1 a2 a3 d0 d1 d2 d3:Value}{w:World}(h:Boxes A B t #[a0,a1,a2,a3] #[d0,d1,d2,d3] w):
    w.cell? ⟨A,0,none⟩=some a0/\w.cell? ⟨A,1,none⟩=some a1/\w.cell? ⟨A,2,none⟩=some a2/\w.cell? ⟨A,3,none⟩=some a3/\w.cell? ⟨B,0,none⟩=some d0/\w.cell? ⟨B,1,none⟩=some d1/\w.cell? ⟨B,2,none⟩=some d2/\w.cell? ⟨B,3,none⟩=some d3:=
  ⟨h.1.cell 0,h.1.cell 1,h.1.cell 2,h.1.cell 3,h.2.cell 0,h.2.cell 1,h.2.cell 2,h.2.cell 3⟩
def RetX (x y d:Int)(w:World)(e:Ending)(w':World):Prop:=
  ∃n1 v1 n2 v2 n3 v3,e= .returned (.tuple #[.agg #[.bool n1,v1],.agg #[.bool n2,v2],.agg #[.bool n3,v3]])/\IntC w' n1 v1 x/\IntC w' n2 v2 y/\IntC w' n3 v3 d/\Ext w w'
abbrev put2 (w:World)(g:Nat)(u0 u1:Value):World:=(w.setCell ⟨g,0,none⟩ u0).setCell ⟨g,1,none⟩ u1
theorem put2_own (w:World)(g:Nat)(u0 u1:Value):Own g w (put2 w g u0 u1):=((Own.refl g w).set_at 0 none u0).set_at 1 none u1
theorem stored3 {w0 w:World}{X Y D:Nat}{t:TypeId}{a b c d e f:Value}{u0 u1 u2 u3 u4 u5:Value}(hX:Blk w X t #[a,b])(hY:Blk w Y t #[c,d])(hD:Blk w D t #[e,f])(nX:NoU #[a,b])(nY:NoU #[c,d])(nD:NoU #[e,f])
    (h1:Y≠X)(h2:D≠X)(h3:D≠Y)(hw:Ext w0 w)(s1:w0.heap.size<=X)(s2:w0.heap.size<=Y)(s3:w0.heap.size<=D):
    (∀n v z,IntC w n v z->IntC (put2 (put2 (put2 w X u0 u1) Y u2 u3) D u4 u5) n v z)/\Ext w0 (put2 (put2 (put2 w X u0 u1) Y u2 u3) D u4 u5):=by
  have o1:=put2_own w X u0 u1;have o2:=put2_own (put2 w X u0 u1) Y u2 u3;have o3:=put2_own (put2 (put2 w X u0 u1) Y u2 u3) D u4 u5;exact⟨fun n v z h=>((h.own hX nX o1).own (hY.own o1 h1) nY o2).own ((hD.own o1 h2).own o2 h3) nD o3,o3.ext (o2.ext (o1.ext hw s1) s2) s3⟩
def Normed (w:World)(q r:Rat)(w':World):Prop:=
  ∃ b1 x1 y1 z1 b2 x2 y2 z2 b3 x3 y3 z3 b4 x4 y4 z4,Blk w' w.heap.size 30 #[.bool b1,.slice x1 y1 z1,.bool b2,.slice x2 y2 z2]/\Blk w' (w.heap.size+1) 30 #[.bool b3,.slice x3 y3 z3,.bool b4,.slice x4 y4 z4]/\
    RatC w' b1 (.slice x1 y1 z1) b2 (.slice x2 y2 z2) q/\RatC w' b3 (.slice x3 y3 z3) b4 (.slice x4 y4 z4) r/\Ext w w'
def ThreeInts (X:Nat)(w':World):Prop:=Blk w' X 28 #[.bool false,.slice none 0 0]/\Blk w' (X+1) 28 #[.bool false,.slice none 0 0]/\Blk w' (X+1+1) 28 #[.bool false,.slice none 0 0]
theorem cross_any (n m n' m':Bool)(u v u' v':Value)(L:Nat)(q r:Rat)(w:World)(h:RatIn L w n u m v q)(h':RatIn L w n' u' m' v' r)(hL:L<=70000):
    Calls Tryz.prog 42 #[.agg #[.bool n,u,.bool m,v],.agg #[.bool n',u',.bool m',v']] w (RetX (q.num*r.den) (r.num*q.den) (q.den*r.den) w):=by
  obtain⟨p1,l1,c1,p2,l2,c2,rfl,rfl⟩:=h.form;obtain⟨p3,l3,c3,p4,l4,c4,rfl,rfl⟩:=h'.form;have HNA:=zH (fun W (x:Ext w W)=>rnorm_any n m (.slice p1 l1 c1) (.slice p2 l2 c2) L q W (h.ext x) (by omega));have HNB:=zH (fun W (x:Ext w W)=>rnorm_any n' m' (.slice p3 l3 c3) (.slice p4 l4 c4) L r W (h'.ext x) (by omega));have hE:Ext w (((((w.alloc (.cells #[.bool n,.slice p1 l1 c1,.bool m,.slice p2 l2 c2] 30)).alloc (.cells #[.bool n',.slice p3 l3 c3,.bool m',.slice p4 l4 c4] 30)).alloc (.cells #[.bool false,.slice none 0 0] 28)).alloc (.cells #[.bool false,.slice none 0 0] 28)).alloc (.cells #[.bool false,.slice none 0 0] 28)):=(((((Ext.refl _).alloc _).alloc _).alloc _).alloc _).alloc _;have HE:=zH hE;have hnl:Nm.nl q.num.natAbs<=L+1/\Nm.nl (q.den:Int).natAbs<=L+1/\Nm.nl r.num.natAbs<=L+1/\Nm.nl (r.den:Int).natAbs<=L+1:=by
    have h1:=h.rl;have h2:=h'.rl;unfold Nm.rl at h1 h2;simp only[Int.natAbs_natCast];omega
  have HBA:=zH (ratBox w n m (.slice p1 l1 c1) (.slice p2 l2 c2));have HBB:=zH (ratBox (w.alloc (.cells #[.bool n,.slice p1 l1 c1,.bool m,.slice p2 l2 c2] 30)) n' m' (.slice p3 l3 c3) (.slice p4 l4 c4));have HW:=zH (show∀W,Ext (((((w.alloc (.cells #[.bool n,.slice p1 l1 c1,.bool m,.slice p2 l2 c2] 30)).alloc (.cells #[.bool n',.slice p3 l3 c3,.bool m',.slice p4 l4 c4] 30)).alloc (.cells #[.bool false,.slice none 0 0] 28)).alloc (.cells #[.bool false,.slice none 0 0] 28)).alloc (.cells #[.bool false,.slice none 0 0] 28)) W->Ext (w.alloc (.cells #[.bool n,.slice p1 l1 c1,.bool m,.slice p2 l2 c2] 30)) W/\Ext ((w.alloc (.cells #[.bool n,.slice p1 l1 c1,.bool m,.slice p2 l2 c2] 30)).alloc (.cells #[.bool n',.slice p3 l3 c3,.bool m',.slice p4 l4 c4] 30)) W from
    fun W x=>⟨(((((Ext.refl _).alloc _).alloc _).alloc _).alloc _).trans x,((((Ext.refl _).alloc _).alloc _).alloc _).trans x⟩)
  clear h h' hE;go_enter Tryz.func42,Tryz.ntmps42
  go_wp2_with fail
  go_upto_region 1 with fail
  go_cut [] (fun wx=>Normed w q r wx/\ThreeInts (w.heap.size+1+1) wx)
  case first=>
    go_region_with (first|(go_at_call 72;((with_reducible refine(HNA.out _ (HE.out.trans (by first|assumption|exact Ext.drew (Ext.refl _)))).mono ?_));rintro e wa ⟨b1,t1,b2,t2,rfl,hca,hea⟩;obtain⟨x1,y1,z1,x2,y2,z2,rfl,rfl⟩:=hca.form;have hxa:Ext (((((w.alloc (.cells #[.bool n,.slice p1 l1 c1,.bool m,.slice p2 l2 c2] 30)).alloc (.cells #[.bool n',.slice p3 l3 c3,.bool m',.slice p4 l4 c4] 30)).alloc (.cells #[.bool false,.slice none 0 0] 28)).alloc (.cells #[.bool false,.slice none 0 0] 28)).alloc (.cells #[.bool false,.slice none 0 0] 28)) wa:=(by first|exact(Ext.drew (Ext.refl _)).trans hea|exact Ext.trans (by assumption) hea);have ga:=HBB.out wa (HW.out wa hxa).2;simp only[World.size_alloc]at ga)|(go_at_call 72;((with_reducible refine(HNB.out _ (HE.out.trans (by first|assumption|exact Ext.drew (Ext.refl _)))).mono ?_));rintro e wb ⟨b3,t3,b4,t4,rfl,hcb,heb⟩;obtain⟨x3,y3,z3,x4,y4,z4,rfl,rfl⟩:=hcb.form;have hxb:Ext (((((w.alloc (.cells #[.bool n,.slice p1 l1 c1,.bool m,.slice p2 l2 c2] 30)).alloc (.cells #[.bool n',.slice p3 l3 c3,.bool m',.slice p4 l4 c4] 30)).alloc (.cells #[.bool false,.slice none 0 0] 28)).alloc (.cells #[.bool false,.slice none 0 0] 28)).alloc (.cells #[.bool false,.slice none 0 0] 28)) wb:=(by first|exact Ext.trans (by assumption) heb);clear ga;have ga:=HBA.out wb (HW.out wb hxb).1;have gb:=HBB.out wb (HW.out wb hxb).2;simp only[World.size_alloc]at gb))
    all_goals
      have hst:=stored2 (w0:=w) (t:=30) (Blk.ext (Blk.new w _ _) (HW.out wb hxb).1) (Blk.ext (Blk.new (w.alloc (.cells #[.bool n,.slice p1 l1 c1,.bool m,.slice p2 l2 c2] 30)) _ _) (HW.out wb hxb).2) (by simp) (noU4 _ _ _ _ _ _ _ _) (noU4 _ _ _ _ _ _ _ _) (HE.out.trans hxb) (Nat.le_refl _) (by simp) (hca.ext heb) hcb;simp only[World.size_alloc]at hst;obtain⟨wm,hwm⟩:∃wm,wm=put4 (put4 wb w.heap.size (.bool b1) (.slice x1 y1 z1) (.bool b2) (.slice x2 y2 z2)) (w.heap.size+1) (.bool b3) (.slice x3 y3 z3) (.bool b4) (.slice x4 y4 z4):=⟨_,rfl⟩;obtain⟨s1,s2,s3,s4,s5,s6⟩:=hst wm hwm;simp only[put4]at hwm;rw[<-hwm];have HX0:=zH (s6 (w.heap.size+1+1) 28 #[.bool false,.slice none 0 0] (by omega) (by omega) (Blk.ext (Blk.new_at ((w.alloc (.cells #[.bool n,.slice p1 l1 c1,.bool m,.slice p2 l2 c2] 30)).alloc (.cells #[.bool n',.slice p3 l3 c3,.bool m',.slice p4 l4 c4] 30)) _ (by simp) _ _) ((((Ext.refl _).alloc _).alloc _).trans hxb)));have HX1:=zH (s6 (w.heap.size+1+1+1) 28 #[.bool false,.slice none 0 0] (by omega) (by omega) (Blk.ext (Blk.new_at (((w.alloc (.cells #[.bool n,.slice p1 l1 c1,.bool m,.slice p2 l2 c2] 30)).alloc (.cells #[.bool n',.slice p3 l3 c3,.bool m',.slice p4 l4 c4] 30)).alloc (.cells #[.bool false,.slice none 0 0] 28)) _ (by simp) _ _) (((Ext.refl _).alloc _).trans hxb)));have HX2:=zH (s6 (w.heap.size+1+1+1+1) 28 #[.bool false,.slice none 0 0] (by omega) (by omega) (Blk.ext (Blk.new_at ((((w.alloc (.cells #[.bool n,.slice p1 l1 c1,.bool m,.slice p2 l2 c2] 30)).alloc (.cells #[.bool n',.slice p3 l3 c3,.bool m',.slice p4 l4 c4] 30)).alloc (.cells #[.bool false,.slice none 0 0] 28)).alloc (.cells #[.bool false,.slice none 0 0] 28)) _ (by simp) _ _) hxb));have HM:=zH (show Normed w q r wm/\ThreeInts (w.heap.size+1+1) wm from⟨⟨_,_,_,_,_,_,_,_,_,_,_,_,_,_,_,_,s1,s2,s3,s4,s5⟩,HX0.out,HX1.out,HX2.out⟩);clear hst hwm s1 s2 s3 s4 s5 s6 hca hcb ga gb hea heb hxa hxb;go_wp2_with fail
      go_meet
      exact HM.out
  clear HNA HNB HE HBA HBB HW;obtain⟨⟨b1,x1,y1,z1,b2,x2,y2,z2,b3,x3,y3,z3,b4,x4,y4,z4,s1,s2,s3,s4,s5⟩,k0,k1,k2⟩:=hcut;have H1:=zH (fun W (x:Ext wc W)=>imul_any _ _ _ _ (L+1) q.num r.den W ((s3.ext x).1.isIn hnl.1) ((s4.ext x).2.isIn hnl.2.2.2) (by omega));have H2:=zH (fun W (x:Ext wc W)=>imul_any _ _ _ _ (L+1) r.num q.den W ((s4.ext x).1.isIn hnl.2.2.1) ((s3.ext x).2.isIn hnl.2.1) (by omega));have H3:=zH (fun W (x:Ext wc W)=>imul_any _ _ _ _ (L+1) q.den r.den W ((s3.ext x).2.isIn hnl.2.1) ((s4.ext x).2.isIn hnl.2.2.2) (by omega));have HEM:=zH s5;have HX0:=zH k0;have HX1:=zH k1;have HX2:=zH k2;have HS:=zH (show Boxes w.heap.size (w.heap.size+1) 30 #[.bool b1,.slice x1 y1 z1,.bool b2,.slice x2 y2 z2] #[.bool b3,.slice x3 y3 z3,.bool b4,.slice x4 y4 z4] wc from⟨s1,s2⟩);clear s1 s2 s3 s4 s5 k0 k1 k2 hnl;go_wp2_with fail
  have hs1:w.heap.size<=w.heap.size+1+1/\w.heap.size<=w.heap.size+1+1+1/\w.heap.size<=w.heap.size+1+1+1+1:=by omega
  have HS1:=zH hs1;clear hs1;have HS1b:=HS1;generalize hD:w.heap.size+1+1+1+1=D at*
  generalize hY:w.heap.size+1+1+1=Y at*
  generalize hX:w.heap.size+1+1=X at*
  generalize hB:w.heap.size+1=B at*
  generalize hA:w.heap.size=A at*
  have n1:A≠B:=by omega
  have n2:A≠X:=by omega
  have n3:A≠Y:=by omega
  have n4:A≠D:=by omega
  have n5:B≠X:=by omega
  have n6:B≠Y:=by omega
  have n7:B≠D:=by omega
  have n8:X≠Y:=by omega
  have n9:X≠D:=by omega
  have n10:Y≠D:=by omega
  have n8':=n8.symm;have n9':=n9.symm;have n10':=n10.symm;have HA:=zH hA;clear hA hB hX hY hD;have gl:∀w',Boxes A B 30 #[.bool b1,.slice x1 y1 z1,.bool b2,.slice x2 y2 z2] #[.bool b3,.slice x3 y3 z3,.bool b4,.slice x4 y4 z4] w'->w'.cell? ⟨A,0,none⟩=some (.bool b1)/\w'.cell? ⟨A,1,none⟩=some (.slice x1 y1 z1)/\w'.cell? ⟨A,2,none⟩=some (.bool b2)/\w'.cell? ⟨A,3,none⟩=some (.slice x2 y2 z2)/\
      w'.cell? ⟨B,0,none⟩=some (.bool b3)/\w'.cell? ⟨B,1,none⟩=some (.slice x3 y3 z3)/\w'.cell? ⟨B,2,none⟩=some (.bool b4)/\w'.cell? ⟨B,3,none⟩=some (.slice x4 y4 z4):=fun w' h=>Boxes.cells h
  have hs0:=HS.out;go_region_held3 (fun w'=>Boxes A B 30 #[.bool b1,.slice x1 y1 z1,.bool b2,.slice x2 y2 z2] #[.bool b3,.slice x3 y3 z3,.bool b4,.slice x4 y4 z4] w') (first|(with_reducible assumption)|(with_reducible exact Boxes.drew hs0)|(with_reducible refine Boxes.store (Boxes.store ?_ (by simp[*]) (by simp[*]) _) (by simp[*]) (by simp[*]) _;with_reducible assumption)|(with_reducible (apply Boxes.via;assumption;assumption)))
    (first|(go_at_call 74;((with_reducible refine(H1.out _ (by first|assumption|exact Ext.drew (Ext.refl _))).mono ?_));rintro e wx ⟨k1,r1,rfl,hi1,hen1⟩;obtain⟨f1,f2,f3,rfl⟩:=hi1.form;have hx:Ext wc wx:=Ext.trans (by first|assumption|exact Ext.drew (Ext.refl _)) hen1)|(go_at_call 74;((with_reducible refine(H2.out _ (by first|assumption|exact Ext.drew (Ext.refl _))).mono ?_));rintro e wy ⟨k2,r2,rfl,hi2,hen2⟩;obtain⟨f4,f5,f6,rfl⟩:=hi2.form;have hx:Ext wc wy:=Ext.trans (by first|assumption|exact Ext.drew (Ext.refl _)) hen2)|(go_at_call 74;((with_reducible refine(H3.out _ (by first|assumption|exact Ext.drew (Ext.refl _))).mono ?_));rintro e wz ⟨k3,r3,rfl,hi3,hen3⟩;obtain⟨f7,f8,f9,rfl⟩:=hi3.form;have hx:Ext wc wz:=Ext.trans (by first|assumption|exact Ext.drew (Ext.refl _)) hen3;have X0:=Blk.ext HX0.out hx;have X1:=Blk.ext HX1.out hx;have X2:=Blk.ext HX2.out hx;have x00:=X0.cell 0;have x01:=X0.cell 1;have x10:=X1.cell 0;have x11:=X1.cell 1;have x20:=X2.cell 0;have x21:=X2.cell 1;have y00:=X0.frozen 0;have y01:=X0.frozen 1;have y10:=X1.frozen 0;have y11:=X1.frozen 1;have y20:=X2.frozen 0;have y21:=X2.frozen 1;simp at x00 x01 x10 x11 x20 x21))
  go_wp2_with fail
  have st:=stored3 (w0:=w) (u0:= .bool k1) (u1:= .slice f1 f2 f3) (u2:= .bool k2) (u3:= .slice f4 f5 f6) (u4:= .bool k3) (u5:= .slice f7 f8 f9) X0 X1 X2 (noU2 _ _ _ _) (noU2 _ _ _ _) (noU2 _ _ _ _) n8' n9' n10' (HEM.out.trans hx) (by rw[HA.out];exact HS1.out.1) (by rw[HA.out];exact HS1.out.2.1) (by rw[HA.out];exact HS1.out.2.2);simp only[put2]at st;refine bodyPost_ret (v:= .tuple #[.agg #[.bool k1,.slice f1 f2 f3],.agg #[.bool k2,.slice f4 f5 f6],.agg #[.bool k3,.slice f7 f8 f9]]) ?_ rfl ⟨_,_,_,_,_,_,rfl,st.1 _ _ _ (hi1.ext (hen2.trans hen3)),st.1 _ _ _ (hi2.ext hen3),st.1 _ _ _ hi3,st.2⟩;simp[results,Tryz.results42,go_sem, *]
def rcmp (q r:Rat):Int:=(q.num*r.den-r.num*q.den).sign
theorem rcmp_lt {q r:Rat}:rcmp q r<0↔q<r:=by
  unfold rcmp;rw[Nm.rcmp_lt,Int.sign_neg_iff];omega
theorem rcmp_gt {q r:Rat}:0<rcmp q r↔r<q:=by
  unfold rcmp;rw[Nm.rcmp_lt,Int.sign_pos_iff];omega
theorem rcmp_eq {q r:Rat}:rcmp q r=0↔q=r:=by
  unfold rcmp;rw[Nm.rcmp_eq,Int.sign_eq_zero_iff_zero];omega
theorem nl_cross {q r:Rat}{L:Nat}(h1:Nm.rl q<=L)(h2:Nm.rl r<=L):Nm.nl (q.num*r.den).natAbs<=2*L/\Nm.nl (r.num*q.den).natAbs<=2*L/\Nm.nl ((q.den:Int)*r.den).natAbs<=2*L:=by
  unfold Nm.rl at h1 h2;have a:=nl_mul_int q.num r.den L L (by omega) (by rw[Int.natAbs_natCast];omega);have b:=nl_mul_int r.num q.den L L (by omega) (by rw[Int.natAbs_natCast];omega);have c:=nl_mul_int (q.den:Int) r.den L L (by rw[Int.natAbs_natCast];omega) (by rw[Int.natAbs_natCast];omega);omega
theorem rcmp_any (n m n' m':Bool)(u v u' v':Value)(L:Nat)(q r:Rat)(w:World)(h:RatIn L w n u m v q)(h':RatIn L w n' u' m' v' r)(hL:L<=70000):
    Calls Tryz.prog 17 #[.agg #[.bool n,u,.bool m,v],.agg #[.bool n',u',.bool m',v']] w (RetCmp (rcmp q r) w):=by
  have hnl:=nl_cross (L:=L+1) (q:=q) (r:=r) (by have:=h.rl;omega) (by have:=h'.rl;omega);obtain⟨p1,l1,c1,p2,l2,c2,rfl,rfl⟩:=h.form;obtain⟨p3,l3,c3,p4,l4,c4,rfl,rfl⟩:=h'.form;have hE:Ext w ((w.alloc (.cells #[.bool n,.slice p1 l1 c1,.bool m,.slice p2 l2 c2] 30)).alloc (.cells #[.bool n',.slice p3 l3 c3,.bool m',.slice p4 l4 c4] 30)):=((Ext.refl _).alloc _).alloc _;have HC:=zH (cross_any n m n' m' _ _ _ _ L q r _ (h.ext hE) (h'.ext hE) hL);have HI:=zH (fun W n1 v1 n2 v2 (x:IntC W n1 v1 (q.num*r.den)) (y:IntC W n2 v2 (r.num*q.den))=>icmp_any n1 n2 v1 v2 (2*(L+1)) _ _ W (x.isIn hnl.1) (y.isIn hnl.2.1) (by omega));have HE:=zH hE;clear h h' hE hnl;unfold rcmp;go_enter Tryz.func17,Tryz.ntmps17
  go_wp2_with fail
  refine HC.out.mono ?_;rintro e w1 ⟨n1,v1,n2,v2,n3,v3,rfl,i1,i2,i3,he⟩;obtain⟨f1,f2,f3,rfl⟩:=i1.form;obtain⟨f4,f5,f6,rfl⟩:=i2.form;obtain⟨f7,f8,f9,rfl⟩:=i3.form;have I1:=zH i1;have I2:=zH i2;clear i1 i2 i3;go_wp2_with fail
  refine(HI.out _ _ _ _ _ (I1.out.ext ((((Ext.refl _).alloc _).alloc _).alloc _)) (I2.out.ext ((((Ext.refl _).alloc _).alloc _).alloc _))).mono ?_;rintro e w2 ⟨rfl,he2⟩;go_wp2_with fail
  go_ret
  exact⟨rfl,(HE.out.trans he).trans (((((Ext.refl _).alloc _).alloc _).alloc _).trans he2)⟩
theorem radd_any (n m n' m':Bool)(u v u' v':Value)(L:Nat)(q r:Rat)(w:World)(h:RatIn L w n u m v q)(h':RatIn L w n' u' m' v' r)(hL:L<=70000):
    Calls Tryz.prog 45 #[.agg #[.bool n,u,.bool m,v],.agg #[.bool n',u',.bool m',v']] w (RetR (q+r) w):=by
  have hnl:=nl_cross (L:=L+1) (q:=q) (r:=r) (by have:=h.rl;omega) (by have:=h'.rl;omega);obtain⟨p1,l1,c1,p2,l2,c2,rfl,rfl⟩:=h.form;obtain⟨p3,l3,c3,p4,l4,c4,rfl,rfl⟩:=h'.form;have hE:Ext w (((w.alloc (.cells #[.bool n,.slice p1 l1 c1,.bool m,.slice p2 l2 c2] 30)).alloc (.cells #[.bool n',.slice p3 l3 c3,.bool m',.slice p4 l4 c4] 30)).alloc (.cells #[.bool false,.slice none 0 0,.bool false,.slice none 0 0] 30)):=(((Ext.refl _).alloc _).alloc _).alloc _;have HC:=zH (cross_any n m n' m' _ _ _ _ L q r _ (h.ext hE) (h'.ext hE) hL);have HI:=zH (fun W n1 v1 n2 v2 (x:IntC W n1 v1 (q.num*r.den)) (y:IntC W n2 v2 (r.num*q.den))=>iadd_any n1 n2 v1 v2 (2*(L+1)) _ _ W (x.isIn hnl.1) (y.isIn hnl.2.1) (by omega));have hsum:=nl_add_int _ _ _ hnl.1 hnl.2.1;have hd0:(q.den:Int)*r.den≠0:=Int.mul_ne_zero (by have:=q.den_nz;omega) (by have:=r.den_nz;omega);have HLW:=zH (fun W n1 v1 n2 v2 (x:IntC W n1 v1 (q.num*r.den+r.num*q.den)) (y:IntC W n2 v2 ((q.den:Int)*r.den))=>(show Calls Tryz.prog 73 #[.agg #[.bool n1,v1],.agg #[.bool n2,v2]] W (RetR (q+r) W)by
    rw[Nm.add_eq];exact lowest_any n1 n2 v1 v2 (2*(L+1)+1) _ _ W (x.isIn hsum) (y.isIn (by omega)) (by omega) hd0))
  have HG:=zH (newRat ((w.alloc (.cells #[.bool n,.slice p1 l1 c1,.bool m,.slice p2 l2 c2] 30)).alloc (.cells #[.bool n',.slice p3 l3 c3,.bool m',.slice p4 l4 c4] 30)));have HST:=zH (fun w1 n1 t1 n2 t2 u0 u1 u2 u3=>stored_rat (w:=(w.alloc (.cells #[.bool n,.slice p1 l1 c1,.bool m,.slice p2 l2 c2] 30)).alloc (.cells #[.bool n',.slice p3 l3 c3,.bool m',.slice p4 l4 c4] 30)) (w1:=w1) (n:=n1) (u:=t1) (m:=n2) (v:=t2) (q:=q+r) (u0:=u0) (u1:=u1) (u2:=u2) (u3:=u3));have HE:=zH hE;clear h h' hE hnl hsum hd0;go_enter Tryz.func45,Tryz.ntmps45
  go_wp2_with fail
  refine HC.out.mono ?_;rintro e w1 ⟨n1,v1,n2,v2,n3,v3,rfl,i1,i2,i3,he⟩;obtain⟨f1,f2,f3,rfl⟩:=i1.form;obtain⟨f4,f5,f6,rfl⟩:=i2.form;obtain⟨f7,f8,f9,rfl⟩:=i3.form;have I1:=zH i1;have I2:=zH i2;have I3:=zH i3;clear i1 i2 i3;go_wp2_with fail
  have hsz:=he.size;simp only[World.size_alloc]at hsz;obtain⟨wm,hwm⟩:∃wm,wm=((w1.alloc (.cells #[.bool n1,.slice f1 f2 f3] 28)).alloc (.cells #[.bool n2,.slice f4 f5 f6] 28)).alloc (.cells #[.bool n3,.slice f7 f8 f9] 28):=⟨_,rfl⟩;rw[<-hwm];have hEm:Ext w1 wm:=by rw[hwm];exact(((Ext.refl _).alloc _).alloc _).alloc _
  have m0:Blk wm w1.heap.size 28 #[.bool n1,.slice f1 f2 f3]:=by rw[hwm];exact((Blk.new w1 _ _).alloc _).alloc _
  have m1:Blk wm (w1.heap.size+1) 28 #[.bool n2,.slice f4 f5 f6]:=by rw[hwm];exact(Blk.new_at _ _ (by simp) _ _).alloc _
  have m2:Blk wm (w1.heap.size+1+1) 28 #[.bool n3,.slice f7 f8 f9]:=by rw[hwm];exact Blk.new_at _ _ (by simp) _ _
  have h1:=fun W (x:Ext wm W)=>HI.out W _ _ _ _ (I1.out.ext (hEm.trans x)) (I2.out.ext (hEm.trans x))
  have h2:=fun W b t (x:Ext wm W) (y:IntC W b t (q.num*r.den+r.num*q.den))=>HLW.out W _ _ _ _ y (I3.out.ext (hEm.trans x))
  have H1:=zH h1;have H2:=zH h2;have HEM:=zH (he.trans hEm);have gl:∀w',Own (w.heap.size+1+1) wm w'->w'.cell? ⟨w1.heap.size,0,none⟩=some (.bool n1)/\w'.cell? ⟨w1.heap.size,1,none⟩=some (.slice f1 f2 f3)/\w'.cell? ⟨w1.heap.size+1,0,none⟩=some (.bool n2)/\w'.cell? ⟨w1.heap.size+1,1,none⟩=some (.slice f4 f5 f6)/\w'.cell? ⟨w1.heap.size+1+1,0,none⟩=some (.bool n3)/\w'.cell? ⟨w1.heap.size+1+1,1,none⟩=some (.slice f7 f8 f9):=fun w' x=>
    ⟨(m0.own x (by omega)).cell 0,(m0.own x (by omega)).cell 1,(m1.own x (by omega)).cell 0,(m1.own x (by omega)).cell 1,(m2.own x (by omega)).cell 0,(m2.own x (by omega)).cell 1⟩
  clear hwm hEm m0 m1 m2 h1 h2 hsz HI HLW I1 I2 I3;go_region_held3 (fun w'=>Own (w.heap.size+1+1) wm w') (first|(with_reducible assumption)|(with_reducible exact Own.drew (Own.refl _ _))|(with_reducible (apply Own.of_ext;assumption))|(with_reducible (refine Own.set_at (Own.set_at (Own.set_at (Own.set_at ?_ _ _ _) _ _ _) _ _ _) _ _ _;first|assumption|(apply Own.of_ext;assumption))))
    (first|(go_at_call 82;((with_reducible refine(H1.out _ (by first|assumption|exact Ext.drew (Ext.refl _))).mono ?_));rintro e wx ⟨k1,r1,rfl,hi1,hen1⟩;obtain⟨g1,g2,g3,rfl⟩:=hi1.form;have hx:Ext wm wx:=Ext.trans (by first|assumption|exact Ext.drew (Ext.refl _)) hen1)|(go_at_call 73;((with_reducible refine(H2.out _ _ _ (by first|assumption|exact Ext.drew (Ext.refl _)) hi1).mono ?_));rintro e wy ⟨b1,t1,b2,t2,rfl,hc,hen2⟩;obtain⟨x1,y1,z1,x2,y2,z2,rfl,rfl⟩:=hc.form;have hx2:Ext wm wy:=Ext.trans hx hen2;have gk:=HG.out _ (HEM.out.trans hx2);simp only[World.size_alloc]at gk))
  go_wp2_with fail
  have st:=HST.out _ _ _ _ _ (.bool b1) (.slice x1 y1 z1) (.bool b2) (.slice x2 y2 z2) (HEM.out.trans hx2) hc;simp only[World.size_alloc]at st;refine bodyPost_ret (v:= .agg #[.bool b1,.slice x1 y1 z1,.bool b2,.slice x2 y2 z2]) ?_ rfl ⟨_,_,_,_,rfl,st.1,(((Ext.refl _).alloc _).alloc _).trans st.2⟩;simp[results,Tryz.results45,go_sem, *]
theorem rsub_any (n m n' m':Bool)(u v u' v':Value)(L:Nat)(q r:Rat)(w:World)(h:RatIn L w n u m v q)(h':RatIn L w n' u' m' v' r)(hL:L<=70000):
    Calls Tryz.prog 36 #[.agg #[.bool n,u,.bool m,v],.agg #[.bool n',u',.bool m',v']] w (RetR (q-r) w):=by
  have hnl:=nl_cross (L:=L+1) (q:=q) (r:=r) (by have:=h.rl;omega) (by have:=h'.rl;omega);obtain⟨p1,l1,c1,p2,l2,c2,rfl,rfl⟩:=h.form;obtain⟨p3,l3,c3,p4,l4,c4,rfl,rfl⟩:=h'.form;have hE:Ext w (((w.alloc (.cells #[.bool n,.slice p1 l1 c1,.bool m,.slice p2 l2 c2] 30)).alloc (.cells #[.bool n',.slice p3 l3 c3,.bool m',.slice p4 l4 c4] 30)).alloc (.cells #[.bool false,.slice none 0 0,.bool false,.slice none 0 0] 30)):=(((Ext.refl _).alloc _).alloc _).alloc _;have HC:=zH (cross_any n m n' m' _ _ _ _ L q r _ (h.ext hE) (h'.ext hE) hL);have HI:=zH (fun W n1 v1 n2 v2 (x:IntC W n1 v1 (q.num*r.den)) (y:IntC W n2 v2 (r.num*q.den))=>isub_any n1 n2 v1 v2 (2*(L+1)) _ _ W (x.isIn hnl.1) (y.isIn hnl.2.1) (by omega));have hsum:=nl_sub_int _ _ _ hnl.1 hnl.2.1;have hd0:(q.den:Int)*r.den≠0:=Int.mul_ne_zero (by have:=q.den_nz;omega) (by have:=r.den_nz;omega);have HLW:=zH (fun W n1 v1 n2 v2 (x:IntC W n1 v1 (q.num*r.den-r.num*q.den)) (y:IntC W n2 v2 ((q.den:Int)*r.den))=>(show Calls Tryz.prog 73 #[.agg #[.bool n1,v1],.agg #[.bool n2,v2]] W (RetR (q-r) W)by
    rw[Nm.sub_eq];exact lowest_any n1 n2 v1 v2 (2*(L+1)+1) _ _ W (x.isIn hsum) (y.isIn (by omega)) (by omega) hd0))
  have HG:=zH (newRat ((w.alloc (.cells #[.bool n,.slice p1 l1 c1,.bool m,.slice p2 l2 c2] 30)).alloc (.cells #[.bool n',.slice p3 l3 c3,.bool m',.slice p4 l4 c4] 30)));have HST:=zH (fun w1 n1 t1 n2 t2 u0 u1 u2 u3=>stored_rat (w:=(w.alloc (.cells #[.bool n,.slice p1 l1 c1,.bool m,.slice p2 l2 c2] 30)).alloc (.cells #[.bool n',.slice p3 l3 c3,.bool m',.slice p4 l4 c4] 30)) (w1:=w1) (n:=n1) (u:=t1) (m:=n2) (v:=t2) (q:=q-r) (u0:=u0) (u1:=u1) (u2:=u2) (u3:=u3));have HE:=zH hE;clear h h' hE hnl hsum hd0;go_enter Tryz.func36,Tryz.ntmps36
  go_wp2_with fail
  refine HC.out.mono ?_;rintro e w1 ⟨n1,v1,n2,v2,n3,v3,rfl,i1,i2,i3,he⟩;obtain⟨f1,f2,f3,rfl⟩:=i1.form;obtain⟨f4,f5,f6,rfl⟩:=i2.form;obtain⟨f7,f8,f9,rfl⟩:=i3.form;have I1:=zH i1;have I2:=zH i2;have I3:=zH i3;clear i1 i2 i3;go_wp2_with fail
  have hsz:=he.size;simp only[World.size_alloc]at hsz;obtain⟨wm,hwm⟩:∃wm,wm=((w1.alloc (.cells #[.bool n1,.slice f1 f2 f3] 28)).alloc (.cells #[.bool n2,.slice f4 f5 f6] 28)).alloc (.cells #[.bool n3,.slice f7 f8 f9] 28):=⟨_,rfl⟩;rw[<-hwm];have hEm:Ext w1 wm:=by rw[hwm];exact(((Ext.refl _).alloc _).alloc _).alloc _
  have m0:Blk wm w1.heap.size 28 #[.bool n1,.slice f1 f2 f3]:=by rw[hwm];exact((Blk.new w1 _ _).alloc _).alloc _
  have m1:Blk wm (w1.heap.size+1) 28 #[.bool n2,.slice f4 f5 f6]:=by rw[hwm];exact(Blk.new_at _ _ (by simp) _ _).alloc _
  have m2:Blk wm (w1.heap.size+1+1) 28 #[.bool n3,.slice f7 f8 f9]:=by rw[hwm];exact Blk.new_at _ _ (by simp) _ _
  have h1:=fun W (x:Ext wm W)=>HI.out W _ _ _ _ (I1.out.ext (hEm.trans x)) (I2.out.ext (hEm.trans x))
  have h2:=fun W b t (x:Ext wm W) (y:IntC W b t (q.num*r.den-r.num*q.den))=>HLW.out W _ _ _ _ y (I3.out.ext (hEm.trans x))
  have H1:=zH h1;have H2:=zH h2;have HEM:=zH (he.trans hEm);have gl:∀w',Own (w.heap.size+1+1) wm w'->w'.cell? ⟨w1.heap.size,0,none⟩=some (.bool n1)/\w'.cell? ⟨w1.heap.size,1,none⟩=some (.slice f1 f2 f3)/\w'.cell? ⟨w1.heap.size+1,0,none⟩=some (.bool n2)/\w'.cell? ⟨w1.heap.size+1,1,none⟩=some (.slice f4 f5 f6)/\w'.cell? ⟨w1.heap.size+1+1,0,none⟩=some (.bool n3)/\w'.cell? ⟨w1.heap.size+1+1,1,none⟩=some (.slice f7 f8 f9):=fun w' x=>
    ⟨(m0.own x (by omega)).cell 0,(m0.own x (by omega)).cell 1,(m1.own x (by omega)).cell 0,(m1.own x (by omega)).cell 1,(m2.own x (by omega)).cell 0,(m2.own x (by omega)).cell 1⟩
  clear hwm hEm m0 m1 m2 h1 h2 hsz HI HLW I1 I2 I3;go_region_held3 (fun w'=>Own (w.heap.size+1+1) wm w') (first|(with_reducible assumption)|(with_reducible exact Own.drew (Own.refl _ _))|(with_reducible (apply Own.of_ext;assumption))|(with_reducible (refine Own.set_at (Own.set_at (Own.set_at (Own.set_at ?_ _ _ _) _ _ _) _ _ _) _ _ _;first|assumption|(apply Own.of_ext;assumption))))
    (first|(go_at_call 75;((with_reducible refine(H1.out _ (by first|assumption|exact Ext.drew (Ext.refl _))).mono ?_));rintro e wx ⟨k1,r1,rfl,hi1,hen1⟩;obtain⟨g1,g2,g3,rfl⟩:=hi1.form;have hx:Ext wm wx:=Ext.trans (by first|assumption|exact Ext.drew (Ext.refl _)) hen1)|(go_at_call 73;((with_reducible refine(H2.out _ _ _ (by first|assumption|exact Ext.drew (Ext.refl _)) hi1).mono ?_));rintro e wy ⟨b1,t1,b2,t2,rfl,hc,hen2⟩;obtain⟨x1,y1,z1,x2,y2,z2,rfl,rfl⟩:=hc.form;have hx2:Ext wm wy:=Ext.trans hx hen2;have gk:=HG.out _ (HEM.out.trans hx2);simp only[World.size_alloc]at gk))
  go_wp2_with fail
  have st:=HST.out _ _ _ _ _ (.bool b1) (.slice x1 y1 z1) (.bool b2) (.slice x2 y2 z2) (HEM.out.trans hx2) hc;simp only[World.size_alloc]at st;refine bodyPost_ret (v:= .agg #[.bool b1,.slice x1 y1 z1,.bool b2,.slice x2 y2 z2]) ?_ rfl ⟨_,_,_,_,rfl,st.1,(((Ext.refl _).alloc _).alloc _).trans st.2⟩;simp[results,Tryz.results36,go_sem, *]
theorem rmul_any (n m n' m':Bool)(u v u' v':Value)(L:Nat)(q r:Rat)(w:World)(h:RatIn L w n u m v q)(h':RatIn L w n' u' m' v' r)(hL:L<=70000):
    Calls Tryz.prog 35 #[.agg #[.bool n,u,.bool m,v],.agg #[.bool n',u',.bool m',v']] w (RetR (q*r) w):=by
  obtain⟨p1,l1,c1,p2,l2,c2,rfl,rfl⟩:=h.form;obtain⟨p3,l3,c3,p4,l4,c4,rfl,rfl⟩:=h'.form;have HNA:=zH (fun W (x:Ext w W)=>rnorm_any n m (.slice p1 l1 c1) (.slice p2 l2 c2) L q W (h.ext x) (by omega));have HNB:=zH (fun W (x:Ext w W)=>rnorm_any n' m' (.slice p3 l3 c3) (.slice p4 l4 c4) L r W (h'.ext x) (by omega));have hE:Ext w (((w.alloc (.cells #[.bool n,.slice p1 l1 c1,.bool m,.slice p2 l2 c2] 30)).alloc (.cells #[.bool n',.slice p3 l3 c3,.bool m',.slice p4 l4 c4] 30)).alloc (.cells #[.bool false,.slice none 0 0,.bool false,.slice none 0 0] 30)):=(((Ext.refl _).alloc _).alloc _).alloc _;have HE:=zH hE;have hnl:Nm.nl q.num.natAbs<=L+1/\Nm.nl (q.den:Int).natAbs<=L+1/\Nm.nl r.num.natAbs<=L+1/\Nm.nl (r.den:Int).natAbs<=L+1:=by
    have h1:=h.rl;have h2:=h'.rl;unfold Nm.rl at h1 h2;simp only[Int.natAbs_natCast];omega
  have HBA:=zH (ratBox w n m (.slice p1 l1 c1) (.slice p2 l2 c2));have HBB:=zH (ratBox (w.alloc (.cells #[.bool n,.slice p1 l1 c1,.bool m,.slice p2 l2 c2] 30)) n' m' (.slice p3 l3 c3) (.slice p4 l4 c4));have HW:=zH (show∀W,Ext (((w.alloc (.cells #[.bool n,.slice p1 l1 c1,.bool m,.slice p2 l2 c2] 30)).alloc (.cells #[.bool n',.slice p3 l3 c3,.bool m',.slice p4 l4 c4] 30)).alloc (.cells #[.bool false,.slice none 0 0,.bool false,.slice none 0 0] 30)) W->Ext (w.alloc (.cells #[.bool n,.slice p1 l1 c1,.bool m,.slice p2 l2 c2] 30)) W/\Ext ((w.alloc (.cells #[.bool n,.slice p1 l1 c1,.bool m,.slice p2 l2 c2] 30)).alloc (.cells #[.bool n',.slice p3 l3 c3,.bool m',.slice p4 l4 c4] 30)) W from
    fun W x=>⟨(((Ext.refl _).alloc _).alloc _).trans x,((Ext.refl _).alloc _).trans x⟩)
  clear h h' hE;have hd0:(q.den:Int)*r.den≠0:=Int.mul_ne_zero (by have:=q.den_nz;omega) (by have:=r.den_nz;omega);have HLW:=zH (fun W n1 v1 n2 v2 (x:IntC W n1 v1 (q.num*r.num)) (y:IntC W n2 v2 ((q.den:Int)*r.den))=>(show Calls Tryz.prog 73 #[.agg #[.bool n1,v1],.agg #[.bool n2,v2]] W (RetR (q*r) W)by
    rw[Nm.mul_eq];exact lowest_any n1 n2 v1 v2 (L+1+(L+1)) _ _ W (x.isIn (nl_mul_int _ _ _ _ hnl.1 hnl.2.2.1)) (y.isIn (nl_mul_int _ _ _ _ hnl.2.1 hnl.2.2.2)) (by omega) hd0))
  clear hd0;go_enter Tryz.func35,Tryz.ntmps35
  go_wp2_with fail
  go_upto_region 1 with fail
  go_cut [] (fun wx=>Normed w q r wx/\Blk wx (w.heap.size+1+1) 30 #[.bool false,.slice none 0 0,.bool false,.slice none 0 0])
  case first=>
    go_region_with (first|(go_at_call 72;((with_reducible refine(HNA.out _ (HE.out.trans (by first|assumption|exact Ext.drew (Ext.refl _)))).mono ?_));rintro e wa ⟨b1,t1,b2,t2,rfl,hca,hea⟩;obtain⟨x1,y1,z1,x2,y2,z2,rfl,rfl⟩:=hca.form;have hxa:Ext (((w.alloc (.cells #[.bool n,.slice p1 l1 c1,.bool m,.slice p2 l2 c2] 30)).alloc (.cells #[.bool n',.slice p3 l3 c3,.bool m',.slice p4 l4 c4] 30)).alloc (.cells #[.bool false,.slice none 0 0,.bool false,.slice none 0 0] 30)) wa:=(by first|exact(Ext.drew (Ext.refl _)).trans hea|exact Ext.trans (by assumption) hea);have ga:=HBB.out wa (HW.out wa hxa).2;simp only[World.size_alloc]at ga)|(go_at_call 72;((with_reducible refine(HNB.out _ (HE.out.trans (by first|assumption|exact Ext.drew (Ext.refl _)))).mono ?_));rintro e wb ⟨b3,t3,b4,t4,rfl,hcb,heb⟩;obtain⟨x3,y3,z3,x4,y4,z4,rfl,rfl⟩:=hcb.form;have hxb:Ext (((w.alloc (.cells #[.bool n,.slice p1 l1 c1,.bool m,.slice p2 l2 c2] 30)).alloc (.cells #[.bool n',.slice p3 l3 c3,.bool m',.slice p4 l4 c4] 30)).alloc (.cells #[.bool false,.slice none 0 0,.bool false,.slice none 0 0] 30)) wb:=(by first|exact Ext.trans (by assumption) heb);clear ga;have ga:=HBA.out wb (HW.out wb hxb).1;have gb:=HBB.out wb (HW.out wb hxb).2;simp only[World.size_alloc]at gb))
    all_goals
      have hst:=stored2 (w0:=w) (t:=30) (Blk.ext (Blk.new w _ _) (HW.out wb hxb).1) (Blk.ext (Blk.new (w.alloc (.cells #[.bool n,.slice p1 l1 c1,.bool m,.slice p2 l2 c2] 30)) _ _) (HW.out wb hxb).2) (by simp) (noU4 _ _ _ _ _ _ _ _) (noU4 _ _ _ _ _ _ _ _) (HE.out.trans hxb) (Nat.le_refl _) (by simp) (hca.ext heb) hcb;simp only[World.size_alloc]at hst;obtain⟨wm,hwm⟩:∃wm,wm=put4 (put4 wb w.heap.size (.bool b1) (.slice x1 y1 z1) (.bool b2) (.slice x2 y2 z2)) (w.heap.size+1) (.bool b3) (.slice x3 y3 z3) (.bool b4) (.slice x4 y4 z4):=⟨_,rfl⟩;obtain⟨s1,s2,s3,s4,s5,s6⟩:=hst wm hwm;simp only[put4]at hwm;rw[<-hwm];have HX0:=zH (s6 (w.heap.size+1+1) 30 #[.bool false,.slice none 0 0,.bool false,.slice none 0 0] (by omega) (by omega) (Blk.ext (Blk.new_at ((w.alloc (.cells #[.bool n,.slice p1 l1 c1,.bool m,.slice p2 l2 c2] 30)).alloc (.cells #[.bool n',.slice p3 l3 c3,.bool m',.slice p4 l4 c4] 30)) _ (by simp) _ _) hxb));have HM:=zH (show Normed w q r wm/\Blk wm (w.heap.size+1+1) 30 #[.bool false,.slice none 0 0,.bool false,.slice none 0 0]from⟨⟨_,_,_,_,_,_,_,_,_,_,_,_,_,_,_,_,s1,s2,s3,s4,s5⟩,HX0.out⟩);clear hst hwm s1 s2 s3 s4 s5 s6 hca hcb ga gb hea heb hxa hxb;go_wp2_with fail
      go_meet
      exact HM.out
  clear HNA HNB HE HBA HBB HW;obtain⟨⟨b1,x1,y1,z1,b2,x2,y2,z2,b3,x3,y3,z3,b4,x4,y4,z4,s1,s2,s3,s4,s5⟩,k0⟩:=hcut;have H1:=zH (fun W (x:Ext wc W)=>imul_any _ _ _ _ (L+1) q.num r.num W ((s3.ext x).1.isIn hnl.1) ((s4.ext x).1.isIn hnl.2.2.1) (by omega));have H2:=zH (fun W (x:Ext wc W)=>imul_any _ _ _ _ (L+1) q.den r.den W ((s3.ext x).2.isIn hnl.2.1) ((s4.ext x).2.isIn hnl.2.2.2) (by omega));have HEM:=zH s5;have HX0:=zH k0;have HS:=zH (And.intro s1 s2);clear s1 s2 s3 s4 s5 k0 hnl;go_wp2_with fail
  have HS1:=zH (show w.heap.size<=w.heap.size+1+1 by omega);generalize hX:w.heap.size+1+1=X at*
  generalize hB:w.heap.size+1=B at*
  generalize hA:w.heap.size=A at*
  have n1:A≠B:=by omega
  have n2:A≠X:=by omega
  have n5:B≠X:=by omega
  have HA:=zH hA;clear hA hB hX;have m0:=HS.out.1;have m1:=HS.out.2;have gl:∀w',Own X wc w'->w'.cell? ⟨A,0,none⟩=some (.bool b1)/\w'.cell? ⟨A,1,none⟩=some (.slice x1 y1 z1)/\w'.cell? ⟨A,2,none⟩=some (.bool b2)/\w'.cell? ⟨A,3,none⟩=some (.slice x2 y2 z2)/\
      w'.cell? ⟨B,0,none⟩=some (.bool b3)/\w'.cell? ⟨B,1,none⟩=some (.slice x3 y3 z3)/\w'.cell? ⟨B,2,none⟩=some (.bool b4)/\w'.cell? ⟨B,3,none⟩=some (.slice x4 y4 z4):=fun w' x=>
    ⟨(m0.own x n2).cell 0,(m0.own x n2).cell 1,(m0.own x n2).cell 2,(m0.own x n2).cell 3,(m1.own x n5).cell 0,(m1.own x n5).cell 1,(m1.own x n5).cell 2,(m1.own x n5).cell 3⟩
  clear m0 m1;go_region_held3 (fun w'=>Own X wc w') (first|(with_reducible assumption)|(with_reducible exact Own.drew (Own.refl _ _))|(with_reducible (apply Own.of_ext;assumption))|(with_reducible (refine Own.set_at (Own.set_at (Own.set_at (Own.set_at ?_ _ _ _) _ _ _) _ _ _) _ _ _;first|assumption|(apply Own.of_ext;assumption))))
    (first|(go_at_call 74;((with_reducible refine(H1.out _ (by first|assumption|exact Ext.drew (Ext.refl _))).mono ?_));rintro e wx ⟨k1,r1,rfl,hi1,hen1⟩;obtain⟨f1,f2,f3,rfl⟩:=hi1.form;have hx:Ext wc wx:=Ext.trans (by first|assumption|exact Ext.drew (Ext.refl _)) hen1)|(go_at_call 74;((with_reducible refine(H2.out _ (by first|assumption|exact Ext.drew (Ext.refl _))).mono ?_));rintro e wy ⟨k2,r2,rfl,hi2,hen2⟩;obtain⟨f4,f5,f6,rfl⟩:=hi2.form;have hx2:Ext wc wy:=Ext.trans hx hen2)|(go_at_call 73;((with_reducible refine(HLW.out _ _ _ _ _ (hi1.ext hen2) hi2).mono ?_));rintro e wz ⟨j1,t1,j2,t2,rfl,hc,hen3⟩;obtain⟨g1,g2,g3,g4,g5,g6,rfl,rfl⟩:=hc.form;have hx3:Ext wc wz:=Ext.trans hx2 hen3;have X0:=Blk.ext HX0.out hx3;have x00:=X0.cell 0;have x01:=X0.cell 1;have x02:=X0.cell 2;have x03:=X0.cell 3;have y00:=X0.frozen 0;have y01:=X0.frozen 1;have y02:=X0.frozen 2;have y03:=X0.frozen 3;simp at x00 x01 x02 x03))
  go_wp2_with fail
  have o:=put4_own wz X (.bool j1) (.slice g1 g2 g3) (.bool j2) (.slice g4 g5 g6);have hrat:=hc.own X0 (noU4 _ _ _ _ _ _ _ _) o;have hext:=o.ext (HEM.out.trans hx3) (by rw[HA.out];exact HS1.out);simp only[put4]at hrat hext;refine bodyPost_ret (v:= .agg #[.bool j1,.slice g1 g2 g3,.bool j2,.slice g4 g5 g6]) ?_ rfl ⟨_,_,_,_,rfl,hrat,hext⟩;simp[results,Tryz.results35,go_sem, *]
def OwnU (w:World)(B:Nat)(v:Value)(xs:List Nat):Prop:=w.ownsRow B 96 1 v xs.length (cellsU xs)
theorem OwnU.dig {w:World}{B:Nat}{v:Value}{xs:List Nat}(h:OwnU w B v xs)(hd:Nm.Dg xs):DigS w v xs:=owns_dig h hd
theorem OwnU.start (w:World):OwnU (w.alloc (.cells #[] 96)) w.heap.size (.slice (some ⟨w.heap.size,0,none⟩) 0 0) []:=
  ⟨by simp[cellsU],.inr ⟨w.heap.size,0,#[],rfl,Nat.le_refl _,heap_alloc_new w _,Nat.le_refl _,Nat.zero_le _,by simp,by simp[cellsU]⟩⟩
theorem OwnU.ext {w w':World}{B:Nat}{v:Value}{xs:List Nat}(h:OwnU w B v xs)(x:Ext w w'):OwnU w' B v xs:=by
  obtain⟨h1,h2⟩:=h;refine⟨h1,?_⟩;rcases h2 with h2|⟨g,cap,cur,hv,hg,hh,r⟩
  · exact Or.inl h2
  exact Or.inr ⟨g,cap,cur,hv,hg,(Below.block x g (Array.getElem?_eq_some_iff.1 hh).1).trans hh,r⟩
theorem OwnU.block {w:World}{B:Nat}{v:Value}{xs:List Nat}(h:OwnU w B v xs):∀k,v.ownBlock=some k->B<=k:=by
  intro k hk;rcases h.2 with⟨rfl,_⟩|⟨g,cap,cur,rfl,hg,_⟩
  · simp[Value.ownBlock]at hk
  simp[Value.ownBlock]at hk;omega
theorem OwnU.more {w:World}{B:Nat}{v:Value}{xs:List Nat}{d:Nat}(h:w.ownsRow B 96 1 v (xs.length+1) (cellsU xs++[.int .u32 (d:Int)])):OwnU w B v (xs++[d]):=by
  unfold OwnU;rw[List.length_append,cellsU_append];exact h
theorem one_new (w:World)(a:Value)(t:TypeId):∀(j:Nat) (u:Value),[a][j]?=some u->(w.alloc (.cells #[a] t)).cell? ((⟨w.heap.size,0,none⟩:Addr).add j)=some u:=by
  intro j u hj;match j,hj with
  |0,hj=>simp at hj;subst hj;simp[Addr.add]
theorem take_snocD (xs:List Nat)(t:Nat)(h:t<xs.length):xs.take (t+1)=xs.take t++[xs.getD t 0]:=by
  rw[List.take_succ_eq_append_getElem h,List.getD_eq_getElem?_getD,List.getElem?_eq_getElem h];rfl
theorem rdigit_any (v:Value)(xs:List Nat)(i:Int)(w:World)(h:DigS w v xs)(h0:0<=i)(hi:i<=2000000):
    Calls Tryz.prog 145 #[v,.int .i64 i] w fun e w'=>e= .returned (.int .u64 (xs.getD i.toNat 0:Nat))/\w=w':=by
  obtain⟨p,cap,rfl,hc,hd,hp⟩:=h;obtain⟨k,rfl⟩:=Int.eq_ofNat_of_zero_le h0;rw[Int.toNat_natCast];have hlt:=hd.getD k;by_cases hk:k<xs.length
  · obtain⟨b,o,rfl,hb⟩:=hp (by omega)
    have c0:=hb k hk;clear hb hp hd;generalize xs.getD k 0=x at c0 hlt
    go_enter Tryz.func145,Tryz.ntmps145
    go_wp2_with fail
    go_ret
    exact⟨rfl,rfl⟩
  have e:xs.getD k 0=0:=by rw[List.getD_eq_getElem?_getD,List.getElem?_eq_none (by omega)];rfl
  rw[e];clear hp hd hlt e;go_enter Tryz.func145,Tryz.ntmps145
  go_wp2_with fail
  go_ret
  exact⟨rfl,rfl⟩
def RetCF (n:Nat)(w:World)(e:Ending)(w':World):Prop:=∃v,e= .returned v/\NatC w' v n/\(∀k,v.ownBlock=some k->w.heap.size<=k)/\Ext w w'
theorem rnormalF_any (v:Value)(L n:Nat)(w:World)(h:NatIn L w v n)(hL:L<=1000000):
    Calls Tryz.prog 98 #[v] w (RetCF n w):=by
  obtain⟨xs,⟨p,cap,rfl,hc,hd,hp⟩,hv,hn⟩:=h;have HP:=zH hp;have HV:=zH hv;clear hp hv;obtain⟨i0,hi,hz0,hz1,hz2⟩:=info_parts infoU;go_enter Tryz.func98,Tryz.ntmps98
  go_wp2_with fail
  go_loop [3] (fun i=>∃k:Nat,k<=xs.length/\i= .int .i64 k/\Nm.val (xs.drop k)=0) (fun i=>(intOf i).toNat)
  case atStart=>exact⟨xs.length,Nat.le_refl _,rfl,by simp[Nm.val]⟩
  obtain⟨k,hk,rfl,hz⟩:=hrel;have HZ:=zH hz;clear hz;by_cases hstop:k=0\/xs.getD (k-1) 0≠0
  · have HR:=zH (Nm.digs_take hd k hk HZ.out hstop)
    have hgo:k=0\/∃j b o x,k=j+1/\p=some ⟨b,o,none⟩/\w.cell? ⟨b,o+j,none⟩=some (.int .u32 ((x:Nat):Int))/\((x:Int)==0)=false:=by
      rcases hstop with h0|h0
      · exact .inl h0
      rcases Nat.eq_zero_or_pos k with h1|h1
      · exact .inl h1
      obtain⟨b,o,hb1,hb⟩:=HP.out (by omega);exact .inr ⟨k-1,b,o,xs.getD (k-1) 0,by omega,hb1,hb _ (by omega),by simp only[beq_eq_false_iff_ne,ne_eq];omega⟩
    have HGO:=zH hgo;clear hstop hgo;rcases HGO.out with rfl|⟨j,b,o,x,rfl,rfl,c0,g0⟩
    · skip
      go_wp2_with fail
      go_loopw [4,5] (fun v i wr=>∃t:Nat,t<=0/\i= .int .i64 t/\OwnU wr w.heap.size v (xs.take t)/\Ext w wr) (fun _ i _=>0-(intOf i).toNat)
      case atStart=>exact⟨0,Nat.zero_le _,rfl,OwnU.start w,(Ext.refl _).alloc _⟩
      obtain⟨t,ht,rfl,hown,he⟩:=hrel;obtain rfl:t=0:=by omega
      go_wp2_with fail
      go_ret
      refine⟨_,rfl,?_,hown.block,he⟩;unfold NatC;rw[<-HV.out,HR.out];exact hown.dig (hd.take _)
    skip
    go_wp2_with fail
    go_loopw [4,5] (fun v i wr=>∃t:Nat,t<=(j+1)/\i= .int .i64 t/\OwnU wr w.heap.size v (xs.take t)/\Ext w wr) (fun _ i _=>(j+1)-(intOf i).toNat)
    case atStart=>exact⟨0,Nat.zero_le _,rfl,OwnU.start w,(Ext.refl _).alloc _⟩
    obtain⟨t,ht,rfl,hown,he⟩:=hrel;by_cases hlt:t<(j+1)
    · obtain⟨b2,o2,hpe,hb2⟩:=HP.out (by omega)
      obtain⟨rfl,rfl⟩:b=b2/\o=o2:=by injection hpe with hpe;injection hpe with h1 h2;exact⟨h1,h2⟩
      have c1:=he.get (hb2 t (by omega));clear hb2;have HT:=zH (take_snocD xs t (by omega));generalize xs.getD t 0=y at c1 HT
      have HLN:=zH (show(xs.take t).length=t by rw[List.length_take];omega);have hown2:=hown;unfold OwnU at hown2;rw[HLN.out]at hown2;have HBK:=zH hown.block;have hsz:=he.size;clear hown;go_wp2_with (at_builtin;refine wpList_append_own _ rfl _ _ 26 rfl w.heap.size 96 i0 (.int .u32 0) 1 4 Tryz.underlying26 hi hz0 hz1 hz2 rfl (by decide) _ _ _ rfl (hown2.alloc _) ⟨wr.heap.size,0,none⟩ 1 1 [.int .u32 (y:Int)] rfl rfl (one_new _ _ _) (by simp[Value.oneCell']) (by unfold maxLen;omega) (by omega) (by simp;omega) ?_;intro v' w2 hown' hgrow _)
      go_roundw
      case rel=>
        refine⟨t+1,by omega,by go_num,?_,(he.alloc _).grown hgrow (fun k hk=>Nat.le_trans (Nat.le_refl _) (HBK.out k hk))⟩;rw[HT.out];exact OwnU.more (by rw[HLN.out];exact hown')
      case measure=>simp[intOf]<;>omega
    obtain rfl:t=(j+1):=by omega
    go_wp2_with fail
    go_ret
    refine⟨_,rfl,?_,hown.block,he⟩;unfold NatC;rw[<-HV.out,HR.out];exact hown.dig (hd.take _)
  obtain⟨j,rfl⟩:∃j,k=j+1:=⟨k-1,by omega⟩;have hx0:xs.getD j 0=0:=by
    rcases Nat.eq_zero_or_pos (xs.getD j 0)with h0|h0
    · exact h0
    exact absurd (.inr (by rw[Nat.add_sub_cancel];omega)) hstop
  obtain⟨b,o,rfl,hb⟩:=HP.out (by omega);have c0:=hb j (by omega);rw[hx0]at c0;have HX0:=zH hx0;clear hb hstop hx0;go_wp2_with fail
  go_round
  case rel=>exact⟨j,by omega,rfl,val_drop_zero (by omega) HX0.out HZ.out⟩
  case measure=>simp[intOf]<;>omega
theorem rnormal_any (v:Value)(L n:Nat)(w:World)(h:NatIn L w v n)(hL:L<=1000000):
    Calls Tryz.prog 98 #[v] w (RetC n w):=
  (rnormalF_any v L n w h hL).mono fun _ _ ⟨v,he,hc,_,hx⟩=>⟨v,he,hc,hx⟩
end
namespace Nm
def pad (xs:List Nat)(N:Nat):List Nat:=xs++List.replicate (N-xs.length) 0
theorem pad_length {xs:List Nat}{N:Nat}(h:xs.length<=N):(pad xs N).length=N:=by unfold pad;rw[List.length_append,List.length_replicate];omega
theorem pad_val (xs:List Nat)(N:Nat):val (pad xs N)=val xs:=by unfold pad;rw[val_append,val_zeros,Nat.mul_zero,Nat.add_zero]
theorem pad_dg {xs:List Nat}(h:Dg xs)(N:Nat):Dg (pad xs N):=h.append (Dg.zeros _)
theorem pad_getD (xs:List Nat)(N i:Nat):(pad xs N).getD i 0=xs.getD i 0:=by
  unfold pad;rw[List.getD_eq_getElem?_getD,List.getD_eq_getElem?_getD];by_cases h:i<xs.length
  · rw[List.getElem?_append_left h]
  rw[List.getElem?_append_right (by omega),List.getElem?_eq_none (l:=xs) (by omega),List.getElem?_replicate];split<;>rfl
theorem drop_eq_of {xs ys:List Nat}{j:Nat}(hl:xs.length=ys.length)(h:∀l,j<=l->xs.getD l 0=ys.getD l 0):xs.drop j=ys.drop j:=by
  apply List.ext_getElem
  · rw[List.length_drop,List.length_drop,hl]
  intro i h1 h2;rw[List.length_drop]at h1 h2;have:=h (j+i) (by omega);rw[List.getD_eq_getElem?_getD,List.getD_eq_getElem?_getD,List.getElem?_eq_getElem (by omega),List.getElem?_eq_getElem (by omega)]at this;simpa using this
theorem val_lt_ofD {xs ys:List Nat}{j:Nat}(hx:Dg xs)(h:∀l,j+1<=l->xs.getD l 0=ys.getD l 0)(hlt:xs.getD j 0<ys.getD j 0):val xs<val ys:=by
  obtain⟨N,hN⟩:∃N,N=max (max xs.length ys.length) (j+1):=⟨_,rfl⟩;rw[<-pad_val xs N,<-pad_val ys N];have l1:=pad_length (xs:=xs) (N:=N) (by omega);have l2:=pad_length (xs:=ys) (N:=N) (by omega);exact val_lt_of (i:=j) (pad_dg hx N) (by rw[l1,l2]) (by rw[l1];omega) (drop_eq_of (by rw[l1,l2]) (fun l hl=>by rw[pad_getD,pad_getD];exact h l hl)) (by rw[pad_getD,pad_getD];exact hlt)
theorem val_eq_ofD {xs ys:List Nat}(h:∀l,xs.getD l 0=ys.getD l 0):val xs=val ys:=by
  obtain⟨N,hN⟩:∃N,N=max xs.length ys.length:=⟨_,rfl⟩;rw[<-pad_val xs N,<-pad_val ys N];have l1:=pad_length (xs:=xs) (N:=N) (by omega);have l2:=pad_length (xs:=ys) (N:=N) (by omega);have:=drop_eq_of (xs:=pad xs N) (ys:=pad ys N) (j:=0) (by rw[l1,l2]) (fun l _=>by rw[pad_getD,pad_getD];exact h l);rw[List.drop_zero,List.drop_zero]at this;rw[this]
theorem val_snoc (os:List Nat)(d:Nat):val (os++[d])=val os+4294967296^os.length*d:=by
  rw[val_append];simp[val]
theorem snoc_round {xs ys os:List Nat}{k c:Nat}(hk:os.length=k)(h:val os+4294967296^k*c=val (xs.take k)+val (ys.take k))(x y:Nat)(hx:xs.getD k 0=x)(hy:ys.getD k 0=y):
    val (os++[(c+(x+y))%4294967296])+4294967296^(k+1)*((c+(x+y))/4294967296)=val (xs.take (k+1))+val (ys.take (k+1)):=by
  rw[val_snoc,val_take_succD,val_take_succD,Nat.pow_succ,hx,hy,hk];exact round_arith h (Nat.mod_add_div _ _).symm
theorem snoc_sub {xs ys os:List Nat}{k s:Nat}(hk:os.length=k)(h:val os+val (ys.take k)=val (xs.take k)+4294967296^k*s)(x y d b:Nat)(hx:xs.getD k 0=x)(hy:ys.getD k 0=y)(e:x+4294967296*b=d+y+s):
    val (os++[d])+val (ys.take (k+1))=val (xs.take (k+1))+4294967296^(k+1)*b:=by
  rw[val_snoc,val_take_succD,val_take_succD,Nat.pow_succ,hx,hy,hk];exact sub_arith h rfl e
theorem snoc_sub_done {xs ys os:List Nat}{n s:Nat}(hx:Dg xs)(ho:Dg os)(hn:os.length=n)(hxn:xs.length=n)(hle:val ys<=val xs)(h:val os+val (ys.take n)=val (xs.take n)+4294967296^n*s):val os=val xs-val ys:=by
  have h1:=val_lt_pow hx (k:=n) (by omega);rw[val_take_len (xs:=xs) (Nat.le_of_eq hxn),val_take_of_lt (xs:=ys) (Nat.lt_of_le_of_lt hle h1)]at h;exact borrow_none hle (val_lt_pow ho (Nat.le_of_eq hn)) h
theorem snoc_times {xs os:List Nat}{k c d:Nat}(hk:os.length=k)(h:val os+4294967296^k*c=val (xs.take k)*d)(x l c2:Nat)(hx:xs.getD k 0=x)(e:x*d+c=l+4294967296*c2):
    val (os++[l])+4294967296^(k+1)*c2=val (xs.take (k+1))*d:=by
  rw[val_snoc,val_take_succD,Nat.pow_succ,hx,hk,Nat.add_mul,<-h,Nat.mul_assoc _ x d];have e2:4294967296^k*(x*d+c)=4294967296^k*(l+4294967296*c2):=congrArg (4294967296^k* ·) e;rw[Nat.mul_add,Nat.mul_add,<-Nat.mul_assoc _ 4294967296]at e2;generalize 4294967296^k*4294967296*c2=z at e2⊢
  generalize 4294967296^k*(x*d)=z2 at e2⊢
  omega
end Nm
section
attribute [local go_sem ↓] Go.wp_at_zero Go.wp_at_succ run_max_ii run_min_ii
theorem rncmp_any (u v:Value)(L a b:Nat)(w:World)(hu:NatIn L w u a)(hv:NatIn L w v b)(hL:L<=1000000):
    Calls Tryz.prog 146 #[u,v] w (RetCmp (cmpV a b) w):=by
  obtain⟨xs,hx,hxv,hxl⟩:=hu;obtain⟨ys,hy,hyv,hyl⟩:=hv;have HDX:=zH hx.dg;have HDY:=zH hy.dg;have HX:=zH hx;have HY:=zH hy;obtain⟨p,cp,rfl,_,_,_⟩:=hx;obtain⟨q,cq,rfl,_,_,_⟩:=hy;have HXV:=zH hxv;have HYV:=zH hyv;obtain⟨n,hn⟩:∃n:Nat,max (xs.length:Int) (ys.length:Int)=(n:Int):=⟨max xs.length ys.length,by omega⟩;have hx1:xs.length<=n:=by omega
  have hy1:ys.length<=n:=by omega
  have hn1:n<=1000000:=by omega
  clear hxv hyv hxl hyl;have HN:=zH hn;go_enter Tryz.func146,Tryz.ntmps146
  go_wp2_with fail
  clear hn;go_loopw [5] (fun i wr=>∃k:Nat,k<=n/\i= .int .i64 ((k:Int)-1)/\(∀l,k<=l->xs.getD l 0=ys.getD l 0)/\w=wr) (fun i _=>(intOf i+1).toNat)
  case atStart=>
    refine⟨n,Nat.le_refl _,rfl,fun l hl=> ?_,rfl⟩;rw[List.getD_eq_getElem?_getD,List.getD_eq_getElem?_getD,List.getElem?_eq_none (by omega),List.getElem?_eq_none (by omega)]
  obtain⟨k,hk,rfl,hz,rfl⟩:=hrel;have HZ:=zH hz;clear hz;match k,hk,HZ with
  | 0,hk,HZ=>
    have HE:=zH (Nm.val_eq_ofD (xs:=xs) (ys:=ys) (fun l=>HZ.out l (Nat.zero_le _)));rw[HXV.out,HYV.out]at HE;go_wp2_with fail
    go_ret
    refine⟨ret_int ?_,Ext.refl _⟩;rw[HE.out,cmpV_eq]
  | j+1,hk,HZ=>
    have D1:=rdigit_any _ xs (j:Int) w HX.out (by omega) (by omega);have D2:=rdigit_any _ ys (j:Int) w HY.out (by omega) (by omega);rw[Int.toNat_natCast]at D1 D2;generalize hgx:xs.getD j 0=x at D1
    generalize hgy:ys.getD j 0=y at D2
    have E1:=zH D1;have E2:=zH D2;have HGX:=zH hgx;have HGY:=zH hgy;clear D1 D2 hgx hgy;rcases Nat.lt_trichotomy x y with hlt|heq|hgt
    · have HR:=zH (Nm.val_lt_ofD HDX.out HZ.out (by rw[HGX.out,HGY.out];exact hlt))
      rw[HXV.out,HYV.out]at HR;go_wp2_with (first|(go_at_call 145;((with_reducible refine E1.out.mono ?_));rintro e w1 ⟨rfl,rfl⟩)|(go_at_call 145;((with_reducible refine E2.out.mono ?_));rintro e w1 ⟨rfl,rfl⟩))
      go_ret
      exact⟨ret_int (cmpV_lt (Int.ofNat_lt.2 HR.out)).symm,Ext.refl _⟩
    · subst heq
      have HE:=zH (show∀l,j<=l->xs.getD l 0=ys.getD l 0 from fun l hl=>by
        rcases Nat.eq_or_lt_of_le hl with h|h
        · subst h;rw[HGX.out,HGY.out]
        exact HZ.out l h)
      go_wp2_with (first|(go_at_call 145;((with_reducible refine E1.out.mono ?_));rintro e w1 ⟨rfl,rfl⟩)|(go_at_call 145;((with_reducible refine E2.out.mono ?_));rintro e w1 ⟨rfl,rfl⟩))
      go_roundw
      case rel=>exact⟨j,by omega,by go_num,HE.out,by trivial⟩
      case measure=>simp[intOf]<;>omega
    have HR:=zH (Nm.val_lt_ofD HDY.out (fun l hl=>(HZ.out l hl).symm) (by rw[HGX.out,HGY.out];exact hgt));rw[HXV.out,HYV.out]at HR;go_wp2_with (first|(go_at_call 145;((with_reducible refine E1.out.mono ?_));rintro e w1 ⟨rfl,rfl⟩)|(go_at_call 145;((with_reducible refine E2.out.mono ?_));rintro e w1 ⟨rfl,rfl⟩))
    go_ret
    exact⟨ret_int (cmpV_gt (Int.ofNat_lt.2 HR.out)).symm,Ext.refl _⟩
theorem rnadd_any (u v:Value)(L a b:Nat)(w:World)(hu:NatIn L w u a)(hv:NatIn L w v b)(hL:L<=400000):
    Calls Tryz.prog 120 #[u,v] w (RetC (a+b) w):=by
  obtain⟨xs,hx,hxv,hxl⟩:=hu;obtain⟨ys,hy,hyv,hyl⟩:=hv;have HDX:=zH hx.dg;have HDY:=zH hy.dg;have HX:=zH hx;have HY:=zH hy;obtain⟨p,cp,rfl,_,_,_⟩:=hx;obtain⟨q,cq,rfl,_,_,_⟩:=hy;have HXV:=zH hxv;have HYV:=zH hyv;obtain⟨n,hn⟩:∃n:Nat,max (xs.length:Int) (ys.length:Int)=(n:Int):=⟨max xs.length ys.length,by omega⟩;have hx1:xs.length<=n:=by omega
  have hy1:ys.length<=n:=by omega
  have hn1:n<=400000:=by omega
  clear hxv hyv hxl hyl;obtain⟨i0,hi,hz0,hz1,hz2⟩:=info_parts infoU;go_enter Tryz.func120,Tryz.ntmps120
  go_wp2_with fail
  go_loopw [5,6,7] (fun o c i wr=>∃k s:Nat,∃os:List Nat,k<=n/\i= .int .i64 k/\c= .int .u64 s/\s<=1/\os.length=k/\Nm.Dg os/\wr.ownsRow w.heap.size 96 1 o k (cellsU os)/\Nm.val os+4294967296^k*s=Nm.val (xs.take k)+Nm.val (ys.take k)/\Ext w wr) (fun _ _ i _=>n-(intOf i).toNat)
  case atStart=>exact⟨0,0,[],Nat.zero_le _,rfl,rfl,by omega,rfl,Nm.Dg.nil,OwnU.start w,by simp[Nm.val],(Ext.refl _).alloc _⟩
  obtain⟨k,s,os,hk,rfl,rfl,hs,hol,hod,hown,hv,he⟩:=hrel;have HV:=zH hv;have HO:=zH hod;have HL:=zH hol;have HBK:=zH (OwnU.block (show OwnU wr w.heap.size _ os by unfold OwnU;rw[hol];exact hown));have hsz:=he.size;clear hv hod hol;by_cases hlt:k<n
  · have D1:=rdigit_any _ xs (k:Int) wr (HX.out.ext he) (by omega) (by omega)
    have D2:=rdigit_any _ ys (k:Int) wr (HY.out.ext he) (by omega) (by omega);have b1:=HDX.out.getD k;have b2:=HDY.out.getD k;have HR:=zH (Nm.snoc_round HL.out HV.out);rw[Int.toNat_natCast]at D1 D2;generalize hgx:xs.getD k 0=x at D1 b1
    generalize hgy:ys.getD k 0=y at D2 b2
    have HR2:=zH (HR.out x y hgx hgy);have E1:=zH D1;have E2:=zH D2;clear hgx hgy HR D1 D2;have e0:((x:Int)+y+s)%4294967296=(((s+(x+y))%4294967296:Nat):Int):=by omega
    have HE0:=zH e0;clear e0;go_wp2_with fail
    refine E1.out.mono ?_;rintro e w1 ⟨rfl,rfl⟩;go_wp2_with fail
    refine E2.out.mono ?_;rintro e w1 ⟨rfl,rfl⟩;go_wp2_with (at_builtin;refine wpList_append_own _ rfl _ _ 26 rfl w.heap.size 96 i0 (.int .u32 0) 1 4 Tryz.underlying26 hi hz0 hz1 hz2 rfl (by decide) _ _ _ rfl (hown.alloc _) ⟨wr.heap.size,0,none⟩ 1 1 [.int .u32 (((x:Int)+y+s)%4294967296)] rfl rfl (one_new _ _ _) (by simp[Value.oneCell']) (by unfold maxLen;omega) (by omega) (by simp;omega) ?_;intro v' w2 hown' hgrow _)
    go_roundw
    case rel=>
      refine⟨k+1,(s+(x+y))/4294967296,os++[(s+(x+y))%4294967296],by omega,by go_num,int_eq (by omega),by omega,by rw[List.length_append,HL.out];rfl,HO.out.append (Nm.Dg.cons (by omega) Nm.Dg.nil),?_,HR2.out,(he.alloc _).grown hgrow (fun k hk=>HBK.out k hk)⟩;rw[cellsU_append];rw[HE0.out]at hown';exact hown'
    case measure=>simp[intOf]<;>omega
  obtain rfl:k=n:=by omega
  have hsum:Nm.val (os++[s])=a+b:=by
    rw[Nm.val_snoc,HL.out,HV.out,Nm.val_take_len hx1,Nm.val_take_len hy1,HXV.out,HYV.out]
  have HSUM:=zH hsum;clear hsum;go_wp2_with (at_builtin;refine wpList_append_own _ rfl _ _ 26 rfl w.heap.size 96 i0 (.int .u32 0) 1 4 Tryz.underlying26 hi hz0 hz1 hz2 rfl (by decide) _ _ _ rfl (hown.alloc _) ⟨wr.heap.size,0,none⟩ 1 1 [.int .u32 (s:Int)] rfl rfl (one_new _ _ _) (by simp[Value.oneCell']) (by unfold maxLen;omega) (by omega) (by simp;omega) ?_;intro v' w2 hown' hgrow _)
  have hl2:(os++[s]).length=k+1:=by rw[List.length_append,HL.out];rfl
  refine(rnormal_any v' (k+1) (a+b) w2 ⟨os++[s],owns_dig (base:=w.heap.size) (by rw[hl2,cellsU_append];exact hown') (HO.out.append (Nm.Dg.cons (by omega) Nm.Dg.nil)),HSUM.out,by omega⟩ (by omega)).mono ?_;rintro e w3 ⟨v3,rfl,hc,he3⟩;have HC:=zH hc;clear hc hl2;have HE2:=zH ((he.alloc _).grown hgrow (fun k hk=>HBK.out k hk));go_wp2_with fail
  go_ret
  exact⟨v3,rfl,HC.out,HE2.out.trans he3⟩
theorem times_any (u:Value)(L a d:Nat)(w:World)(hu:NatIn L w u a)(hL:L<=400000)(hd:d<4294967296):
    Calls Tryz.prog 155 #[u,.int .u64 d] w (RetC (a*d) w):=by
  obtain⟨xs,hx,hxv,hxl⟩:=hu;have HDX:=zH hx.dg;obtain⟨p,cp,rfl,_,_,hpx⟩:=hx;have HX:=zH hpx;have HXV:=zH hxv;clear hxv hpx;obtain⟨i0,hi,hz0,hz1,hz2⟩:=info_parts infoU;go_enter Tryz.func155,Tryz.ntmps155
  go_wp2_with fail
  go_loopw [5,6,7] (fun o c i wr=>∃k s:Nat,∃os:List Nat,k<=xs.length/\i= .int .i64 k/\c= .int .u64 s/\s<4294967296/\os.length=k/\Nm.Dg os/\wr.ownsRow w.heap.size 96 1 o k (cellsU os)/\Nm.val os+4294967296^k*s=Nm.val (xs.take k)*d/\Ext w wr) (fun _ _ i _=>xs.length-(intOf i).toNat)
  case atStart=>exact⟨0,0,[],Nat.zero_le _,rfl,rfl,by omega,rfl,Nm.Dg.nil,OwnU.start w,by simp[Nm.val],(Ext.refl _).alloc _⟩
  obtain⟨k,s,os,hk,rfl,rfl,hs,hol,hod,hown,hv,he⟩:=hrel;have HV:=zH hv;have HO:=zH hod;have HL:=zH hol;have HBK:=zH (OwnU.block (show OwnU wr w.heap.size _ os by unfold OwnU;rw[hol];exact hown));have hsz:=he.size;clear hv hod hol;by_cases hlt:k<xs.length
  · obtain⟨b,o,rfl,hb⟩:=HX.out (by omega)
    have c0:=he.get (hb k hlt);clear hb;have b1:=HDX.out.getD k;have HR:=zH (Nm.snoc_times HL.out HV.out);generalize hgx:xs.getD k 0=x at c0 b1
    have HR2:=zH (fun l c2 e=>HR.out x l c2 hgx e);clear hgx HR;have m1:=Nm.digit_mul b1 hd;have m2:(0:Int)<=(x:Int)*(d:Int):=by rw[<-Int.natCast_mul];exact Int.natCast_nonneg _
    have m3:(x:Int)*(d:Int)<=18446744065119617025:=by rw[<-Int.natCast_mul];exact Int.ofNat_le.2 m1
    have HE0:=zH (show((x:Int)*d+s)%4294967296=(((x*d+s)%4294967296:Nat):Int)by omega);go_wp2_with (at_builtin;refine wpList_append_own _ rfl _ _ 26 rfl w.heap.size 96 i0 (.int .u32 0) 1 4 Tryz.underlying26 hi hz0 hz1 hz2 rfl (by decide) _ _ _ rfl (hown.alloc _) ⟨wr.heap.size,0,none⟩ 1 1 [.int .u32 (((x:Int)*d+s)%4294967296)] rfl rfl (one_new _ _ _) (by simp[Value.oneCell']) (by unfold maxLen;omega) (by omega) (by simp;omega) ?_;intro v' w2 hown' hgrow _)
    go_roundw
    case rel=>
      refine⟨k+1,(x*d+s)/4294967296,os++[(x*d+s)%4294967296],by omega,by go_num,int_eq (by omega),by omega,by rw[List.length_append,HL.out];rfl,HO.out.append (Nm.Dg.cons (by omega) Nm.Dg.nil),?_,HR2.out _ _ (Nat.mod_add_div _ _).symm,(he.alloc _).grown hgrow (fun k hk=>HBK.out k hk)⟩;rw[cellsU_append];rw[HE0.out]at hown';exact hown'
    case measure=>simp[intOf]<;>omega
  obtain rfl:k=xs.length:=by omega
  have hsum:Nm.val (os++[s])=a*d:=by
    rw[Nm.val_snoc,HL.out,HV.out,Nm.val_take_len (Nat.le_refl _),HXV.out]
  have HSUM:=zH hsum;clear hsum;go_wp2_with (at_builtin;refine wpList_append_own _ rfl _ _ 26 rfl w.heap.size 96 i0 (.int .u32 0) 1 4 Tryz.underlying26 hi hz0 hz1 hz2 rfl (by decide) _ _ _ rfl (hown.alloc _) ⟨wr.heap.size,0,none⟩ 1 1 [.int .u32 (s:Int)] rfl rfl (one_new _ _ _) (by simp[Value.oneCell']) (by unfold maxLen;omega) (by omega) (by simp;omega) ?_;intro v' w2 hown' hgrow _)
  have hl2:(os++[s]).length=xs.length+1:=by rw[List.length_append,HL.out];rfl
  refine(rnormal_any v' (xs.length+1) (a*d) w2 ⟨os++[s],owns_dig (base:=w.heap.size) (by rw[hl2,cellsU_append];exact hown') (HO.out.append (Nm.Dg.cons (by omega) Nm.Dg.nil)),HSUM.out,by omega⟩ (by omega)).mono ?_;rintro e w3 ⟨v3,rfl,hc,he3⟩;have HC:=zH hc;clear hc hl2;have HE2:=zH ((he.alloc _).grown hgrow (fun k hk=>HBK.out k hk));go_wp2_with fail
  go_ret
  exact⟨v3,rfl,HC.out,HE2.out.trans he3⟩
def RetSubF (a b:Nat)(w:World)(e:Ending)(w':World):Prop:=
  (b<=a/\∃v,e= .returned (.tuple #[v,.bool true])/\NatC w' v (a-b)/\(∀k,v.ownBlock=some k->w.heap.size<=k)/\Ext w w')\/(a<b/\e= .returned (.tuple #[.slice none 0 0,.bool false])/\Ext w w')
theorem rnsubF_any (u v:Value)(L a b:Nat)(w:World)(hu:NatIn L w u a)(hv:NatIn L w v b)(hL:L<=400000):
    Calls Tryz.prog 121 #[u,v] w (RetSubF a b w):=by
  have C1:=zH (rncmp_any u v L a b w hu hv (by omega));by_cases hab:a<b
  · rw[cmpV_lt (by omega)]at C1
    have HAB:=zH hab;clear hab hu hv;go_enter Tryz.func121,Tryz.ntmps121
    go_wp2_with fail
    refine C1.out.mono ?_;rintro e w1 ⟨rfl,he⟩;go_wp2_with fail
    go_ret2
    exact .inr ⟨HAB.out,rfl,he⟩
  have hge:(0:Int)<=cmpV (a:Int) (b:Int):=by
    by_cases h:(b:Int)<a
    · rw[cmpV_gt h];omega
    have:(a:Int)=b:=by omega
    rw[this,cmpV_eq];exact Int.le_refl _
  generalize cmpV (a:Int) (b:Int)=c at C1 hge
  obtain⟨xs,hx,hxv,hxl⟩:=hu;obtain⟨ys,hy,hyv,hyl⟩:=hv;have HDX:=zH hx.dg;have HDY:=zH hy.dg;have HX:=zH hx;have HY:=zH hy;obtain⟨p,cp,rfl,_,_,_⟩:=hx;obtain⟨q,cq,rfl,_,_,_⟩:=hy;have HXV:=zH hxv;have HYV:=zH hyv;have HAB:=zH (Nat.le_of_not_lt hab);clear hxv hyv hab;obtain⟨i0,hi,hz0,hz1,hz2⟩:=info_parts infoU;go_enter Tryz.func121,Tryz.ntmps121
  go_wp2_with fail
  refine C1.out.mono ?_;rintro e w1 ⟨rfl,he1⟩;go_wp2_with fail
  clear C1 hge;go_loopw [6,7,8] (fun o c i wr=>∃k s:Nat,∃os:List Nat,k<=xs.length/\i= .int .i64 k/\c= .int .u64 s/\s<=1/\os.length=k/\Nm.Dg os/\wr.ownsRow w1.heap.size 96 1 o k (cellsU os)/\Nm.val os+Nm.val (ys.take k)=Nm.val (xs.take k)+4294967296^k*s/\Ext w1 wr) (fun _ _ i _=>xs.length-(intOf i).toNat)
  case atStart=>exact⟨0,0,[],Nat.zero_le _,rfl,rfl,by omega,rfl,Nm.Dg.nil,OwnU.start w1,by simp[Nm.val],(Ext.refl _).alloc _⟩
  obtain⟨k,s,os,hk,rfl,rfl,hs,hol,hod,hown,hv,he⟩:=hrel;have HV:=zH hv;have HO:=zH hod;have HL:=zH hol;have HBK:=zH (OwnU.block (show OwnU wr w1.heap.size _ os by unfold OwnU;rw[hol];exact hown));have hsz:=he.size;clear hv hod hol;by_cases hlt:k<xs.length
  · have D1:=rdigit_any _ xs (k:Int) wr (HX.out.ext (he1.trans he)) (by omega) (by omega)
    have D2:=rdigit_any _ ys (k:Int) wr (HY.out.ext (he1.trans he)) (by omega) (by omega);have b1:=HDX.out.getD k;have b2:=HDY.out.getD k;have HR:=zH (Nm.snoc_sub HL.out HV.out);rw[Int.toNat_natCast]at D1 D2;generalize hgx:xs.getD k 0=x at D1 b1
    generalize hgy:ys.getD k 0=y at D2 b2
    have HR2:=zH (fun d b e=>HR.out x y d b hgx hgy e);have E1:=zH D1;have E2:=zH D2;clear hgx hgy HR D1 D2;have HE0:=zH (show(4294967296+(x:Int)-y-s)%4294967296=(((4294967296+x-y-s)%4294967296:Nat):Int)by omega);go_wp2_with fail
    refine E1.out.mono ?_;rintro e w3 ⟨rfl,rfl⟩;go_wp2_with fail
    refine E2.out.mono ?_;rintro e w3 ⟨rfl,rfl⟩;go_wp2_with (at_builtin;refine wpList_append_own _ rfl _ _ 26 rfl w1.heap.size 96 i0 (.int .u32 0) 1 4 Tryz.underlying26 hi hz0 hz1 hz2 rfl (by decide) _ _ _ rfl (hown.alloc _) ⟨wr.heap.size,0,none⟩ 1 1 [.int .u32 ((4294967296+(x:Int)-y-s)%4294967296)] rfl rfl (one_new _ _ _) (by simp[Value.oneCell']) (by unfold maxLen;omega) (by omega) (by simp;omega) ?_;intro v' w2 hown' hgrow _)
    go_roundw
    case rel=>
      refine⟨k+1,1-(4294967296+x-y-s)/4294967296,os++[(4294967296+x-y-s)%4294967296],by omega,by go_num,int_eq (by omega),by omega,by rw[List.length_append,HL.out];rfl,HO.out.append (Nm.Dg.cons (by omega) Nm.Dg.nil),?_,HR2.out _ _ (by omega),(he.alloc _).grown hgrow (fun k hk=>HBK.out k hk)⟩;rw[cellsU_append];rw[HE0.out]at hown';exact hown'
    case measure=>simp[intOf]<;>omega
  obtain rfl:k=xs.length:=by omega
  have hsum:Nm.val os=a-b:=by
    rw[Nm.snoc_sub_done HDX.out HO.out HL.out rfl (by rw[HXV.out,HYV.out];exact HAB.out) HV.out,HXV.out,HYV.out]
  have HN:=zH (fun o (h:wr.ownsRow w1.heap.size 96 1 o xs.length (cellsU os))=>rnormalF_any o xs.length (a-b) wr ⟨os,owns_dig (base:=w1.heap.size) (by rw[HL.out];exact h) HO.out,hsum,by rw[HL.out];exact Nat.le_refl _⟩ (by omega));have HOW:=zH hown;clear hsum hown;go_wp2_with fail
  refine(HN.out _ HOW.out).mono ?_;rintro e w3 ⟨v3,rfl,hc,hf,he3⟩;have HC:=zH hc;have HF:=zH hf;clear hc hf;go_wp2_with fail
  go_ret2
  exact .inl ⟨HAB.out,v3,rfl,HC.out,fun k hk=>Nat.le_trans (he1.trans he).size (HF.out k hk),(he1.trans he).trans he3⟩
theorem rnsub_any (u v:Value)(L a b:Nat)(w:World)(hu:NatIn L w u a)(hv:NatIn L w v b)(hL:L<=400000):
    Calls Tryz.prog 121 #[u,v] w (RetSub a b w):=
  (rnsubF_any u v L a b w hu hv hL).mono fun _ _ h=>by
    rcases h with⟨h1,v,he,hc,_,hx⟩|h
    · exact .inl ⟨h1,v,he,hc,hx⟩
    exact .inr h
theorem BlkU.drewN {w:World}{g:Nat}{os:List Nat}(h:BlkU w g os)(n:Nat):BlkU (w.drewN n) g os:=h
theorem rnmul_any (u v:Value)(L a b:Nat)(w:World)(hu:NatIn L w u a)(hv:NatIn L w v b)(hL:L<=400000):
    Calls Tryz.prog 95 #[u,v] w (RetC (a*b) w):=by
  obtain⟨xs,hx,hxv,hxl⟩:=hu;obtain⟨ys,hy,hyv,hyl⟩:=hv;have HDX:=zH hx.dg;have HDY:=zH hy.dg;obtain⟨p,cp,rfl,hcp,_,hpx⟩:=hx;obtain⟨q,cq,rfl,hcq,_,hqy⟩:=hy;have HX:=zH hpx;have HY:=zH hqy;have HXV:=zH hxv;have HYV:=zH hyv;clear hpx hqy hxv hyv;have hmk:=fun w=>mk_digits (xs.length+ys.length+1) (by omega) ((xs.length:Int)+(ys.length:Int)+1) (by omega) w
  go_enter Tryz.func95,Tryz.ntmps95
  go_wp2_with fail
  clear hmk;go_loopw [6] (fun i wr=>∃k:Nat,∃os:List Nat,k<=xs.length/\i= .int .i64 k/\os.length=xs.length+ys.length+1/\Nm.Dg os/\BlkU wr w.heap.size os/\Nm.Zeros os (k+ys.length)/\Nm.val os=Nm.val (xs.take k)*Nm.val ys/\Ext w wr) (fun i _=>xs.length-(intOf i).toNat)
  case atStart=>exact⟨0,List.replicate (xs.length+ys.length+1) 0,Nat.zero_le _,rfl,by simp,Nm.Dg.zeros _,blkU_new _ _,Nm.Zeros.all _ _,by rw[Nm.val_zeros];simp[Nm.val],(Ext.refl _).alloc _⟩
  obtain⟨k,os,hk,rfl,hol,hod,hb,hz,hv,he⟩:=hrel;have HV:=zH hv;have HO:=zH hod;have HL:=zH hol;have HZ:=zH hz;clear hv hod hol hz;by_cases hlt:k<xs.length
  · obtain⟨bx,ox,rfl,hbx⟩:=HX.out (by omega)
    have c0:=hbx k hlt;have x1:=HDX.out.getD k;generalize hgx:xs.getD k 0=x at c0 x1
    have HGX:=zH hgx;have C0:=zH c0;clear hgx hbx c0;go_wp2_with fail
    obtain⟨wo,hwo⟩:∃wo:World,wo=wr:=⟨_,rfl⟩;subst hwo;go_loopw [7,8] (fun c i wr2=>∃j s:Nat,∃os:List Nat,j<=ys.length/\i= .int .i64 j/\c= .int .u64 s/\s<4294967296/\os.length=xs.length+ys.length+1/\Nm.Dg os/\BlkU wr2 w.heap.size os/\Nm.Zeros os (k+ys.length)/\Nm.val os+4294967296^(k+j)*s=Nm.val (xs.take k)*Nm.val ys+4294967296^k*(x*Nm.val (ys.take j))/\Ext w wr2) (fun _ i _=>ys.length-(intOf i).toNat)
    case atStart=>exact⟨0,0,os,Nat.zero_le _,rfl,rfl,by omega,HL.out,HO.out,hb,HZ.out,Nm.mul_start HV.out,he⟩
    obtain⟨j,s,os2,hj,rfl,rfl,hs,hol2,hod2,hb2,hz2,hv2,he2⟩:=hrel;have HV2:=zH hv2;have HO2:=zH hod2;have HL2:=zH hol2;have HZ2:=zH hz2;clear hv2 hod2 hol2 hz2;by_cases hjl:j<ys.length
    · obtain⟨by',oy,rfl,hby⟩:=HY.out (by omega)
      have c1:=he2.get (hby j hjl);have cw:=he2.get C0.out;clear hby
      have y1:=HDY.out.getD j;have o1:=HO2.out.getD (k+j);have c2:=hb2.cell (i:=k+j) (by rw[HL2.out];omega);have f2:=hb2.frozen (k+j);generalize hgy:ys.getD j 0=y at c1 y1
      generalize hgo:os2.getD (k+j) 0=o at c2 o1
      have HR:=zH (fun d c2 e=>Nm.mul_round (by rw[HL2.out];omega) HV2.out y o d c2 hgy hgo e);clear hgy hgo;have m1:=Nm.digit_mul x1 y1;have m2:(0:Int)<=(x:Int)*(y:Int):=by rw[<-Int.natCast_mul];exact Int.natCast_nonneg _
      have m3:(x:Int)*(y:Int)<=18446744065119617025:=by rw[<-Int.natCast_mul];exact Int.ofNat_le.2 m1
      have i0:(0:Int)<=(k:Int):=by omega
      have i1:(k:Int)<(xs.length:Int):=by omega
      have i2:(0:Int)<=(j:Int):=by omega
      have i3:(j:Int)<(ys.length:Int):=by omega
      have i4:(0:Int)<=(k:Int)+(j:Int):=by omega
      have i5:(k:Int)+(j:Int)<(xs.length:Int)+(ys.length:Int)+1:=by omega
      have i6:((k:Int)+(j:Int)).toNat=k+j:=by omega
      have i7:IntKind.i64.wrap ((k:Int)+(j:Int))=(k:Int)+(j:Int):=IntWalk.i64_in _ (by omega);have I7:=zH i7;go_wp2_with fail
      go_quiet (fail)
      clear i6 i7;go_wp2_with fail
      go_roundw
      case rel=>exact⟨j+1,(s+(x*y+o))/4294967296,os2.set (k+j) ((s+(x*y+o))%4294967296),by omega,by go_num,int_eq (by omega),by omega,by rw[List.length_set];exact HL2.out,HO2.out.set _ (by omega),(hb2.drewN _).setI (k+j) _ (by omega),HZ2.out.set (by omega),HR.out _ _ (by omega),(he2.drewN _).setCell (Nat.le_refl _) _⟩
      case measure=>simp[intOf]<;>omega
    obtain rfl:j=ys.length:=by omega
    have c2:=hb2.cell (i:=k+ys.length) (by rw[HL2.out];omega);have f2:=hb2.frozen (k+ys.length);have HR:=zH (Nm.mul_row (by rw[HL2.out];omega) HZ2.out HGX.out HV2.out);go_wp2_with fail
    go_roundw
    case rel=>exact⟨k+1,os2.set (k+ys.length) s,by omega,by go_num,by rw[List.length_set];exact HL2.out,HO2.out.set _ (by omega),hb2.setI (k+ys.length) _ (by omega),(HZ2.out.mono (by omega)).set (by omega),HR.out,he2.setCell (Nat.le_refl _) _⟩
    case measure=>simp[intOf]<;>omega
  obtain rfl:k=xs.length:=by omega
  have hvv:Nm.val os=a*b:=by rw[HV.out,List.take_length,HXV.out,HYV.out]
  have S1:=rnormal_any (.slice (some ⟨w.heap.size,0,none⟩) os.length (xs.length+ys.length+1)) (xs.length+ys.length+1) (a*b) wr ⟨os,hb.dig HO.out _ (Nat.le_of_eq HL.out),hvv,Nat.le_of_eq HL.out⟩ (by omega);rw[HL.out]at S1;have S2:=zH S1;clear hvv S1;go_wp2_with fail
  refine S2.out.mono ?_;rintro e w2 ⟨v2,rfl,hc,he2⟩;have HC:=zH hc;clear hc;go_wp2_with fail
  go_ret
  exact⟨v2,rfl,HC.out,he.trans he2⟩
theorem shl_wrap (x k:Nat)(hk:k<32)(hx:x<4294967296):IntKind.u64.wrap ((x:Int)*2^(k%32))=((x*2^k:Nat):Int)/\x*2^k<=9223372034707292160:=by
  obtain⟨h1,h2,h3,h4,h5⟩:=Nm.shl_parts hx hk;have hle:x*2^k<=9223372034707292160:=Nat.mul_le_mul (show x<=4294967295 by omega) h4;refine⟨?_,hle⟩;rw[Nat.mod_eq_of_lt hk];have e:(x:Int)*2^k=((x*2^k:Nat):Int):=by rw[Int.natCast_mul,Int.natCast_pow];rfl
  rw[e];generalize x*2^k=z at hle
  rw[IntKind.wrap_u64];omega
theorem up_any (u:Value)(L a m:Nat)(w:World)(hu:NatIn L w u a)(hL:L<=400000)(hm:m<32):
    Calls Tryz.prog 154 #[u,.int .i64 m] w (RetC (a*2^m) w):=by
  obtain⟨xs,hx,hxv,hxl⟩:=hu;have HDX:=zH hx.dg;obtain⟨p,cp,rfl,_,_,hpx⟩:=hx;have HX:=zH hpx;have HXV:=zH hxv;clear hxv hpx;obtain⟨i0,hi,hz0,hz1,hz2⟩:=info_parts infoU;have q1:(m:Int)/32=0:=by omega
  have hmk:=fun w=>mk_digits 0 (by omega) 0 rfl w
  go_enter Tryz.func154,Tryz.ntmps154
  go_wp2_with fail
  clear hmk q1;go_loopw [5,6,7] (fun o c i wr=>∃k s:Nat,∃os:List Nat,k<=xs.length/\i= .int .i64 k/\c= .int .u64 s/\s<4294967296/\os.length=k/\Nm.Dg os/\wr.ownsRow w.heap.size 96 1 o k (cellsU os)/\Nm.val os+4294967296^k*s=Nm.val (xs.take k)*2^m/\Ext w wr) (fun _ _ i _=>xs.length-(intOf i).toNat)
  case atStart=>exact⟨0,0,[],Nat.zero_le _,rfl,rfl,by omega,rfl,Nm.Dg.nil,OwnU.start w,by simp[Nm.val],(Ext.refl _).alloc _⟩
  obtain⟨k,s,os,hk,rfl,rfl,hs,hol,hod,hown,hv,he⟩:=hrel;have HV:=zH hv;have HO:=zH hod;have HL:=zH hol;have HBK:=zH (OwnU.block (show OwnU wr w.heap.size _ os by unfold OwnU;rw[hol];exact hown));have hsz:=he.size;clear hv hod hol;by_cases hlt:k<xs.length
  · obtain⟨b,o,rfl,hb⟩:=HX.out (by omega)
    have c0:=he.get (hb k hlt);clear hb;have b1:=HDX.out.getD k;have HR:=zH (Nm.snoc_times HL.out HV.out);generalize hgx:xs.getD k 0=x at c0 b1
    have hr2:=fun l c2 e=>HR.out x l c2 hgx e
    obtain⟨hw,hzb⟩:=shl_wrap x m hm b1;generalize x*2^m=z at hw hzb hr2
    have HR2:=zH hr2;clear hgx HR hr2;have HE0:=zH (show((z:Int)+s)%4294967296=(((z+s)%4294967296:Nat):Int)by omega);go_wp2_with (at_builtin;refine wpList_append_own _ rfl _ _ 26 rfl w.heap.size 96 i0 (.int .u32 0) 1 4 Tryz.underlying26 hi hz0 hz1 hz2 rfl (by decide) _ _ _ rfl (hown.alloc _) ⟨wr.heap.size,0,none⟩ 1 1 [.int .u32 (((z:Int)+s)%4294967296)] rfl rfl (one_new _ _ _) (by simp[Value.oneCell']) (by unfold maxLen;omega) (by omega) (by simp;omega) ?_;intro v' w2 hown' hgrow _)
    go_roundw
    case rel=>
      refine⟨k+1,(z+s)/4294967296,os++[(z+s)%4294967296],by omega,by go_num,int_eq (by omega),by omega,by rw[List.length_append,HL.out];rfl,HO.out.append (Nm.Dg.cons (by omega) Nm.Dg.nil),?_,HR2.out _ _ (Nat.mod_add_div _ _).symm,(he.alloc _).grown hgrow (fun k hk=>HBK.out k hk)⟩;rw[cellsU_append];rw[HE0.out]at hown';exact hown'
    case measure=>simp[intOf]<;>omega
  obtain rfl:k=xs.length:=by omega
  have hsum:Nm.val (os++[s])=a*2^m:=by
    rw[Nm.val_snoc,HL.out,HV.out,Nm.val_take_len (Nat.le_refl _),HXV.out]
  have HSUM:=zH hsum;clear hsum;go_wp2_with (at_builtin;refine wpList_append_own _ rfl _ _ 26 rfl w.heap.size 96 i0 (.int .u32 0) 1 4 Tryz.underlying26 hi hz0 hz1 hz2 rfl (by decide) _ _ _ rfl (hown.alloc _) ⟨wr.heap.size,0,none⟩ 1 1 [.int .u32 (s:Int)] rfl rfl (one_new _ _ _) (by simp[Value.oneCell']) (by unfold maxLen;omega) (by omega) (by simp;omega) ?_;intro v' w2 hown' hgrow _)
  have hl2:(os++[s]).length=xs.length+1:=by rw[List.length_append,HL.out];rfl
  refine(rnormal_any v' (xs.length+1) (a*2^m) w2 ⟨os++[s],owns_dig (base:=w.heap.size) (by rw[hl2,cellsU_append];exact hown') (HO.out.append (Nm.Dg.cons (by omega) Nm.Dg.nil)),HSUM.out,by omega⟩ (by omega)).mono ?_;rintro e w3 ⟨v3,rfl,hc,he3⟩;have HC:=zH hc;clear hc hl2;have HE2:=zH ((he.alloc _).grown hgrow (fun k hk=>HBK.out k hk));go_wp2_with fail
  go_ret
  exact⟨v3,rfl,HC.out,HE2.out.trans he3⟩
theorem Nm.snoc_shr {xs os:List Nat}{i k:Nat}(hd:Nm.Dg xs)(hk:k<32)(hol:os.length=i)(hix:i<xs.length)(h:Nm.val os=(Nm.val xs/2^k)%4294967296^i)(x y:Nat)(hx:xs.getD i 0=x)(hy:xs.getD (i+1) 0=y):
    Nm.val (os++[(x+y*4294967296)/2^k%4294967296])=(Nm.val xs/2^k)%4294967296^(i+1):=by
  have e:=Nm.shr_round (os:=os++[0]) (i:=i) hd hk (by simp[hol]) hix (by rw[List.take_append_of_le_length (by omega),List.take_of_length_le (by omega)];exact h) x y hx hy;rw[<-e];congr 1;subst hol;rw[List.take_of_length_le]<;>simp
theorem ref_slot (x y k:Nat):((y:Int)*4294967296+x)/2^k%4294967296=(((x+y*4294967296)/2^k%4294967296:Nat):Int):=by
  rw[Int.natCast_emod,Int.natCast_ediv,Int.natCast_pow,Int.natCast_add,Int.natCast_mul,Int.add_comm];rfl
theorem rshl_any (u:Value)(L a k:Nat)(w:World)(hu:NatIn L w u a)(hL:L<=400000)(hk:k<32):
    Calls Tryz.prog 148 #[u,.int .i64 k] w (RetC (a*2^k) w):=by
  have S1:=zH (up_any u L a k w hu hL hk);have q3:min (k:Int) 4096=k:=by omega
  have q4:decide ((0:Int)<=(k:Int))=true:=by simp
  clear hu;go_enter Tryz.func148,Tryz.ntmps148
  go_wp2_with fail
  refine S1.out.mono ?_;rintro e w1 ⟨u1,rfl,hx,he⟩;go_wp2_with fail
  go_ret
  exact⟨u1,rfl,hx,he⟩
theorem rshr_any (u:Value)(L a k:Nat)(w:World)(hu:NatIn L w u a)(hL:L<=400000)(hk:k<32)(hk0:0<k):
    Calls Tryz.prog 148 #[u,.int .i64 (-(k:Int))] w (RetC (a/2^k) w):=by
  obtain⟨xs,hx,hxv,hxl⟩:=hu;have HDX:=zH hx.dg;have HX0:=zH hx;obtain⟨p,cp,rfl,hcp,_,_⟩:=hx;have HXV:=zH hxv;clear hxv;obtain⟨i0,hi,hz0,hz1,hz2⟩:=info_parts infoU;have q1:(k:Int)/32=0:=by omega
  have q2:(k:Int)%32=k:=by omega
  by_cases hn0:xs.length=0
  · have hv0:a/2^k=0:=by
      rw[<-HXV.out,List.eq_nil_of_length_eq_zero hn0];exact Nat.zero_div _
    have HV0:=zH hv0;clear hv0;have bb:decide (-(k:Int)< -32*(xs.length:Int))=true:=by simp;omega
    have bb1:decide (k=0)=false:=by simp;omega
    go_enter Tryz.func148,Tryz.ntmps148
    go_wp2_with fail
    go_ret
    rw[HV0.out];refine⟨_,rfl,?_,(Ext.refl _).alloc _⟩;unfold NatC;rw[Nm.digs_zero];exact(OwnU.start w).dig Nm.Dg.nil
  have bb:decide (-(k:Int)< -32*(xs.length:Int))=false:=by simp;omega
  have bb1:decide (k=0)=false:=by simp;omega
  go_enter Tryz.func148,Tryz.ntmps148
  go_wp2_with fail
  clear bb bb1 q1;go_loopw [5,6] (fun o i wr=>∃j:Nat,∃os:List Nat,j<=xs.length/\i= .int .i64 j/\os.length=j/\Nm.Dg os/\wr.ownsRow w.heap.size 96 1 o j (cellsU os)/\Nm.val os=(Nm.val xs/2^k)%4294967296^j/\Ext w wr) (fun _ i _=>xs.length-(intOf i).toNat)
  case atStart=>exact⟨0,[],Nat.zero_le _,rfl,rfl,Nm.Dg.nil,OwnU.start w,by simp[Nm.val,Nat.mod_one],(Ext.refl _).alloc _⟩
  obtain⟨j,os,hj,rfl,hol,hod,hown,hv,he⟩:=hrel;have HV:=zH hv;have HO:=zH hod;have HL:=zH hol;have HBK:=zH (OwnU.block (show OwnU wr w.heap.size _ os by unfold OwnU;rw[hol];exact hown));have hsz:=he.size;clear hv hod hol;by_cases hlt:j<xs.length
  · have d1:∀i:Int,i=(j:Int)->Calls Tryz.prog 145 #[.slice p xs.length cp,.int .i64 i] wr fun e w'=>e= .returned (.int .u64 (xs.getD j 0:Nat))/\wr=w':=fun i h=>by
      subst h;exact rdigit_any _ xs j wr (HX0.out.ext he) (by omega) (by omega)
    have d2:∀i:Int,i=((j+1:Nat):Int)->Calls Tryz.prog 145 #[.slice p xs.length cp,.int .i64 i] wr fun e w'=>e= .returned (.int .u64 (xs.getD (j+1) 0:Nat))/\wr=w':=fun i h=>by
      subst h;exact rdigit_any _ xs ((j+1:Nat):Int) wr (HX0.out.ext he) (by omega) (by omega)
    have b1:=HDX.out.getD j;have b2:=HDX.out.getD (j+1);have HR:=zH (Nm.snoc_shr HDX.out hk HL.out hlt HV.out);generalize hgx:xs.getD j 0=x at d1 b1
    generalize hgy:xs.getD (j+1) 0=y at d2 b2
    have HR2:=zH (HR.out x y hgx hgy);have D1:=zH d1;have D2:=zH d2;clear hgx hgy HR d1 d2;go_wp2_with fail
    refine(D2.out _ (by omega)).mono ?_;rintro e w2 ⟨rfl,rfl⟩;go_wp2_with fail
    refine(D1.out _ (by omega)).mono ?_;rintro e w2 ⟨rfl,rfl⟩;go_wp2_with (at_builtin;refine wpList_append_own _ rfl _ _ 26 rfl w.heap.size 96 i0 (.int .u32 0) 1 4 Tryz.underlying26 hi hz0 hz1 hz2 rfl (by decide) _ _ _ rfl (hown.alloc _) ⟨wr.heap.size,0,none⟩ 1 1 [.int .u32 (((y:Int)*4294967296+x)/2^k%4294967296)] rfl rfl (one_new _ _ _) (by simp[Value.oneCell']) (by unfold maxLen;omega) (by omega) (by simp;omega) ?_;intro v' w2 hown' hgrow _)
    go_roundw
    case rel=>
      refine⟨j+1,os++[(x+y*4294967296)/2^k%4294967296],by omega,by go_num,by rw[List.length_append,HL.out];rfl,HO.out.append (Nm.Dg.cons (Nat.mod_lt _ (by omega)) Nm.Dg.nil),?_,HR2.out,(he.alloc _).grown hgrow (fun k hk=>HBK.out k hk)⟩;rw[cellsU_append];rw[ref_slot x y k]at hown';exact hown'
    case measure=>simp[intOf]<;>omega
  obtain rfl:j=xs.length:=by omega
  have hvv:Nm.val os=a/2^k:=by
    rw[HV.out,HXV.out];exact Nat.mod_eq_of_lt (Nat.lt_of_le_of_lt (Nat.div_le_self _ _) (by rw[<-HXV.out];exact Nm.val_lt_pow HDX.out (Nat.le_refl _)))
  have S1:=zH (rnormal_any _ xs.length (a/2^k) wr ⟨os,OwnU.dig (B:=w.heap.size) (by unfold OwnU;rw[HL.out];exact hown) HO.out,hvv,by rw[HL.out];exact Nat.le_refl _⟩ (by omega));clear hvv;go_wp2_with fail
  refine S1.out.mono ?_;rintro e w2 ⟨v2,rfl,hc,he2⟩;go_wp2_with fail
  go_ret
  exact⟨v2,rfl,hc,he.trans he2⟩
theorem Nm.half_done {x j:Nat}(hx0:x≠0)(hx:x<4294967296)(h:x/2^j=0)(hp:j=0\/x/2^(j-1)≠0):
    1<=j/\j<=32/\2147483648<=x*2^(32-j)/\(x+1)*2^(32-j)<=4294967296:=by
  have hlt:x<2^j:=by
    rcases Nat.lt_or_ge x (2^j)with h1|h1
    · exact h1
    have:=(Nat.div_pos h1 (Nat.two_pow_pos j));omega
  have hj:j≠0:=by
    rintro rfl;simp at hlt;exact hx0 hlt
  have hge:2^(j-1)<=x:=by
    rcases hp with h1|h1
    · exact absurd h1 hj
    rcases Nat.lt_or_ge x (2^(j-1))with h2|h2
    · exact absurd (Nat.div_eq_of_lt h2) h1
    exact h2
  have hj32:j<=32:=by
    rcases Nat.lt_or_ge 32 j with h1|h1
    · have:2^32<=2^(j-1):=Nat.pow_le_pow_right (by omega) (by omega)
      have h2:(2:Nat)^32=4294967296:=by decide
      omega
    exact h1
  have e1:2^(j-1)*2^(32-j)=2147483648:=by
    rw[<-Nat.pow_add,show j-1+(32-j)=31 by omega]
  have e2:2^j*2^(32-j)=4294967296:=by
    rw[<-Nat.pow_add,show j+(32-j)=32 by omega]
  have m1:=Nat.mul_le_mul_right (2^(32-j)) hge;have m2:=Nat.mul_le_mul_right (2^(32-j)) (show x+1<=2^j by omega);rw[e1]at m1;rw[e2]at m2;exact⟨by omega,hj32,m1,m2⟩
def RetBR (n:Nat)(w:World)(e:Ending)(w':World):Prop:=
  ∃j m:Nat,e= .returned (.int .i64 (32*(m:Int)+j))/\Nm.nl n=m+1/\1<=j/\j<=32/\2147483648<=(Nm.digs n).getD m 0*2^(32-j)/\((Nm.digs n).getD m 0+1)*2^(32-j)<=4294967296/\Ext w w'
theorem rbitLen_any (u:Value)(L a:Nat)(w:World)(hu:NatIn L w u a)(hL:L<=300000)(h0:a≠0):
    Calls Tryz.prog 147 #[u] w (RetBR a w):=by
  have hna:=hu.nl;have S1:=zH (rnormal_any u L a w hu (by omega));have hdd:=Nm.dg_digs a;have ht:=Nm.tight_digs a;obtain⟨m,hm⟩:∃m,(Nm.digs a).length=m+1:=by
    have:=Nm.nl_eq_zero (n:=a);unfold Nm.nl at this;exact⟨(Nm.digs a).length-1,by omega⟩
  have htop:(Nm.digs a).getD m 0≠0:=by
    have:=ht (by intro h;rw[h]at hm;cases hm);rw[List.getLast_eq_getElem]at this;rw[Nm.getD_eq (by omega)];simpa[hm]using this
  have hxt:=hdd.getD m;have hml:m+1<=L:=by unfold Nm.nl at hna;omega
  unfold RetC NatC at S1;unfold RetBR Nm.nl;clear ht hna hu h0;generalize Nm.digs a=xs at S1 hm htop hxt hdd⊢
  have HM:=zH hm;generalize hgx:xs.getD m 0=x at htop hxt⊢
  have HGX:=zH hgx;have HDD:=zH hdd;have HTOP:=zH htop;clear hgx hm hdd htop;go_enter Tryz.func147,Tryz.ntmps147
  go_wp2_with fail
  refine S1.out.mono ?_;rintro e w1 ⟨u1,rfl,hx,he⟩;obtain⟨p,cap,rfl,hcap,_,hp⟩:=hx;rw[HM.out]at hp hcap⊢;obtain⟨b,o,rfl,hb⟩:=hp (by omega);have c0:=hb m (by omega);rw[HGX.out]at c0;clear hp hb S1;have g0:((m:Int)+1==0)=false:=beq_eq_false_iff_ne.2 (by omega);go_wp2_with fail
  go_loop [4,5] (fun n v=>∃j t:Nat,n= .int .i64 (32*(m:Int)+j)/\v= .int .u32 t/\t=x/2^j/\(j=0\/x/2^(j-1)≠0)) (fun _ v=>(intOf v).toNat)
  case atStart=>exact⟨0,x,by simp<;>omega,rfl,by simp,.inl rfl⟩
  obtain⟨j,t,rfl,rfl,ht,hj⟩:=hrel;have HT:=zH ht;have HJ:=zH hj;have hj32:j<=32:=by
    rcases Nat.lt_or_ge 32 j with h1|h1
    · exfalso
      rcases hj with h2|h2
      · omega
      refine h2 (Nat.div_eq_of_lt (Nat.lt_of_lt_of_le hxt ?_));exact Nat.le_trans (show 4294967296<=2^32 by decide) (Nat.pow_le_pow_right (by omega) (by omega))
    exact h1
  have htx:t<=x:=by rw[ht];exact Nat.div_le_self _ _
  clear ht hj;by_cases h0:t=0
  · subst h0
    have HD:=zH (Nm.half_done HTOP.out hxt HT.out.symm HJ.out);go_wp2_with fail
    go_ret
    obtain⟨d1,d2,d3,d4⟩:=HD.out;have HGX2:=HGX.out;rw[List.getD_eq_getElem?_getD]at HGX2;exact⟨j,m,rfl,HM.out,d1,d2,by rw[HGX2];exact d3,by rw[HGX2];exact d4,he⟩
  have HN:=zH (show t/2=x/2^(j+1)by rw[HT.out,Nat.div_div_eq_div_mul,Nat.pow_succ]);have HN2:=zH (show x/2^(j+1-1)≠0 by rw[Nat.add_sub_cancel,<-HT.out];exact h0);have g1:decide ((0:Int)<(t:Int))=true:=by simp;omega
  go_wp2_with fail
  go_round
  case rel=>exact⟨j+1,t/2,by go_num,by go_num,HN.out,.inr HN2.out⟩
  case measure=>simp[intOf]<;>omega
theorem Nm.most_le {xs ys:List Nat}{m:Nat}(hx:Nm.Dg xs)(hy:ys.length=m+1)(hr:Nm.val xs<4294967296*Nm.val ys)(hyd:Nm.Dg ys)(ht:ys.getD m 0≠0):
    Nm.val xs/Nm.val ys<=(xs.getD (m+1) 0*4294967296+xs.getD m 0)/ys.getD m 0:=by
  have hv:Nm.val ys=Nm.val (ys.take m)+4294967296^m*ys.getD m 0:=by
    rw[<-Nm.val_take_succD,Nm.val_take_len (by omega)]
  have hlt:Nm.val xs<4294967296^(m+2):=by
    have h1:=Nm.val_lt_pow hyd (Nat.le_of_eq hy);have h2:(4294967296:Nat)^(m+2)=4294967296*4294967296^(m+1):=by rw[Nat.pow_succ _ (m+1),Nat.mul_comm]
    rw[h2];exact Nat.lt_of_lt_of_le hr (Nat.mul_le_mul_left _ (Nat.le_of_lt h1))
  have hxv:Nm.val xs=Nm.val (xs.take m)+4294967296^m*(xs.getD m 0+4294967296*xs.getD (m+1) 0):=by
    rw[<-Nm.val_take_of_lt hlt,Nm.val_take_succD,Nm.val_take_succD,Nat.pow_succ,Nat.mul_add,Nat.mul_assoc,Nat.add_assoc]
  have hq:=Nat.div_mul_le_self (Nm.val xs) (Nm.val ys);have hlo:=Nm.val_take_lt hx m;have hpp:=Nm.pow_pos32 m;generalize Nm.val xs/Nm.val ys=q at hq⊢
  rw[Nat.le_div_iff_mul_le (by omega)];rw[Nat.mul_comm (xs.getD (m+1) 0),Nat.add_comm];generalize xs.getD m 0+4294967296*xs.getD (m+1) 0=X at hxv⊢
  generalize ys.getD m 0=y at hv⊢
  have h3:4294967296^m*(q*y)<4294967296^m*(X+1):=by
    have h4:4294967296^m*(q*y)<=q*Nm.val ys:=by
      rw[hv,Nat.mul_add,Nat.mul_left_comm];exact Nat.le_add_left _ _
    rw[Nat.mul_add];omega
  have:=Nat.lt_of_mul_lt_mul_left h3;omega
def RetOf (r b:Nat)(w:World)(e:Ending)(w':World):Prop:=∃v,e= .returned (.tuple #[.int .u64 ((r/b:Nat):Int),v])/\NatC w' v (r%b)/\(∀k,v.ownBlock=some k->w.heap.size<=k)/\Ext w w'
theorem Nm.less_once {d b r:Nat}(h:r<b*d):1<=d/\b<=b*d/\b*d-b=b*(d-1):=by
  have hd:d≠0:=by rintro rfl;omega
  obtain⟨e,rfl⟩:∃e,d=e+1:=⟨d-1,by omega⟩;rw[Nat.mul_succ];exact⟨by omega,by omega,by simp⟩
theorem often_any (u v:Value)(L r b:Nat)(w:World)(hu:NatIn L w u r)(hv:NatC w v b)(hL:L<=300000)(hbL:Nm.nl b<=L)(h0:b≠0)(hr:r<4294967296*b):
    Calls Tryz.prog 149 #[u,v] w (RetOf r b w):=by
  have HT:=zH (fun w' (h:Ext w w') (d:Nat) (hd:d<4294967296)=>times_any v L b d w' ((hv.ext h).isIn hbL) (by omega) hd);have HC:=zH (fun p c w' (h:Ext w w') (hp:NatIn (L+1) w' p c)=>rncmp_any p u (L+1) c r w' hp ((hu.ext h).mono (by omega)) (by omega));have HS:=zH (fun p c w' (h:Ext w w') (hp:NatIn (L+1) w' p c)=>rnsubF_any p v (L+1) c b w' hp (((hv.ext h).isIn hbL).mono (by omega)) (by omega));have HS2:=zH (fun p c w' (h:Ext w w') (hp:NatIn (L+1) w' p c)=>rnsubF_any u p (L+1) r c w' ((hu.ext h).mono (by omega)) hp (by omega));have hna:=hu.nl;obtain⟨xs,hx,hxv,hxl⟩:=hu;have HDX:=zH hx.dg;have hdd:=Nm.dg_digs b;have hyv:=Nm.val_digs b;have ht:=Nm.tight_digs b;obtain⟨m,hm⟩:∃m,(Nm.digs b).length=m+1:=by
    have:=Nm.nl_eq_zero (n:=b);unfold Nm.nl at this;exact⟨(Nm.digs b).length-1,by omega⟩
  have htop:(Nm.digs b).getD m 0≠0:=by
    have:=ht (by intro h;rw[h]at hm;cases hm);rw[List.getLast_eq_getElem]at this;rw[Nm.getD_eq (by omega)];simpa[hm]using this
  have hxt:=hdd.getD m;have hml:m+1<=L:=by unfold Nm.nl at hbL;omega
  have HG:=zH (Nm.most_le hx.dg hm (by rw[hxv,hyv];exact hr) hdd htop);rw[hxv,hyv]at HG;unfold NatC at hv;have D1:Hid (∀w',Ext w w'->∀i:Int,i=(m:Int)+1->Calls Tryz.prog 145 #[u,.int .i64 i] w' fun e wr=>e= .returned (.int .u64 ((xs.getD ((m:Int)+1).toNat 0:Nat):Int))/\w'=wr):=zH (fun w' h i hi=>by
    subst hi;exact rdigit_any u xs ((m:Int)+1) w' (hx.ext h) (by omega) (by omega))
  have D2:Hid (∀w',Ext w w'->∀i:Int,i=(m:Int)->Calls Tryz.prog 145 #[u,.int .i64 i] w' fun e wr=>e= .returned (.int .u64 ((xs.getD ((m:Int)).toNat 0:Nat):Int))/\w'=wr):=zH (fun w' h i hi=>by
    subst hi;exact rdigit_any u xs ((m:Int)) w' (hx.ext h) (by omega) (by omega))
  have hx1:=hx.dg.getD (m+1);have hx0:=hx.dg.getD m;rw[show((m:Int)+1).toNat=m+1 by omega]at D1;rw[show(m:Int).toNat=m by omega]at D2;obtain⟨p,cap,rfl,hcap,_,hp⟩:=hv;rw[hm]at hp hcap HT HS⊢;obtain⟨bb,o,rfl,hb⟩:=hp (by omega);have c0:∀w',Ext w w'->w'.cell? ⟨bb,o+m,none⟩=some (.int .u32 (((Nm.digs b).getD m 0:Nat):Int)):=fun w' h=>h.get (hb m (by omega))
  clear hp hb hyv ht hx hdd hm;generalize (Nm.digs b).getD m 0=y at c0 HG htop hxt
  generalize xs.getD (m+1) 0=x1 at D1 hx1 HG
  generalize xs.getD m 0=x0 at D2 hx0 HG
  have HR:=zH hr;have HDQ:=zH (show r/b<4294967296 by rw[Nat.div_lt_iff_lt_mul (by omega)];exact hr);have HB0:=zH h0;clear hr h0 hxv;have hw0:IntKind.u64.wrap (y:Int)=y:=IntWalk.u64_in _ (by omega);have hw1:IntKind.i64.wrap (m:Int)=m:=IntWalk.i64_in _ (by omega);have hw2:(0:Int)<=(m:Int):=by omega
  have hw3:(m:Int)<(m:Int)+1:=by omega
  have hw4:IntKind.u64.wrap ((x1:Int)*4294967296)=(x1:Int)*4294967296:=IntWalk.u64_in _ (by omega);have hw5:IntKind.u64.wrap ((x1:Int)*4294967296+x0)=(x1:Int)*4294967296+x0:=IntWalk.u64_in _ (by omega);obtain⟨q,hq⟩:∃q,q=(x1*4294967296+x0)/y:=⟨_,rfl⟩;rw[<-hq]at HG;have hqb:q<=18446744073709551615:=by rw[hq];exact Nat.le_trans (Nat.div_le_self _ _) (by omega)
  have hqi:((x1:Int)*4294967296+x0)/y=(q:Int):=by rw[hq,Int.natCast_ediv];rfl
  clear hq;have HQI:=zH hqi;clear hqi;have e0:Ext w w:=Ext.refl _;go_enter Tryz.func149,Tryz.ntmps149
  go_wp2_with fail
  go_region_held3 (fun w'=>Ext w w') (first|assumption|exact Ext.drew (Ext.refl _)|(apply Ext.via;assumption;assumption))
    (first|(go_at_call 145;((with_reducible refine(D1.out _ (by first|assumption|exact Ext.drew (Ext.refl _)) _ (by omega)).mono ?_));rintro e wx ⟨rfl,rfl⟩)|(go_at_call 145;((with_reducible refine(D2.out _ (by first|assumption|exact Ext.drew (Ext.refl _)) _ (by omega)).mono ?_));rintro e wx ⟨rfl,rfl⟩))
  clear hw0 hw1 hw2 hw3 hw4 hw5 c0 D1 D2;obtain⟨d0,hd0⟩:∃d0,d0=min q 4294967295:=⟨_,rfl⟩;have hmin:min (((x1:Int)*4294967296+x0)/y) 4294967295=(d0:Int):=by rw[HQI.out];omega
  have HMIN:=zH hmin;clear hmin;have hd1:d0<4294967296:=by omega
  have HD0:=zH (show r/b<=d0 by have h1:=HG.out;have h2:=HDQ.out;omega);have S1:=zH (HT.out _ ((Ext.refl w).drew) d0 hd1);have hxw:Ext w w.drew:=(Ext.refl w).drew;clear hd0 hqb HG HT;go_wp2_with fail
  rw[HMIN.out];refine S1.out.mono ?_;rintro e w2 ⟨p1,rfl,hc1,he1⟩;have HP1:=zH (hc1.isIn (Nat.le_trans (Nm.nl_mul b d0) (show Nm.nl b+Nm.nl d0<=L+1 by have:=Nm.nl_le (n:=d0) (k:=1) (by omega);omega)));have hx2:=hxw.trans he1;clear hc1 S1;go_wp2_with fail
  go_loopw [8,9] (fun dv pv wr=>∃d:Nat,dv= .int .u64 d/\d<4294967296/\NatIn (L+1) wr pv (b*d)/\r/b<=d/\Ext w wr) (fun dv _ _=>(intOf dv).toNat)
  case atStart=>exact⟨d0,rfl,hd1,HP1.out,HD0.out,hx2⟩
  obtain⟨d,rfl,hd,hp,hge,he⟩:=hrel;have HGE:=zH hge;have HP:=zH hp;have C1:=zH (HC.out _ _ _ he hp);clear hge hp;by_cases hlt:r<b*d
  · obtain⟨l1,l2,l3⟩:=Nm.less_once hlt
    rw[cmpV_gt (by omega)]at C1;have hge2:r/b<=d-1:=by
      have h1:=Nat.div_mul_le_self r b;have h2:r/b≠d:=by
        intro h3;rw[h3,Nat.mul_comm]at h1;omega
      have:=HGE.out;omega
    have HGE2:=zH hge2;have S2:=zH (fun pv w' (h:Ext w w') (hp:NatIn (L+1) w' pv (b*d))=>HS.out pv (b*d) w' h hp);have HLT:=zH hlt;have HL2:=zH (And.intro l2 l3);clear hge2 hlt l2 l3;go_wp2_with fail
    refine C1.out.mono ?_;rintro e w3 ⟨rfl,he3⟩;go_wp2_with fail
    refine(S2.out _ _ (he.trans he3) (HP.out.ext he3)).mono ?_;rintro e w4 (⟨_,p4,rfl,hc4,_,he4⟩|⟨hbad,_⟩)
    · have hnl:Nm.nl (b*d-b)<=L+1:=Nat.le_trans (Nm.nl_mono (Nat.sub_le _ _)) HP.out.nl
      have HP4:=hc4.isIn hnl;rw[HL2.out.2]at HP4;have HP5:=zH HP4;clear hc4 hnl HP4;go_wp2_with fail
      go_roundw
      case rel=>exact⟨d-1,by go_num,by omega,HP5.out,HGE2.out,(he.trans he3).trans he4⟩
      case measure=>simp[intOf]<;>omega
    exact absurd HL2.out.1 (by omega)
  have hle:cmpV ((b*d:Nat):Int) (r:Int)<=0:=by
    rcases Nat.lt_or_ge (b*d) r with h|h
    · rw[cmpV_lt (by omega)];omega
    rw[show b*d=r by omega,cmpV_eq];omega
  have hdv:d=r/b:=by
    have h1:d<=r/b:=by
      rw[Nat.le_div_iff_mul_le (Nat.pos_of_ne_zero HB0.out),Nat.mul_comm];omega
    exact Nat.le_antisymm h1 HGE.out
  generalize cmpV ((b*d:Nat):Int) (r:Int)=c at C1 hle
  have hm:r-b*d=r%b:=by
    rw[hdv];have:=Nat.div_add_mod r b;omega
  have HDV:=zH hdv;have HM:=zH hm;have HLE:=zH (Nat.le_of_not_lt hlt);have S2:=zH (fun pv w' (h:Ext w w') (hp:NatIn (L+1) w' pv (b*d))=>HS2.out pv (b*d) w' h hp);clear hdv hm hlt;go_wp2_with fail
  refine C1.out.mono ?_;rintro e w3 ⟨rfl,he3⟩;go_wp2_with fail
  refine(S2.out _ _ (he.trans he3) (HP.out.ext he3)).mono ?_;rintro e w4 (⟨_,p4,rfl,hc4,hf4,he4⟩|⟨hbad,_⟩)
  · rw[HM.out]at hc4
    have HC4:=zH hc4;have HF4:=zH hf4;clear hc4 hf4;go_wp2_with fail
    go_ret2
    unfold RetOf;rw[<-HDV.out];exact⟨_,rfl,HC4.out,fun k hk=>Nat.le_trans (he.trans he3).size (HF4.out k hk),(he.trans he3).trans he4⟩
  exact absurd HLE.out (by omega)
theorem OwnU.one (w:World)(x:Nat):OwnU (w.alloc (.cells #[.int .u32 (x:Int)] 96)) w.heap.size (.slice (some ⟨w.heap.size,0,none⟩) 1 1) [x]:=
  ⟨by simp[cellsU],.inr ⟨w.heap.size,1,#[.int .u32 (x:Int)],rfl,Nat.le_refl _,heap_alloc_new w _,Nat.le_refl _,by unfold maxLen;omega,by simp,by simp[cellsU]⟩⟩
theorem NatC.far {w:World}{v:Value}{n B:Nat}(h:NatC w v n)(hf:∀k,v.ownBlock=some k->B<=k){p:Addr}(hp:p.block<B)(u:Value):NatC (w.setCell p u) v n:=by
  obtain⟨q,cap,rfl,hc,hd,hq⟩:=h;refine⟨q,cap,rfl,hc,hd,fun h0=> ?_⟩;obtain⟨b,o,rfl,hb⟩:=hq h0;have hB:=hf b rfl;refine⟨b,o,rfl,fun i hi=> ?_⟩;rw[World.cell?_setCell_far _ _ _ _ (by show p.block≠b;omega)];exact hb i hi
theorem Nm.nl_shl (a k:Nat)(hk:k<32):Nm.nl (a*2^k)<=Nm.nl a+1:=by
  have h2:2^k<4294967296^1:=Nat.lt_of_le_of_lt (Nat.pow_le_pow_right (by omega) (show k<=31 by omega)) (by decide);have h3:=Nm.nl_le h2;have:=Nm.nl_mul a (2^k);omega
theorem Nm.divmod_shl (a b k:Nat):(a*2^k)/(b*2^k)=a/b/\(a*2^k)%(b*2^k)=a%b*2^k:=
  ⟨Nat.mul_div_mul_right a b (Nat.two_pow_pos k),Nat.mul_mod_mul_right (2^k) a b⟩
theorem Nm.next_lt {x r V:Nat}(hx:x<4294967296)(hr:r<V):x+4294967296*r<4294967296*V:=by
  have:=Nat.mul_le_mul_left 4294967296 (show r+1<=V by omega);omega
theorem rdivmod_any (u v:Value)(L a b:Nat)(w:World)(hu:NatIn L w u a)(hv:NatIn L w v b)(hL:L<=200000)(hb:b≠0):
    Calls Tryz.prog 122 #[u,v] w (RetDM (a/b) (a%b) w):=by
  have hnb:=hv.nl;have S1:=zH (rnormal_any v L b w hv (by omega));have S2:=zH (fun p w' (h:NatC w' p b)=>rbitLen_any p L b w' (h.isIn hnb) (by omega) hb);have SA:=zH (fun w' (h:Ext w w') (k:Nat) (hk:k<32)=>rshl_any u L a k w' (hu.ext h) (by omega) hk);have SB:=zH (fun p w' (h:NatC w' p b) (k:Nat) (hk:k<32)=>rshl_any p L b k w' (h.isIn hnb) (by omega) hk);have HB:=zH hb;have hna:=hu.nl;obtain⟨i0,hi,hz0,hz1,hz2⟩:=info_parts infoU;obtain⟨mb,hmb⟩:∃mb,Nm.nl b=mb+1:=by
    have:=Nm.nl_eq_zero (n:=b);exact⟨Nm.nl b-1,by omega⟩
  have HMB:=zH hmb;have HNB:=zH hnb;have HNA:=zH hna;have hmbL:mb+1<=L:=by omega
  clear hu hv hb hmb hna hnb;go_enter Tryz.func122,Tryz.ntmps122
  go_wp2_with fail
  refine S1.out.mono ?_;rintro e w1 ⟨t,rfl,ht,he1⟩;obtain⟨pt,ct,rfl⟩:=ht.form;rw[HMB.out]at ht⊢;have HT:=zH ht;have g0:((mb:Int)+1==0)=false:=beq_eq_false_iff_ne.2 (by omega);clear ht S1;go_wp2_with fail
  refine(S2.out _ _ HT.out).mono ?_;rintro e w2 ⟨j,m,rfl,hm,hj1,hj2,_,_,he2⟩;obtain rfl:m=mb:=by have:=HMB.out;omega
  clear hm S2;go_wp2_with fail
  obtain⟨k,hk⟩:∃k,k=32-j:=⟨_,rfl⟩;rw[show 32*((m:Int)+1)-(32*(m:Int)+j)=(k:Int)by omega];have hk32:k<32:=by omega
  have HE2:=zH (he1.trans he2);clear hk hj1 hj2;refine(SA.out _ HE2.out k hk32).mono ?_;rintro e w3 ⟨pu,rfl,hu,he3⟩;have HU:=zH hu;clear hu;go_wp2_with fail
  refine(SB.out _ _ (HT.out.ext (he2.trans he3)) k hk32).mono ?_;rintro e w4 ⟨pv,rfl,hv,he4⟩;have HV:=zH hv;obtain⟨pu0,cu,rfl⟩:=HU.out.form;have HD:=zH (Nm.divmod_shl a b k);have HVL:=zH (Nat.le_trans (Nm.nl_shl b k hk32) (Nat.add_le_add_right HNB.out 1));have hnu:=Nat.le_trans (Nm.nl_shl a k hk32) (Nat.add_le_add_right HNA.out 1);have HVP:=zH (Nat.mul_pos (Nat.pos_of_ne_zero HB.out) (Nat.two_pow_pos k));have HE4:=zH ((HE2.out.trans he3).trans he4);have HUS:=zH (show DigS w4 (.slice pu0 (Nm.nl (a*2^k)) cu) (Nm.digs (a*2^k))from HU.out.ext he4);have hdu:=Nm.dg_digs (a*2^k);have hvu:=Nm.val_digs (a*2^k);unfold Nm.nl at hnu HUS⊢;generalize a*2^k=U0 at HD HUS hdu hvu hnu⊢
  generalize b*2^k=V0 at HD HVL HVP HV
  generalize Nm.digs U0=us at HUS hdu hvu hnu⊢
  have HDU:=zH (And.intro hdu hvu);clear hdu hvu hv HU SA SB;obtain⟨n,hn⟩:∃n,n=us.length:=⟨_,rfl⟩;rw[<-hn]at HUS hnu⊢;have HN:=zH hn;clear hn;have hmk:=fun w=>mk_digits n (by omega) (n:Int) rfl w
  go_wp2_with fail
  clear hmk;obtain⟨wq,hwq⟩:∃wq,wq=w4.alloc (.cells (cellsU (List.replicate n 0)).toArray 96):=⟨_,rfl⟩;go_loopw [12,13] (fun rv i wr=>∃j r:Nat,∃qs:List Nat,j<=n/\i= .int .i64 ((j:Int)-1)/\NatC wr rv r/\(∀k,rv.ownBlock=some k->w4.heap.size+1<=k)/\r<V0/\qs.length=n/\Nm.Dg qs/\BlkU wr w4.heap.size qs/\Nm.val (qs.drop j)*V0+r=Nm.val (us.drop j)/\Ext w4 wr) (fun _ i _=>(intOf i+1).toNat)
  case atStart=>
    refine⟨n,0,List.replicate n 0,Nat.le_refl _,rfl,?_,?_,HVP.out,by simp,Nm.Dg.zeros _,(blkU_new w4 _).ext ((Ext.refl _).alloc _),?_,((Ext.refl _).alloc _).alloc _⟩
    · unfold NatC
      rw[Nm.digs_zero];exact⟨_,0,rfl,Nat.le_refl _,Nm.Dg.nil,fun h0=>absurd rfl (Nat.ne_of_lt h0).symm⟩
    · intro k hk
      simp[Value.ownBlock]at hk;omega
    rw[List.drop_of_length_le (by simp),List.drop_of_length_le (by rw[HN.out];exact Nat.le_refl _)];simp[Nm.val]
  obtain⟨j,r,qs,hj,rfl,hr,hrf,hlt,hql,hqd,hbq,hsum,he⟩:=hrel;have HR:=zH hr;have HRF:=zH hrf;have HLT:=zH hlt;have HQL:=zH hql;have HQD:=zH hqd;have HBQ:=zH hbq;have HSUM:=zH hsum;clear hr hrf hlt hql hqd hbq hsum;match j,hj,HSUM with
  | 0,hj,HSUM=>
    have hed:=Nm.div_of HLT.out HSUM.out;rw[List.drop_zero,List.drop_zero,HDU.out.2,HD.out.1,HD.out.2]at hed;have S1:=zH (rnormal_any (.slice (some ⟨w4.heap.size,0,none⟩) qs.length n) qs.length (a/b) wr ⟨qs,HBQ.out.dig HQD.out _ (Nat.le_of_eq HQL.out),hed.1,Nat.le_refl _⟩ (by rw[HQL.out];omega));rw[HQL.out]at S1;have hrc:=HR.out;rw[hed.2]at hrc;have HRC:=zH hrc;have HED:=zH hed;clear hrc hed;go_wp2_with fail
    refine S1.out.mono ?_;rintro e w6 ⟨qv,rfl,hq,he6⟩;have HQV:=zH hq;clear hq;have hnr:Nm.nl (a%b*2^k)<=L+1:=by
      rw[<-HED.out.2];exact Nat.le_trans (Nm.nl_mono (Nat.le_of_lt HLT.out)) HVL.out
    have HRI:=zH ((HRC.out.isIn hnr).ext he6);clear hnr;go_wp2_with fail
    by_cases hk0:k=0
    · have S2:=rshl_any _ (L+1) _ 0 w6 HRI.out (by omega) (by omega)
      rw[show a%b*2^k*2^0=a%b by rw[hk0,Nat.pow_zero,Nat.mul_one,Nat.mul_one]]at S2;rw[show-(k:Int)=((0:Nat):Int)by omega];refine S2.mono ?_;rintro e w7 ⟨pr,rfl,hr,he7⟩;go_wp2_with fail
      go_ret3
      exact⟨_,_,rfl,HQV.out.ext he7,hr,((HE4.out.trans he).trans he6).trans he7⟩
    have S2:=rshr_any _ (L+1) _ k w6 HRI.out (by omega) hk32 (by omega);rw[Nat.mul_div_cancel _ (Nat.two_pow_pos k)]at S2;refine S2.mono ?_;rintro e w7 ⟨pr,rfl,hr,he7⟩;go_wp2_with fail
    go_ret3
    exact⟨_,_,rfl,HQV.out.ext he7,hr,((HE4.out.trans he).trans he6).trans he7⟩
  | kk+1,hj,HSUM=>
    rw[show((kk+1:Nat):Int)-1=(kk:Int)by omega];have hqlt:=Blk.lt HBQ.out;obtain⟨p',c',hpe,_,_,hpc⟩:=HUS.out;obtain⟨bu,ou,hpu,hcu⟩:=hpc (by have:=HN.out;omega);have hpu0:pu0=some ⟨bu,ou,none⟩:=by
      injection hpe with h1 h2 h3
      rw[h1,hpu]
    subst hpu0;have c0:=he.get (hcu kk (by have:=HN.out;omega));clear hpe hpu hpc hcu;have x1:=HDU.out.1.getD kk;have HOR:=zH (fun x q r2 (hx:us.getD kk 0=x) e=>Nm.one_round (j:=kk) (os:=qs) (xs:=us) (by rw[HQL.out];omega) (by have:=HN.out;omega) HSUM.out x q r2 hx e);generalize hgx:us.getD kk 0=x at c0 x1
    have HO2:=zH (fun q r2 e=>HOR.out x q r2 hgx e);clear hgx HOR;have HNX:=zH (Nm.next_lt x1 HLT.out);have hnr:Nm.nl r<=L+1:=Nat.le_trans (Nm.nl_mono (Nat.le_of_lt HLT.out)) HVL.out;have hvr:=Nm.val_digs r;have hdr:=Nm.dg_digs r;unfold NatC at HR;unfold Nm.nl at hnr;generalize Nm.digs r=ds at HR hnr hvr hdr
    obtain⟨pr,cr,rfl,hcr,_,hpr⟩:=HR.out;have HPR:=zH hpr;have HDS:=zH (And.intro hdr hvr);clear hpr hvr hdr;go_wp2_with fail
    obtain⟨wo,hwo⟩:∃wo:World,wo=wr:=⟨_,rfl⟩;subst hwo;go_loopw [14,15] (fun nx i wr2=>∃t:Nat,t<=ds.length/\i= .int .i64 t/\wr2.ownsRow wo.heap.size 96 1 nx (t+1) (cellsU (x::ds.take t))/\Ext wo wr2) (fun _ i _=>ds.length-(intOf i).toNat)
    case atStart=>exact⟨0,Nat.zero_le _,rfl,OwnU.one wo x,(Ext.refl _).alloc _⟩
    obtain⟨t,ht,rfl,hown,he2⟩:=hrel;have hsz:=he2.size;by_cases htl:t<ds.length
    · obtain⟨br,orr,rfl,hbr⟩:=HPR.out (by omega)
      have c1:=he2.get (hbr t htl);clear hbr;have HT:=zH (take_snocD ds t htl);generalize ds.getD t 0=y at c1 HT
      have HBK:=zH (show∀k,Value.ownBlock _=some k->wo.heap.size<=k from OwnU.block (xs:=x::ds.take t) (show OwnU _ wo.heap.size _ (x::ds.take t)by unfold OwnU;rw[show(x::ds.take t).length=t+1 by rw[List.length_cons,List.length_take];omega];exact hown));go_wp2_with (at_builtin;refine wpList_append_own _ rfl _ _ 26 rfl wo.heap.size 96 i0 (.int .u32 0) 1 4 Tryz.underlying26 hi hz0 hz1 hz2 rfl (by decide) _ _ _ rfl (hown.alloc _) ⟨wr.heap.size,0,none⟩ 1 1 [.int .u32 (y:Int)] rfl rfl (one_new _ _ _) (by simp[Value.oneCell']) (by unfold maxLen;omega) (by omega) (by simp;omega) ?_;intro v' w5 hown' hgrow _)
      go_roundw
      case rel=>
        refine⟨t+1,by omega,by go_num,?_,(he2.alloc _).grown hgrow (fun k hk=>HBK.out k hk)⟩;rw[HT.out,<-List.cons_append,cellsU_append];exact hown'
      case measure=>simp[intOf]<;>omega
    obtain rfl:t=ds.length:=by omega
    have hval:Nm.val (x::ds)=x+4294967296*r:=by
      rw[<-HDS.out.2];rfl
    have HN1:=zH (fun o (h:wr.ownsRow wo.heap.size 96 1 o (ds.length+1) (cellsU (x::ds.take ds.length)))=>rnormal_any o (ds.length+1) (x+4294967296*r) wr ⟨x::ds,owns_dig (base:=wo.heap.size) (by rw[List.take_length]at h;exact h) (Nm.Dg.cons x1 HDS.out.1),hval,Nat.le_refl _⟩ (by omega));have HW:=zH hown;have hnl2:Nm.nl (x+4294967296*r)<=L+3:=by
      rw[<-hval];exact Nat.le_trans (Nm.nl_val (Nm.Dg.cons x1 HDS.out.1)) (by rw[List.length_cons];omega)
    have HNL:=zH hnl2;have hdm:=Nat.div_add_mod (x+4294967296*r) V0;have hml:=Nat.mod_lt (x+4294967296*r) HVP.out;have hdl:(x+4294967296*r)/V0<4294967296:=by rw[Nat.div_lt_iff_lt_mul HVP.out];exact HNX.out
    have HOF:=zH (fun nv w' (h:NatC w' nv (x+4294967296*r)) (he5:Ext w4 w')=>often_any nv pv (L+3) (x+4294967296*r) V0 w' (h.isIn HNL.out) (HV.out.ext he5) (by omega) (Nat.le_trans HVL.out (by omega)) (Nat.ne_of_gt HVP.out) HNX.out);unfold RetOf at HOF;have HMD:=zH (show 4294967296*r+x=(x+4294967296*r)/V0*V0+(x+4294967296*r)%V0 by rw[Nat.mul_comm _ V0,hdm,Nat.add_comm]);have HO3:=zH (HO2.out _ _ HMD.out);clear hdm hnl2 hval;generalize (x+4294967296*r)/V0=d at HOF hdl HO3
    generalize (x+4294967296*r)%V0=r2 at HOF hml HO3
    have HML:=zH hml;clear hown hml HMD HO2;go_wp2_with fail
    refine(HN1.out _ HW.out).mono ?_;rintro e w5 ⟨nv,rfl,hnv,he5⟩;have HNV:=zH hnv;have HE45:=zH ((he.trans he2).trans he5);clear hnv;go_wp2_with fail
    refine(HOF.out _ _ HNV.out HE45.out).mono ?_;rintro e w6 ⟨lv,rfl,hlv,hlf,he6⟩;have HLV:=zH hlv;have HLF:=zH hlf;clear hlv hlf;have hbq6:=HBQ.out.ext ((he2.trans he5).trans he6);have c2:=hbq6.cell (i:=kk) (by rw[HQL.out];omega);have f2:=hbq6.frozen kk;have HBQ6:=zH hbq6;have hs2:=he2.size;have hs5:=he5.size;clear hbq6;go_wp2_with fail
    go_roundw
    case rel=>
      refine⟨kk,r2,qs.set kk d,by omega,rfl,HLV.out.far HLF.out (by show w4.heap.size<w5.heap.size;omega) _,fun k hk=> ?_,HML.out,by rw[List.length_set];exact HQL.out,HQD.out.set _ hdl,HBQ6.out.setI kk d (by omega),HO3.out,(HE45.out.trans he6).setCell (Nat.le_refl _) _⟩;have:=HLF.out k hk;omega
    case measure=>simp[intOf]<;>omega
theorem rgcd_any (u v:Value)(L a b:Nat)(w:World)(hu:NatIn L w u a)(hv:NatIn L w v b)(hL:L<=200000):
    Calls Tryz.prog 96 #[u,v] w (RetC (a.gcd b) w):=by
  have hnb:=hv.nl;have hna:=hu.nl;have S1:=zH (rnormal_any u L a w hu (by omega));have S2:=zH (fun w' (h:Ext w w')=>rnormal_any v L b w' (hv.ext h) (by omega));clear hu hv;go_enter Tryz.func96,Tryz.ntmps96
  go_wp2_with fail
  refine S1.out.mono ?_;rintro e w1 ⟨u1,rfl,hx,he1⟩;go_wp2_with fail
  refine(S2.out w1 he1).mono ?_;rintro e w2 ⟨v1,rfl,hy,he2⟩;have HX:=zH (hx.ext he2);have HY:=zH hy;clear S1 S2 hx hy;go_wp2_with fail
  go_loopg [5,6] b (fun y u v wr=>∃x:Nat,NatC wr u x/\NatC wr v y/\x.gcd y=a.gcd b/\Nm.nl x<=L/\Nm.nl y<=L/\Ext w2 wr)
  case atStart=>exact⟨a,HX.out,HY.out,rfl,hna,hnb,Ext.refl _⟩
  obtain⟨x,hx,hy,hg,hlx,hly,he⟩:=hrel;have HG:=zH hg;clear hg;by_cases h0:gk=0
  · subst h0
    have HG0:=zH (show x=a.gcd b by rw[<-HG.out,Nat.gcd_zero_right]);obtain⟨p,cap,rfl⟩:=hy.form;rw[Nm.nl_zero];have HX2:=zH hx;clear hx hy;go_wp2_with fail
    go_ret
    refine⟨_,rfl,?_,he1.trans (he2.trans he)⟩;rw[<-HG0.out];exact HX2.out
  have HDM:=zH (rdivmod_any _ _ L x gk wr (hx.isIn hlx) (hy.isIn hly) hL h0);have hlt:=Nat.mod_lt x (show 0<gk by omega);have HLT:=zH hlt;have HGS:=zH (show gk.gcd (x%gk)=a.gcd b by rw[<-HG.out,Nat.gcd_comm x gk,Nat.gcd_rec gk x,Nat.gcd_comm]);have HNM:=zH (Nat.le_trans (Nm.nl_mono (Nat.le_of_lt hlt)) hly);have HYK:=zH hy;have hpos:0<Nm.nl gk:=by
    have:=Nm.nl_eq_zero (n:=gk);omega
  obtain⟨p,cap,rfl⟩:=hy.form;have HLY:=zH hly;clear hx hy hlt hly;generalize Nm.nl gk=l at HDM hpos HYK⊢
  go_wp2_with fail
  refine HDM.out.mono ?_;rintro e w3 ⟨qv,rv,rfl,hq,hr,he3⟩;have HR:=zH hr;clear hq hr;go_wp2_with fail
  go_roundg (x%gk)
  case measure=>exact HLT.out
  case rel=>exact⟨gk,HYK.out.ext he3,HR.out,HGS.out,HLY.out,HNM.out,he.trans he3⟩
theorem r2new_any (n:Bool)(v:Value)(L a:Nat)(w:World)(hv:NatIn L w v a)(hL:L<=1000000):
    Calls Tryz.prog 71 #[.bool n,v] w (RetI (sg n a) w):=by
  have HG:=zH (newInt w);have HN:=zH (rnormal_any v L a _ (hv.ext ((Ext.refl w).alloc (.cells #[.bool false,.slice none 0 0] 28))) hL);have HA:=zH (sg_abs n a);have hfin:(n&&decide (0<Nm.nl a))=decide (sg n a<0):=by
    have:=Nm.nl_eq_zero (n:=a);rw[Bool.eq_iff_iff];cases n
    · simp[sg]
    simp[sg];omega
  have HF:=zH hfin;have hla:=hv.nl;clear hv hfin;generalize hl:Nm.nl a=l at hla HF
  have HL:=zH hl;clear hl;cases n
  · go_enter Tryz.func71,Tryz.ntmps71
    go_wp2_with fail
    refine HN.out.mono ?_;rintro e w1 ⟨v1,rfl,hc,he⟩;have HC:=zH hc;obtain⟨p,cap,rfl⟩:=hc.form;rw[HL.out]at HC⊢;have gk:=HG.out _ he;clear hc;go_wp2_with fail
    have st:=stored_int (u0:= .bool false) (u1:= .slice p l cap) he (show IntC w1 (decide (sg false a<0)) (.slice p l cap) (sg false a)from⟨rfl,by rw[HA.out];exact HC.out⟩);rw[<-HF.out]at st;refine bodyPost_ret (v:= .agg #[.bool false,.slice p l cap]) ?_ rfl ⟨_,_,rfl,st.1,st.2⟩;simp[results,Tryz.results71,go_sem, *]
  by_cases h0:0<l
  · go_enter Tryz.func71,Tryz.ntmps71
    go_wp2_with fail
    refine HN.out.mono ?_;rintro e w1 ⟨v1,rfl,hc,he⟩;have HC:=zH hc;obtain⟨p,cap,rfl⟩:=hc.form;rw[HL.out]at HC⊢;have gk:=HG.out _ he;clear hc;go_wp2_with fail
    have st:=stored_int (u0:= .bool true) (u1:= .slice p l cap) he (show IntC w1 (decide (sg true a<0)) (.slice p l cap) (sg true a)from⟨rfl,by rw[HA.out];exact HC.out⟩);rw[<-HF.out,show decide (0<l)=true by simpa using h0]at st;refine bodyPost_ret (v:= .agg #[.bool true,.slice p l cap]) ?_ rfl ⟨_,_,rfl,st.1,st.2⟩;simp[results,Tryz.results71,go_sem, *]
  obtain rfl:l=0:=by omega
  go_enter Tryz.func71,Tryz.ntmps71
  go_wp2_with fail
  refine HN.out.mono ?_;rintro e w1 ⟨v1,rfl,hc,he⟩;have HC:=zH hc;obtain⟨p,cap,rfl⟩:=hc.form;rw[HL.out]at HC⊢;have gk:=HG.out _ he;clear hc;go_wp2_with fail
  have st:=stored_int (u0:= .bool false) (u1:= .slice p 0 cap) he (show IntC w1 (decide (sg true a<0)) (.slice p 0 cap) (sg true a)from⟨rfl,by rw[HA.out];exact HC.out⟩);rw[<-HF.out]at st;refine bodyPost_ret (v:= .agg #[.bool false,.slice p 0 cap]) ?_ rfl ⟨_,_,rfl,st.1,st.2⟩;simp[results,Tryz.results71,go_sem, *]
theorem r2neg_any (n:Bool)(v:Value)(L:Nat)(z:Int)(w:World)(h:IntIn L w n v z)(hL:L<=300000):
    Calls Tryz.prog 92 #[.agg #[.bool n,v]] w (RetI (-z) w):=by
  obtain⟨ha,hz⟩:=h.abs;obtain⟨p,l,cap,rfl⟩:=h.form;have HG:=zH (newInt (w.alloc (.cells #[.bool n,.slice p l cap] 28)));have hz2:sg (!n) z.natAbs= -z:=by
    cases n
    · rw[sg_false]at hz;rw[Bool.not_false,sg_true];omega
    rw[sg_true]at hz;rw[Bool.not_true,sg_false];omega
  have hN:=r2new_any (!n) (.slice p l cap) L z.natAbs _ (ha.ext (((Ext.refl w).alloc (.cells #[.bool n,.slice p l cap] 28)).alloc (.cells #[.bool false,.slice none 0 0] 28))) (by omega);rw[hz2]at hN;have HN:=zH hN;clear h ha hz hz2 hN;go_enter Tryz.func92,Tryz.ntmps92
  go_wp2_with fail
  refine HN.out.mono ?_;rintro e w2 ⟨b,v2,rfl,hc2,he2⟩;have gk:=HG.out _ he2;simp only[World.size_alloc]at gk;have HC2:=zH hc2;obtain⟨p2,l2,cap2,rfl⟩:=hc2.form;clear hc2;go_wp2_with fail
  have st:=stored_int (u0:= .bool b) (u1:= .slice p2 l2 cap2) he2 HC2.out;simp only[World.size_alloc]at st;refine bodyPost_ret (v:= .agg #[.bool b,.slice p2 l2 cap2]) ?_ rfl ⟨_,_,rfl,st.1,((Ext.refl _).alloc _).trans st.2⟩;simp[results,Tryz.results92,go_sem, *]
theorem r2mul_any (n m:Bool)(u v:Value)(L:Nat)(y z:Int)(w:World)(hu:IntIn L w n u y)(hv:IntIn L w m v z)(hL:L<=150000):
    Calls Tryz.prog 66 #[.agg #[.bool n,u],.agg #[.bool m,v]] w (RetI (y*z) w):=by
  obtain⟨ha,hy⟩:=hu.abs;obtain⟨hb,hz⟩:=hv.abs;have hla:=ha.nl;have hlb:=hb.nl;obtain⟨p,l,cp,rfl⟩:=hu.form;obtain⟨q,k,cq,rfl⟩:=hv.form;have H1:=zH (fun W (h:Ext ((w.alloc (.cells #[.bool n,.slice p l cp] 28)).alloc (.cells #[.bool m,.slice q k cq] 28)) W)=>rnmul_any _ _ L y.natAbs z.natAbs W (ha.ext ((((Ext.refl w).alloc _).alloc _).trans h)) (hb.ext ((((Ext.refl w).alloc _).alloc _).trans h)) (by omega));have hn:=fun W t (h:NatC W t (y.natAbs*z.natAbs))=>r2new_any (n != m) t (2*L) (y.natAbs*z.natAbs) W (h.isIn (by have:=Nm.nl_mul y.natAbs z.natAbs;omega)) (by omega)
  rw[sg_mul,<-hy,<-hz]at hn;have HG:=zH (newInt ((w.alloc (.cells #[.bool n,.slice p l cp] 28)).alloc (.cells #[.bool m,.slice q k cq] 28)));have g:∀w',Ext ((w.alloc (.cells #[.bool n,.slice p l cp] 28)).alloc (.cells #[.bool m,.slice q k cq] 28)) w'->
      w'.cell? ⟨w.heap.size,0,none⟩=some (.bool n)/\w'.cell? ⟨w.heap.size,1,none⟩=some (.slice p l cp)/\w'.cell? ⟨w.heap.size+1,0,none⟩=some (.bool m)/\w'.cell? ⟨w.heap.size+1,1,none⟩=some (.slice q k cq):=fun w' h=>
    ⟨h.get (by simp),h.get (by simp),h.get (by simp),h.get (by simp)⟩
  have HST:=zH (fun w1 b t u0 u1=>stored_int (w:=((w.alloc (.cells #[.bool n,.slice p l cp] 28)).alloc (.cells #[.bool m,.slice q k cq] 28))) (w1:=w1) (n:=b) (v:=t) (z:=y*z) (u0:=u0) (u1:=u1));clear hu hv ha hb hy hz hla hlb;have HN:=zH (fun W t x (hx:x=(n != m)) (h:NatC W t (y.natAbs*z.natAbs))=>(show Calls Tryz.prog 71 #[.bool x,t] W (RetI (y*z) W)by subst hx;exact hn W t h));clear hn;go_enter Tryz.func66,Tryz.ntmps66
  go_wp2_with fail
  go_region_held3 (fun w'=>Ext ((w.alloc (.cells #[.bool n,.slice p l cp] 28)).alloc (.cells #[.bool m,.slice q k cq] 28)) w') (first|assumption|exact Ext.drew (Ext.alloc (Ext.refl _) _)|(apply Ext.via;assumption;assumption)|(refine Ext.setCell (Ext.setCell ?_ (by simp) _) (by simp) _;assumption))
    (first|(go_at_call 95;refine(H1.out _ (by assumption)).mono ?_;rintro e w1 ⟨v1,rfl,hc,he1⟩)|(go_at_call 71;refine(HN.out _ _ _ (by cases n<;>cases m<;>rfl) hc).mono ?_;rintro e w2 ⟨b,v2,rfl,hc2,he2⟩;obtain⟨p2,l2,cap2,rfl⟩:=hc2.form;have gk:=HG.out _ (Ext.trans (Ext.trans (Ext.drew (Ext.refl _)) he1) he2);simp only[World.size_alloc]at gk))
  go_wp2_with fail
  have st:=HST.out _ _ _ (.bool b) (.slice p2 l2 cap2) (Ext.trans (Ext.trans (Ext.drew (Ext.refl _)) he1) he2) hc2;simp only[World.size_alloc]at st;refine bodyPost_ret (v:= .agg #[.bool b,.slice p2 l2 cap2]) ?_ rfl ⟨_,_,rfl,st.1,(((Ext.refl _).alloc _).alloc _).trans st.2⟩;simp[results,Tryz.results66,go_sem, *]
theorem r2add_any (n m:Bool)(u v:Value)(L:Nat)(y z:Int)(w:World)(hu:IntIn L w n u y)(hv:IntIn L w m v z)(hL:L<=150000):
    Calls Tryz.prog 91 #[.agg #[.bool n,u],.agg #[.bool m,v]] w (RetI (y+z) w):=by
  obtain⟨ha,hy⟩:=hu.abs;obtain⟨hb,hz⟩:=hv.abs;have hla:=ha.nl;have hlb:=hb.nl;obtain⟨p,l,cp,rfl⟩:=hu.form;obtain⟨q,k,cq,rfl⟩:=hv.form;have HA:=zH (fun W (h:Ext ((w.alloc (.cells #[.bool n,.slice p l cp] 28)).alloc (.cells #[.bool m,.slice q k cq] 28)) W)=>ha.ext ((((Ext.refl w).alloc _).alloc _).trans h));have HB:=zH (fun W (h:Ext ((w.alloc (.cells #[.bool n,.slice p l cp] 28)).alloc (.cells #[.bool m,.slice q k cq] 28)) W)=>hb.ext ((((Ext.refl w).alloc _).alloc _).trans h));have HG:=zH (newInt ((w.alloc (.cells #[.bool n,.slice p l cp] 28)).alloc (.cells #[.bool m,.slice q k cq] 28)));have g:∀w',Ext ((w.alloc (.cells #[.bool n,.slice p l cp] 28)).alloc (.cells #[.bool m,.slice q k cq] 28)) w'->
      w'.cell? ⟨w.heap.size,0,none⟩=some (.bool n)/\w'.cell? ⟨w.heap.size,1,none⟩=some (.slice p l cp)/\w'.cell? ⟨w.heap.size+1,0,none⟩=some (.bool m)/\w'.cell? ⟨w.heap.size+1,1,none⟩=some (.slice q k cq):=fun w' h=>
    ⟨h.get (by simp),h.get (by simp),h.get (by simp),h.get (by simp)⟩
  have HST:=zH (fun w1 b t u0 u1=>stored_int (w:=((w.alloc (.cells #[.bool n,.slice p l cp] 28)).alloc (.cells #[.bool m,.slice q k cq] 28))) (w1:=w1) (n:=b) (v:=t) (z:=y+z) (u0:=u0) (u1:=u1));clear hu hv ha hb;by_cases hnm:n=m
  · subst hnm
    have H1:=zH (fun W h=>rnadd_any _ _ L y.natAbs z.natAbs W (HA.out W h) (HB.out W h) (by omega));have hn:=fun W t (h:NatC W t (y.natAbs+z.natAbs))=>r2new_any n t (L+1) (y.natAbs+z.natAbs) W (h.isIn (by have:=Nm.nl_add y.natAbs z.natAbs;omega)) (by omega)
    rw[sg_add_same,<-hy,<-hz]at hn;have HN:=zH hn;clear hn hy hz hla hlb;go_enter Tryz.func91,Tryz.ntmps91
    go_wp2_with fail
    go_region_held3 (fun w'=>Ext ((w.alloc (.cells #[.bool n,.slice p l cp] 28)).alloc (.cells #[.bool n,.slice q k cq] 28)) w') (first|assumption|exact Ext.drew (Ext.alloc (Ext.refl _) _)|(apply Ext.via;assumption;assumption)|(refine Ext.setCell (Ext.setCell ?_ (by simp) _) (by simp) _;assumption))
      (first|(go_at_call 120;refine(H1.out _ (by assumption)).mono ?_;rintro e w1 ⟨v1,rfl,hc,he1⟩)|(go_at_call 71;refine(HN.out _ _ hc).mono ?_;rintro e w2 ⟨b,v2,rfl,hc2,he2⟩;obtain⟨p2,l2,cap2,rfl⟩:=hc2.form;have gk:=HG.out _ (Ext.trans (Ext.trans (Ext.drew (Ext.refl _)) he1) he2);simp only[World.size_alloc]at gk))
    go_wp2_with fail
    have st:=HST.out _ _ _ (.bool b) (.slice p2 l2 cap2) (Ext.trans (Ext.trans (Ext.drew (Ext.refl _)) he1) he2) hc2;simp only[World.size_alloc]at st;refine bodyPost_ret (v:= .agg #[.bool b,.slice p2 l2 cap2]) ?_ rfl ⟨_,_,rfl,st.1,(((Ext.refl _).alloc _).alloc _).trans st.2⟩;simp[results,Tryz.results91,go_sem, *]
  have bnm:(n==m)=false:=by simpa using hnm
  have HNM:=zH hnm;clear hnm;have hE0:Ext ((w.alloc (.cells #[.bool n,.slice p l cp] 28)).alloc (.cells #[.bool m,.slice q k cq] 28)) (((w.alloc (.cells #[.bool n,.slice p l cp] 28)).alloc (.cells #[.bool m,.slice q k cq] 28)).alloc (.cells #[.bool false,.slice none 0 0] 28)):=(Ext.refl _).alloc _;have HE0:=zH hE0;have H1:=zH (rnsub_any _ _ L y.natAbs z.natAbs _ (HA.out _ hE0) (HB.out _ hE0) (by omega));have H2:=zH (fun W h=>rnsub_any _ _ L z.natAbs y.natAbs W (HB.out W h) (HA.out W h) (by omega));clear hE0;by_cases hab:z.natAbs<=y.natAbs
  · have hn:=fun W t (h:NatC W t (y.natAbs-z.natAbs))=>r2new_any n t L (y.natAbs-z.natAbs) W (h.isIn (Nat.le_trans (Nm.nl_mono (Nat.sub_le _ _)) hla)) (by omega)
    rw[sg_add_ge HNM.out hab,<-hy,<-hz]at hn;have HN:=zH hn;have HAB:=zH hab;clear hn hy hz hla hlb hab;go_enter Tryz.func91,Tryz.ntmps91
    go_wp2_with fail
    refine H1.out.mono ?_;rintro e w1 (⟨_,v1,rfl,hc,he1⟩|⟨hlt,_,_⟩)
    · have HC:=zH hc
      have gw:=g _ (HE0.out.trans he1);clear hc;go_wp2_with fail
      refine(HN.out _ _ HC.out).mono ?_;rintro e w2 ⟨b,v2,rfl,hc2,he2⟩;have HC2:=zH hc2;obtain⟨p2,l2,cap2,rfl⟩:=hc2.form;clear hc2;have gk:=HG.out _ (he1.trans he2);simp only[World.size_alloc]at gk;go_wp2_with fail
      have st:=HST.out _ _ _ (.bool b) (.slice p2 l2 cap2) (he1.trans he2) HC2.out;simp only[World.size_alloc]at st;refine bodyPost_ret (v:= .agg #[.bool b,.slice p2 l2 cap2]) ?_ rfl ⟨_,_,rfl,st.1,(((Ext.refl _).alloc _).alloc _).trans st.2⟩;simp[results,Tryz.results91,go_sem, *]
    exact absurd HAB.out (Nat.not_le_of_lt hlt)
  have hn:=fun W t (h:NatC W t (z.natAbs-y.natAbs))=>r2new_any m t L (z.natAbs-y.natAbs) W (h.isIn (Nat.le_trans (Nm.nl_mono (Nat.sub_le _ _)) hlb)) (by omega)
  rw[sg_add_lt HNM.out (by omega),<-hy,<-hz]at hn;have HN:=zH hn;have HAB:=zH hab;clear hn hy hz hla hlb hab;go_enter Tryz.func91,Tryz.ntmps91
  go_wp2_with fail
  refine H1.out.mono ?_;rintro e w1 (⟨hle,_⟩|⟨hlt,rfl,he1⟩)
  · exact absurd hle HAB.out
  have gw:=g _ (HE0.out.trans he1);have H2b:=zH (H2.out _ (HE0.out.trans he1));have HLT:=zH hlt;clear hlt;go_wp2_with fail
  refine H2b.out.mono ?_;rintro e w2 (⟨_,v1,rfl,hc,he2⟩|⟨hlt2,_,_⟩)
  · have HC:=zH hc
    have gw2:=g _ ((HE0.out.trans he1).trans he2);clear hc gw;go_wp2_with fail
    refine(HN.out _ _ HC.out).mono ?_;rintro e w3 ⟨b,v2,rfl,hc2,he3⟩;have HC2:=zH hc2;obtain⟨p2,l2,cap2,rfl⟩:=hc2.form;clear hc2;have gk:=HG.out _ ((he1.trans he2).trans he3);simp only[World.size_alloc]at gk;go_wp2_with fail
    have st:=HST.out _ _ _ (.bool b) (.slice p2 l2 cap2) ((he1.trans he2).trans he3) HC2.out;simp only[World.size_alloc]at st;refine bodyPost_ret (v:= .agg #[.bool b,.slice p2 l2 cap2]) ?_ rfl ⟨_,_,rfl,st.1,(((Ext.refl _).alloc _).alloc _).trans st.2⟩;simp[results,Tryz.results91,go_sem, *]
  exact absurd (Nat.le_of_lt HLT.out) (Nat.not_le_of_lt hlt2)
theorem r2sub_any (n m:Bool)(u v:Value)(L:Nat)(y z:Int)(w:World)(hu:IntIn L w n u y)(hv:IntIn L w m v z)(hL:L<=150000):
    Calls Tryz.prog 94 #[.agg #[.bool n,u],.agg #[.bool m,v]] w (RetI (y-z) w):=by
  have hlz:=hv.nl;obtain⟨p,l,cp,rfl⟩:=hu.form;obtain⟨q,k,cq,rfl⟩:=hv.form;have HA:=zH (fun W (h:Ext ((w.alloc (.cells #[.bool n,.slice p l cp] 28)).alloc (.cells #[.bool m,.slice q k cq] 28)) W)=>hu.ext ((((Ext.refl w).alloc _).alloc _).trans h));have HB:=zH (fun W (h:Ext ((w.alloc (.cells #[.bool n,.slice p l cp] 28)).alloc (.cells #[.bool m,.slice q k cq] 28)) W)=>hv.ext ((((Ext.refl w).alloc _).alloc _).trans h));have HG:=zH (newInt ((w.alloc (.cells #[.bool n,.slice p l cp] 28)).alloc (.cells #[.bool m,.slice q k cq] 28)));have g:∀w',Ext ((w.alloc (.cells #[.bool n,.slice p l cp] 28)).alloc (.cells #[.bool m,.slice q k cq] 28)) w'->
      w'.cell? ⟨w.heap.size,0,none⟩=some (.bool n)/\w'.cell? ⟨w.heap.size,1,none⟩=some (.slice p l cp)/\w'.cell? ⟨w.heap.size+1,0,none⟩=some (.bool m)/\w'.cell? ⟨w.heap.size+1,1,none⟩=some (.slice q k cq):=fun w' h=>
    ⟨h.get (by simp),h.get (by simp),h.get (by simp),h.get (by simp)⟩
  have HST:=zH (fun w1 b t u0 u1=>stored_int (w:=((w.alloc (.cells #[.bool n,.slice p l cp] 28)).alloc (.cells #[.bool m,.slice q k cq] 28))) (w1:=w1) (n:=b) (v:=t) (z:=y-z) (u0:=u0) (u1:=u1));have H1:=zH (fun W h=>r2neg_any _ _ L z W (HB.out W h) (by omega));have H2:=zH (fun W b t h (hc:IntC W b t (-z))=>(show Calls Tryz.prog 91 #[.agg #[.bool n,.slice p l cp],.agg #[.bool b,t]] W (RetI (y-z) W)by
    rw[Int.sub_eq_add_neg];exact r2add_any _ _ _ _ L y (-z) W (HA.out W h) (hc.isIn (by rw[Int.natAbs_neg];exact hlz)) hL))
  clear hu hv hlz;go_enter Tryz.func94,Tryz.ntmps94
  go_wp2_with fail
  go_region_held3 (fun w'=>Ext ((w.alloc (.cells #[.bool n,.slice p l cp] 28)).alloc (.cells #[.bool m,.slice q k cq] 28)) w') (first|assumption|exact Ext.drew (Ext.alloc (Ext.refl _) _)|(apply Ext.via;assumption;assumption)|(refine Ext.setCell (Ext.setCell ?_ (by simp) _) (by simp) _;assumption))
    (first|(go_at_call 92;refine(H1.out _ (by assumption)).mono ?_;rintro e w1 ⟨b1,v1,rfl,hc,he1⟩)|(go_at_call 91;refine(H2.out _ _ _ (by assumption) hc).mono ?_;rintro e w2 ⟨b,v2,rfl,hc2,he2⟩;obtain⟨p2,l2,cap2,rfl⟩:=hc2.form;have gk:=HG.out _ (Ext.trans (Ext.trans (Ext.drew (Ext.refl _)) he1) he2);simp only[World.size_alloc]at gk))
  go_wp2_with fail
  have st:=HST.out _ _ _ (.bool b) (.slice p2 l2 cap2) (Ext.trans (Ext.trans (Ext.drew (Ext.refl _)) he1) he2) hc2;simp only[World.size_alloc]at st;refine bodyPost_ret (v:= .agg #[.bool b,.slice p2 l2 cap2]) ?_ rfl ⟨_,_,rfl,st.1,(((Ext.refl _).alloc _).alloc _).trans st.2⟩;simp[results,Tryz.results94,go_sem, *]
theorem sign_of_fields {z:Int}:z.sign=if z.natAbs=0 then 0 else if z<0 then-1 else 1:=by
  rcases Int.lt_trichotomy z 0 with h|h|h
  · rw[Int.sign_eq_neg_one_of_neg h,if_neg (by omega),if_pos h]
  · subst h;rfl
  rw[Int.sign_eq_one_of_pos h,if_neg (by omega),if_neg (by omega)]
theorem r2sign_any (n:Bool)(v:Value)(L:Nat)(z:Int)(w:World)(h:IntIn L w n v z)(hL:L<=300000):
    Calls Tryz.prog 93 #[.agg #[.bool n,v]] w fun e w'=>e= .returned (.int .i64 z.sign)/\Ext w w':=by
  obtain⟨ha,hz⟩:=h.abs;have HN0:=r2new_any n v L z.natAbs _ (ha.ext ((Ext.refl w).alloc (.cells #[.bool n,v] 28))) (by omega);rw[<-hz]at HN0;have HN:=zH HN0;obtain⟨p,l,cap,rfl⟩:=h.form;have hnl:=ha.nl;have HS:=zH (sign_of_fields (z:=z));clear h ha hz HN0;go_enter Tryz.func93,Tryz.ntmps93
  go_wp2_with fail
  refine HN.out.mono ?_;rintro e w1 ⟨b,v1,rfl,⟨hb,hc⟩,he⟩;obtain⟨p1,cap1,rfl⟩:=hc.form;have hz0:=Nm.nl_eq_zero (n:=z.natAbs);clear hc HN;generalize Nm.nl z.natAbs=l1 at hz0 hnl⊢
  by_cases h0:l1=0
  · subst h0
    have HR:=zH (show z.sign=0 by rw[HS.out,if_pos (hz0.1 rfl)]);clear hz0 hb;go_wp2_with fail
    go_ret
    exact⟨ret_int HR.out.symm,(((Ext.refl _).alloc _).trans he).alloc _⟩
  have g0:((l1:Int)==0)=false:=beq_eq_false_iff_ne.2 (by omega);have hz1:¬z.natAbs=0:=fun h=>h0 (hz0.2 h)
  by_cases hneg:z<0
  · have HR:=zH (show z.sign= -1 by rw[HS.out,if_neg hz1,if_pos hneg])
    obtain rfl:b=true:=by rw[hb];simpa using hneg
    clear hb hz0 hz1 hneg;go_wp2_with fail
    go_ret
    exact⟨ret_int HR.out.symm,(((Ext.refl _).alloc _).trans he).alloc _⟩
  have HR:=zH (show z.sign=1 by rw[HS.out,if_neg hz1,if_neg hneg]);obtain rfl:b=false:=by rw[hb];simpa using hneg
  clear hb hz0 hz1 hneg;go_wp2_with fail
  go_ret
  exact⟨ret_int HR.out.symm,(((Ext.refl _).alloc _).trans he).alloc _⟩
theorem r2cmp_any (n m:Bool)(u v:Value)(L:Nat)(y z:Int)(w:World)(hu:IntIn L w n u y)(hv:IntIn L w m v z)(hL:L<=150000):
    Calls Tryz.prog 65 #[.agg #[.bool n,u],.agg #[.bool m,v]] w (RetCmp (y-z).sign w):=by
  have hls:=nl_sub_int y z L hu.nl hv.nl;obtain⟨p,l,cp,rfl⟩:=hu.form;obtain⟨q,k,cq,rfl⟩:=hv.form;have H1:=zH (r2sub_any _ _ _ _ L y z _ (hu.ext (((Ext.refl w).alloc (.cells #[.bool n,.slice p l cp] 28)).alloc (.cells #[.bool m,.slice q k cq] 28))) (hv.ext (((Ext.refl w).alloc (.cells #[.bool n,.slice p l cp] 28)).alloc (.cells #[.bool m,.slice q k cq] 28))) hL);have H2:=zH (fun W b t (hc:IntC W b t (y-z))=>r2sign_any b t (L+1) (y-z) W (hc.isIn hls) (by omega));clear hu hv hls;go_enter Tryz.func65,Tryz.ntmps65
  go_wp2_with fail
  refine H1.out.mono ?_;rintro e w1 ⟨b,t,rfl,hc,he1⟩;have HC:=zH hc;clear hc;go_wp2_with fail
  refine(H2.out _ _ _ HC.out).mono ?_;rintro e w2 ⟨rfl,he2⟩;go_wp2_with fail
  go_ret
  exact⟨rfl,((((Ext.refl _).alloc _).alloc _).trans he1).trans he2⟩
theorem u64_digits {u:Nat}(h:u<18446744073709551616):Nm.Dg [u%4294967296,u/4294967296]/\Nm.val [u%4294967296,u/4294967296]=u:=
  ⟨Nm.Dg.cons (by omega) (Nm.Dg.cons (by omega) Nm.Dg.nil),by simp only[Nm.val];omega⟩
theorem two_newR (w:World)(g x y:Nat)(t:TypeId)(hg:g=w.heap.size)(hd:Nm.Dg [x,y]):DigS (w.alloc (.cells #[.int .u32 (x:Int),.int .u32 (y:Int)] t)) (.slice (some ⟨g,0,none⟩) 2 2) [x,y]:=by
  subst hg;exact⟨_,2,rfl,Nat.le_refl _,hd,fun _=>⟨w.heap.size,0,rfl,fun i hi=>by
    match i,hi with
    |0,_=>simp
    |1,_=>simp⟩⟩
theorem r2fromInt_any (n:Int)(w:World)(h1: -9223372036854775808<=n)(h2:n<=9223372036854775807):
    Calls Tryz.prog 34 #[.int .i64 n] w (RetI n w):=by
  have HG:=zH (newInt w);obtain⟨u,hu⟩:∃u,u=n.natAbs:=⟨_,rfl⟩;have hub:u<18446744073709551616:=by omega
  have HD:=zH (u64_digits hub);by_cases hn:n<0
  · have hn2:(u:Int)= -n:=by omega
    have HN:=zH (fun W v (h:NatIn 2 W v u)=>r2new_any true v 2 u W h (by omega));rw[sg_true,show-(u:Int)=n by omega]at HN;go_enter Tryz.func34,Tryz.ntmps34
    go_wp2_with fail
    rw[show IntKind.u64.wrap (-IntKind.u64.wrap n)=(u:Int)by simp only[IntKind.wrap_u64];omega];rw[show(u:Int)%4294967296=((u%4294967296:Nat):Int)by omega];first|rw[show(u:Int)/4294967296%4294967296=((u/4294967296:Nat):Int)by omega]|rw[show(u:Int)/4294967296=((u/4294967296:Nat):Int)by omega]
    generalize u%4294967296=x at HD⊢
    generalize u/4294967296=y at HD⊢
    refine(HN.out _ _ ⟨_,two_newR _ (w.heap.size+1) x y _ (by simp) HD.out.1,HD.out.2,Nat.le_refl _⟩).mono ?_;rintro e w2 ⟨b,v2,rfl,hc2,he2⟩;have he0:=(Ext.refl (w.alloc (.cells #[.bool false,.slice none 0 0] 28))).alloc (.cells #[.int .u32 (x:Int),.int .u32 (y:Int)] 96);have gk:=HG.out _ (he0.trans he2);have HC2:=zH hc2;obtain⟨p,l2,cap,rfl⟩:=hc2.form;clear hc2 hu;go_wp2_with fail
    have st:=stored_int (u0:= .bool b) (u1:= .slice p l2 cap) (he0.trans he2) HC2.out;refine bodyPost_ret (v:= .agg #[.bool b,.slice p l2 cap]) ?_ rfl ⟨_,_,rfl,st.1,st.2⟩;simp[results,Tryz.results34,go_sem, *]
  have hn2:(u:Int)=n:=by omega
  have HN:=zH (fun W v (h:NatIn 2 W v u)=>r2new_any false v 2 u W h (by omega));rw[sg_false,hn2]at HN;go_enter Tryz.func34,Tryz.ntmps34
  go_wp2_with fail
  try rw[show IntKind.u64.wrap n=(u:Int)by simp only[IntKind.wrap_u64];omega]
  try rw[<-hn2]
  rw[show(u:Int)%4294967296=((u%4294967296:Nat):Int)by omega];first|rw[show(u:Int)/4294967296%4294967296=((u/4294967296:Nat):Int)by omega]|rw[show(u:Int)/4294967296=((u/4294967296:Nat):Int)by omega]
  generalize u%4294967296=x at HD⊢
  generalize u/4294967296=y at HD⊢
  refine(HN.out _ _ ⟨_,two_newR _ (w.heap.size+1) x y _ (by simp) HD.out.1,HD.out.2,Nat.le_refl _⟩).mono ?_;rintro e w2 ⟨b,v2,rfl,hc2,he2⟩;have he0:=(Ext.refl (w.alloc (.cells #[.bool false,.slice none 0 0] 28))).alloc (.cells #[.int .u32 (x:Int),.int .u32 (y:Int)] 96);have gk:=HG.out _ (he0.trans he2);have HC2:=zH hc2;obtain⟨p,l2,cap,rfl⟩:=hc2.form;clear hc2 hu;go_wp2_with fail
  have st:=stored_int (u0:= .bool b) (u1:= .slice p l2 cap) (he0.trans he2) HC2.out;refine bodyPost_ret (v:= .agg #[.bool b,.slice p l2 cap]) ?_ rfl ⟨_,_,rfl,st.1,st.2⟩;simp[results,Tryz.results34,go_sem, *]
def RetDI (q r:Int)(w:World)(e:Ending)(w':World):Prop:=
  ∃n1 v1 n2 v2,e= .returned (.tuple #[.agg #[.bool n1,v1],.agg #[.bool n2,v2],.int .i64 0])/\IntC w' n1 v1 q/\IntC w' n2 v2 r/\Ext w w'
theorem sg_div_exact {n:Bool}{a b:Nat}{y q:Int}(hb:b≠0)(hy:y=sg n a)(h:y=q*(b:Int)):a%b=0/\sg n (a/b)=q:=by
  have hdvd:b∣a:=by
    have h1:(b:Int)∣y:=⟨q,by rw[h,Int.mul_comm]⟩;have h2:=Int.natAbs_dvd_natAbs.2 h1;rw[hy,sg_abs]at h2;simpa using h2
  refine⟨Nat.mod_eq_zero_of_dvd hdvd,?_⟩;obtain⟨c,rfl⟩:=hdvd;rw[Nat.mul_div_cancel_left _ (Nat.pos_of_ne_zero hb)];have hb':(b:Int)≠0:=by omega
  apply Int.eq_of_mul_eq_mul_right hb';rw[<-h,hy];cases n
  · simp only[sg_false]
    rw[Int.natCast_mul,Int.mul_comm]
  simp only[sg_true];rw[Int.natCast_mul,Int.neg_mul,Int.mul_comm]
theorem stored2i {w0 w:World}{X Y:Nat}{t:TypeId}{a b c d:Value}{u0 u1 u2 u3:Value}(hX:Blk w X t #[a,b])(hY:Blk w Y t #[c,d])(nX:NoU #[a,b])(nY:NoU #[c,d])
    (h1:Y≠X)(hw:Ext w0 w)(s1:w0.heap.size<=X)(s2:w0.heap.size<=Y):
    (∀n v z,IntC w n v z->IntC (put2 (put2 w X u0 u1) Y u2 u3) n v z)/\Ext w0 (put2 (put2 w X u0 u1) Y u2 u3):=by
  have o1:=put2_own w X u0 u1;have o2:=put2_own (put2 w X u0 u1) Y u2 u3;exact⟨fun n v z h=>(h.own hX nX o1).own (hY.own o1 h1) nY o2,o2.ext (o1.ext hw s1) s2⟩
theorem r2div_any (n m:Bool)(u v:Value)(L:Nat)(y z q:Int)(w:World)(hu:IntIn L w n u y)(hv:IntIn L w m v z)(hL:L<=150000)(hz:0<z)(hyz:y=q*z):
    Calls Tryz.prog 97 #[.agg #[.bool n,u],.agg #[.bool m,v]] w (RetDI q 0 w):=by
  obtain⟨ha,hy⟩:=hu.abs;obtain⟨hb,hzs⟩:=hv.abs;have hla:=ha.nl;have hlb:=hb.nl;obtain rfl:m=false:=by
    cases m
    · rfl
    rw[sg_true]at hzs;omega
  have hzn:z=(z.natAbs:Int):=by omega
  have hex:=sg_div_exact (q:=q) (b:=z.natAbs) (by omega) hy (by rw[<-hzn];exact hyz);obtain⟨p,l,cp,rfl⟩:=hu.form;obtain⟨p2,k,cq,rfl⟩:=hv.form;have HE0:=zH (show Ext w ((((w.alloc (.cells #[.bool n,.slice p l cp] 28)).alloc (.cells #[.bool false,.slice p2 k cq] 28)).alloc (.cells #[.bool false,.slice none 0 0] 28)).alloc (.cells #[.bool false,.slice none 0 0] 28))from((((Ext.refl _).alloc _).alloc _).alloc _).alloc _);have HS:=zH (fun W (h:Ext w W)=>r2sign_any false (.slice p2 k cq) L z W (hv.ext h) (by omega));have HDM:=zH (fun W (h:Ext w W)=>rdivmod_any (.slice p l cp) (.slice p2 k cq) L y.natAbs z.natAbs W (ha.ext h) (hb.ext h) (by omega) (by omega));have hn:=fun W t (h:NatC W t (y.natAbs/z.natAbs))=>r2new_any n t L _ W (h.isIn (Nat.le_trans (Nm.nl_div _ _) hla)) (by omega)
  rw[hex.2]at hn;have HN:=zH (fun W t x (hx:x=n) (h:NatC W t (y.natAbs/z.natAbs))=>(show Calls Tryz.prog 71 #[.bool x,t] W (RetI q W)by subst hx;exact hn W t h));have hr:=fun W t (h:NatC W t (y.natAbs%z.natAbs))=>r2new_any n t L _ W (h.isIn (by rw[hex.1,Nm.nl_zero];omega)) (by omega)
  rw[hex.1,show sg n 0=0 by cases n<;>rfl]at hr;have HR:=zH hr;have HM0:=zH hex.1;have HSZ:=zH (show z.sign=1 from Int.sign_eq_one_of_pos hz);have HS0:=zH (fun W b t (h:IntC W b t 0)=>r2sign_any b t 0 0 W (h.isIn (by simp[Nm.nl_zero])) (by omega));have g:∀w',Ext ((w.alloc (.cells #[.bool n,.slice p l cp] 28)).alloc (.cells #[.bool false,.slice p2 k cq] 28)) w'->
      w'.cell? ⟨w.heap.size,0,none⟩=some (.bool n)/\w'.cell? ⟨w.heap.size,1,none⟩=some (.slice p l cp)/\w'.cell? ⟨w.heap.size+1,0,none⟩=some (.bool false)/\w'.cell? ⟨w.heap.size+1,1,none⟩=some (.slice p2 k cq):=fun w' h=>
    ⟨h.get (by simp),h.get (by simp),h.get (by simp),h.get (by simp)⟩
  have HG:=zH g;clear hu hv ha hb hy hzs hla hlb hzn hex hn hr g hz hyz;go_enter Tryz.func97,Tryz.ntmps97
  go_wp2_with fail
  refine(HS.out _ HE0.out).mono ?_;rintro e w1 ⟨rfl,he1⟩;rw[HSZ.out];have E1:=zH (HE0.out.trans he1);have gw:=HG.out _ (((Ext.refl _).alloc _).alloc _ |>.trans he1);go_wp2_with fail
  refine(HDM.out _ E1.out).mono ?_;rintro e w2 ⟨qv,rv,rfl,hq,hrr,he2⟩;have HQ:=zH hq;rw[HM0.out]at hrr;have HRR:=zH hrr;have gw2:=HG.out _ ((((Ext.refl _).alloc _).alloc _ |>.trans he1).trans he2);clear hq hrr gw;go_wp2_with fail
  refine(HN.out _ _ _ (by cases n<;>rfl) HQ.out).mono ?_;rintro e w3 ⟨b1,t1,rfl,hi1,he3⟩;have HI1:=zH hi1;obtain⟨x1,y1,z1,rfl⟩:=hi1.form;have gw3:=HG.out _ (((((Ext.refl _).alloc _).alloc _ |>.trans he1).trans he2).trans he3);have sz3:w.heap.size+1+1+1<w3.heap.size:=by
    have h1:=he1.size;have h2:=he2.size;have h3:=he3.size;simp only[World.size_alloc]at h1;omega
  have sz3a:w.heap.size<w3.heap.size:=by omega
  have sz3b:w.heap.size+1<w3.heap.size:=by omega
  clear hi1 gw2;go_wp2_with fail
  refine(HR.out _ _ ?_).mono ?_
  · exact HRR.out.ext (he3.alloc _)
  rintro e w4 ⟨b2,t2,rfl,hi2,he4⟩;have HI2:=zH hi2;obtain⟨x2,y2,z2,rfl⟩:=hi2.form;clear hi2;have gw4:=HG.out _ ((((((Ext.refl _).alloc _).alloc _ |>.trans he1).trans he2).trans he3).trans (((Ext.refl w3).alloc _).trans he4));have c10:w4.cell? ⟨w3.heap.size,0,none⟩=some (.bool b1)/\w4.cell? ⟨w3.heap.size,1,none⟩=some (.slice x1 y1 z1):=⟨he4.get (by simp),he4.get (by simp)⟩;have sz4:w3.heap.size+1<=w4.heap.size:=by
    have h1:=he4.size;simp only[World.size_alloc]at h1;omega
  have sz4a:w.heap.size<w4.heap.size:=by omega
  have sz4b:w.heap.size+1<w4.heap.size:=by omega
  have sz4c:w3.heap.size<w4.heap.size:=by omega
  clear gw3;cases n
  · go_wp2_with fail
    have sz5:w.heap.size+1+1≠w.heap.size+1+1+1:=by omega
    have X0:=Blk.ext (Blk.new_at ((w.alloc (.cells #[.bool false,.slice p l cp] 28)).alloc (.cells #[.bool false,.slice p2 k cq] 28)) (w.heap.size+1+1) (by simp) 28 #[.bool false,.slice none 0 0]) (((Ext.refl _).alloc _).trans (((he1.trans he2).trans he3).trans (((Ext.refl w3).alloc (.cells #[.bool b1,.slice x1 y1 z1] 28)).trans ((he4.alloc (.cells #[.bool b2,.slice x2 y2 z2] 28))))));have X1:=Blk.ext (Blk.new_at (((w.alloc (.cells #[.bool false,.slice p l cp] 28)).alloc (.cells #[.bool false,.slice p2 k cq] 28)).alloc (.cells #[.bool false,.slice none 0 0] 28)) (w.heap.size+1+1+1) (by simp) 28 #[.bool false,.slice none 0 0]) (((he1.trans he2).trans he3).trans (((Ext.refl w3).alloc (.cells #[.bool b1,.slice x1 y1 z1] 28)).trans ((he4.alloc (.cells #[.bool b2,.slice x2 y2 z2] 28)))));have HX0:=zH X0;have HX1:=zH X1;have x00:=X0.cell 0;have x01:=X0.cell 1;have x10:=X1.cell 0;have x11:=X1.cell 1;have y00:=X0.frozen 0;have y01:=X0.frozen 1;have y10:=X1.frozen 0;have y11:=X1.frozen 1;simp at x00 x01 x10 x11;have p10:(w4.alloc (.cells #[.bool b2,.slice x2 y2 z2] 28)).cell? ⟨w3.heap.size,0,none⟩=some (.bool b1):=Ext.get ((Ext.refl w4).alloc (.cells #[.bool b2,.slice x2 y2 z2] 28)) c10.1;have p11:(w4.alloc (.cells #[.bool b2,.slice x2 y2 z2] 28)).cell? ⟨w3.heap.size,1,none⟩=some (.slice x1 y1 z1):=Ext.get ((Ext.refl w4).alloc (.cells #[.bool b2,.slice x2 y2 z2] 28)) c10.2;have q10:(w4.alloc (.cells #[.bool b2,.slice x2 y2 z2] 28)).cell? ⟨w4.heap.size,0,none⟩=some (.bool b2):=by simp
    have q11:(w4.alloc (.cells #[.bool b2,.slice x2 y2 z2] 28)).cell? ⟨w4.heap.size,1,none⟩=some (.slice x2 y2 z2):=by simp
    have HXW:=zH (show Ext w (w4.alloc (.cells #[.bool b2,.slice x2 y2 z2] 28))from((((E1.out.trans he2).trans he3).trans ((Ext.refl w3).alloc _)).trans he4).alloc _);have HI1':=zH (HI1.out.ext (((Ext.refl w3).alloc (.cells #[.bool b1,.slice x1 y1 z1] 28)).trans (he4.alloc (.cells #[.bool b2,.slice x2 y2 z2] 28))));have HI2':=zH (HI2.out.ext ((Ext.refl w4).alloc (.cells #[.bool b2,.slice x2 y2 z2] 28)));have HSZ5:=zH (show w.heap.size<=w.heap.size+1+1/\w.heap.size<=w.heap.size+1+1+1 by omega);clear X0 X1 gw4 c10;generalize (w4.alloc (.cells #[.bool b2,.slice x2 y2 z2] 28))=w5 at*
    generalize hQ:w4.heap.size=Q at*
    generalize hP:w3.heap.size=P at*
    generalize hB:w.heap.size+1+1+1=B at*
    generalize hA:w.heap.size+1+1=A at*
    have n1:A≠P:=by omega
    have n2:A≠Q:=by omega
    have n3:B≠P:=by omega
    have n4:B≠Q:=by omega
    have n5:A≠B:=by omega
    go_region_held3 (fun x=>x.cell? ⟨P,0,none⟩=some (.bool b1)/\x.cell? ⟨P,1,none⟩=some (.slice x1 y1 z1)/\x.cell? ⟨Q,0,none⟩=some (.bool b2)/\x.cell? ⟨Q,1,none⟩=some (.slice x2 y2 z2)) (go_keep) (fail)
    go_wp2_with fail
    have st:=stored2i (w0:=w) (u0:= .bool b1) (u1:= .slice x1 y1 z1) (u2:= .bool b2) (u3:= .slice x2 y2 z2) HX0.out.drew HX1.out.drew (noU2 _ _ _ _) (noU2 _ _ _ _) (Ne.symm n5) HXW.out.drew HSZ5.out.1 HSZ5.out.2;simp only[put2]at st;refine bodyPost_ret (v:= .tuple #[.agg #[.bool b1,.slice x1 y1 z1],.agg #[.bool b2,.slice x2 y2 z2],.int .i64 0]) ?_ rfl ⟨_,_,_,_,rfl,st.1 _ _ _ HI1'.out,st.1 _ _ _ HI2'.out,st.2⟩;simp[results,Tryz.results97,go_sem, *]
  go_wp2_with fail
  refine(HS0.out _ _ _ (HI2.out.ext ((Ext.refl _).alloc _))).mono ?_;rintro e w5 ⟨rfl,he5⟩;rw[show Int.sign 0=0 from rfl];go_wp2_with fail
  clear HS0;have sz5:w.heap.size+1+1≠w.heap.size+1+1+1:=by omega
  have X0:=Blk.ext (Blk.new_at ((w.alloc (.cells #[.bool true,.slice p l cp] 28)).alloc (.cells #[.bool false,.slice p2 k cq] 28)) (w.heap.size+1+1) (by simp) 28 #[.bool false,.slice none 0 0]) (((Ext.refl _).alloc _).trans (((he1.trans he2).trans he3).trans (((Ext.refl w3).alloc (.cells #[.bool b1,.slice x1 y1 z1] 28)).trans (((he4.alloc (.cells #[.bool b2,.slice x2 y2 z2] 28)).trans he5)))));have X1:=Blk.ext (Blk.new_at (((w.alloc (.cells #[.bool true,.slice p l cp] 28)).alloc (.cells #[.bool false,.slice p2 k cq] 28)).alloc (.cells #[.bool false,.slice none 0 0] 28)) (w.heap.size+1+1+1) (by simp) 28 #[.bool false,.slice none 0 0]) (((he1.trans he2).trans he3).trans (((Ext.refl w3).alloc (.cells #[.bool b1,.slice x1 y1 z1] 28)).trans (((he4.alloc (.cells #[.bool b2,.slice x2 y2 z2] 28)).trans he5))));have HX0:=zH X0;have HX1:=zH X1;have x00:=X0.cell 0;have x01:=X0.cell 1;have x10:=X1.cell 0;have x11:=X1.cell 1;have y00:=X0.frozen 0;have y01:=X0.frozen 1;have y10:=X1.frozen 0;have y11:=X1.frozen 1;simp at x00 x01 x10 x11;have p10:w5.cell? ⟨w3.heap.size,0,none⟩=some (.bool b1):=Ext.get (((Ext.refl w4).alloc (.cells #[.bool b2,.slice x2 y2 z2] 28)).trans he5) c10.1;have p11:w5.cell? ⟨w3.heap.size,1,none⟩=some (.slice x1 y1 z1):=Ext.get (((Ext.refl w4).alloc (.cells #[.bool b2,.slice x2 y2 z2] 28)).trans he5) c10.2;have q10:w5.cell? ⟨w4.heap.size,0,none⟩=some (.bool b2):=he5.get (by simp);have q11:w5.cell? ⟨w4.heap.size,1,none⟩=some (.slice x2 y2 z2):=he5.get (by simp);have HXW:=zH (show Ext w w5 from(((((E1.out.trans he2).trans he3).trans ((Ext.refl w3).alloc _)).trans he4).alloc _).trans he5);have HI1':=zH (HI1.out.ext (((Ext.refl w3).alloc (.cells #[.bool b1,.slice x1 y1 z1] 28)).trans ((he4.alloc (.cells #[.bool b2,.slice x2 y2 z2] 28)).trans he5)));have HI2':=zH (HI2.out.ext (((Ext.refl w4).alloc (.cells #[.bool b2,.slice x2 y2 z2] 28)).trans he5));have HSZ5:=zH (show w.heap.size<=w.heap.size+1+1/\w.heap.size<=w.heap.size+1+1+1 by omega);clear X0 X1 gw4 c10;generalize hQ:w4.heap.size=Q at*
  generalize hP:w3.heap.size=P at*
  generalize hB:w.heap.size+1+1+1=B at*
  generalize hA:w.heap.size+1+1=A at*
  have n1:A≠P:=by omega
  have n2:A≠Q:=by omega
  have n3:B≠P:=by omega
  have n4:B≠Q:=by omega
  have n5:A≠B:=by omega
  go_region_held3 (fun x=>x.cell? ⟨P,0,none⟩=some (.bool b1)/\x.cell? ⟨P,1,none⟩=some (.slice x1 y1 z1)/\x.cell? ⟨Q,0,none⟩=some (.bool b2)/\x.cell? ⟨Q,1,none⟩=some (.slice x2 y2 z2)) (go_keep) (fail)
  go_wp2_with fail
  have st:=stored2i (w0:=w) (u0:= .bool b1) (u1:= .slice x1 y1 z1) (u2:= .bool b2) (u3:= .slice x2 y2 z2) HX0.out.drew HX1.out.drew (noU2 _ _ _ _) (noU2 _ _ _ _) (Ne.symm n5) HXW.out.drew HSZ5.out.1 HSZ5.out.2;simp only[put2]at st;refine bodyPost_ret (v:= .tuple #[.agg #[.bool b1,.slice x1 y1 z1],.agg #[.bool b2,.slice x2 y2 z2],.int .i64 0]) ?_ rfl ⟨_,_,_,_,rfl,st.1 _ _ _ HI1'.out,st.1 _ _ _ HI2'.out,st.2⟩;simp[results,Tryz.results97,go_sem, *]
theorem reduce_parts {y z:Int}(hz:z≠0):
    (0<z->y=(Rat.divInt y z).num*(y.natAbs.gcd z.natAbs:Nat)/\z=((Rat.divInt y z).den:Int)*(y.natAbs.gcd z.natAbs:Nat))/\
    (z<0-> -y=(Rat.divInt y z).num*(y.natAbs.gcd z.natAbs:Nat)/\ -z=((Rat.divInt y z).den:Int)*(y.natAbs.gcd z.natAbs:Nat)):=by
  obtain⟨e1,e2⟩:=Nm.num_of_pair y z hz;have e3:=Nm.den_of_pair y z hz;have d1:(Rat.divInt y z).num.natAbs*y.natAbs.gcd z.natAbs=y.natAbs:=by rw[e1];exact Nat.div_mul_cancel (Nat.gcd_dvd_left _ _)
  have d2:(Rat.divInt y z).den*y.natAbs.gcd z.natAbs=z.natAbs:=by rw[e3];exact Nat.div_mul_cancel (Nat.gcd_dvd_right _ _)
  generalize (Rat.divInt y z).num=a at*
  generalize (Rat.divInt y z).den=b at*
  generalize y.natAbs.gcd z.natAbs=g at*
  have d2':(b:Int)*(g:Int)=(z.natAbs:Int):=by rw[<-d2,Int.natCast_mul]
  have d1':a*(g:Int)=if a<0 then-(y.natAbs:Int)else(y.natAbs:Int):=by
    rw[<-d1,Int.natCast_mul];split
    · rw[<-Int.neg_mul];congr 1;omega
    congr 1;omega
  clear e1 e3 d1 d2;constructor
  · intro hp
    rw[Int.sign_eq_one_of_pos hp,Int.mul_one,Int.sign_neg_iff]at e2;refine⟨?_,by omega⟩;rw[d1'];split
    · have:=e2.1 ‹_›;omega
    have:¬y<0:=fun h=> ‹¬a<0› (e2.2 h)
    omega
  intro hn;rw[Int.sign_eq_neg_one_of_neg hn]at e2;have e4:a<0↔0<y:=by
    rw[e2,<-Int.sign_pos_iff];omega
  refine⟨?_,by omega⟩;rw[d1'];split
  · have:=e4.1 ‹_›;omega
  have:¬0<y:=fun h=> ‹¬a<0› (e4.2 h)
  omega
theorem put2_blk {w:World}{g:Nat}{t:TypeId}{a b:Value}(h:Blk w g t #[a,b])(u0 u1:Value):Blk (put2 w g u0 u1) g t #[u0,u1]:=(h.set_ 0 u0).set_ 1 u1
def Halves (L:Nat)(w:World)(G:Nat)(a b g:Int)(w':World):Prop:=
  ∃ b1 p1 l1 k1 b2 p2 l2 k2 b3 p3 l3 k3,Blk w' w.heap.size 28 #[.bool b1,.slice p1 l1 k1]/\Blk w' (w.heap.size+1) 28 #[.bool b2,.slice p2 l2 k2]/\Blk w' G 28 #[.bool b3,.slice p3 l3 k3]/\
    Blk w' (w.heap.size+1+1) 30 #[.bool false,.slice none 0 0,.bool false,.slice none 0 0]/\
    IntIn L w' b1 (.slice p1 l1 k1) (a*g)/\IntIn L w' b2 (.slice p2 l2 k2) (b*g)/\IntIn L w' b3 (.slice p3 l3 k3) g/\Ext w w'
theorem r3reduce_any (n m:Bool)(u v:Value)(L:Nat)(y z:Int)(w:World)(hu:IntIn L w n u y)(hv:IntIn L w m v z)(hL:L<=150000)(hz:z≠0):
    Calls Tryz.prog 67 #[.agg #[.bool n,u],.agg #[.bool m,v]] w (RetR (Rat.divInt y z) w):=by
  have hlz:=hv.nl;have hly:=hu.nl;have hna:=hu.abs.1;have hnb:=hv.abs.1;obtain⟨p,l,cp,rfl⟩:=hu.form;obtain⟨q,k,cq,rfl⟩:=hv.form;have hG0:y.natAbs.gcd z.natAbs≠0:=by
    intro h;have:=Nat.eq_zero_of_gcd_eq_zero_right h;omega
  have hGl:Nm.nl (y.natAbs.gcd z.natAbs)<=L:=Nat.le_trans (Nm.nl_mono (Nat.gcd_le_right _ (by omega))) hlz;have hE1:Ext w ((((w.alloc (.cells #[.bool n,.slice p l cp] 28)).alloc (.cells #[.bool m,.slice q k cq] 28)).alloc (.cells #[.bool false,.slice none 0 0,.bool false,.slice none 0 0] 30))):=(((Ext.refl _).alloc _).alloc _).alloc _;have HE1:=zH hE1;have H1:=zH (rgcd_any _ _ L y.natAbs z.natAbs _ (hna.ext hE1) (hnb.ext hE1) (by omega));have HA:=zH (fun W (h:Ext w W)=>hu.ext h);have HB:=zH (fun W (h:Ext w W)=>hv.ext h);have hn0:=fun W t (h:NatC W t (y.natAbs.gcd z.natAbs))=>r2new_any false t L _ W (h.isIn hGl) (by omega)
  have HP:=zH (reduce_parts (y:=y) hz);generalize hq:Rat.divInt y z=r at HP⊢
  have HNL:=zH (And.intro hly (And.intro hlz hGl));clear hE1 hu hv hna hnb hGl hq hly hlz;generalize y.natAbs.gcd z.natAbs=g at*
  rw[sg_false]at hn0;have HN0:=zH hn0;have HG0:=zH hG0;have HZ:=zH hz;clear hn0 hG0 hz;go_enter Tryz.func67,Tryz.ntmps67
  go_wp2_with fail
  refine H1.out.mono ?_;rintro e w1 ⟨gv,rfl,hg,he1⟩;have HGV:=zH hg;clear hg;go_wp2_with fail
  refine(HN0.out _ _ HGV.out).mono ?_;rintro e w2 ⟨b3,gv2,rfl,hg2,he2⟩;obtain⟨p3,l3,k3,rfl⟩:=hg2.form;have HG2:=zH hg2;clear hg2;have he12:=he1.trans he2;have hb12:Ext ((w.alloc (.cells #[.bool n,.slice p l cp] 28)).alloc (.cells #[.bool m,.slice q k cq] 28)) w2:=((Ext.refl _).alloc _).trans he12;have gw2:w2.cell? ⟨w.heap.size,0,none⟩=some (.bool n)/\w2.cell? ⟨w.heap.size,1,none⟩=some (.slice p l cp)/\w2.cell? ⟨w.heap.size+1,0,none⟩=some (.bool m)/\w2.cell? ⟨w.heap.size+1,1,none⟩=some (.slice q k cq):=
    ⟨hb12.get (by simp),hb12.get (by simp),hb12.get (by simp),hb12.get (by simp)⟩
  have sz:w.heap.size+1+1<w2.heap.size:=by
    have h1:=he12.size;simp only[World.size_alloc]at h1;omega
  have sza:w.heap.size<w2.heap.size:=by omega
  have szb:w.heap.size+1<w2.heap.size:=by omega
  have HSG:=zH (fun W (h:Ext w W)=>r2sign_any m (.slice q k cq) L z W (HB.out W h) (by omega));have HEW:=zH (HE1.out.trans he12);have HB12:=zH hb12;have HE12:=zH he12;clear hb12 he12;go_wp2_with fail
  refine(HSG.out _ (HEW.out.alloc _)).mono ?_;rintro e w3 ⟨rfl,he3⟩;have gw3:w3.cell? ⟨w.heap.size,0,none⟩=some (.bool n)/\w3.cell? ⟨w.heap.size,1,none⟩=some (.slice p l cp)/\w3.cell? ⟨w.heap.size+1,0,none⟩=some (.bool m)/\w3.cell? ⟨w.heap.size+1,1,none⟩=some (.slice q k cq):=
    ⟨(((Ext.refl w2).alloc _).trans he3).get gw2.1,(((Ext.refl w2).alloc _).trans he3).get gw2.2.1,(((Ext.refl w2).alloc _).trans he3).get gw2.2.2.1,(((Ext.refl w2).alloc _).trans he3).get gw2.2.2.2⟩
  have b1:Blk w3 w.heap.size 28 #[.bool n,.slice p l cp]:=Blk.ext (Blk.new_at w _ rfl _ _) (((Ext.refl _).alloc _).trans (HB12.out.trans (((Ext.refl w2).alloc _).trans he3)));have b2:Blk w3 (w.heap.size+1) 28 #[.bool m,.slice q k cq]:=Blk.ext (Blk.new_at (w.alloc (.cells #[.bool n,.slice p l cp] 28)) _ (by simp) _ _) (HB12.out.trans (((Ext.refl w2).alloc _).trans he3));have b3':Blk w3 w2.heap.size 28 #[.bool b3,.slice p3 l3 k3]:=Blk.ext (Blk.new_at w2 _ rfl _ _) he3;have b4:Blk w3 (w.heap.size+1+1) 30 #[.bool false,.slice none 0 0,.bool false,.slice none 0 0]:=Blk.ext (Blk.new_at ((w.alloc (.cells #[.bool n,.slice p l cp] 28)).alloc (.cells #[.bool m,.slice q k cq] 28)) _ (by simp) _ _) (HE12.out.trans (((Ext.refl w2).alloc _).trans he3));have HEW3:=zH ((HEW.out.alloc _).trans he3);have HG3:=zH (HG2.out.ext (((Ext.refl w2).alloc _).trans he3));have HBB:=zH (And.intro b1 (And.intro b2 (And.intro b3' b4)));clear b1 b2 b3' b4 gw2;go_upto_if 20 with fail
  go_cut [] (fun wx=>Halves L w w2.heap.size r.num r.den g wx)
  case first=>
    by_cases hneg:z<0
    · have hs:z.sign= -1:=Int.sign_eq_neg_one_of_neg hneg
      have HPN:=zH (HP.out.2 hneg);rw[hs];clear hs;go_wp2_with fail
      refine(r2neg_any n (.slice p l cp) L y w3 (HA.out _ HEW3.out) (by omega)).mono ?_;rintro e w4 ⟨b1,t1,rfl,hc1,he4⟩;obtain⟨x1,y1,z1,rfl⟩:=hc1.form;have k1:=Blk.ext HBB.out.1 he4;have k2:=Blk.ext HBB.out.2.1 he4;have c10:=k1.cell 0;have c11:=k1.cell 1;have f10:=k1.frozen 0;have f11:=k1.frozen 1;have c20:=k2.cell 0;have c21:=k2.cell 1;simp at c10 c11 c20 c21;have HK1:=zH k1;have HK2:=zH k2;have HC1:=zH hc1;clear k1 k2 hc1 gw3;go_wp2_with fail
      have o1:=put2_own w4 w.heap.size (.bool b1) (.slice x1 y1 z1);have e4:Ext w (put2 w4 w.heap.size (.bool b1) (.slice x1 y1 z1)):=o1.ext (HEW3.out.trans he4) (Nat.le_refl _);have HNB:=zH (r2neg_any m (.slice q k cq) L z _ (HB.out _ e4) (by omega));have j1:=put2_blk HK1.out (.bool b1) (.slice x1 y1 z1);have j2:=HK2.out.own o1 (by omega);have J3:=zH ((Blk.ext HBB.out.2.2.1 he4).own o1 (by omega));have J4:=zH ((Blk.ext HBB.out.2.2.2 he4).own o1 (by omega));have HC1':=zH (HC1.out.own HK1.out (noU2 _ _ _ _) o1);have HG4:=zH ((HG3.out.ext he4).own HK1.out (noU2 _ _ _ _) o1);obtain⟨wm,hwm⟩:∃wm,wm=put2 w4 w.heap.size (.bool b1) (.slice x1 y1 z1):=⟨_,rfl⟩;rw[<-hwm]at o1 e4 HNB j1 j2 J3 J4 HC1' HG4;simp only[put2]at hwm;rw[<-hwm];have HE4:=zH e4;have HJ1:=zH j1;have HJ2:=zH j2;clear hwm o1 e4 j1 j2 c10 c11 c20 c21 f10 f11;refine HNB.out.mono ?_;rintro e w5 ⟨b2,t2,rfl,hc2,he5⟩;obtain⟨x2,y2,z2,rfl⟩:=hc2.form;have HC2:=zH hc2;have k2:=Blk.ext HJ2.out he5;have c20:=k2.cell 0;have c21:=k2.cell 1;have f20:=k2.frozen 0;have f21:=k2.frozen 1;simp at c20 c21;have HK2':=zH k2;clear k2 hc2;go_wp2_with fail
      go_meet
      have o2:=put2_own w5 (w.heap.size+1) (.bool b2) (.slice x2 y2 z2);have i1:=(HC1'.out.ext he5).own HK2'.out (noU2 _ _ _ _) o2;have i2:=HC2.out.own HK2'.out (noU2 _ _ _ _) o2;have i3:=(HG4.out.ext he5).own HK2'.out (noU2 _ _ _ _) o2;refine⟨b1,x1,y1,z1,b2,x2,y2,z2,b3,p3,l3,k3,(Blk.ext HJ1.out he5).own o2 (by omega),put2_blk HK2'.out _ _,(Blk.ext J3.out he5).own o2 (by omega),(Blk.ext J4.out he5).own o2 (by omega),?_,?_,i3.isIn (by rw[Int.natAbs_natCast];exact HNL.out.2.2),o2.ext (HE4.out.trans he5) (by omega)⟩
      · rw[<-HPN.out.1];exact i1.isIn (by rw[Int.natAbs_neg];exact HNL.out.1)
      rw[<-HPN.out.2];exact i2.isIn (by rw[Int.natAbs_neg];exact HNL.out.2.1)
    have hs:z.sign=1:=Int.sign_eq_one_of_pos (by have:=HZ.out;omega);have HPN:=zH (HP.out.1 (by have:=HZ.out;omega));rw[hs];clear hs;go_wp2_with fail
    go_meet
    refine⟨n,p,l,cp,m,q,k,cq,b3,p3,l3,k3,HBB.out.1,HBB.out.2.1,HBB.out.2.2.1,HBB.out.2.2.2,?_,?_,HG3.out.isIn (by rw[Int.natAbs_natCast];exact HNL.out.2.2),HEW3.out⟩
    · rw[<-HPN.out.1];exact HA.out _ HEW3.out
    rw[<-HPN.out.2];exact HB.out _ HEW3.out
  obtain⟨b1,x1,y1,z1,b2,x2,y2,z2,b4,x4,y4,z4,s1,s2,s3,s4,i1,i2,i3,hx⟩:=hcut;have HD1:=zH (fun W (x:Ext wc W)=>r2div_any b1 b4 _ _ L _ _ r.num W (i1.ext x) (i3.ext x) hL (by have:=HG0.out;omega) rfl);have HD2:=zH (fun W (x:Ext wc W)=>r2div_any b2 b4 _ _ L _ _ (r.den:Int) W (i2.ext x) (i3.ext x) hL (by have:=HG0.out;omega) rfl);have HX:=zH hx;have HS:=zH (show∀W,Ext wc W->Blk W w.heap.size 28 #[.bool b1,.slice x1 y1 z1]/\Blk W (w.heap.size+1) 28 #[.bool b2,.slice x2 y2 z2]/\Blk W w2.heap.size 28 #[.bool b4,.slice x4 y4 z4]/\Blk W (w.heap.size+1+1) 30 #[.bool false,.slice none 0 0,.bool false,.slice none 0 0]from fun W x=>⟨s1.ext x,s2.ext x,s3.ext x,s4.ext x⟩);clear i1 i2 i3 hx s1 s2 s3 s4 H1 HN0 HSG HP;have g0:=HS.out wc (Ext.refl _);have c10:=g0.1.cell 0;have c11:=g0.1.cell 1;have c30:=g0.2.2.1.cell 0;have c31:=g0.2.2.1.cell 1;simp at c10 c11 c30 c31;clear g0;go_wp2_with fail
  refine(HD1.out _ (Ext.refl _)).mono ?_;rintro e w5 ⟨n1,v1,n2,v2,rfl,hq1,hr1,he5⟩;obtain⟨f1,f2,f3,rfl⟩:=hq1.form;obtain⟨f4,f5,f6,rfl⟩:=hr1.form;have HQ1:=zH hq1;have g5:=HS.out w5 he5;have c20:=g5.2.1.cell 0;have c21:=g5.2.1.cell 1;have c32:=g5.2.2.1.cell 0;have c33:=g5.2.2.1.cell 1;have z1:w.heap.size+1<w5.heap.size:=Blk.lt g5.2.1;have z2:w2.heap.size<w5.heap.size:=Blk.lt g5.2.2.1;have z0:w.heap.size<w5.heap.size:=by omega
  have z3:w2.heap.size<w5.heap.size+1:=by omega
  have z4:w.heap.size+1<w5.heap.size+1:=by omega
  simp at c20 c21 c32 c33;clear g5 hq1 hr1 c10 c11 c30 c31;go_wp2_with fail
  refine(HD2.out _ ((he5.alloc _).alloc _)).mono ?_;rintro e w6 ⟨n3,v3,n4,v4,rfl,hq2,hr2,he6⟩;obtain⟨g1,g2,g3,rfl⟩:=hq2.form;obtain⟨g4,g5,g6,rfl⟩:=hr2.form;have HQ2:=zH hq2;have k6:=HS.out w6 (((he5.alloc _).alloc _).trans he6);have z5:w.heap.size+1+1<w6.heap.size:=Blk.lt k6.2.2.2;have d0:=k6.2.2.2.cell 0;have d1:=k6.2.2.2.cell 1;have d2:=k6.2.2.2.cell 2;have d3:=k6.2.2.2.cell 3;have e0:=k6.2.2.2.frozen 0;have e1:=k6.2.2.2.frozen 1;have e2:=k6.2.2.2.frozen 2;have e3:=k6.2.2.2.frozen 3;have HR6:=zH k6.2.2.2;simp at d0 d1 d2 d3;have p0:w6.cell? ⟨w5.heap.size,0,none⟩=some (.bool n1):=he6.get (by simp);have p1:w6.cell? ⟨w5.heap.size,1,none⟩=some (.slice f1 f2 f3):=he6.get (by simp);have z6:w5.heap.size+1<w6.heap.size:=by
    have h1:=he6.size;simp only[World.size_alloc]at h1;omega
  have z7:w5.heap.size<w6.heap.size:=by omega
  have z8:w5.heap.size<w6.heap.size+1:=by omega
  have z9:w.heap.size+1<w6.heap.size:=by omega
  have z10:w.heap.size+1+1≠w6.heap.size:=by omega
  have z11:w.heap.size+1+1≠w6.heap.size+1:=by omega
  have HQ1':=zH (HQ1.out.ext ((((Ext.refl _).alloc _).alloc _).trans he6));have HX6:=zH (HX.out.trans (((he5.alloc _).alloc _).trans he6));clear k6 hq2 hr2 c20 c21 c32 c33;go_wp2_with fail
  have o:=put4_own w6 (w.heap.size+1+1) (.bool n1) (.slice f1 f2 f3) (.bool n3) (.slice g1 g2 g3);have hrat:RatC _ n1 (.slice f1 f2 f3) n3 (.slice g1 g2 g3) r:=RatC.own (⟨HQ1'.out,HQ2.out⟩:RatC w6 n1 (.slice f1 f2 f3) n3 (.slice g1 g2 g3) r) HR6.out (noU4 _ _ _ _ _ _ _ _) o;have hext:=o.ext HX6.out (by omega);simp only[put4]at hrat hext;refine bodyPost_ret (v:= .agg #[.bool n1,.slice f1 f2 f3,.bool n3,.slice g1 g2 g3]) ?_ rfl ⟨_,_,_,_,rfl,hrat.ext (((Ext.refl _).alloc _).alloc _),(hext.alloc _).alloc _⟩;simp[results,Tryz.results67,go_sem, *]
theorem r3fromInt_any (a:Int)(w:World)(h1: -9223372036854775808<=a)(h2:a<=9223372036854775807):
    Calls Tryz.prog 11 #[.int .i64 a] w (RetR (a:Rat) w):=by
  have HF:=zH (fun W=>r2fromInt_any a W h1 h2);have HF1:=zH (fun W=>r2fromInt_any 1 W (by omega) (by omega));have HG:=zH (newRat w);have HST:=zH (fun w1 n1 t1 n2 t2 u0 u1 u2 u3=>stored_rat (w:=w) (w1:=w1) (n:=n1) (u:=t1) (m:=n2) (v:=t2) (q:=(a:Rat)) (u0:=u0) (u1:=u1) (u2:=u2) (u3:=u3));clear h1 h2;go_enter Tryz.func11,Tryz.ntmps11
  go_wp2_with fail
  refine(HF.out _).mono ?_;rintro e w1 ⟨b1,t1,rfl,hc1,he1⟩;have HC1:=zH hc1;obtain⟨p1,l1,k1,rfl⟩:=hc1.form;clear hc1;go_wp2_with fail
  refine(HF1.out _).mono ?_;rintro e w2 ⟨b2,t2,rfl,hc2,he2⟩;have HC2:=zH hc2;obtain⟨p2,l2,k2,rfl⟩:=hc2.form;have gk:=HG.out _ (he1.trans he2);clear hc2;go_wp2_with fail
  have st:=HST.out _ _ _ _ _ (.bool b1) (.slice p1 l1 k1) (.bool b2) (.slice p2 l2 k2) (he1.trans he2) (ratC_int (HC1.out.ext he2) HC2.out);refine bodyPost_ret (v:= .agg #[.bool b1,.slice p1 l1 k1,.bool b2,.slice p2 l2 k2]) ?_ rfl ⟨_,_,_,_,rfl,st.1,st.2⟩;simp[results,Tryz.results11,go_sem, *]
theorem r3norm_any (n m:Bool)(u v:Value)(L:Nat)(q:Rat)(w:World)(h:RatIn L w n u m v q)(hL:L<=150000):
    Calls Tryz.prog 64 #[.agg #[.bool n,u,.bool m,v]] w (RetR q w):=by
  obtain⟨y,z,hu,hv,hq⟩:=h;obtain⟨p,l,cp,rfl⟩:=hu.form;obtain⟨q2,k,cq,rfl⟩:=hv.form;have hE1:Ext w ((w.alloc (.cells #[.bool n,.slice p l cp,.bool m,.slice q2 k cq] 30)).alloc (.cells #[.bool false,.slice none 0 0,.bool false,.slice none 0 0] 30)):=((Ext.refl _).alloc _).alloc _;have HG:=zH (newRat (w.alloc (.cells #[.bool n,.slice p l cp,.bool m,.slice q2 k cq] 30)));have HST:=zH (fun w1 n1 t1 n2 t2 u0 u1 u2 u3=>stored_rat (w:=w.alloc (.cells #[.bool n,.slice p l cp,.bool m,.slice q2 k cq] 30)) (w1:=w1) (n:=n1) (u:=t1) (m:=n2) (v:=t2) (q:=q) (u0:=u0) (u1:=u1) (u2:=u2) (u3:=u3));have HS:=zH (r2sign_any m (.slice q2 k cq) L z _ (hv.ext hE1) (by omega));by_cases hz:z=0
  · subst hz
    have hq0:q=((0:Int):Rat):=by rw[hq,Rat.divInt_zero];rfl
    subst hq0;have HF:=zH (fun W=>r3fromInt_any 0 W (by omega) (by omega));clear hu hv hq hE1;go_enter Tryz.func64,Tryz.ntmps64
    go_wp2_with fail
    refine HS.out.mono ?_;rintro e w1 ⟨rfl,he⟩;rw[show Int.sign 0=0 from rfl];go_wp2_with fail
    refine(HF.out _).mono ?_;rintro e w2 ⟨b1,t1,b2,t2,rfl,hc,he2⟩;have HC:=zH hc;obtain⟨p1,l1,k1,p2,l2,k2,rfl,rfl⟩:=hc.form;have hE:=he.trans he2;have gk:=HG.out _ hE;simp only[World.size_alloc]at gk;have HE:=zH hE;clear hc hE;go_wp2_with fail
    have st:=HST.out _ _ _ _ _ (.bool b1) (.slice p1 l1 k1) (.bool b2) (.slice p2 l2 k2) HE.out HC.out;simp only[World.size_alloc]at st;refine bodyPost_ret (v:= .agg #[.bool b1,.slice p1 l1 k1,.bool b2,.slice p2 l2 k2]) ?_ rfl ⟨_,_,_,_,rfl,st.1,((Ext.refl _).alloc _).trans st.2⟩;simp[results,Tryz.results64,go_sem, *]
  have HN0:=fun W (x:Ext w W)=>r3reduce_any n m (.slice p l cp) (.slice q2 k cq) L y z W (hu.ext x) (hv.ext x) hL hz
  rw[<-hq]at HN0;have HN:=zH HN0;have hs0:(z.sign==0)=false:=by
    rw[beq_eq_false_iff_ne,ne_eq,Int.sign_eq_zero_iff_zero];exact hz
  have HE1:=zH hE1;have hb:Ext (w.alloc (.cells #[.bool n,.slice p l cp,.bool m,.slice q2 k cq] 30)) ((w.alloc (.cells #[.bool n,.slice p l cp,.bool m,.slice q2 k cq] 30)).alloc (.cells #[.bool false,.slice none 0 0,.bool false,.slice none 0 0] 30)):=(Ext.refl _).alloc _;have HB:=zH hb;generalize z.sign=sz at HS hs0
  clear hu hv hq hE1 hz HN0 hb;go_enter Tryz.func64,Tryz.ntmps64
  go_wp2_with fail
  refine HS.out.mono ?_;rintro e w1 ⟨rfl,he⟩;have gr:=ratBox w n m (.slice p l cp) (.slice q2 k cq) _ (HB.out.trans he);go_wp2_with fail
  refine(HN.out _ (HE1.out.trans he)).mono ?_;rintro e w2 ⟨b1,t1,b2,t2,rfl,hc,he2⟩;have HC:=zH hc;obtain⟨p1,l1,k1,p2,l2,k2,rfl,rfl⟩:=hc.form;have hE:=he.trans he2;have gk:=HG.out _ hE;simp only[World.size_alloc]at gk;have HE:=zH hE;clear hc hE gr;go_wp2_with fail
  have st:=HST.out _ _ _ _ _ (.bool b1) (.slice p1 l1 k1) (.bool b2) (.slice p2 l2 k2) HE.out HC.out;simp only[World.size_alloc]at st;refine bodyPost_ret (v:= .agg #[.bool b1,.slice p1 l1 k1,.bool b2,.slice p2 l2 k2]) ?_ rfl ⟨_,_,_,_,rfl,st.1,((Ext.refl _).alloc _).trans st.2⟩;simp[results,Tryz.results64,go_sem, *]
theorem r3neg_any (n m:Bool)(u v:Value)(L:Nat)(q:Rat)(w:World)(h:RatIn L w n u m v q)(hL:L<=140000):
    Calls Tryz.prog 63 #[.agg #[.bool n,u,.bool m,v]] w (RetR (-q) w):=by
  obtain⟨p,l,cp,q2,k,cq,rfl,rfl⟩:=h.form;have hE1:Ext w ((w.alloc (.cells #[.bool n,.slice p l cp,.bool m,.slice q2 k cq] 30)).alloc (.cells #[.bool false,.slice none 0 0,.bool false,.slice none 0 0] 30)):=((Ext.refl _).alloc _).alloc _;have HN:=zH (r3norm_any n m _ _ L q _ (h.ext hE1) (by omega));have HG:=zH (newRat (w.alloc (.cells #[.bool n,.slice p l cp,.bool m,.slice q2 k cq] 30)));have HST:=zH (fun w1 n1 t1 n2 t2 u0 u1 u2 u3=>stored_rat (w:=w.alloc (.cells #[.bool n,.slice p l cp,.bool m,.slice q2 k cq] 30)) (w1:=w1) (n:=n1) (u:=t1) (m:=n2) (v:=t2) (q:= -q) (u0:=u0) (u1:=u1) (u2:=u2) (u3:=u3));have hr:=h.rl;have hnn:Nm.nl q.num.natAbs<=L+1:=by unfold Nm.rl at hr;omega
  clear h hE1 hr;go_enter Tryz.func63,Tryz.ntmps63
  go_wp2_with fail
  refine HN.out.mono ?_;rintro e w1 ⟨b1,t1,b2,t2,rfl,hc,he⟩;obtain⟨p1,l1,k1,p2,l2,k2,rfl,rfl⟩:=hc.form;have HC:=zH hc;have HNG:=zH (fun W (x:Ext w1 W)=>r2neg_any b1 (.slice p1 l1 k1) (L+1) q.num W ((hc.1.ext x).isIn hnn) (by omega));have HE:=zH he;clear hc;go_wp2_with fail
  have X0:=Blk.ext (Blk.new_at (w.alloc (.cells #[.bool n,.slice p l cp,.bool m,.slice q2 k cq] 30)) (w.heap.size+1) (by simp) 30 #[.bool false,.slice none 0 0,.bool false,.slice none 0 0]) (HE.out.alloc (.cells #[.bool b1,.slice p1 l1 k1,.bool b2,.slice p2 l2 k2] 30));have B0:=Blk.new_at w1 w1.heap.size rfl 30 #[.bool b1,.slice p1 l1 k1,.bool b2,.slice p2 l2 k2];have HX0:=zH X0;have hlt:=Blk.lt (Blk.ext (Blk.new_at (w.alloc (.cells #[.bool n,.slice p l cp,.bool m,.slice q2 k cq] 30)) (w.heap.size+1) (by simp) 30 #[.bool false,.slice none 0 0,.bool false,.slice none 0 0]) HE.out);have HEW:=zH (show Ext w (w1.alloc (.cells #[.bool b1,.slice p1 l1 k1,.bool b2,.slice p2 l2 k2] 30))from(((Ext.refl _).alloc _).alloc _).trans (HE.out.alloc _));have HN2:=zH (fun W (x:Ext (w1.alloc (.cells #[.bool b1,.slice p1 l1 k1,.bool b2,.slice p2 l2 k2] 30)) W)=>HNG.out W (((Ext.refl _).alloc _).trans x));have HDC:=zH (HC.out.2.ext ((Ext.refl w1).alloc (.cells #[.bool b1,.slice p1 l1 k1,.bool b2,.slice p2 l2 k2] 30)));have HSZ:=zH (show w.heap.size<=w.heap.size+1 by omega);clear X0;generalize (w1.alloc (.cells #[.bool b1,.slice p1 l1 k1,.bool b2,.slice p2 l2 k2] 30))=wb at*
  generalize hX:w1.heap.size=X at*
  generalize hR:w.heap.size+1=R at*
  have n1:X≠R:=by omega
  have gl:∀x,Own R wb x->x.cell? ⟨X,0,none⟩=some (.bool b1)/\x.cell? ⟨X,1,none⟩=some (.slice p1 l1 k1)/\x.cell? ⟨X,2,none⟩=some (.bool b2)/\x.cell? ⟨X,3,none⟩=some (.slice p2 l2 k2):=fun x h=>
    ⟨(B0.own h n1).cell 0,(B0.own h n1).cell 1,(B0.own h n1).cell 2,(B0.own h n1).cell 3⟩
  clear B0 hX hlt;go_region_held3 (fun x=>Own R wb x) (first|(with_reducible assumption)|(with_reducible exact Own.drew (Own.refl _ _))|(with_reducible (apply Own.of_ext;assumption))|(with_reducible (refine Own.set_at (Own.set_at (Own.set_at (Own.set_at ?_ _ _ _) _ _ _) _ _ _) _ _ _;first|assumption|(apply Own.of_ext;assumption))))
    (first|(go_at_call 92;((with_reducible refine(HN2.out _ (by first|assumption|exact Ext.drew (Ext.refl _))).mono ?_));rintro e wz ⟨j1,t1,rfl,hi,hen3⟩;obtain⟨g1,g2,g3,rfl⟩:=hi.form;have hx3:Ext wb wz:=Ext.trans (by first|assumption|exact Ext.drew (Ext.refl _)) hen3;have X0:=Blk.ext HX0.out hx3;have x00:=X0.cell 0;have x01:=X0.cell 1;have x02:=X0.cell 2;have x03:=X0.cell 3;have y00:=X0.frozen 0;have y01:=X0.frozen 1;have y02:=X0.frozen 2;have y03:=X0.frozen 3;simp at x00 x01 x02 x03))
  go_wp2_with fail
  have o:=put4_own wz R (.bool j1) (.slice g1 g2 g3) (.bool b2) (.slice p2 l2 k2);have hrat:RatC _ j1 (.slice g1 g2 g3) b2 (.slice p2 l2 k2) (-q):=RatC.own (⟨by rw[Rat.neg_num];exact hi,by rw[Rat.neg_den];exact HDC.out.ext hx3⟩:RatC wz j1 (.slice g1 g2 g3) b2 (.slice p2 l2 k2) (-q)) X0 (noU4 _ _ _ _ _ _ _ _) o;have hext:=o.ext (HEW.out.trans hx3) HSZ.out;simp only[put4]at hrat hext;refine bodyPost_ret (v:= .agg #[.bool j1,.slice g1 g2 g3,.bool b2,.slice p2 l2 k2]) ?_ rfl ⟨_,_,_,_,rfl,hrat,hext⟩;simp[results,Tryz.results63,go_sem, *]
theorem DigS.set {w:World}{v:Value}{xs:List Nat}(h:DigS w v xs){p:Addr}{c:Value}(hc:w.cell? p=some c)(hn:∀x:Int,c≠ .int .u32 x)(u:Value):DigS (w.setCell p u) v xs:=by
  obtain⟨q,cap,rfl,hcap,hd,hq⟩:=h;refine⟨q,cap,rfl,hcap,hd,fun h0=> ?_⟩;obtain⟨b,o,rfl,hb⟩:=hq h0;refine⟨b,o,rfl,fun i hi=> ?_⟩;have h1:=hb i hi;rw[World.cell?_setCell_other _ _ _ _ (by
    rintro rfl;rw[hc]at h1;exact hn _ (Option.some.inj h1))]
  exact h1
theorem RatC.setB {w:World}{n m:Bool}{u v:Value}{q:Rat}(h:RatC w n u m v q){p:Addr}{b:Bool}(hc:w.cell? p=some (.bool b))(x:Value):RatC (w.setCell p x) n u m v q:=
  ⟨⟨h.1.1,DigS.set h.1.2 hc (fun _=>by simp) x⟩,⟨h.2.1,DigS.set h.2.2 hc (fun _=>by simp) x⟩⟩
theorem RatC.setS {w:World}{n m:Bool}{u v:Value}{q:Rat}(h:RatC w n u m v q){p:Addr}{a:Option Addr}{l c:Nat}(hc:w.cell? p=some (.slice a l c))(x:Value):RatC (w.setCell p x) n u m v q:=
  ⟨⟨h.1.1,DigS.set h.1.2 hc (fun _=>by simp) x⟩,⟨h.2.1,DigS.set h.2.2 hc (fun _=>by simp) x⟩⟩
theorem RatC.via {w w':World}{n m:Bool}{u v:Value}{q:Rat}(e:Ext w w')(h:RatC w n u m v q):RatC w' n u m v q:=h.ext e
theorem RatC.alloc {w:World}{n m:Bool}{u v:Value}{q:Rat}(h:RatC w n u m v q)(o:Obj):RatC (w.alloc o) n u m v q:=h.ext ((Ext.refl _).alloc o)
theorem RatC.drew {w:World}{n m:Bool}{u v:Value}{q:Rat}(h:RatC w n u m v q):RatC w.drew n u m v q:=h.ext (Ext.refl _).drew
theorem bcell {W w1:World}(hb:Ext W w1):(∀b o,b<W.heap.size->w1.cell? ⟨b,o,none⟩=W.cell? ⟨b,o,none⟩)/\(∀b o,b<W.heap.size->w1.frozen? ⟨b,o,none⟩=W.frozen? ⟨b,o,none⟩):=
  ⟨fun b o h=>hb.cell (p:=⟨b,o,none⟩) h,fun b o h=>hb.frozen (p:=⟨b,o,none⟩) h⟩
def Two (w:World)(q r:Rat)(s t:Value)(w':World):Prop:=
  ∃ X Y b1 x1 y1 z1 b2 x2 y2 z2 b3 x3 y3 z3 b4 x4 y4 z4,s= .pointer (some ⟨X,0,none⟩)/\t= .pointer (some ⟨Y,0,none⟩)/\w.heap.size<=X/\w.heap.size<=Y/\
    (w'.cell? ⟨X,0,none⟩=some (.bool b1)/\w'.cell? ⟨X,1,none⟩=some (.slice x1 y1 z1)/\w'.cell? ⟨X,2,none⟩=some (.bool b2)/\w'.cell? ⟨X,3,none⟩=some (.slice x2 y2 z2))/\
    (w'.cell? ⟨Y,0,none⟩=some (.bool b3)/\w'.cell? ⟨Y,1,none⟩=some (.slice x3 y3 z3)/\w'.cell? ⟨Y,2,none⟩=some (.bool b4)/\w'.cell? ⟨Y,3,none⟩=some (.slice x4 y4 z4))/\
    RatC w' b1 (.slice x1 y1 z1) b2 (.slice x2 y2 z2) q/\RatC w' b3 (.slice x3 y3 z3) b4 (.slice x4 y4 z4) r/\Ext w w'
theorem r3mul_any (n m n' m':Bool)(u v u' v':Value)(L:Nat)(q r:Rat)(w:World)(h:RatIn L w n u m v q)(h':RatIn L w n' u' m' v' r)(hL:L<=70000):
    Calls Tryz.prog 31 #[.agg #[.bool n,u,.bool m,v],.agg #[.bool n',u',.bool m',v']] w (RetR (q*r) w):=by
  obtain⟨p1,l1,c1,p2,l2,c2,rfl,rfl⟩:=h.form;obtain⟨p3,l3,c3,p4,l4,c4,rfl,rfl⟩:=h'.form;have HNA:=zH (fun W (x:Ext w W)=>r3norm_any n m (.slice p1 l1 c1) (.slice p2 l2 c2) L q W (h.ext x) (by omega));have HNB:=zH (fun W (x:Ext w W)=>r3norm_any n' m' (.slice p3 l3 c3) (.slice p4 l4 c4) L r W (h'.ext x) (by omega));have hnl:Nm.nl q.num.natAbs<=L+1/\Nm.nl (q.den:Int).natAbs<=L+1/\Nm.nl r.num.natAbs<=L+1/\Nm.nl (r.den:Int).natAbs<=L+1:=by
    have h1:=h.rl;have h2:=h'.rl;unfold Nm.rl at h1 h2;simp only[Int.natAbs_natCast];omega
  have HNL:=zH hnl;clear h h' hnl;go_enter Tryz.func31,Tryz.ntmps31
  go_wp2_with fail
  have gA:∀x,Ext (((w.alloc (.cells #[.bool n,.slice p1 l1 c1,.bool m,.slice p2 l2 c2] 30)).alloc (.cells #[.bool n',.slice p3 l3 c3,.bool m',.slice p4 l4 c4] 30)).alloc (.cells #[.bool false,.slice none 0 0,.bool false,.slice none 0 0] 30)) x->x.cell? ⟨w.heap.size,0,none⟩=some (.bool n)/\x.cell? ⟨w.heap.size,1,none⟩=some (.slice p1 l1 c1)/\x.cell? ⟨w.heap.size,2,none⟩=some (.bool m)/\x.cell? ⟨w.heap.size,3,none⟩=some (.slice p2 l2 c2)/\
      x.cell? ⟨w.heap.size+1,0,none⟩=some (.bool n')/\x.cell? ⟨w.heap.size+1,1,none⟩=some (.slice p3 l3 c3)/\x.cell? ⟨w.heap.size+1,2,none⟩=some (.bool m')/\x.cell? ⟨w.heap.size+1,3,none⟩=some (.slice p4 l4 c4):=fun x hx=>by
    have a1:=ratBox w n m (.slice p1 l1 c1) (.slice p2 l2 c2) x ((((Ext.refl _).alloc _).alloc _).trans hx);have a2:=ratBox (w.alloc (.cells #[.bool n,.slice p1 l1 c1,.bool m,.slice p2 l2 c2] 30)) n' m' (.slice p3 l3 c3) (.slice p4 l4 c4) x (((Ext.refl _).alloc _).trans hx);simp only[World.size_alloc]at a2;exact⟨a1.1,a1.2.1,a1.2.2.1,a1.2.2.2.1,a2.1,a2.2.1,a2.2.2.1,a2.2.2.2.1⟩
  have HWB:=zH (show Ext w (((w.alloc (.cells #[.bool n,.slice p1 l1 c1,.bool m,.slice p2 l2 c2] 30)).alloc (.cells #[.bool n',.slice p3 l3 c3,.bool m',.slice p4 l4 c4] 30)).alloc (.cells #[.bool false,.slice none 0 0,.bool false,.slice none 0 0] 30))from(((Ext.refl _).alloc _).alloc _).alloc _);have HR0:=zH (Blk.new_at ((w.alloc (.cells #[.bool n,.slice p1 l1 c1,.bool m,.slice p2 l2 c2] 30)).alloc (.cells #[.bool n',.slice p3 l3 c3,.bool m',.slice p4 l4 c4] 30)) (w.heap.size+1+1) (by simp) 30 #[.bool false,.slice none 0 0,.bool false,.slice none 0 0]);have hz:(((w.alloc (.cells #[.bool n,.slice p1 l1 c1,.bool m,.slice p2 l2 c2] 30)).alloc (.cells #[.bool n',.slice p3 l3 c3,.bool m',.slice p4 l4 c4] 30)).alloc (.cells #[.bool false,.slice none 0 0,.bool false,.slice none 0 0] 30)).heap.size=w.heap.size+1+1+1:=by simp
  have HSZ:=zH hz;clear hz;generalize (((w.alloc (.cells #[.bool n,.slice p1 l1 c1,.bool m,.slice p2 l2 c2] 30)).alloc (.cells #[.bool n',.slice p3 l3 c3,.bool m',.slice p4 l4 c4] 30)).alloc (.cells #[.bool false,.slice none 0 0,.bool false,.slice none 0 0] 30))=wb at*
  go_cut [5,6] (fun s t wx=>Two wb q r s t wx)
  case first=>
    clear HR0 HNL;go_region_held3 (fun x=>Ext wb x) ((first|(with_reducible assumption)|((repeat (first|(with_reducible assumption)|(with_reducible exact Ext.refl _)|(with_reducible apply Ext.drew)|(with_reducible apply Ext.alloc)|((with_reducible refine Ext.setCell ?_ ?_ _);rotate_left;focus (first|omega|(simp;done)|(simp;omega)))|(with_reducible (apply Ext.via;assumption))));done)))
      (first|(go_at_call 64;((with_reducible refine(HNA.out _ (HWB.out.trans (by first|assumption|exact Ext.drew (Ext.refl _)))).mono ?_));rintro e wa ⟨b1,t1,b2,t2,rfl,hca,hea⟩;obtain⟨x1,y1,z1,x2,y2,z2,rfl,rfl⟩:=hca.form;have hsa:=hea.size;(try simp at hsa);obtain⟨ka,fa⟩:=bcell hea;(try simp at ka);(try simp at fa);(try have l1:wb.heap.size<wa.heap.size:=by omega);(try have l2:wb.heap.size+1<wa.heap.size:=by omega))|(go_at_call 64;((with_reducible refine(HNB.out _ (HWB.out.trans (by first|assumption|exact Ext.drew (Ext.refl _)))).mono ?_));rintro e wd ⟨b3,t3,b4,t4,rfl,hcb,heb⟩;obtain⟨x3,y3,z3,x4,y4,z4,rfl,rfl⟩:=hcb.form;have hsb:=heb.size;(try simp at hsb);obtain⟨kb,fb⟩:=bcell heb;(try simp at kb);(try simp at fb);(try have l3:wb.heap.size<wd.heap.size:=by omega);(try have l4:wb.heap.size+1<wd.heap.size:=by omega);(try have l5:wa.heap.size<wd.heap.size:=by omega);(try have l6:wa.heap.size+1<wd.heap.size:=by omega)))
    all_goals go_wp2_with fail
    all_goals go_meet
    all_goals have lt2:∀a:Nat,a<a+1+1:=fun a=>by omega
    all_goals try have q1:wa.heap.size≠wb.heap.size:=by omega
    all_goals try have q2:wb.heap.size≠wa.heap.size:=by omega
    all_goals try have q3:wb.heap.size<wa.heap.size+1:=by omega
    all_goals refine⟨_,_,b1,x1,y1,z1,b2,x2,y2,z2,b3,x3,y3,z3,b4,x4,y4,z4,rfl,rfl,?_,?_,⟨?_,?_,?_,?_⟩,⟨?_,?_,?_,?_⟩,?_,?_,?_⟩
    all_goals first
      |(with_reducible assumption)
      |omega
      |(simp[go_sem, *];done)
      |(rw[World.cell?_setCell_far,World.cell?_setCell_far,World.cell?_setCell_far,World.cell?_setCell_far]<;>first|(simp[go_sem, *];done)|(simp;omega))
      |((repeat (first|(with_reducible assumption)|(with_reducible apply RatC.drew)|(with_reducible apply RatC.alloc)|((with_reducible refine RatC.setB (b:=false) ?_ ?_ _);rotate_left;focus (simp[go_sem, *];done))|((with_reducible refine RatC.setS (a:=none) (l:=0) (c:=0) ?_ ?_ _);rotate_left;focus (simp[go_sem, *];done))|(with_reducible (apply RatC.via;assumption))));done)
      |(first|(with_reducible assumption)|((repeat (first|(with_reducible assumption)|(with_reducible exact Ext.refl _)|(with_reducible apply Ext.drew)|(with_reducible apply Ext.alloc)|((with_reducible refine Ext.setCell ?_ ?_ _);rotate_left;focus (first|omega|(simp;done)|(simp;omega)))|(with_reducible (apply Ext.via;assumption))));done))
  clear HNA HNB gA;obtain⟨X,Y,b1,x1,y1,z1,b2,x2,y2,z2,b3,x3,y3,z3,b4,x4,y4,z4,rfl,rfl,hX,hY,cX,cY,s3,s4,s5⟩:=hcut;have hnl:=HNL.out;have H1:=zH (fun W (x:Ext wc W)=>r2mul_any _ _ _ _ (L+1) q.num r.num W ((s3.ext x).1.isIn hnl.1) ((s4.ext x).1.isIn hnl.2.2.1) (by omega));have H2:=zH (fun W (x:Ext wc W)=>r2mul_any _ _ _ _ (L+1) q.den r.den W ((s3.ext x).2.isIn hnl.2.1) ((s4.ext x).2.isIn hnl.2.2.2) (by omega));have hd0:(q.den:Int)*r.den≠0:=Int.mul_ne_zero (by have:=q.den_nz;omega) (by have:=r.den_nz;omega);have HLW:=zH (fun W n1 v1 n2 v2 (x:IntC W n1 v1 (q.num*r.num)) (y:IntC W n2 v2 ((q.den:Int)*r.den))=>(show Calls Tryz.prog 67 #[.agg #[.bool n1,v1],.agg #[.bool n2,v2]] W (RetR (q*r) W)by
    rw[Nm.mul_eq];exact r3reduce_any n1 n2 v1 v2 (L+1+(L+1)) _ _ W (x.isIn (nl_mul_int _ _ _ _ hnl.1 hnl.2.2.1)) (y.isIn (nl_mul_int _ _ _ _ hnl.2.1 hnl.2.2.2)) (by omega) hd0))
  clear hd0;have HX0:=zH (HR0.out.ext s5);have HEM:=zH (HWB.out.trans s5);have HCC:=zH (And.intro cX cY);have n2:X≠w.heap.size+1+1:=by have:=HSZ.out;omega
  have n5:Y≠w.heap.size+1+1:=by have:=HSZ.out;omega
  have HS1:=zH (show w.heap.size<=w.heap.size+1+1 by omega);clear s3 s4 s5 cX cY hnl hX hY;go_wp2_with fail
  generalize hR:w.heap.size+1+1=R at*
  have gl:∀w',Own R wc w'->w'.cell? ⟨X,0,none⟩=some (.bool b1)/\w'.cell? ⟨X,1,none⟩=some (.slice x1 y1 z1)/\w'.cell? ⟨X,2,none⟩=some (.bool b2)/\w'.cell? ⟨X,3,none⟩=some (.slice x2 y2 z2)/\
      w'.cell? ⟨Y,0,none⟩=some (.bool b3)/\w'.cell? ⟨Y,1,none⟩=some (.slice x3 y3 z3)/\w'.cell? ⟨Y,2,none⟩=some (.bool b4)/\w'.cell? ⟨Y,3,none⟩=some (.slice x4 y4 z4):=fun w' x=>
    ⟨x.get HCC.out.1.1 n2,x.get HCC.out.1.2.1 n2,x.get HCC.out.1.2.2.1 n2,x.get HCC.out.1.2.2.2 n2,x.get HCC.out.2.1 n5,x.get HCC.out.2.2.1 n5,x.get HCC.out.2.2.2.1 n5,x.get HCC.out.2.2.2.2 n5⟩
  go_region_held3 (fun w'=>Own R wc w') (first|(with_reducible assumption)|(with_reducible exact Own.drew (Own.refl _ _))|(with_reducible (apply Own.of_ext;assumption))|(with_reducible (refine Own.set_at (Own.set_at (Own.set_at (Own.set_at ?_ _ _ _) _ _ _) _ _ _) _ _ _;first|assumption|(apply Own.of_ext;assumption))))
    (first|(go_at_call 66;((with_reducible refine(H1.out _ (by first|assumption|exact Ext.drew (Ext.refl _))).mono ?_));rintro e wx ⟨k1,r1,rfl,hi1,hen1⟩;obtain⟨f1,f2,f3,rfl⟩:=hi1.form;have hx1:Ext wc wx:=Ext.trans (by first|assumption|exact Ext.drew (Ext.refl _)) hen1)|(go_at_call 66;((with_reducible refine(H2.out _ (by first|assumption|exact Ext.drew (Ext.refl _))).mono ?_));rintro e wy ⟨k2,r2,rfl,hi2,hen2⟩;obtain⟨f4,f5,f6,rfl⟩:=hi2.form;have hx2:Ext wc wy:=Ext.trans (by first|assumption|exact Ext.drew (Ext.refl _)) hen2)|(go_at_call 67;((with_reducible refine(HLW.out _ _ _ _ _ (hi1.ext hen2) hi2).mono ?_));rintro e wz ⟨j1,t1,j2,t2,rfl,hc,hen9⟩;obtain⟨g1,g2,g3,g4,g5,g6,rfl,rfl⟩:=hc.form;have hx:Ext wc wz:=Ext.trans (by first|assumption|exact Ext.drew (Ext.refl _)) hen9;have X0:=Blk.ext HX0.out hx;have x00:=X0.cell 0;have x01:=X0.cell 1;have x02:=X0.cell 2;have x03:=X0.cell 3;have y00:=X0.frozen 0;have y01:=X0.frozen 1;have y02:=X0.frozen 2;have y03:=X0.frozen 3;simp at x00 x01 x02 x03))
  go_wp2_with fail
  have o:=put4_own wz R (.bool j1) (.slice g1 g2 g3) (.bool j2) (.slice g4 g5 g6);have hrat:=hc.own X0 (noU4 _ _ _ _ _ _ _ _) o;have hext:=o.ext (HEM.out.trans hx) HS1.out;simp only[put4]at hrat hext;refine bodyPost_ret (v:= .agg #[.bool j1,.slice g1 g2 g3,.bool j2,.slice g4 g5 g6]) ?_ rfl ⟨_,_,_,_,rfl,hrat,hext⟩;simp[results,Tryz.results31,go_sem, *]
theorem r3add_any (n m n' m':Bool)(u v u' v':Value)(L:Nat)(q r:Rat)(w:World)(h:RatIn L w n u m v q)(h':RatIn L w n' u' m' v' r)(hL:L<=70000):
    Calls Tryz.prog 62 #[.agg #[.bool n,u,.bool m,v],.agg #[.bool n',u',.bool m',v']] w (RetR (q+r) w):=by
  obtain⟨p1,l1,c1,p2,l2,c2,rfl,rfl⟩:=h.form;obtain⟨p3,l3,c3,p4,l4,c4,rfl,rfl⟩:=h'.form;have HNA:=zH (fun W (x:Ext w W)=>r3norm_any n m (.slice p1 l1 c1) (.slice p2 l2 c2) L q W (h.ext x) (by omega));have HNB:=zH (fun W (x:Ext w W)=>r3norm_any n' m' (.slice p3 l3 c3) (.slice p4 l4 c4) L r W (h'.ext x) (by omega));have hnl:Nm.nl q.num.natAbs<=L+1/\Nm.nl (q.den:Int).natAbs<=L+1/\Nm.nl r.num.natAbs<=L+1/\Nm.nl (r.den:Int).natAbs<=L+1:=by
    have h1:=h.rl;have h2:=h'.rl;unfold Nm.rl at h1 h2;simp only[Int.natAbs_natCast];omega
  have HNL:=zH hnl;clear h h' hnl;go_enter Tryz.func62,Tryz.ntmps62
  go_wp2_with fail
  have gA:∀x,Ext (((w.alloc (.cells #[.bool n,.slice p1 l1 c1,.bool m,.slice p2 l2 c2] 30)).alloc (.cells #[.bool n',.slice p3 l3 c3,.bool m',.slice p4 l4 c4] 30)).alloc (.cells #[.bool false,.slice none 0 0,.bool false,.slice none 0 0] 30)) x->x.cell? ⟨w.heap.size,0,none⟩=some (.bool n)/\x.cell? ⟨w.heap.size,1,none⟩=some (.slice p1 l1 c1)/\x.cell? ⟨w.heap.size,2,none⟩=some (.bool m)/\x.cell? ⟨w.heap.size,3,none⟩=some (.slice p2 l2 c2)/\
      x.cell? ⟨w.heap.size+1,0,none⟩=some (.bool n')/\x.cell? ⟨w.heap.size+1,1,none⟩=some (.slice p3 l3 c3)/\x.cell? ⟨w.heap.size+1,2,none⟩=some (.bool m')/\x.cell? ⟨w.heap.size+1,3,none⟩=some (.slice p4 l4 c4):=fun x hx=>by
    have a1:=ratBox w n m (.slice p1 l1 c1) (.slice p2 l2 c2) x ((((Ext.refl _).alloc _).alloc _).trans hx);have a2:=ratBox (w.alloc (.cells #[.bool n,.slice p1 l1 c1,.bool m,.slice p2 l2 c2] 30)) n' m' (.slice p3 l3 c3) (.slice p4 l4 c4) x (((Ext.refl _).alloc _).trans hx);simp only[World.size_alloc]at a2;exact⟨a1.1,a1.2.1,a1.2.2.1,a1.2.2.2.1,a2.1,a2.2.1,a2.2.2.1,a2.2.2.2.1⟩
  have HWB:=zH (show Ext w (((w.alloc (.cells #[.bool n,.slice p1 l1 c1,.bool m,.slice p2 l2 c2] 30)).alloc (.cells #[.bool n',.slice p3 l3 c3,.bool m',.slice p4 l4 c4] 30)).alloc (.cells #[.bool false,.slice none 0 0,.bool false,.slice none 0 0] 30))from(((Ext.refl _).alloc _).alloc _).alloc _);have HR0:=zH (Blk.new_at ((w.alloc (.cells #[.bool n,.slice p1 l1 c1,.bool m,.slice p2 l2 c2] 30)).alloc (.cells #[.bool n',.slice p3 l3 c3,.bool m',.slice p4 l4 c4] 30)) (w.heap.size+1+1) (by simp) 30 #[.bool false,.slice none 0 0,.bool false,.slice none 0 0]);have hz:(((w.alloc (.cells #[.bool n,.slice p1 l1 c1,.bool m,.slice p2 l2 c2] 30)).alloc (.cells #[.bool n',.slice p3 l3 c3,.bool m',.slice p4 l4 c4] 30)).alloc (.cells #[.bool false,.slice none 0 0,.bool false,.slice none 0 0] 30)).heap.size=w.heap.size+1+1+1:=by simp
  have HSZ:=zH hz;clear hz;generalize (((w.alloc (.cells #[.bool n,.slice p1 l1 c1,.bool m,.slice p2 l2 c2] 30)).alloc (.cells #[.bool n',.slice p3 l3 c3,.bool m',.slice p4 l4 c4] 30)).alloc (.cells #[.bool false,.slice none 0 0,.bool false,.slice none 0 0] 30))=wb at*
  go_cut [5,6] (fun s t wx=>Two wb q r s t wx)
  case first=>
    clear HR0 HNL;go_region_held3 (fun x=>Ext wb x) ((first|(with_reducible assumption)|((repeat (first|(with_reducible assumption)|(with_reducible exact Ext.refl _)|(with_reducible apply Ext.drew)|(with_reducible apply Ext.alloc)|((with_reducible refine Ext.setCell ?_ ?_ _);rotate_left;focus (first|omega|(simp;done)|(simp;omega)))|(with_reducible (apply Ext.via;assumption))));done)))
      (first|(go_at_call 64;((with_reducible refine(HNA.out _ (HWB.out.trans (by first|assumption|exact Ext.drew (Ext.refl _)))).mono ?_));rintro e wa ⟨b1,t1,b2,t2,rfl,hca,hea⟩;obtain⟨x1,y1,z1,x2,y2,z2,rfl,rfl⟩:=hca.form;have hsa:=hea.size;(try simp at hsa);obtain⟨ka,fa⟩:=bcell hea;(try simp at ka);(try simp at fa);(try have l1:wb.heap.size<wa.heap.size:=by omega);(try have l2:wb.heap.size+1<wa.heap.size:=by omega))|(go_at_call 64;((with_reducible refine(HNB.out _ (HWB.out.trans (by first|assumption|exact Ext.drew (Ext.refl _)))).mono ?_));rintro e wd ⟨b3,t3,b4,t4,rfl,hcb,heb⟩;obtain⟨x3,y3,z3,x4,y4,z4,rfl,rfl⟩:=hcb.form;have hsb:=heb.size;(try simp at hsb);obtain⟨kb,fb⟩:=bcell heb;(try simp at kb);(try simp at fb);(try have l3:wb.heap.size<wd.heap.size:=by omega);(try have l4:wb.heap.size+1<wd.heap.size:=by omega);(try have l5:wa.heap.size<wd.heap.size:=by omega);(try have l6:wa.heap.size+1<wd.heap.size:=by omega)))
    all_goals go_wp2_with fail
    all_goals go_meet
    all_goals have lt2:∀a:Nat,a<a+1+1:=fun a=>by omega
    all_goals try have q1:wa.heap.size≠wb.heap.size:=by omega
    all_goals try have q2:wb.heap.size≠wa.heap.size:=by omega
    all_goals try have q3:wb.heap.size<wa.heap.size+1:=by omega
    all_goals refine⟨_,_,b1,x1,y1,z1,b2,x2,y2,z2,b3,x3,y3,z3,b4,x4,y4,z4,rfl,rfl,?_,?_,⟨?_,?_,?_,?_⟩,⟨?_,?_,?_,?_⟩,?_,?_,?_⟩
    all_goals first
      |(with_reducible assumption)
      |omega
      |(simp[go_sem, *];done)
      |(rw[World.cell?_setCell_far,World.cell?_setCell_far,World.cell?_setCell_far,World.cell?_setCell_far]<;>first|(simp[go_sem, *];done)|(simp;omega))
      |((repeat (first|(with_reducible assumption)|(with_reducible apply RatC.drew)|(with_reducible apply RatC.alloc)|((with_reducible refine RatC.setB (b:=false) ?_ ?_ _);rotate_left;focus (simp[go_sem, *];done))|((with_reducible refine RatC.setS (a:=none) (l:=0) (c:=0) ?_ ?_ _);rotate_left;focus (simp[go_sem, *];done))|(with_reducible (apply RatC.via;assumption))));done)
      |(first|(with_reducible assumption)|((repeat (first|(with_reducible assumption)|(with_reducible exact Ext.refl _)|(with_reducible apply Ext.drew)|(with_reducible apply Ext.alloc)|((with_reducible refine Ext.setCell ?_ ?_ _);rotate_left;focus (first|omega|(simp;done)|(simp;omega)))|(with_reducible (apply Ext.via;assumption))));done))
  clear HNA HNB gA;obtain⟨X,Y,b1,x1,y1,z1,b2,x2,y2,z2,b3,x3,y3,z3,b4,x4,y4,z4,rfl,rfl,hX,hY,cX,cY,s3,s4,s5⟩:=hcut;have hnl:=HNL.out;have H1:=zH (fun W (x:Ext wc W)=>r2mul_any _ _ _ _ (L+1) q.num r.den W ((s3.ext x).1.isIn hnl.1) ((s4.ext x).2.isIn hnl.2.2.2) (by omega));have H2:=zH (fun W (x:Ext wc W)=>r2mul_any _ _ _ _ (L+1) r.num q.den W ((s4.ext x).1.isIn hnl.2.2.1) ((s3.ext x).2.isIn hnl.2.1) (by omega));have H3:=zH (fun W (x:Ext wc W)=>r2mul_any _ _ _ _ (L+1) q.den r.den W ((s3.ext x).2.isIn hnl.2.1) ((s4.ext x).2.isIn hnl.2.2.2) (by omega));have hn1:=nl_mul_int q.num r.den _ _ hnl.1 hnl.2.2.2;have hn2:=nl_mul_int r.num q.den _ _ hnl.2.2.1 hnl.2.1;have HAD:=zH (fun W n1 v1 n2 v2 (x:IntC W n1 v1 (q.num*r.den)) (y:IntC W n2 v2 (r.num*q.den))=>r2add_any n1 n2 v1 v2 (L+1+(L+1)) _ _ W (x.isIn hn1) (y.isIn hn2) (by omega));have hd0:(q.den:Int)*r.den≠0:=Int.mul_ne_zero (by have:=q.den_nz;omega) (by have:=r.den_nz;omega);have HLW:=zH (fun W n1 v1 n2 v2 (x:IntC W n1 v1 (q.num*r.den+r.num*q.den)) (y:IntC W n2 v2 ((q.den:Int)*r.den))=>(show Calls Tryz.prog 67 #[.agg #[.bool n1,v1],.agg #[.bool n2,v2]] W (RetR (q+r) W)by
    rw[Nm.add_eq];exact r3reduce_any n1 n2 v1 v2 (L+1+(L+1)+1) _ _ W (x.isIn (nl_add_int _ _ _ hn1 hn2)) (y.isIn (Nat.le_trans (nl_mul_int _ _ _ _ hnl.2.1 hnl.2.2.2) (by omega))) (by omega) hd0))
  clear hd0 hn1 hn2;have HX0:=zH (HR0.out.ext s5);have HEM:=zH (HWB.out.trans s5);have HCC:=zH (And.intro cX cY);have n2:X≠w.heap.size+1+1:=by have:=HSZ.out;omega
  have n5:Y≠w.heap.size+1+1:=by have:=HSZ.out;omega
  have HS1:=zH (show w.heap.size<=w.heap.size+1+1 by omega);clear s3 s4 s5 cX cY hnl hX hY;go_wp2_with fail
  generalize hR:w.heap.size+1+1=R at*
  have gl:∀w',Own R wc w'->w'.cell? ⟨X,0,none⟩=some (.bool b1)/\w'.cell? ⟨X,1,none⟩=some (.slice x1 y1 z1)/\w'.cell? ⟨X,2,none⟩=some (.bool b2)/\w'.cell? ⟨X,3,none⟩=some (.slice x2 y2 z2)/\
      w'.cell? ⟨Y,0,none⟩=some (.bool b3)/\w'.cell? ⟨Y,1,none⟩=some (.slice x3 y3 z3)/\w'.cell? ⟨Y,2,none⟩=some (.bool b4)/\w'.cell? ⟨Y,3,none⟩=some (.slice x4 y4 z4):=fun w' x=>
    ⟨x.get HCC.out.1.1 n2,x.get HCC.out.1.2.1 n2,x.get HCC.out.1.2.2.1 n2,x.get HCC.out.1.2.2.2 n2,x.get HCC.out.2.1 n5,x.get HCC.out.2.2.1 n5,x.get HCC.out.2.2.2.1 n5,x.get HCC.out.2.2.2.2 n5⟩
  go_region_held3 (fun w'=>Own R wc w') (first|(with_reducible assumption)|(with_reducible exact Own.drew (Own.refl _ _))|(with_reducible (apply Own.of_ext;assumption))|(with_reducible (refine Own.set_at (Own.set_at (Own.set_at (Own.set_at ?_ _ _ _) _ _ _) _ _ _) _ _ _;first|assumption|(apply Own.of_ext;assumption))))
    (first|(go_at_call 66;((with_reducible refine(H1.out _ (by first|assumption|exact Ext.drew (Ext.refl _))).mono ?_));rintro e wx ⟨k1,r1,rfl,hi1,hen1⟩;obtain⟨f1,f2,f3,rfl⟩:=hi1.form;have hx1:Ext wc wx:=Ext.trans (by first|assumption|exact Ext.drew (Ext.refl _)) hen1)|(go_at_call 66;((with_reducible refine(H2.out _ (by first|assumption|exact Ext.drew (Ext.refl _))).mono ?_));rintro e wy ⟨k2,r2,rfl,hi2,hen2⟩;obtain⟨f4,f5,f6,rfl⟩:=hi2.form;have hx2:Ext wc wy:=Ext.trans (by first|assumption|exact Ext.drew (Ext.refl _)) hen2)|(go_at_call 91;((with_reducible refine(HAD.out _ _ _ _ _ (hi1.ext hen2) hi2).mono ?_));rintro e wt ⟨k4,r4,rfl,hi4,hen4⟩;obtain⟨f10,f11,f12,rfl⟩:=hi4.form;have hx4:Ext wc wt:=Ext.trans (by first|assumption|exact Ext.drew (Ext.refl _)) hen4)|(go_at_call 66;((with_reducible refine(H3.out _ (by first|assumption|exact Ext.drew (Ext.refl _))).mono ?_));rintro e wu ⟨k3,r3,rfl,hi3,hen3⟩;obtain⟨f7,f8,f9,rfl⟩:=hi3.form;have hx3:Ext wc wu:=Ext.trans (by first|assumption|exact Ext.drew (Ext.refl _)) hen3)|(go_at_call 67;((with_reducible refine(HLW.out _ _ _ _ _ (hi4.ext hen3) hi3).mono ?_));rintro e wz ⟨j1,t1,j2,t2,rfl,hc,hen9⟩;obtain⟨g1,g2,g3,g4,g5,g6,rfl,rfl⟩:=hc.form;have hx:Ext wc wz:=Ext.trans (by first|assumption|exact Ext.drew (Ext.refl _)) hen9;have X0:=Blk.ext HX0.out hx;have x00:=X0.cell 0;have x01:=X0.cell 1;have x02:=X0.cell 2;have x03:=X0.cell 3;have y00:=X0.frozen 0;have y01:=X0.frozen 1;have y02:=X0.frozen 2;have y03:=X0.frozen 3;simp at x00 x01 x02 x03))
  go_wp2_with fail
  have o:=put4_own wz R (.bool j1) (.slice g1 g2 g3) (.bool j2) (.slice g4 g5 g6);have hrat:=hc.own X0 (noU4 _ _ _ _ _ _ _ _) o;have hext:=o.ext (HEM.out.trans hx) HS1.out;simp only[put4]at hrat hext;refine bodyPost_ret (v:= .agg #[.bool j1,.slice g1 g2 g3,.bool j2,.slice g4 g5 g6]) ?_ rfl ⟨_,_,_,_,rfl,hrat,hext⟩;simp[results,Tryz.results62,go_sem, *]
theorem r3cmp_any (n m n' m':Bool)(u v u' v':Value)(L:Nat)(q r:Rat)(w:World)(h:RatIn L w n u m v q)(h':RatIn L w n' u' m' v' r)(hL:L<=70000):
    Calls Tryz.prog 30 #[.agg #[.bool n,u,.bool m,v],.agg #[.bool n',u',.bool m',v']] w (RetCmp (rcmp q r) w):=by
  obtain⟨p1,l1,c1,p2,l2,c2,rfl,rfl⟩:=h.form;obtain⟨p3,l3,c3,p4,l4,c4,rfl,rfl⟩:=h'.form;have HNA:=zH (fun W (x:Ext w W)=>r3norm_any n m (.slice p1 l1 c1) (.slice p2 l2 c2) L q W (h.ext x) (by omega));have HNB:=zH (fun W (x:Ext w W)=>r3norm_any n' m' (.slice p3 l3 c3) (.slice p4 l4 c4) L r W (h'.ext x) (by omega));have hnl:Nm.nl q.num.natAbs<=L+1/\Nm.nl (q.den:Int).natAbs<=L+1/\Nm.nl r.num.natAbs<=L+1/\Nm.nl (r.den:Int).natAbs<=L+1:=by
    have h1:=h.rl;have h2:=h'.rl;unfold Nm.rl at h1 h2;simp only[Int.natAbs_natCast];omega
  have HNL:=zH hnl;clear h h' hnl;go_enter Tryz.func30,Tryz.ntmps30
  go_wp2_with fail
  have gA:∀x,Ext ((w.alloc (.cells #[.bool n,.slice p1 l1 c1,.bool m,.slice p2 l2 c2] 30)).alloc (.cells #[.bool n',.slice p3 l3 c3,.bool m',.slice p4 l4 c4] 30)) x->x.cell? ⟨w.heap.size,0,none⟩=some (.bool n)/\x.cell? ⟨w.heap.size,1,none⟩=some (.slice p1 l1 c1)/\x.cell? ⟨w.heap.size,2,none⟩=some (.bool m)/\x.cell? ⟨w.heap.size,3,none⟩=some (.slice p2 l2 c2)/\
      x.cell? ⟨w.heap.size+1,0,none⟩=some (.bool n')/\x.cell? ⟨w.heap.size+1,1,none⟩=some (.slice p3 l3 c3)/\x.cell? ⟨w.heap.size+1,2,none⟩=some (.bool m')/\x.cell? ⟨w.heap.size+1,3,none⟩=some (.slice p4 l4 c4):=fun x hx=>by
    have a1:=ratBox w n m (.slice p1 l1 c1) (.slice p2 l2 c2) x (((Ext.refl _).alloc _).trans hx);have a2:=ratBox (w.alloc (.cells #[.bool n,.slice p1 l1 c1,.bool m,.slice p2 l2 c2] 30)) n' m' (.slice p3 l3 c3) (.slice p4 l4 c4) x hx;simp only[World.size_alloc]at a2;exact⟨a1.1,a1.2.1,a1.2.2.1,a1.2.2.2.1,a2.1,a2.2.1,a2.2.2.1,a2.2.2.2.1⟩
  have HWB:=zH (show Ext w ((w.alloc (.cells #[.bool n,.slice p1 l1 c1,.bool m,.slice p2 l2 c2] 30)).alloc (.cells #[.bool n',.slice p3 l3 c3,.bool m',.slice p4 l4 c4] 30))from((Ext.refl _).alloc _).alloc _);have hz:((w.alloc (.cells #[.bool n,.slice p1 l1 c1,.bool m,.slice p2 l2 c2] 30)).alloc (.cells #[.bool n',.slice p3 l3 c3,.bool m',.slice p4 l4 c4] 30)).heap.size=w.heap.size+1+1:=by simp
  have HSZ:=zH hz;clear hz;generalize ((w.alloc (.cells #[.bool n,.slice p1 l1 c1,.bool m,.slice p2 l2 c2] 30)).alloc (.cells #[.bool n',.slice p3 l3 c3,.bool m',.slice p4 l4 c4] 30))=wb at*
  go_cut [5,6] (fun s t wx=>Two wb q r s t wx)
  case first=>
    clear HNL;go_region_held3 (fun x=>Ext wb x) ((first|(with_reducible assumption)|((repeat (first|(with_reducible assumption)|(with_reducible exact Ext.refl _)|(with_reducible apply Ext.drew)|(with_reducible apply Ext.alloc)|((with_reducible refine Ext.setCell ?_ ?_ _);rotate_left;focus (first|omega|(simp;done)|(simp;omega)))|(with_reducible (apply Ext.via;assumption))));done)))
      (first|(go_at_call 64;((with_reducible refine(HNA.out _ (HWB.out.trans (by first|assumption|exact Ext.drew (Ext.refl _)))).mono ?_));rintro e wa ⟨b1,t1,b2,t2,rfl,hca,hea⟩;obtain⟨x1,y1,z1,x2,y2,z2,rfl,rfl⟩:=hca.form;have hsa:=hea.size;(try simp at hsa);obtain⟨ka,fa⟩:=bcell hea;(try simp at ka);(try simp at fa);(try have l1:wb.heap.size<wa.heap.size:=by omega);(try have l2:wb.heap.size+1<wa.heap.size:=by omega))|(go_at_call 64;((with_reducible refine(HNB.out _ (HWB.out.trans (by first|assumption|exact Ext.drew (Ext.refl _)))).mono ?_));rintro e wd ⟨b3,t3,b4,t4,rfl,hcb,heb⟩;obtain⟨x3,y3,z3,x4,y4,z4,rfl,rfl⟩:=hcb.form;have hsb:=heb.size;(try simp at hsb);obtain⟨kb,fb⟩:=bcell heb;(try simp at kb);(try simp at fb);(try have l3:wb.heap.size<wd.heap.size:=by omega);(try have l4:wb.heap.size+1<wd.heap.size:=by omega);(try have l5:wa.heap.size<wd.heap.size:=by omega);(try have l6:wa.heap.size+1<wd.heap.size:=by omega)))
    all_goals go_wp2_with fail
    all_goals go_meet
    all_goals have lt2:∀a:Nat,a<a+1+1:=fun a=>by omega
    all_goals try have q1:wa.heap.size≠wb.heap.size:=by omega
    all_goals try have q2:wb.heap.size≠wa.heap.size:=by omega
    all_goals try have q3:wb.heap.size<wa.heap.size+1:=by omega
    all_goals refine⟨_,_,b1,x1,y1,z1,b2,x2,y2,z2,b3,x3,y3,z3,b4,x4,y4,z4,rfl,rfl,?_,?_,⟨?_,?_,?_,?_⟩,⟨?_,?_,?_,?_⟩,?_,?_,?_⟩
    all_goals first
      |(with_reducible assumption)
      |omega
      |(simp[go_sem, *];done)
      |(rw[World.cell?_setCell_far,World.cell?_setCell_far,World.cell?_setCell_far,World.cell?_setCell_far]<;>first|(simp[go_sem, *];done)|(simp;omega))
      |((repeat (first|(with_reducible assumption)|(with_reducible apply RatC.drew)|(with_reducible apply RatC.alloc)|((with_reducible refine RatC.setB (b:=false) ?_ ?_ _);rotate_left;focus (simp[go_sem, *];done))|((with_reducible refine RatC.setS (a:=none) (l:=0) (c:=0) ?_ ?_ _);rotate_left;focus (simp[go_sem, *];done))|(with_reducible (apply RatC.via;assumption))));done)
      |(first|(with_reducible assumption)|((repeat (first|(with_reducible assumption)|(with_reducible exact Ext.refl _)|(with_reducible apply Ext.drew)|(with_reducible apply Ext.alloc)|((with_reducible refine Ext.setCell ?_ ?_ _);rotate_left;focus (first|omega|(simp;done)|(simp;omega)))|(with_reducible (apply Ext.via;assumption))));done))
  clear HNA HNB gA;obtain⟨X,Y,b1,x1,y1,z1,b2,x2,y2,z2,b3,x3,y3,z3,b4,x4,y4,z4,rfl,rfl,hX,hY,cX,cY,s3,s4,s5⟩:=hcut;have hnl:=HNL.out;have H1:=zH (fun W (x:Ext wc W)=>r2mul_any _ _ _ _ (L+1) q.num r.den W ((s3.ext x).1.isIn hnl.1) ((s4.ext x).2.isIn hnl.2.2.2) (by omega));have H2:=zH (fun W (x:Ext wc W)=>r2mul_any _ _ _ _ (L+1) r.num q.den W ((s4.ext x).1.isIn hnl.2.2.1) ((s3.ext x).2.isIn hnl.2.1) (by omega));have hn1:=nl_mul_int q.num r.den _ _ hnl.1 hnl.2.2.2;have hn2:=nl_mul_int r.num q.den _ _ hnl.2.2.1 hnl.2.1;have HAD:=zH (fun W n1 v1 n2 v2 (x:IntC W n1 v1 (q.num*r.den)) (y:IntC W n2 v2 (r.num*q.den))=>r2cmp_any n1 n2 v1 v2 (L+1+(L+1)) _ _ W (x.isIn hn1) (y.isIn hn2) (by omega));clear hn1 hn2;have HEM:=zH (HWB.out.trans s5);have HCC:=zH (And.intro cX cY);clear s3 s4 s5 cX cY hnl hX hY;go_wp2_with fail
  have gl:∀w',Ext wc w'->w'.cell? ⟨X,0,none⟩=some (.bool b1)/\w'.cell? ⟨X,1,none⟩=some (.slice x1 y1 z1)/\w'.cell? ⟨X,2,none⟩=some (.bool b2)/\w'.cell? ⟨X,3,none⟩=some (.slice x2 y2 z2)/\
      w'.cell? ⟨Y,0,none⟩=some (.bool b3)/\w'.cell? ⟨Y,1,none⟩=some (.slice x3 y3 z3)/\w'.cell? ⟨Y,2,none⟩=some (.bool b4)/\w'.cell? ⟨Y,3,none⟩=some (.slice x4 y4 z4):=fun w' x=>
    ⟨x.get HCC.out.1.1,x.get HCC.out.1.2.1,x.get HCC.out.1.2.2.1,x.get HCC.out.1.2.2.2,x.get HCC.out.2.1,x.get HCC.out.2.2.1,x.get HCC.out.2.2.2.1,x.get HCC.out.2.2.2.2⟩
  go_region_held3 (fun w'=>Ext wc w') (first|(with_reducible assumption)|(with_reducible exact Ext.drew (Ext.refl _))|(with_reducible (apply Ext.via;assumption;assumption)))
    (first|(go_at_call 66;((with_reducible refine(H1.out _ (by first|assumption|exact Ext.drew (Ext.refl _))).mono ?_));rintro e wx ⟨k1,r1,rfl,hi1,hen1⟩;obtain⟨f1,f2,f3,rfl⟩:=hi1.form;have hx1:Ext wc wx:=Ext.trans (by first|assumption|exact Ext.drew (Ext.refl _)) hen1)|(go_at_call 66;((with_reducible refine(H2.out _ (by first|assumption|exact Ext.drew (Ext.refl _))).mono ?_));rintro e wy ⟨k2,r2,rfl,hi2,hen2⟩;obtain⟨f4,f5,f6,rfl⟩:=hi2.form;have hx2:Ext wc wy:=Ext.trans (by first|assumption|exact Ext.drew (Ext.refl _)) hen2)|(go_at_call 65;((with_reducible refine(HAD.out _ _ _ _ _ (hi1.ext hen2) hi2).mono ?_));rintro e wt ⟨rfl,hen4⟩;have hx4:Ext wc wt:=Ext.trans (by first|assumption|exact Ext.drew (Ext.refl _)) hen4))
  go_wp2_with fail
  go_ret
  exact⟨rfl,HEM.out.trans hx4⟩
theorem r3sub_any (n m n' m':Bool)(u v u' v':Value)(L:Nat)(q r:Rat)(w:World)(h:RatIn L w n u m v q)(h':RatIn L w n' u' m' v' r)(hL:L<=69000):
    Calls Tryz.prog 29 #[.agg #[.bool n,u,.bool m,v],.agg #[.bool n',u',.bool m',v']] w (RetR (q-r) w):=by
  obtain⟨p1,l1,c1,p2,l2,c2,rfl,rfl⟩:=h.form;obtain⟨p3,l3,c3,p4,l4,c4,rfl,rfl⟩:=h'.form;have HN:=zH (fun W (x:Ext w W)=>r3neg_any n' m' (.slice p3 l3 c3) (.slice p4 l4 c4) L r W (h'.ext x) (by omega));have hl:Nm.rl (-r)<=L+1:=by rw[Nm.rl_neg];have:=h'.rl;omega
  have HAD:=zH (fun W n1 v1 n2 v2 (x:Ext w W) (y:RatC W n1 v1 n2 v2 (-r))=>(show Calls Tryz.prog 62 #[.agg #[.bool n,.slice p1 l1 c1,.bool m,.slice p2 l2 c2],.agg #[.bool n1,v1,.bool n2,v2]] W (RetR (q-r) W)by
    rw[Rat.sub_eq_add_neg];exact r3add_any n m n1 n2 _ _ _ _ (L+1) q (-r) W (by obtain⟨y0,z0,a1,a2,a3⟩:=h.ext x;exact⟨y0,z0,a1.mono (by omega),a2.mono (by omega),a3⟩) (y.isIn hl) (by omega)))
  clear h h' hl;go_enter Tryz.func29,Tryz.ntmps29
  go_wp2_with fail
  have gA:∀x,Ext (((w.alloc (.cells #[.bool n,.slice p1 l1 c1,.bool m,.slice p2 l2 c2] 30)).alloc (.cells #[.bool n',.slice p3 l3 c3,.bool m',.slice p4 l4 c4] 30)).alloc (.cells #[.bool false,.slice none 0 0,.bool false,.slice none 0 0] 30)) x->x.cell? ⟨w.heap.size,0,none⟩=some (.bool n)/\x.cell? ⟨w.heap.size,1,none⟩=some (.slice p1 l1 c1)/\x.cell? ⟨w.heap.size,2,none⟩=some (.bool m)/\x.cell? ⟨w.heap.size,3,none⟩=some (.slice p2 l2 c2)/\
      x.cell? ⟨w.heap.size+1,0,none⟩=some (.bool n')/\x.cell? ⟨w.heap.size+1,1,none⟩=some (.slice p3 l3 c3)/\x.cell? ⟨w.heap.size+1,2,none⟩=some (.bool m')/\x.cell? ⟨w.heap.size+1,3,none⟩=some (.slice p4 l4 c4):=fun x hx=>by
    have a1:=ratBox w n m (.slice p1 l1 c1) (.slice p2 l2 c2) x ((((Ext.refl _).alloc _).alloc _).trans hx);have a2:=ratBox (w.alloc (.cells #[.bool n,.slice p1 l1 c1,.bool m,.slice p2 l2 c2] 30)) n' m' (.slice p3 l3 c3) (.slice p4 l4 c4) x (((Ext.refl _).alloc _).trans hx);simp only[World.size_alloc]at a2;exact⟨a1.1,a1.2.1,a1.2.2.1,a1.2.2.2.1,a2.1,a2.2.1,a2.2.2.1,a2.2.2.2.1⟩
  have HWB:=zH (show Ext w (((w.alloc (.cells #[.bool n,.slice p1 l1 c1,.bool m,.slice p2 l2 c2] 30)).alloc (.cells #[.bool n',.slice p3 l3 c3,.bool m',.slice p4 l4 c4] 30)).alloc (.cells #[.bool false,.slice none 0 0,.bool false,.slice none 0 0] 30))from(((Ext.refl _).alloc _).alloc _).alloc _);have HX0:=zH (Blk.new_at ((w.alloc (.cells #[.bool n,.slice p1 l1 c1,.bool m,.slice p2 l2 c2] 30)).alloc (.cells #[.bool n',.slice p3 l3 c3,.bool m',.slice p4 l4 c4] 30)) (w.heap.size+1+1) (by simp) 30 #[.bool false,.slice none 0 0,.bool false,.slice none 0 0]);have HS1:=zH (show w.heap.size<=w.heap.size+1+1 by omega);have gB:=gA _ (Ext.refl _);clear gA;generalize (((w.alloc (.cells #[.bool n,.slice p1 l1 c1,.bool m,.slice p2 l2 c2] 30)).alloc (.cells #[.bool n',.slice p3 l3 c3,.bool m',.slice p4 l4 c4] 30)).alloc (.cells #[.bool false,.slice none 0 0,.bool false,.slice none 0 0] 30))=wc at*
  have n1:w.heap.size≠w.heap.size+1+1:=by omega
  have n2:w.heap.size+1≠w.heap.size+1+1:=by omega
  generalize hR:w.heap.size+1+1=R at*
  generalize hY:w.heap.size+1=Y at*
  have HXS:=zH hR;generalize hX:w.heap.size=X at*
  have gl:∀w',Own R wc w'->w'.cell? ⟨X,0,none⟩=some (.bool n)/\w'.cell? ⟨X,1,none⟩=some (.slice p1 l1 c1)/\w'.cell? ⟨X,2,none⟩=some (.bool m)/\w'.cell? ⟨X,3,none⟩=some (.slice p2 l2 c2)/\
      w'.cell? ⟨Y,0,none⟩=some (.bool n')/\w'.cell? ⟨Y,1,none⟩=some (.slice p3 l3 c3)/\w'.cell? ⟨Y,2,none⟩=some (.bool m')/\w'.cell? ⟨Y,3,none⟩=some (.slice p4 l4 c4):=fun w' x=>
    ⟨x.get gB.1 n1,x.get gB.2.1 n1,x.get gB.2.2.1 n1,x.get gB.2.2.2.1 n1,x.get gB.2.2.2.2.1 n2,x.get gB.2.2.2.2.2.1 n2,x.get gB.2.2.2.2.2.2.1 n2,x.get gB.2.2.2.2.2.2.2 n2⟩
  clear gB hR hY;have HXX:=zH hX;clear hX;go_region_held3 (fun w'=>Own R wc w') (first|(with_reducible assumption)|(with_reducible exact Own.drew (Own.refl _ _))|(with_reducible (apply Own.of_ext;assumption))|(with_reducible (refine Own.set_at (Own.set_at (Own.set_at (Own.set_at ?_ _ _ _) _ _ _) _ _ _) _ _ _;first|assumption|(apply Own.of_ext;assumption))))
    (first|(go_at_call 63;((with_reducible refine(HN.out _ (HWB.out.trans (by first|assumption|exact Ext.drew (Ext.refl _)))).mono ?_));rintro e wx ⟨b1,t1,b2,t2,rfl,hc1,hen1⟩;obtain⟨f1,f2,f3,f4,f5,f6,rfl,rfl⟩:=hc1.form;have hx1:Ext wc wx:=Ext.trans (by first|assumption|exact Ext.drew (Ext.refl _)) hen1)|(go_at_call 62;((with_reducible refine(HAD.out _ _ _ _ _ (HWB.out.trans (by first|assumption|exact Ext.drew (Ext.refl _))) hc1).mono ?_));rintro e wz ⟨j1,t1,j2,t2,rfl,hc,hen9⟩;obtain⟨g1,g2,g3,g4,g5,g6,rfl,rfl⟩:=hc.form;have hx:Ext wc wz:=Ext.trans (by first|assumption|exact Ext.drew (Ext.refl _)) hen9;have X0:=Blk.ext HX0.out hx;have x00:=X0.cell 0;have x01:=X0.cell 1;have x02:=X0.cell 2;have x03:=X0.cell 3;have y00:=X0.frozen 0;have y01:=X0.frozen 1;have y02:=X0.frozen 2;have y03:=X0.frozen 3;simp at x00 x01 x02 x03))
  go_wp2_with fail
  have o:=put4_own wz R (.bool j1) (.slice g1 g2 g3) (.bool j2) (.slice g4 g5 g6);have hrat:=hc.own X0 (noU4 _ _ _ _ _ _ _ _) o;have hext:=o.ext (HWB.out.trans hx) (by rw[HXX.out];exact HS1.out);simp only[put4]at hrat hext;refine bodyPost_ret (v:= .agg #[.bool j1,.slice g1 g2 g3,.bool j2,.slice g4 g5 g6]) ?_ rfl ⟨_,_,_,_,rfl,hrat,hext⟩;simp[results,Tryz.results29,go_sem, *]
end
end Go.Proofs.YtdkfmkeaaeooeaaGreat
