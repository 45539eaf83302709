import Derived.Test.YtlipfipniibpoabGreatM10
set_option maxRecDepth 100000
set_option maxHeartbeats 4000000
namespace Go.Proofs.YtlipfipniibpoabGreat
open Go.RowKit
open Go.Proofs.Tryz
section
attribute [local go_sem ↓] Go.wp_at_zero Go.wp_at_succ Ae Ad
namespace conlaw
open Go.ChangeShapes Go.WideShapes Go.ChangeAt
theorem rect_open {H:Type}{enc:TypeId×Value->H}{w:World}{base:Nat}{spare:Nat->Bool}{held:Bool}{fuel:Nat}{cs:List Value}{x:DataW H×List MemPlace}(h:DataW.trod enc prog w base spare held fuel 24 cs=some x):∃a:R4,cs=[.int .i64 a.x0,.int .i64 a.y0,.int .i64 a.x1,.int .i64 a.y1]:=by
 obtain⟨y0,y1,y2,y3,n,_,hl,h0,h1,h2,h3⟩:=Go.Joins.trod_struct4 underlying24 h;rw[show prog.cellsOf 24=4 by kernel_rfl]at hl;rw[Zl]at h0 h1 h2 h3;obtain⟨a,e0,_,_⟩:=DataW.trod_int underlying3 h0;obtain⟨b,e1,_,_⟩:=DataW.trod_int underlying3 h1;obtain⟨c,e2,_,_⟩:=DataW.trod_int underlying3 h2;obtain⟨d,e3,_,_⟩:=DataW.trod_int underlying3 h3;match cs,hl with
 | [u,v,s,t],_=>
  simp at e0 e1 e2 e3;exact⟨⟨a,b,c,d⟩,by rw[e0,e1,e2,e3]⟩
theorem pts3_open {H:Type}{enc:TypeId×Value->H}{w:World}{base:Nat}{spare:Nat->Bool}{held:Bool}{fuel:Nat}{cs:List Value}{x:DataW H×List MemPlace}(h:DataW.trod enc prog w base spare held fuel 48 cs=some x):
  ∃a b c:Int×Int,cs=[.int .i64 a.1,.int .i64 a.2,.int .i64 b.1,.int .i64 b.2,.int .i64 c.1,.int .i64 c.2]:=by
 obtain⟨xs,m,_,_,hl,hx,hi⟩:=DataW.trod_array underlying48 h;rw[show prog.cellsOf 48=6 by kernel_rfl]at hl;rw[gH]at hi;match xs,hx with
 | [x0,x1,x2],_=>
  obtain⟨a,ea⟩:=aK (show DataW.trod enc prog w base spare held m 44 _=some x0 from hi 0 ω);obtain⟨b,eb⟩:=aK (show DataW.trod enc prog w base spare held m 44 _=some x1 from hi 1 ω);obtain⟨c,ec⟩:=aK (show DataW.trod enc prog w base spare held m 44 _=some x2 from hi 2 ω);match cs,hl with
  | [c0,c1,c2,c3,c4,c5],_=>
   simp at ea eb ec;refine⟨a,b,c,?_⟩;rw[ea.1,ea.2,eb.1,eb.2,ec.1,ec.2]
theorem lifted (os:Os)(started:os.Started)(H:Type)(enc:TypeId×Value->H):
  ReturnsInHanded {} Tryz.checked os 5 .any (Rows.coverageConvexSpec.pre6 enc prog Tryz.f5 Rows.coverageConvexRow.domain false) (Rows.coverageConvexSpec.post enc prog Tryz.f5 false true false false):=by
 refine returnsInHanded_of_change (C:=Tryz.checked) own started kR func5
  (ChangeSpec.witness6 (enc:=enc) (C:=Tryz.checked) false ⟨#[],#[.agg #[.int .i64 0,.int .i64 0,.int .i64 0,.int .i64 0,.int .i64 0,.int .i64 0],.agg #[.int .i64 0,.int .i64 0,.int .i64 0,.int .i64 0]],[]⟩ 8 (by kernel_rfl) (by kernel_rfl) (by kernel_rfl) (by kernel_rfl)) ?_
 intro W base args ds gs A3 A0 hW A8 _;have A1:∀(j:Nat) t v,Tryz.f5.params[j]?=some t->args[j]?=some v->Value.okWide prog W .any base t v:=A0;have A9:=hW;obtain⟨p,q,A5,hV,rfl,B3,B2⟩:=hW;have hA:DataW.TrodAll enc prog W 0 (fun _=>true) true Tryz.f5.params.toList args.toList ds p:=A5;rw[Tryz.params5]at hA A1;obtain⟨v0,B1,d0,B5,p0,q0,A4,rfl,rfl,h0,r0⟩:=trodAll_cons hA;obtain⟨v1,B0,d1,B4,p1,q1,rfl,rfl,rfl,h1,r1⟩:=trodAll_cons r0;obtain⟨rfl,rfl,rfl⟩:=trodAll_nil r1;obtain rfl:args=#[v0,v1]:=by cases args;simp_all
 obtain⟨rfl,rfl⟩:=trodVars_none hV;have k0:=h0;have A7:∀x∈p0,x.block<W.heap.size:=by obtain⟨m,hm⟩:=k0;exact DataW.trod_lt m _ _ _ hm
 obtain⟨⟨l0⟩,rfl,_⟩:=aW underlying48 (A1 0 48 v0 rfl rfl);obtain⟨a,b,c,rfl⟩:∃a b c:Int×Int,l0=[.int .i64 a.1,.int .i64 a.2,.int .i64 b.1,.int .i64 b.2,.int .i64 c.1,.int .i64 c.2]:=by
  obtain⟨m,hm⟩:=h0;exact pts3_open hm
 have k1:=h1;have A6:∀x∈p1,x.block<W.heap.size:=by obtain⟨m,hm⟩:=k1;exact DataW.trod_lt m _ _ _ hm
 obtain⟨⟨l1⟩,rfl,_⟩:=Ve underlying24 (A1 1 24 v1 rfl rfl);obtain⟨r,rfl⟩:∃r:R4,l1=[.int .i64 r.x0,.int .i64 r.y0,.int .i64 r.x1,.int .i64 r.y1]:=by
  obtain⟨m,hm⟩:=h1;exact rect_open hm
 clear A5 A0;refine(walk a b c r W).mono fun e W' ⟨he,hx⟩=> ?_
 subst he;have A2:=hx.below;exact⟨_,rfl,_,_,_,[],_,[],A9,trodAll_mk1 (shut_bool underlying4 _),(trodAll_cons_mk (Below.trod lW (by kernel_rfl) (of_decide_eq_true (by kernel_rfl)) k0 A2 A7) (trodAll_cons_mk (Below.trod lW (by kernel_rfl) (of_decide_eq_true (by kernel_rfl)) k1 A2 A6) trodAll_mk0)),rfl,A2.frame _,fun h=>by cases h⟩
theorem proved:Rows.CoverageConvexSaid:=
  OpenClaim.holds_of_wide 5 Tryz.f5 rfl rfl rfl rfl rfl rfl rfl ⟨rfl,rfl,rfl,rfl,rfl⟩ rfl rfl rfl rfl rfl (by kernel_rfl) func5 (by kernel_rfl)
    (of_decide_eq_true (by kernel_rfl)) (by unfold Func.isWrapper;first|(rw[if_pos (by decide+kernel)];kernel_rfl)|(rw[if_neg (by decide+kernel)];exact⟨rfl,rfl⟩))
    (fun os started H enc _=>lifted os started H enc)
#print axioms proved
end conlaw
end
end Go.Proofs.YtlipfipniibpoabGreat
