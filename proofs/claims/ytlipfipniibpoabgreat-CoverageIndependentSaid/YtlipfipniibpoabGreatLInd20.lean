import Derived.JoinedCond
import Derived.Lib.SmallJoins
import Derived.Test.YtlipfipniibpoabGreatM9
set_option maxRecDepth 100000
set_option maxHeartbeats 4000000
namespace Go.Proofs.YtlipfipniibpoabGreat
open Go.RowKit
section
attribute [local go_sem ↓] Go.wp_at_zero Go.wp_at_succ Aj Ai
namespace indlaw
open Go.ChangeShapes Go.WideShapes Go.ChangeAt
theorem add_c (g o j:Nat):(⟨g,o,none⟩:Addr).add j=⟨g,o+j,none⟩:=by unfold Addr.add;split<;>simp_all
theorem blk_one {H:Type}(d:DataW H):1<=Rows.uptoBulk d:=by
  cases d with
  |lit l=>cases l<;>simp[Rows.uptoBulk]
  |nil=>simp[Rows.uptoBulk]
  |ptr d=>simp[Rows.uptoBulk]
  |slice elems spare=>simp[Rows.uptoBulk]
  |agg parts=>simp[Rows.uptoBulk]
  |iface t d=>simp[Rows.uptoBulk]
  |map entries=>simp[Rows.uptoBulk]
  |held h=>simp[Rows.uptoBulk]
theorem blk_part {H:Type}{d:DataW H}{l:List (DataW H)}(h:d∈l):Rows.uptoBulk d<=Rows.uptoBulkAll l:=by
  induction l with
  |nil=>cases h
  | cons x r ih=>
    simp only[Rows.uptoBulkAll];cases List.mem_cons.1 h with
    |inl e=>subst e;omega
    |inr e=>have:=ih e;omega
theorem blk_len {H:Type}(l:List (DataW H)):l.length<=Rows.uptoBulkAll l:=by
  induction l with
  |nil=>simp[Rows.uptoBulkAll]
  |cons x r ih=>have:=blk_one x;simp only[Rows.uptoBulkAll,List.length_cons];omega
section
variable {H:Type} {enc:TypeId×Value->H} {P:Program} {w:World} {base:Nat} {spare:Nat->Bool} {held:Bool} {e:TypeId}
theorem slice_bulk {t:TypeId}{fuel:Nat}{cs:List Value}{x:DataW H×List MemPlace}(ht:P.underlying t=some (.slice e))(h:DataW.trod enc P w base spare held fuel t cs=some x){A:Option Addr}{n c:Nat}(hc:cs=[.slice A n c]):n<=Rows.uptoBulk x.1:=by
 rcases Deep.open_slice ht h with⟨rfl,_⟩|⟨a,len,cap,m,k,D,Pl,rfl,_,_,_,_,rfl,_⟩
 ·simp only[List.cons.injEq,Value.slice.injEq,and_true]at hc
  omega
 simp only[List.cons.injEq,Value.slice.injEq,and_true]at hc;have h1:=blk_len ((List.range len).map D);rw[List.length_map,List.length_range]at h1;show n<=Rows.uptoBulkAll _+Rows.uptoBulkAll _+1;omega
end
theorem rings_bulk {H:Type}{enc:TypeId×Value->H}{w:World}{base:Nat}{held:Bool}{fuel:Nat}{cs:List Value}{x:DataW H×List MemPlace}(h:DataW.trod enc Tryz.prog w base (fun _=>true) held fuel 22 cs=some x){A:Option Addr}{l:List Av}{cap:Nat}(hc:cs=[.slice A l.length cap])(hv:Cu w (.slice A l.length cap) l):
  l.length<=Rows.uptoBulk x.1/\∀r,r∈l->r.length<=Rows.uptoBulk x.1:=by
 refine⟨slice_bulk Tryz.underlying22 h hc,fun r hr=> ?_⟩;obtain⟨i,hi⟩:=List.mem_iff_getElem?.1 hr;have A6:=(List.getElem?_eq_some_iff.1 hi).1;rcases Deep.open_slice Tryz.underlying22 h with⟨rfl,_⟩|⟨a,len,cap',m,k,D,Pl,rfl,_,hl,_,hmm,rfl,hx⟩
 ·simp only[List.cons.injEq,Value.slice.injEq,and_true]at hc
  omega
 simp only[List.cons.injEq,Value.slice.injEq,and_true]at hc;obtain⟨rfl,rfl,rfl⟩:=hc;obtain⟨A2,A8,he,hR⟩:=hv;injection he with he1 _ _
 subst he1;obtain⟨g,A3,ha,hp⟩:=hR (by omega);injection ha with ha
 subst ha;obtain⟨B,cb,A1,_⟩:=hp i r hi;have A5:i<m:=by rw[hmm];split<;>omega
 obtain⟨A7,h1,h2⟩:=hx i A5;obtain⟨_,A0,A4⟩:=World.cells?_some h1;rw[Hw]at A0 A4;have g0:=A4 0 (by decide);have e1:((⟨g,A3,none⟩:Addr).add (i*Tryz.prog.cellsOf 46)).add 0=⟨g,A3+i,none⟩:=by
  rw[Hw,Nat.mul_one,add_c,add_c,Nat.add_zero]
 rw[Hw]at e1;rw[e1,A1]at g0;match A7,A0,g0 with
 | [v],_,g0=>
  have e2:v= .slice B r.length cb:=by simpa using g0.symm
  have h3:=slice_bulk Tryz.underlying46 h2 (A:=B) (n:=r.length) (c:=cb) (by rw[e2]);have h4:Rows.uptoBulk (D i)<=Rows.uptoBulkAll ((List.range l.length).map D):=blk_part (List.mem_map.2 ⟨i,List.mem_range.2 A6,rfl⟩);show r.length<=Rows.uptoBulkAll _+Rows.uptoBulkAll _+1;have h5:r.length<=Rows.uptoBulk (D i):=h3;omega
theorem rect_open {H:Type}{enc:TypeId×Value->H}{w:World}{base:Nat}{spare:Nat->Bool}{held:Bool}{fuel:Nat}{cs:List Value}{x:DataW H×List MemPlace}(h:DataW.trod enc Tryz.prog w base spare held fuel 24 cs=some x):∃a:R4,cs=[.int .i64 a.x0,.int .i64 a.y0,.int .i64 a.x1,.int .i64 a.y1]:=by
 obtain⟨y0,y1,y2,y3,n,_,hl,h0,h1,h2,h3⟩:=Go.Joins.trod_struct4 Tryz.underlying24 h;rw[show Tryz.prog.cellsOf 24=4 by kernel_rfl]at hl;rw[Wp]at h0 h1 h2 h3;obtain⟨a,e0,_,_⟩:=DataW.trod_int Tryz.underlying3 h0;obtain⟨b,e1,_,_⟩:=DataW.trod_int Tryz.underlying3 h1;obtain⟨c,e2,_,_⟩:=DataW.trod_int Tryz.underlying3 h2;obtain⟨d,e3,_,_⟩:=DataW.trod_int Tryz.underlying3 h3;match cs,hl with
 | [u,v,s,t],_=>
  simp at e0 e1 e2 e3;exact⟨⟨a,b,c,d⟩,by rw[e0,e1,e2,e3]⟩
theorem rect2_open {H:Type}{enc:TypeId×Value->H}{w:World}{base:Nat}{spare:Nat->Bool}{held:Bool}{fuel:Nat}{cs:List Value}{x:DataW H×List MemPlace}(h:DataW.trod enc Tryz.prog w base spare held fuel 25 cs=some x):
  ∃a b:R4,cs=[.int .i64 a.x0,.int .i64 a.y0,.int .i64 a.x1,.int .i64 a.y1,.int .i64 b.x0,.int .i64 b.y0,.int .i64 b.x1,.int .i64 b.y1]:=by
 obtain⟨xs,m,_,_,hl,hx,hi⟩:=DataW.trod_array Tryz.underlying25 h;rw[show Tryz.prog.cellsOf 25=8 by kernel_rfl]at hl;rw[show Tryz.prog.cellsOf 24=4 by kernel_rfl]at hi;match xs,hx with
 | [x0,x1],_=>
  obtain⟨a,ea⟩:=rect_open (show DataW.trod enc Tryz.prog w base spare held m 24 _=some x0 from hi 0 (by omega));obtain⟨b,eb⟩:=rect_open (show DataW.trod enc Tryz.prog w base spare held m 24 _=some x1 from hi 1 (by omega));match cs,hl with
  | [c0,c1,c2,c3,c4,c5,c6,c7],_=>
   simp at ea eb;exact⟨a,b,by simp[ea,eb]⟩
theorem contract (H:Type)(enc:TypeId×Value->H)(W:World)(base:Nat)(args:Array Value)(ds gs:List (DataW H))(before:List MemPlace)
  (hval0:∀(j:Nat) t v,Tryz.f3.params[j]?=some t->args[j]?=some v->Value.okWide Tryz.prog W .any base t v)
  (hW:DataW.Whole enc Tryz.prog Tryz.f3.params.toList Rows.coverageIndependentSpec.vars false W args.toList ds gs before)(hk:Rows.uptoSmall H (ds++gs)=true):
  Calls Tryz.prog 3 args W fun e W'=>∃v,e= .returned v/\Rows.coverageIndependentSpec.post enc Tryz.prog Tryz.f3 false true false false W args v W':=by
 have A0:∀(j:Nat) t v,Tryz.f3.params[j]?=some t->args[j]?=some v->Value.okWide Tryz.prog W .any base t v:=hval0;have B4:=hW;obtain⟨p,q,A7,hV,rfl,B9,B8⟩:=hW;have hA:DataW.TrodAll enc Tryz.prog W 0 (fun _=>true) true Tryz.f3.params.toList args.toList ds p:=A7;rw[Tryz.params3]at hA A0;obtain⟨v0,B7,d0,C2,p0,q0,A6,rfl,rfl,h0,r0⟩:=trodAll_cons hA;obtain⟨v1,B6,d1,C1,p1,q1,rfl,rfl,rfl,h1,r1⟩:=trodAll_cons r0;obtain⟨v2,B5,d2,C0,p2,q2,rfl,rfl,rfl,h2,r2⟩:=trodAll_cons r1;obtain⟨rfl,rfl,rfl⟩:=trodAll_nil r2;obtain rfl:args=#[v0,v1,v2]:=by cases args;simp_all
 obtain⟨rfl,rfl⟩:=trodVars_none hV;have k0:=h0;have B2:∀x∈p0,x.block<W.heap.size:=by obtain⟨m,hm⟩:=k0;exact DataW.trod_lt m _ _ _ hm
 obtain⟨A,A3,A1,rfl⟩:=okWide_slice Tryz.underlying22 (A0 0 22 v0 rfl rfl);obtain⟨B0,rs,A9,A8,g0⟩:=(by obtain⟨m,hm⟩:=h0;exact Zs hm:∃zB zl zc,[Value.slice A A3 A1]=[.slice zB (List.length zl) zc]/\zl.length<=maxLen/\Cu W (.slice zB zl.length zc) zl/\∀r,r∈zl->r.length<=maxLen);obtain⟨rfl,rfl,rfl⟩:A=B0/\A3=rs.length/\A1=A9:=by simpa using A8
 obtain⟨rule,rfl,rfl,rfl,w1⟩:=open_int Tryz.underlying3 (A0 1 3 v1 rfl rfl) h1;have k2:=h2;have B1:∀x∈p2,x.block<W.heap.size:=by obtain⟨m,hm⟩:=k2;exact DataW.trod_lt m _ _ _ hm
 obtain⟨⟨l2⟩,rfl,_⟩:=Xv Tryz.underlying25 (A0 2 25 v2 rfl rfl);obtain⟨q0,q1,rfl⟩:∃q0 q1:R4,l2=[.int .i64 q0.x0,.int .i64 q0.y0,.int .i64 q0.x1,.int .i64 q0.y1,.int .i64 q1.x0,.int .i64 q1.y0,.int .i64 q1.x1,.int .i64 q1.y1]:=by
  obtain⟨m,hm⟩:=h2;exact rect2_open hm
 simp only[List.append_nil]at hk;unfold Rows.uptoSmall at hk;have B3:=of_decide_eq_true hk;have A5:Rows.uptoBulk d0<=1048576:=Ar (blk_part (List.mem_cons_self ..)) B3;have A4:rs.length<=1048576/\∀r,r∈rs->r.length<=1048576:=by
  obtain⟨m,hm⟩:=k0;have h_:=rings_bulk hm rfl g0.2.1;exact⟨Ar h_.1 A5,fun r_ hr_=>Ar (h_.2 r_ hr_) A5⟩
 clear A7 hval0;refine(walk A rs A1 rule q0 q1 W g0.2.1 A4.1 A4.2 (bounds_i64 w1)).mono fun e W' ⟨he,hx⟩=> ?_
 subst he;have A2:=hx.below;exact⟨_,rfl,_,_,_,[],_,[],B4,trodAll_mk1 (shut_bool Tryz.underlying4 _),(trodAll_cons_mk (Below.trod gO (by kernel_rfl) (of_decide_eq_true (by kernel_rfl)) k0 A2 B2) (trodAll_cons_mk (shut_int Tryz.underlying3 w1) (trodAll_cons_mk (Below.trod gO (by kernel_rfl) (of_decide_eq_true (by kernel_rfl)) k2 A2 B1) trodAll_mk0))),rfl,A2.frame _,fun h=>by cases h⟩
theorem lifted (os:Os)(started:os.Started)(H:Type)(enc:TypeId×Value->H)(F:Stop.Interp):
  ReturnsInHanded {} Tryz.checked os 3 .any ((Rows.OpenSpec.upto Rows.coverageIndependentSpec).pre6 enc Tryz.prog Tryz.f3 Rows.coverageIndependentUptoRow.domain false) (((Rows.OpenSpec.upto Rows.coverageIndependentSpec).at F).post enc Tryz.prog Tryz.f3 false true false false):=by
 refine returnsInHanded_of_cond (C:=Tryz.checked) (s:=Rows.OpenSpec.upto Rows.coverageIndependentSpec) (k:=Rows.uptoSmall) rfl own started kR Tryz.func3
  (OpenSpec.witness (enc:=enc) (C:=Tryz.checked) (s:=Rows.OpenSpec.upto Rows.coverageIndependentSpec) (k:=Rows.uptoSmall) rfl false ⟨#[],#[.slice none 0 0,.int .i64 0,.agg #[.int .i64 0,.int .i64 0,.int .i64 0,.int .i64 0,.int .i64 0,.int .i64 0,.int .i64 0,.int .i64 0]],[]⟩ 8 (by kernel_rfl) (by kernel_rfl) (by kernel_rfl)
   (x:=([.nil,.lit (.int .i64 0),.agg [.agg [.lit (.int .i64 0),.lit (.int .i64 0),.lit (.int .i64 0),.lit (.int .i64 0)],.agg [.lit (.int .i64 0),.lit (.int .i64 0),.lit (.int .i64 0),.lit (.int .i64 0)]]],[],[])) (by kernel_rfl) rfl (by kernel_rfl)) ?_
 intro W base args ds gs A0 A1 hW _ hk _;exact contract H enc W base args ds gs A0 A1 hW hk
theorem proved:Rows.CoverageIndependentUptoSaid:=
  OpenClaim.holds_of_cond 3 Tryz.f3 rfl rfl rfl rfl rfl rfl rfl ⟨rfl,rfl,rfl,rfl,rfl⟩ rfl rfl rfl rfl rfl (by kernel_rfl) Tryz.func3 (by kernel_rfl)
    (of_decide_eq_true (by kernel_rfl)) (by unfold Func.isWrapper;first|(rw[if_pos (by decide+kernel)];kernel_rfl)|(rw[if_neg (by decide+kernel)];exact⟨rfl,rfl⟩))
    (fun os started H enc _ F=>lifted os started H enc F)
#print axioms proved
end indlaw
end
end Go.Proofs.YtlipfipniibpoabGreat
