import Derived.Test.YtlipfipniibpoaaGreatM10
import Derived.JoinedCond
import Derived.Lib.SmallJoins
set_option maxRecDepth 100000
set_option maxHeartbeats 4000000
namespace Go.Proofs.YtlipfipniibpoaaGreat
open Go.RowKit Go.Proofs.YtlipfipniibpoaaGreat.Rows
open Go.Proofs.Tryz
section
attribute [local go_sem ↓] Go.wp_at_zero Go.wp_at_succ Aq An
namespace acclaw
open Go.ChangeShapes Go.WideShapes Go.ChangeAt
theorem add_c(g o j):(⟨g,o,none⟩:Addr).add j=⟨g,o+j,none⟩:=by unfold Addr.add;split<;>simp_all
theorem qbo{H}(d:DataW H):1<=uptoBulk d:=by
  cases d with
  |lit l=>cases l<;>simp[uptoBulk]
  | _=>simp[uptoBulk]
theorem qbp{H d}{l:List (DataW H)}(h:d∈l):uptoBulk d<=uptoBulkAll l:=by
  induction l with
  |nil=>cases h
  | cons x r ih=>
    simp only[uptoBulkAll];cases List.mem_cons.1 h with
    |inl e=>subst e;omega
    |inr e=>have:=ih e;omega
theorem qbl{H}(l:List (DataW H)):l.length<=uptoBulkAll l:=by
  induction l with
  |nil=>simp[uptoBulkAll]
  |cons x r ih=>have:=qbo x;simp only[uptoBulkAll,hQQ];omega
section
variable {H:Type} {enc:TypeId×Value->H} {P:Program} {w:World} {base:Nat} {spare:Nat->Bool} {held:Bool} {e:TypeId}
theorem qsb{t fuel cs x}(ht:P.underlying t=some (.slice e))(h:DataW.trod enc P w base spare held fuel t cs=some x){A n c}(hc:cs=[.slice A n c]):n<=uptoBulk x.1:=by
 rcases Deep.open_slice ht h with⟨rfl,_⟩|⟨a,len,cap,m,k,D,Pl,rfl,_,_,_,_,rfl,_⟩
 ·simp only[List.cons.injEq,Value.slice.injEq,and_true]at hc
  omega
 simp only[List.cons.injEq,Value.slice.injEq,and_true]at hc;have h1:=qbl ((List.range len).map D);rw[fXX,List.length_range]at h1;show n<=uptoBulkAll _+uptoBulkAll _+1;omega
end
theorem qrb{H enc w base held fuel cs}{x:DataW H×List MemPlace}(h:DataW.trod enc prog w base (fun _=>true) held fuel 31 cs=some x){A l cap}(hc:cs=[.slice A l.length cap])(hv:Cs w (.slice A l.length cap) l):
  l.length<=uptoBulk x.1/\∀r,r∈l->r.length<=uptoBulk x.1:=by
 refine⟨qsb underlying31 h hc,fun r hr=> ?_⟩;obtain⟨i,hi⟩:=List.mem_iff_getElem?.1 hr;have A6:=(List.getElem?_eq_some_iff.1 hi).1;rcases Deep.open_slice underlying31 h with⟨rfl,_⟩|⟨a,len,cap',m,k,D,Pl,rfl,_,hl,_,hmm,rfl,hx⟩
 ·simp only[List.cons.injEq,Value.slice.injEq,and_true]at hc
  omega
 simp only[List.cons.injEq,Value.slice.injEq,and_true]at hc;obtain⟨rfl,rfl,rfl⟩:=hc;obtain⟨A2,A8,he,hR⟩:=hv;injection he with he1 _ _
 subst he1;obtain⟨g,A3,ha,hp⟩:=hR ω;injection ha with ha
 subst ha;obtain⟨B,cb,A1,_⟩:=hp i r hi;have A5:i<m:=by rw[hmm];split<;>omega
 obtain⟨A7,h1,h2⟩:=hx i A5;obtain⟨_,A0,A4⟩:=World.cells?_some h1;rw[Ik]at A0 A4;have g0:=A4 0 (by decide);have e1:((⟨g,A3,none⟩:Addr).add (i*prog.cellsOf 53)).add 0=⟨g,A3+i,none⟩:=by
  rw[Ik,nQQ,add_c,add_c,mQQ]
 rw[Ik]at e1;rw[e1,A1]at g0;match A7,A0,g0 with
 | [v],_,g0=>
  have e2:v= .slice B r.length cb:=by simpa using g0.symm
  have h3:=qsb underlying53 h2 (A:=B) (n:=r.length) (c:=cb) (by rw[e2]);have h4:uptoBulk (D i)<=uptoBulkAll ((List.range l.length).map D):=qbp (List.mem_map.2 ⟨i,List.mem_range.2 A6,rfl⟩);show r.length<=uptoBulkAll _+uptoBulkAll _+1;have h5:r.length<=uptoBulk (D i):=h3;omega
theorem qro{H enc w base spare held fuel cs}{x:DataW H×List MemPlace}(h:DataW.trod enc prog w base spare held fuel 35 cs=some x):∃a:R4,cs=[.int .i64 a.x0,.int .i64 a.y0,.int .i64 a.x1,.int .i64 a.y1]:=by
 obtain⟨y0,y1,y2,y3,n,_,hl,h0,h1,h2,h3⟩:=Go.Joins.trod_struct4 underlying35 h;rw[show prog.cellsOf 35=4 by kernel_rfl]at hl;rw[Yr]at h0 h1 h2 h3;obtain⟨a,e0,_,_⟩:=DataW.trod_int underlying3 h0;obtain⟨b,e1,_,_⟩:=DataW.trod_int underlying3 h1;obtain⟨c,e2,_,_⟩:=DataW.trod_int underlying3 h2;obtain⟨d,e3,_,_⟩:=DataW.trod_int underlying3 h3;match cs,hl with
 | [u,v,s,t],_=>
  simp at e0 e1 e2 e3;exact⟨⟨a,b,c,d⟩,by rw[e0,e1,e2,e3]⟩
theorem contract(H:Type)(enc W base args ds gs before)
(hval0:∀(j:Nat) t v,Tryz.f5.params[j]?=some t->args[j]?=some v->Value.okWide prog W .any base t v)
(hW:DataW.Whole enc prog Tryz.f5.params.toList Rows.coverageAccumulateSpec.vars false W args.toList ds gs before)(hk:uptoSmall H (ds++gs)=true):
  Calls prog 5 args W fun e W'=>∃v,e= .returned v/\Rows.coverageAccumulateSpec.post enc prog Tryz.f5 false true false false W args v W':=by
 have hval:∀(j:Nat) t v,Tryz.f5.params[j]?=some t->args[j]?=some v->Value.okWide prog W .any base t v:=hval0;have hW':=hW;obtain⟨p,q,hA0,hV,rfl,hfz,hnd⟩:=hW;have hA:DataW.TrodAll enc prog W 0 (fun _=>true) true Tryz.f5.params.toList args.toList ds p:=hA0;rw[Tryz.params5]at hA hval;obtain⟨v0,vs0,d0,ds0,p0,q0,hargs,rfl,rfl,h0,r0⟩:=trodAll_cons hA;obtain⟨v1,vs1,d1,ds1,p1,q1,rfl,rfl,rfl,h1,r1⟩:=trodAll_cons r0;obtain⟨rfl,rfl,rfl⟩:=trodAll_nil r1;obtain rfl:args=#[v0,v1]:=by cases args;simp_all
 obtain⟨rfl,rfl⟩:=trodVars_none hV;have k0:=h0;have lt0:∀x∈p0,x.block<W.heap.size:=by obtain⟨m,hm⟩:=k0;exact DataW.trod_lt m _ _ _ hm
 obtain⟨A,zl0,cap,rfl⟩:=okWide_slice underlying31 (hval 0 31 v0 rfl rfl);obtain⟨zA0,rs,zc0,ze0,g0⟩:=(by obtain⟨m,hm⟩:=h0;exact cH hm:∃zB zl zc,[Value.slice A zl0 cap]=[.slice zB (List.length zl) zc]/\zl.length<=maxLen/\Cs W (.slice zB zl.length zc) zl/\∀r,r∈zl->r.length<=maxLen);obtain⟨rfl,rfl,rfl⟩:A=zA0/\zl0=rs.length/\cap=zc0:=by simpa using ze0
 have k1:=h1;have lt1:∀x∈p1,x.block<W.heap.size:=by obtain⟨m,hm⟩:=k1;exact DataW.trod_lt m _ _ _ hm
 obtain⟨⟨l1⟩,rfl,_⟩:=Up underlying35 (hval 1 35 v1 rfl rfl);obtain⟨r,rfl⟩:∃r:R4,l1=[.int .i64 r.x0,.int .i64 r.y0,.int .i64 r.x1,.int .i64 r.y1]:=by
  obtain⟨m,hm⟩:=h1;exact qro hm
 simp only[hZZ]at hk;unfold uptoSmall at hk;have hk2:=of_decide_eq_true hk;have hb0:uptoBulk d0<=1048576:=Al (qbp (eXX ..)) hk2;have hbk:rs.length<=1048576/\∀r,r∈rs->r.length<=1048576:=by
  obtain⟨m,hm⟩:=k0;have h_:=qrb hm rfl g0.2.1;exact⟨Al h_.1 hb0,fun r_ hr_=>Al (h_.2 r_ hr_) hb0⟩
 clear hA0 hval0;refine(walk A rs cap r W g0.2.1 hbk.1 hbk.2).mono fun e W' ⟨he,hx⟩=> ?_
 subst he;have bel:=hx.below;exact⟨_,rfl,_,_,_,[],_,[],hW',trodAll_mk1 (shut_bool underlying4 _),(trodAll_cons_mk (Below.trod jW kR (of_decide_eq_true kR) k0 bel lt0) (trodAll_cons_mk (Below.trod jW kR (of_decide_eq_true kR) k1 bel lt1) trodAll_mk0)),rfl,bel.frame _,fun h=>by cases h⟩
theorem lifted(os)(started:os.Started)(H:Type)(enc:TypeId×Value->H)(F):
  ReturnsInHanded {} Tryz.checked os 5 .any ((Rows.OpenSpec.upto Rows.coverageAccumulateSpec).pre6 enc prog Tryz.f5 Rows.coverageAccumulateUptoRow.domain false) (((Rows.OpenSpec.upto Rows.coverageAccumulateSpec).at F).post enc prog Tryz.f5 false true false false):=by
 refine returnsInHanded_of_cond (C:=Tryz.checked) (s:=Rows.OpenSpec.upto Rows.coverageAccumulateSpec) (k:=uptoSmall) rfl own started kR func5
  (OpenSpec.witness (enc:=enc) (C:=Tryz.checked) (s:=Rows.OpenSpec.upto Rows.coverageAccumulateSpec) (k:=uptoSmall) rfl false ⟨#[],#[.slice none 0 0,.agg #[.int .i64 0,.int .i64 0,.int .i64 0,.int .i64 0]],[]⟩ 8 (by kernel_rfl) (by kernel_rfl) (by kernel_rfl)
   (x:=([.nil,.agg [.lit (.int .i64 0),.lit (.int .i64 0),.lit (.int .i64 0),.lit (.int .i64 0)]],[],[])) (by kernel_rfl) rfl (by kernel_rfl)) ?_
 intro W base args ds gs A0 A1 hW _ hk _;exact contract H enc W base args ds gs A0 A1 hW hk
theorem proved:Rows.CoverageAccumulateUptoSaid:=
  OpenClaim.holds_of_cond 5 Tryz.f5 rfl rfl rfl rfl rfl rfl rfl ⟨rfl,rfl,rfl,rfl,rfl⟩ rfl rfl rfl rfl rfl (by kernel_rfl) func5 (by kernel_rfl)
    (of_decide_eq_true (by kernel_rfl)) (by unfold Func.isWrapper;first|(rw[if_pos (by decide+kernel)];kernel_rfl)|(rw[if_neg (by decide+kernel)];exact⟨rfl,rfl⟩))
    (fun os started H enc _ F=>lifted os started H enc F)
#print axioms proved
end acclaw
end
end Go.Proofs.YtlipfipniibpoaaGreat
