import Derived.JoinedCond
import Derived.Test.YtlipfipniibpoaaGreatM10
set_option maxRecDepth 100000
set_option maxHeartbeats 4000000
namespace Go.Proofs.YtlipfipniibpoaaGreat
open Go.RowKit
open Go.Proofs.Tryz
section
attribute [local go_sem ↓] Go.wp_at_zero Go.wp_at_succ Ak Aj
namespace sgalaw
open Go.ChangeShapes Go.WideShapes Go.ChangeAt
theorem add_c (g o j:Nat):(⟨g,o,none⟩:Addr).add j=⟨g,o+j,none⟩:=by unfold Addr.add;split<;>simp_all
theorem blk_one {H:Type}(d:DataW H):1<=Rows.uptoBulk d:=by
  cases d with
  |lit l=>cases l<;>simp[Rows.uptoBulk]
  |nil=>simp[Rows.uptoBulk]
  |ptr d=>simp[Rows.uptoBulk]
  |slice elems spare=>simp[Rows.uptoBulk]
  |agg parts=>simp[Rows.uptoBulk]
  |iface t d=>simp[Rows.uptoBulk]
  |map entries=>simp[Rows.uptoBulk]
  |held h=>simp[Rows.uptoBulk]
theorem blk_part {H:Type}{d:DataW H}{l:List (DataW H)}(h:d∈l):Rows.uptoBulk d<=Rows.uptoBulkAll l:=by
  induction l with
  |nil=>cases h
  | cons x r ih=>
    simp only[Rows.uptoBulkAll];cases List.mem_cons.1 h with
    |inl e=>subst e;omega
    |inr e=>have:=ih e;omega
theorem blk_len {H:Type}(l:List (DataW H)):l.length<=Rows.uptoBulkAll l:=by
  induction l with
  |nil=>simp[Rows.uptoBulkAll]
  |cons x r ih=>have:=blk_one x;simp only[Rows.uptoBulkAll,hQQ];omega
section
variable {H:Type} {enc:TypeId×Value->H} {P:Program} {w:World} {base:Nat} {spare:Nat->Bool} {held:Bool} {e:TypeId}
theorem slice_bulk {t:TypeId}{fuel:Nat}{cs:List Value}{x:DataW H×List MemPlace}(ht:P.underlying t=some (.slice e))(h:DataW.trod enc P w base spare held fuel t cs=some x){A:Option Addr}{n c:Nat}(hc:cs=[.slice A n c]):n<=Rows.uptoBulk x.1:=by
 rcases Deep.open_slice ht h with⟨rfl,_⟩|⟨a,len,cap,m,k,D,Pl,rfl,_,_,_,_,rfl,_⟩
 ·simp only[List.cons.injEq,Value.slice.injEq,and_true]at hc
  omega
 simp only[List.cons.injEq,Value.slice.injEq,and_true]at hc;have h1:=blk_len ((List.range len).map D);rw[fXX,List.length_range]at h1;show n<=Rows.uptoBulkAll _+Rows.uptoBulkAll _+1;omega
end
theorem rings_bulk {H:Type}{enc:TypeId×Value->H}{w:World}{base:Nat}{held:Bool}{fuel:Nat}{cs:List Value}{x:DataW H×List MemPlace}(h:DataW.trod enc prog w base (fun _=>true) held fuel 31 cs=some x){A:Option Addr}{l:List Dp}{cap:Nat}(hc:cs=[.slice A l.length cap])(hv:Cx w (.slice A l.length cap) l):
  l.length<=Rows.uptoBulk x.1/\∀r,r∈l->r.length<=Rows.uptoBulk x.1:=by
 refine⟨slice_bulk underlying31 h hc,fun r hr=> ?_⟩;obtain⟨i,hi⟩:=List.mem_iff_getElem?.1 hr;have A6:=(List.getElem?_eq_some_iff.1 hi).1;rcases Deep.open_slice underlying31 h with⟨rfl,_⟩|⟨a,len,cap',m,k,D,Pl,rfl,_,hl,_,hmm,rfl,hx⟩
 ·simp only[List.cons.injEq,Value.slice.injEq,and_true]at hc
  omega
 simp only[List.cons.injEq,Value.slice.injEq,and_true]at hc;obtain⟨rfl,rfl,rfl⟩:=hc;obtain⟨A2,A8,he,hR⟩:=hv;injection he with he1 _ _
 subst he1;obtain⟨g,A3,ha,hp⟩:=hR ω;injection ha with ha
 subst ha;obtain⟨B,cb,A1,_⟩:=hp i r hi;have A5:i<m:=by rw[hmm];split<;>omega
 obtain⟨A7,h1,h2⟩:=hx i A5;obtain⟨_,A0,A4⟩:=World.cells?_some h1;rw[Ih]at A0 A4;have g0:=A4 0 (by decide);have e1:((⟨g,A3,none⟩:Addr).add (i*prog.cellsOf 53)).add 0=⟨g,A3+i,none⟩:=by
  rw[Ih,nQQ,add_c,add_c,mQQ]
 rw[Ih]at e1;rw[e1,A1]at g0;match A7,A0,g0 with
 | [v],_,g0=>
  have e2:v= .slice B r.length cb:=by simpa using g0.symm
  have h3:=slice_bulk underlying53 h2 (A:=B) (n:=r.length) (c:=cb) (by rw[e2]);have h4:Rows.uptoBulk (D i)<=Rows.uptoBulkAll ((List.range l.length).map D):=blk_part (List.mem_map.2 ⟨i,List.mem_range.2 A6,rfl⟩);show r.length<=Rows.uptoBulkAll _+Rows.uptoBulkAll _+1;have h5:r.length<=Rows.uptoBulk (D i):=h3;omega
theorem int2_open {H:Type}{enc:TypeId×Value->H}{w:World}{base:Nat}{spare:Nat->Bool}{held:Bool}{fuel:Nat}{cs:List Value}{x:DataW H×List MemPlace}(h:DataW.trod enc prog w base spare held fuel 32 cs=some x):
  ∃a b:Int,cs=[.int .i64 a,.int .i64 b]/\(-9223372036854775808<=a/\a<=9223372036854775807)/\(-9223372036854775808<=b/\b<=9223372036854775807):=by
 obtain⟨xs,m,_,_,hl,hx,hi⟩:=DataW.trod_array underlying32 h;rw[show prog.cellsOf 32=2 by kernel_rfl]at hl;rw[Yk]at hi;match xs,hx with
 | [x0,x1],_=>
  obtain⟨a,e0,_,w0⟩:=DataW.trod_int underlying3 (show DataW.trod enc prog w base spare held m 3 _=some x0 from hi 0 ω);obtain⟨b,e1,_,w1⟩:=DataW.trod_int underlying3 (show DataW.trod enc prog w base spare held m 3 _=some x1 from hi 1 ω);match cs,hl with
  | [c0,c1],_=>
   simp at e0 e1;exact⟨a,b,by rw[e0,e1],bounds_i64 w0,bounds_i64 w1⟩
theorem contract (H:Type)(enc:TypeId×Value->H)(W:World)(base:Nat)(args:Array Value)(ds gs:List (DataW H))(before:List MemPlace)
  (hval0:∀(j:Nat) t v,Tryz.f4.params[j]?=some t->args[j]?=some v->Value.okWide prog W .any base t v)
  (hW:DataW.Whole enc prog Tryz.f4.params.toList Rows.coverageSignedAreaSpec.vars false W args.toList ds gs before)(hk:Rows.uptoSmall H (ds++gs)=true):
  Calls prog 4 args W fun e W'=>∃v,e= .returned v/\Rows.coverageSignedAreaSpec.post enc prog Tryz.f4 false true false false W args v W':=by
 have A0:∀(j:Nat) t v,Tryz.f4.params[j]?=some t->args[j]?=some v->Value.okWide prog W .any base t v:=hval0;have B4:=hW;obtain⟨p,q,A7,hV,rfl,B8,B7⟩:=hW;have hA:DataW.TrodAll enc prog W 0 (fun _=>true) true Tryz.f4.params.toList args.toList ds p:=A7;rw[Tryz.params4]at hA A0;obtain⟨v0,B6,d0,C0,p0,q0,A6,rfl,rfl,h0,r0⟩:=trodAll_cons hA;obtain⟨v1,B5,d1,B9,p1,q1,rfl,rfl,rfl,h1,r1⟩:=trodAll_cons r0;obtain⟨rfl,rfl,rfl⟩:=trodAll_nil r1;obtain rfl:args=#[v0,v1]:=by cases args;simp_all
 obtain⟨rfl,rfl⟩:=trodVars_none hV;have k0:=h0;have B2:∀x∈p0,x.block<W.heap.size:=by obtain⟨m,hm⟩:=k0;exact DataW.trod_lt m _ _ _ hm
 obtain⟨A,A3,A1,rfl⟩:=okWide_slice underlying31 (A0 0 31 v0 rfl rfl);obtain⟨B0,rs,A9,A8,g0⟩:=(by obtain⟨m,hm⟩:=h0;exact bX hm:∃zB zl zc,[Value.slice A A3 A1]=[.slice zB (List.length zl) zc]/\zl.length<=maxLen/\Cx W (.slice zB zl.length zc) zl/\∀r,r∈zl->r.length<=maxLen);obtain⟨rfl,rfl,rfl⟩:A=B0/\A3=rs.length/\A1=A9:=by simpa using A8
 have k1:=h1;have B1:∀x∈p1,x.block<W.heap.size:=by obtain⟨m,hm⟩:=k1;exact DataW.trod_lt m _ _ _ hm
 obtain⟨⟨l1⟩,rfl,_⟩:=Zj underlying32 (A0 1 32 v1 rfl rfl);obtain⟨a,b,rfl,g1⟩:∃a b:Int,l1=[.int .i64 a,.int .i64 b]/\(-9223372036854775808<=a/\a<=9223372036854775807)/\(-9223372036854775808<=b/\b<=9223372036854775807):=by
  obtain⟨m,hm⟩:=h1;exact int2_open hm
 simp only[hXX]at hk;unfold Rows.uptoSmall at hk;have B3:=of_decide_eq_true hk;have A5:Rows.uptoBulk d0<=1048576:=An (blk_part (eXX ..)) B3;have A4:rs.length<=1048576/\∀r,r∈rs->r.length<=1048576:=by
  obtain⟨m,hm⟩:=k0;have h_:=rings_bulk hm rfl g0.2.1;exact⟨An h_.1 A5,fun r_ hr_=>An (h_.2 r_ hr_) A5⟩
 clear A7 hval0;refine(walk A rs A1 a b W g0.2.1 A4.1 A4.2 g1).mono fun e W' ⟨he,hx⟩=> ?_
 subst he;have A2:=hx.below;exact⟨_,rfl,_,_,_,[],_,[],B4,trodAll_mk1 (shut_bool underlying4 _),(trodAll_cons_mk (Below.trod jL (by kernel_rfl) (of_decide_eq_true (by kernel_rfl)) k0 A2 B2) (trodAll_cons_mk (Below.trod jL (by kernel_rfl) (of_decide_eq_true (by kernel_rfl)) k1 A2 B1) trodAll_mk0)),rfl,A2.frame _,fun h=>by cases h⟩
theorem lifted (os:Os)(started:os.Started)(H:Type)(enc:TypeId×Value->H)(F:Stop.Interp):
  ReturnsInHanded {} Tryz.checked os 4 .any ((Rows.OpenSpec.upto Rows.coverageSignedAreaSpec).pre6 enc prog Tryz.f4 Rows.coverageSignedAreaUptoRow.domain false) (((Rows.OpenSpec.upto Rows.coverageSignedAreaSpec).at F).post enc prog Tryz.f4 false true false false):=by
 refine returnsInHanded_of_cond (C:=Tryz.checked) (s:=Rows.OpenSpec.upto Rows.coverageSignedAreaSpec) (k:=Rows.uptoSmall) rfl own started kR func4
  (OpenSpec.witness (enc:=enc) (C:=Tryz.checked) (s:=Rows.OpenSpec.upto Rows.coverageSignedAreaSpec) (k:=Rows.uptoSmall) rfl false ⟨#[],#[.slice none 0 0,.agg #[.int .i64 0,.int .i64 0]],[]⟩ 8 (by kernel_rfl) (by kernel_rfl) (by kernel_rfl)
   (x:=([.nil,.agg [.lit (.int .i64 0),.lit (.int .i64 0)]],[],[])) (by kernel_rfl) rfl (by kernel_rfl)) ?_
 intro W base args ds gs A0 A1 hW _ hk _;exact contract H enc W base args ds gs A0 A1 hW hk
theorem proved:Rows.CoverageSignedAreaUptoSaid:=
  OpenClaim.holds_of_cond 4 Tryz.f4 rfl rfl rfl rfl rfl rfl rfl ⟨rfl,rfl,rfl,rfl,rfl⟩ rfl rfl rfl rfl rfl (by kernel_rfl) func4 (by kernel_rfl)
    (of_decide_eq_true (by kernel_rfl)) (by unfold Func.isWrapper;first|(rw[if_pos (by decide+kernel)];kernel_rfl)|(rw[if_neg (by decide+kernel)];exact⟨rfl,rfl⟩))
    (fun os started H enc _ F=>lifted os started H enc F)
#print axioms proved
end sgalaw
end
end Go.Proofs.YtlipfipniibpoaaGreat
