import Derived.JoinedCond
import Derived.Test.YtlipfipniibpoacGreatM9
set_option maxRecDepth 100000
set_option maxHeartbeats 4000000
namespace Go.Proofs.YtlipfipniibpoacGreat
open Go.RowKit
open Go.Proofs.Tryz
section
attribute [local go_sem ↓] Go.wp_at_zero Go.wp_at_succ Aj Ai
namespace trllaw
open Go.ChangeShapes Go.WideShapes Go.ChangeAt
theorem add_c (g o j:Nat):(⟨g,o,none⟩:Addr).add j=⟨g,o+j,none⟩:=by unfold Addr.add;split<;>simp_all
theorem blk_one {H:Type}(d:DataW H):1<=Rows.uptoBulk d:=by
  cases d with
  |lit l=>cases l<;>simp[Rows.uptoBulk]
  |nil=>simp[Rows.uptoBulk]
  |ptr d=>simp[Rows.uptoBulk]
  |slice elems spare=>simp[Rows.uptoBulk]
  |agg parts=>simp[Rows.uptoBulk]
  |iface t d=>simp[Rows.uptoBulk]
  |map entries=>simp[Rows.uptoBulk]
  |held h=>simp[Rows.uptoBulk]
theorem blk_part {H:Type}{d:DataW H}{l:List (DataW H)}(h:d∈l):Rows.uptoBulk d<=Rows.uptoBulkAll l:=by
  induction l with
  |nil=>cases h
  | cons x r ih=>
    simp only[Rows.uptoBulkAll];cases List.mem_cons.1 h with
    |inl e=>subst e;omega
    |inr e=>have:=ih e;omega
theorem blk_len {H:Type}(l:List (DataW H)):l.length<=Rows.uptoBulkAll l:=by
  induction l with
  |nil=>simp[Rows.uptoBulkAll]
  |cons x r ih=>have:=blk_one x;simp only[Rows.uptoBulkAll,hXX];omega
section
variable {H:Type} {enc:TypeId×Value->H} {P:Program} {w:World} {base:Nat} {spare:Nat->Bool} {held:Bool} {e:TypeId}
theorem slice_bulk {t:TypeId}{fuel:Nat}{cs:List Value}{x:DataW H×List MemPlace}(ht:P.underlying t=some (.slice e))(h:DataW.trod enc P w base spare held fuel t cs=some x){A:Option Addr}{n c:Nat}(hc:cs=[.slice A n c]):n<=Rows.uptoBulk x.1:=by
 rcases Deep.open_slice ht h with⟨rfl,_⟩|⟨a,len,cap,m,k,D,Pl,rfl,_,_,_,_,rfl,_⟩
 ·simp only[List.cons.injEq,Value.slice.injEq,and_true]at hc
  omega
 simp only[List.cons.injEq,Value.slice.injEq,and_true]at hc;have h1:=blk_len ((List.range len).map D);rw[dZZ,List.length_range]at h1;show n<=Rows.uptoBulkAll _+Rows.uptoBulkAll _+1;omega
end
theorem rings_bulk {H:Type}{enc:TypeId×Value->H}{w:World}{base:Nat}{held:Bool}{fuel:Nat}{cs:List Value}{x:DataW H×List MemPlace}(h:DataW.trod enc prog w base (fun _=>true) held fuel 22 cs=some x){A:Option Addr}{l:List Ac}{cap:Nat}(hc:cs=[.slice A l.length cap])(hv:Cm w (.slice A l.length cap) l):
  l.length<=Rows.uptoBulk x.1/\∀r,r∈l->r.length<=Rows.uptoBulk x.1:=by
 refine⟨slice_bulk underlying22 h hc,fun r hr=> ?_⟩;obtain⟨i,hi⟩:=List.mem_iff_getElem?.1 hr;have A6:=(List.getElem?_eq_some_iff.1 hi).1;rcases Deep.open_slice underlying22 h with⟨rfl,_⟩|⟨a,len,cap',m,k,D,Pl,rfl,_,hl,_,hmm,rfl,hx⟩
 ·simp only[List.cons.injEq,Value.slice.injEq,and_true]at hc
  omega
 simp only[List.cons.injEq,Value.slice.injEq,and_true]at hc;obtain⟨rfl,rfl,rfl⟩:=hc;obtain⟨A2,A8,he,hR⟩:=hv;injection he with he1 _ _
 subst he1;obtain⟨g,A3,ha,hp⟩:=hR ω;injection ha with ha
 subst ha;obtain⟨B,cb,A1,_⟩:=hp i r hi;have A5:i<m:=by rw[hmm];split<;>omega
 obtain⟨A7,h1,h2⟩:=hx i A5;obtain⟨_,A0,A4⟩:=World.cells?_some h1;rw[Hf]at A0 A4;have g0:=A4 0 (by decide);have e1:((⟨g,A3,none⟩:Addr).add (i*prog.cellsOf 39)).add 0=⟨g,A3+i,none⟩:=by
  rw[Hf,nXX,add_c,add_c,mZZ]
 rw[Hf]at e1;rw[e1,A1]at g0;match A7,A0,g0 with
 | [v],_,g0=>
  have e2:v= .slice B r.length cb:=by simpa using g0.symm
  have h3:=slice_bulk underlying39 h2 (A:=B) (n:=r.length) (c:=cb) (by rw[e2]);have h4:Rows.uptoBulk (D i)<=Rows.uptoBulkAll ((List.range l.length).map D):=blk_part (List.mem_map.2 ⟨i,List.mem_range.2 A6,rfl⟩);show r.length<=Rows.uptoBulkAll _+Rows.uptoBulkAll _+1;have h5:r.length<=Rows.uptoBulk (D i):=h3;omega
theorem rings_openC {H:Type}{enc:TypeId×Value->H}{w:World}{base:Nat}{held:Bool}{fuel:Nat}{cs:List Value}{x:DataW H×List MemPlace}(h:DataW.trod enc prog w base (fun _=>true) held fuel 22 cs=some x):
  ∃(A:Option Addr) (l:List Ac) (cap:Nat),cs=[.slice A l.length cap]/\l.length<=maxLen/\(Cm w (.slice A l.length cap) l/\l.length<=cap)/\∀r,r∈l->r.length<=maxLen:=by
 obtain⟨A,l,cap,e,h1,h2,h3⟩:=dJ h;obtain⟨A',A1,A0,e',hl,_⟩:=Oa underlying22 (by rw[Hf];decide) h;have k:=e.symm.trans e';simp only[List.cons.injEq,Value.slice.injEq,and_true]at k;exact⟨A,l,cap,e,h1,⟨h2,ω⟩,h3⟩
theorem int3_open {H:Type}{enc:TypeId×Value->H}{w:World}{base:Nat}{spare:Nat->Bool}{held:Bool}{fuel:Nat}{cs:List Value}{x:DataW H×List MemPlace}(h:DataW.trod enc prog w base spare held fuel 45 cs=some x):
  ∃a b c:Int,cs=[.int .i64 a,.int .i64 b,.int .i64 c]/\(-9223372036854775808<=a/\a<=9223372036854775807)/\(-9223372036854775808<=b/\b<=9223372036854775807)/\(-9223372036854775808<=c/\c<=9223372036854775807):=by
 obtain⟨xs,m,_,_,hl,hx,hi⟩:=DataW.trod_array underlying45 h;rw[show prog.cellsOf 45=3 by kernel_rfl]at hl;rw[Zi]at hi;match xs,hx with
 | [x0,x1,x2],_=>
  obtain⟨a,e0,_,w0⟩:=DataW.trod_int underlying3 (show DataW.trod enc prog w base spare held m 3 _=some x0 from hi 0 ω);obtain⟨b,e1,_,w1⟩:=DataW.trod_int underlying3 (show DataW.trod enc prog w base spare held m 3 _=some x1 from hi 1 ω);obtain⟨c,e2,_,w2⟩:=DataW.trod_int underlying3 (show DataW.trod enc prog w base spare held m 3 _=some x2 from hi 2 ω);match cs,hl with
  | [c0,c1,c2],_=>
   simp at e0 e1 e2;exact⟨a,b,c,by rw[e0,e1,e2],bounds_i64 w0,bounds_i64 w1,bounds_i64 w2⟩
theorem contract (H:Type)(enc:TypeId×Value->H)(W:World)(base:Nat)(args:Array Value)(ds gs:List (DataW H))(before:List MemPlace)
  (hval0:∀(j:Nat) t v,Tryz.f4.params[j]?=some t->args[j]?=some v->Value.okWide prog W .any base t v)
  (hW:DataW.Whole enc prog Tryz.f4.params.toList Rows.coverageTranslationSpec.vars false W args.toList ds gs before)(hk:Rows.uptoSmall H (ds++gs)=true):
  Calls prog 4 args W fun e W'=>∃v,e= .returned v/\Rows.coverageTranslationSpec.post enc prog Tryz.f4 false true false false W args v W':=by
 have A0:∀(j:Nat) t v,Tryz.f4.params[j]?=some t->args[j]?=some v->Value.okWide prog W .any base t v:=hval0;have B3:=hW;obtain⟨p,q,A7,hV,rfl,B8,B7⟩:=hW;have hA:DataW.TrodAll enc prog W 0 (fun _=>true) true Tryz.f4.params.toList args.toList ds p:=A7;rw[Tryz.params4]at hA A0;obtain⟨v0,B6,d0,C1,p0,q0,A6,rfl,rfl,h0,r0⟩:=trodAll_cons hA;obtain⟨v1,B5,d1,C0,p1,q1,rfl,rfl,rfl,h1,r1⟩:=trodAll_cons r0;obtain⟨v2,B4,d2,B9,p2,q2,rfl,rfl,rfl,h2,r2⟩:=trodAll_cons r1;obtain⟨rfl,rfl,rfl⟩:=trodAll_nil r2;obtain rfl:args=#[v0,v1,v2]:=by cases args;simp_all
 obtain⟨rfl,rfl⟩:=trodVars_none hV;have k0:=h0;have B1:∀x∈p0,x.block<W.heap.size:=by obtain⟨m,hm⟩:=k0;exact DataW.trod_lt m _ _ _ hm
 obtain⟨A,A3,A1,rfl⟩:=okWide_slice underlying22 (A0 0 22 v0 rfl rfl);obtain⟨B0,rs,A9,A8,g0⟩:=(by obtain⟨m,hm⟩:=h0;exact rings_openC hm:∃zB zl zc,[Value.slice A A3 A1]=[.slice zB (List.length zl) zc]/\zl.length<=maxLen/\(Cm W (.slice zB zl.length zc) zl/\zl.length<=zc)/\∀r,r∈zl->r.length<=maxLen);obtain⟨rfl,rfl,rfl⟩:A=B0/\A3=rs.length/\A1=A9:=by simpa using A8
 obtain⟨rule,rfl,rfl,rfl,w1⟩:=open_int underlying3 (A0 1 3 v1 rfl rfl) h1;have k2:=h2;have aEM:∀x∈p2,x.block<W.heap.size:=by obtain⟨m,hm⟩:=k2;exact DataW.trod_lt m _ _ _ hm
 obtain⟨⟨l2⟩,rfl,_⟩:=aM underlying45 (A0 2 45 v2 rfl rfl);obtain⟨a,b,c,rfl,g2⟩:∃a b c:Int,l2=[.int .i64 a,.int .i64 b,.int .i64 c]/\(-9223372036854775808<=a/\a<=9223372036854775807)/\(-9223372036854775808<=b/\b<=9223372036854775807)/\(-9223372036854775808<=c/\c<=9223372036854775807):=by
  obtain⟨m,hm⟩:=h2;exact int3_open hm
 simp only[gZZ]at hk;unfold Rows.uptoSmall at hk;have B2:=of_decide_eq_true hk;have A5:Rows.uptoBulk d0<=1048576:=Av (blk_part (dXX ..)) B2;have A4:rs.length<=1048576/\∀r,r∈rs->r.length<=1048576:=by
  obtain⟨m,hm⟩:=k0;have h_:=rings_bulk hm rfl g0.2.1.1;exact⟨Av h_.1 A5,fun r_ hr_=>Av (h_.2 r_ hr_) A5⟩
 clear A7 hval0;refine(walk A rs A1 rule a b c W g0.2.1.1 g0.2.1.2 A4.1 A4.2 (bounds_i64 w1) g2).mono fun e W' ⟨he,hx⟩=> ?_
 subst he;have A2:=hx.below;exact⟨_,rfl,_,_,_,[],_,[],B3,trodAll_mk1 (shut_bool underlying4 _),(trodAll_cons_mk (Below.trod kZ (by kernel_rfl) (of_decide_eq_true (by kernel_rfl)) k0 A2 B1) (trodAll_cons_mk (shut_int underlying3 w1) (trodAll_cons_mk (Below.trod kZ (by kernel_rfl) (of_decide_eq_true (by kernel_rfl)) k2 A2 aEM) trodAll_mk0))),rfl,A2.frame _,fun h=>by cases h⟩
theorem lifted (os:Os)(started:os.Started)(H:Type)(enc:TypeId×Value->H)(F:Stop.Interp):
  ReturnsInHanded {} Tryz.checked os 4 .any ((Rows.OpenSpec.upto Rows.coverageTranslationSpec).pre6 enc prog Tryz.f4 Rows.coverageTranslationUptoRow.domain false) (((Rows.OpenSpec.upto Rows.coverageTranslationSpec).at F).post enc prog Tryz.f4 false true false false):=by
 refine returnsInHanded_of_cond (C:=Tryz.checked) (s:=Rows.OpenSpec.upto Rows.coverageTranslationSpec) (k:=Rows.uptoSmall) rfl own started kR func4
  (OpenSpec.witness (enc:=enc) (C:=Tryz.checked) (s:=Rows.OpenSpec.upto Rows.coverageTranslationSpec) (k:=Rows.uptoSmall) rfl false ⟨#[],#[.slice none 0 0,.int .i64 0,.agg #[.int .i64 0,.int .i64 0,.int .i64 0]],[]⟩ 8 (by kernel_rfl) (by kernel_rfl) (by kernel_rfl)
   (x:=([.nil,.lit (.int .i64 0),.agg [.lit (.int .i64 0),.lit (.int .i64 0),.lit (.int .i64 0)]],[],[])) (by kernel_rfl) rfl (by kernel_rfl)) ?_
 intro W base args ds gs A0 A1 hW _ hk _;exact contract H enc W base args ds gs A0 A1 hW hk
theorem proved:Rows.CoverageTranslationUptoSaid:=
  OpenClaim.holds_of_cond 4 Tryz.f4 rfl rfl rfl rfl rfl rfl rfl ⟨rfl,rfl,rfl,rfl,rfl⟩ rfl rfl rfl rfl rfl (by kernel_rfl) func4 (by kernel_rfl)
    (of_decide_eq_true (by kernel_rfl)) (by unfold Func.isWrapper;first|(rw[if_pos (by decide+kernel)];kernel_rfl)|(rw[if_neg (by decide+kernel)];exact⟨rfl,rfl⟩))
    (fun os started H enc _ F=>lifted os started H enc F)
#print axioms proved
end trllaw
end
end Go.Proofs.YtlipfipniibpoacGreat
