/- IntersectEdges, what it reads being of bulk at most 1048576. -/
import Derived.JoinedCond
import Derived.Test.YtiokhlgdelipdacGreatM7
set_option maxRecDepth 100000
set_option maxHeartbeats 4000000
namespace Go.Proofs.YtiokhlgdelipdacGreat
open Go.RowKit
attribute [local go_sem ↓] Go.wp_at_zero Go.wp_at_succ run_max_ii run_min_ii
namespace edgelaw
open Go.ChangeShapes Go.WideShapes Go.ChangeAt
theorem blk_one {H:Type}(d:DataW H):1<=Rows.uptoBulk d:=by
  cases d with
  |lit l=>cases l<;>simp[Rows.uptoBulk]
  |nil=>simp[Rows.uptoBulk]
  |ptr d=>simp[Rows.uptoBulk]
  |slice elems spare=>simp[Rows.uptoBulk]
  |agg parts=>simp[Rows.uptoBulk]
  |iface t d=>simp[Rows.uptoBulk]
  |map entries=>simp[Rows.uptoBulk]
  |held h=>simp[Rows.uptoBulk]
theorem blk_part {H:Type}{d:DataW H}{l:List (DataW H)}(h:d∈l):Rows.uptoBulk d<=Rows.uptoBulkAll l:=by
  induction l with
  |nil=>cases h
  | cons x r ih=>
    simp only[Rows.uptoBulkAll];cases List.mem_cons.1 h with
    |inl e=>subst e;omega
    |inr e=>have:=ih e;omega
theorem blk_len {H:Type}(l:List (DataW H)):l.length<=Rows.uptoBulkAll l:=by
  induction l with
  |nil=>simp[Rows.uptoBulkAll]
  |cons x r ih=>have:=blk_one x;simp only[Rows.uptoBulkAll,List.length_cons];omega
section
variable {H:Type} {enc:TypeId×Value->H} {P:Program} {w:World} {base:Nat} {spare:Nat->Bool} {held:Bool} {e:TypeId}
theorem slice_bulk {t:TypeId}{fuel:Nat}{cs:List Value}{x:DataW H×List MemPlace}(ht:P.underlying t=some (.slice e))(h:DataW.trod enc P w base spare held fuel t cs=some x){A:Option Addr}{n c:Nat}(hc:cs=[.slice A n c]):n<=Rows.uptoBulk x.1:=by
 rcases Deep.open_slice ht h with⟨rfl,_⟩|⟨a,len,cap,m,k,D,Pl,rfl,_,_,_,_,rfl,_⟩
 ·simp only[List.cons.injEq,Value.slice.injEq,and_true]at hc
  omega
 simp only[List.cons.injEq,Value.slice.injEq,and_true]at hc;have h1:=blk_len ((List.range len).map D);rw[List.length_map,List.length_range]at h1;show n<=Rows.uptoBulkAll _+Rows.uptoBulkAll _+1;omega
end
theorem rings_bulk {H:Type}{enc:TypeId×Value->H}{w:World}{base:Nat}{held:Bool}{fuel:Nat}{cs:List Value}{x:DataW H×List MemPlace}(h:DataW.trod enc Tryz.prog w base (fun _=>true) held fuel 22 cs=some x){A:Option Addr}{l:List Ring}{cap:Nat}(hc:cs=[.slice A l.length cap])(hv:RingsV w (.slice A l.length cap) l):
  l.length<=Rows.uptoBulk x.1/\∀r,r∈l->r.length<=Rows.uptoBulk x.1:=by
 refine⟨slice_bulk Tryz.underlying22 h hc,fun r hr=> ?_⟩;obtain⟨i,hi⟩:=List.mem_iff_getElem?.1 hr;have hil:=(List.getElem?_eq_some_iff.1 hi).1;rcases Deep.open_slice Tryz.underlying22 h with⟨rfl,_⟩|⟨a,len,cap',m,k,D,Pl,rfl,_,hl,_,hmm,rfl,hx⟩
 ·simp only[List.cons.injEq,Value.slice.injEq,and_true]at hc
  omega
 simp only[List.cons.injEq,Value.slice.injEq,and_true]at hc;obtain⟨rfl,rfl,rfl⟩:=hc;obtain⟨A2,cap2,he,hR⟩:=hv;injection he with he1 _ _
 subst he1;obtain⟨g,off,ha,hp⟩:=hR (by omega);injection ha with ha
 subst ha;obtain⟨B,cb,hcell,_⟩:=hp i r hi;have him:i<m:=by rw[hmm];split<;>omega
 obtain⟨cs',h1,h2⟩:=hx i him;obtain⟨_,hlen,hce⟩:=World.cells?_some h1;rw[cells_ringQ]at hlen hce;have g0:=hce 0 (by decide);have e1:((⟨g,off,none⟩:Addr).add (i*Tryz.prog.cellsOf 34)).add 0=⟨g,off+i,none⟩:=by
  rw[cells_ringQ,Nat.mul_one,add_c,add_c,Nat.add_zero]
 rw[cells_ringQ]at e1;rw[e1,hcell]at g0;match cs',hlen,g0 with
 | [v],_,g0=>
  have e2:v= .slice B r.length cb:=by simpa using g0.symm
  have h3:=slice_bulk Tryz.underlying34 h2 (A:=B) (n:=r.length) (c:=cb) (by rw[e2]);have h4:Rows.uptoBulk (D i)<=Rows.uptoBulkAll ((List.range l.length).map D):=blk_part (List.mem_map.2 ⟨i,List.mem_range.2 hil,rfl⟩);show r.length<=Rows.uptoBulkAll _+Rows.uptoBulkAll _+1;have h5:r.length<=Rows.uptoBulk (D i):=h3;omega
theorem contract (H:Type)(enc:TypeId×Value->H)(W:World)(base:Nat)(args:Array Value)(ds gs:List (DataW H))(before:List MemPlace)
  (hval0:∀(j:Nat) t v,Tryz.f3.params[j]?=some t->args[j]?=some v->Value.okWide Tryz.prog W .any base t v)
  (hW:DataW.Whole enc Tryz.prog Tryz.f3.params.toList Rows.intersectEdgesSpec.vars false W args.toList ds gs before)(hk:Rows.uptoSmall H (ds++gs)=true):
  Calls Tryz.prog 3 args W fun e W'=>∃v,e= .returned v/\Rows.intersectEdgesSpec.post enc Tryz.prog Tryz.f3 false true false false W args v W':=by
 have hval:∀(j:Nat) t v,Tryz.f3.params[j]?=some t->args[j]?=some v->Value.okWide Tryz.prog W .any base t v:=hval0;have hW':=hW;obtain⟨p,q,hA0,hV,rfl,hfz,hnd⟩:=hW;have hA:DataW.TrodAll enc Tryz.prog W 0 (fun _=>true) true Tryz.f3.params.toList args.toList ds p:=hA0;rw[Tryz.params3]at hA hval;obtain⟨v0,vs0,d0,ds0,p0,q0,hargs,rfl,rfl,h0,r0⟩:=trodAll_cons hA;obtain⟨v1,vs1,d1,ds1,p1,q1,rfl,rfl,rfl,h1,r1⟩:=trodAll_cons r0;obtain⟨rfl,rfl,rfl⟩:=trodAll_nil r1;obtain rfl:args=#[v0,v1]:=by cases args;simp_all
 obtain⟨rfl,rfl⟩:=trodVars_none hV;have k0:=h0;have lt0:∀x∈p0,x.block<W.heap.size:=by obtain⟨m,hm⟩:=k0;exact DataW.trod_lt m _ _ _ hm
 obtain⟨A,zl0,cap,rfl⟩:=okWide_slice Tryz.underlying22 (hval 0 22 v0 rfl rfl);obtain⟨zA0,rs,zc0,ze0,g0⟩:=(by obtain⟨m,hm⟩:=h0;exact rings_openQ hm:∃zB zl zc,[Value.slice A zl0 cap]=[.slice zB (List.length zl) zc]/\zl.length<=maxLen/\RingsV W (.slice zB zl.length zc) zl/\∀r,r∈zl->r.length<=maxLen);obtain⟨rfl,rfl,rfl⟩:A=zA0/\zl0=rs.length/\cap=zc0:=by simpa using ze0
 obtain⟨stop,rfl,rfl,rfl,w1⟩:=open_int Tryz.underlying3 (hval 1 3 v1 rfl rfl) h1;simp only[List.append_nil]at hk;unfold Rows.uptoSmall at hk;have hk2:=of_decide_eq_true hk;have hb0:Rows.uptoBulk d0<=1048576:=Nat.le_trans (blk_part (List.mem_cons_self ..)) hk2;have hbk:rs.length<=1048576/\∀r,r∈rs->r.length<=1048576:=by
  obtain⟨m,hm⟩:=k0;have h_:=rings_bulk hm rfl g0.2.1;exact⟨Nat.le_trans h_.1 hb0,fun r_ hr_=>Nat.le_trans (h_.2 r_ hr_) hb0⟩
 clear hA0 hval0;refine(walk A rs cap stop W g0.2.1 hbk.1 hbk.2 (bounds_i64 w1)).mono fun e W' ⟨he,hx⟩=> ?_
 subst he;have bel:=hx.below;exact⟨_,rfl,_,_,_,[],_,[],hW',trodAll_mk1 (shut_bool Tryz.underlying4 _),(trodAll_cons_mk (Below.trod laidOut (by kernel_rfl) (of_decide_eq_true (by kernel_rfl)) k0 bel lt0) (trodAll_cons_mk (shut_int Tryz.underlying3 w1) trodAll_mk0)),rfl,bel.frame _,fun h=>by cases h⟩
theorem lifted (os:Os)(started:os.Started)(H:Type)(enc:TypeId×Value->H)(F:Stop.Interp):
  ReturnsInHanded {} Tryz.checked os 3 .any ((Rows.OpenSpec.upto Rows.intersectEdgesSpec).pre6 enc Tryz.prog Tryz.f3 Rows.intersectEdgesUptoRow.domain false) (((Rows.OpenSpec.upto Rows.intersectEdgesSpec).at F).post enc Tryz.prog Tryz.f3 false true false false):=by
 refine returnsInHanded_of_cond (C:=Tryz.checked) (s:=Rows.OpenSpec.upto Rows.intersectEdgesSpec) (k:=Rows.uptoSmall) rfl own started kR Tryz.func3
  (OpenSpec.witness (enc:=enc) (C:=Tryz.checked) (s:=Rows.OpenSpec.upto Rows.intersectEdgesSpec) (k:=Rows.uptoSmall) rfl false ⟨#[],#[.slice none 0 0,.int .i64 0],[]⟩ 8 (by kernel_rfl) (by kernel_rfl) (by kernel_rfl)
   (x:=([.nil,.lit (.int .i64 0)],[],[])) (by kernel_rfl) rfl (by kernel_rfl)) ?_
 intro W base args ds gs before hval hW _ hk _;exact contract H enc W base args ds gs before hval hW hk
theorem proved:Rows.IntersectEdgesUptoSaid:=
  OpenClaim.holds_of_cond 3 Tryz.f3 rfl rfl rfl rfl rfl rfl rfl ⟨rfl,rfl,rfl,rfl,rfl⟩ rfl rfl rfl rfl rfl (by kernel_rfl) Tryz.func3 (by kernel_rfl)
    (of_decide_eq_true (by kernel_rfl)) (by unfold Func.isWrapper;first|(rw[if_pos (by decide+kernel)];kernel_rfl)|(rw[if_neg (by decide+kernel)];exact⟨rfl,rfl⟩))
    (fun os started H enc _ F=>lifted os started H enc F)
#print axioms proved
end edgelaw
end Go.Proofs.YtiokhlgdelipdacGreat
