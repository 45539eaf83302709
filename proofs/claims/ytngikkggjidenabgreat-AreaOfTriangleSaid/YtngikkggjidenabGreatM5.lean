/- Contracts that the claim stands on: XTrans to XOnP. -/
import Derived.Deep.DeepCutAuto
import Derived.RangeFuncNested
import Derived.RangeFuncBound
import Derived.RangeFuncCalls
import Derived.RangeFuncLeaves
import Derived.Shelf.Abstract
import Derived.Shelf.RegionOpen
import Derived.OwnWalkIn
import Derived.TacticsInMore
import Derived.LoopNIn
import Derived.LoopIn
import Derived.Maps.AppendAt
import Derived.OrdersIn
import Derived.Deep.LoopGhost
import Derived.Test.YtngikkggjidenabGreatM4
set_option maxRecDepth 100000
set_option maxHeartbeats 4000000
namespace Go.Proofs.YtngikkggjidenabGreat
open Go.RowKit
attribute [local go_sem ↓] Go.wp_at_zero Go.wp_at_succ run_eql_point run_neq_point run_max_ii run_min_ii
theorem translate0_tr (u:Value)(rs:List Ring)(w:World)(hu:RingsV w u rs)(hv:okR rs=true)(hn:rs.length<=1048576):
  Calls Tryz.prog 120 #[u,.agg #[.int .i64 0,.int .i64 0]] w fun e w'=>∃v,e= .returned v/\Tr w.heap.size w' v rs/\Ext w w':=by
 have HT:=zH (okR_tot hv);have hrl:∀r,r∈rs->r.length<=4096:=fun r hr=>by
  obtain⟨k,hk⟩:=List.mem_iff_getElem?.1 hr;have h1:=tot_succ hk;have h2:=tot_take rs (k+1);have h3:=HT.out;omega
 have HRL:=zH hrl;have HV:=zH hv;have HC:=zH (fun W (hW:Ext w W)=>polyValid_any u rs W (hu.ext hW) hn (fun r hr=>Nat.le_trans (hrl r hr) (by decide)));have HU:=zH hu;obtain⟨Au,cu,rfl,_⟩:=hu;obtain⟨i0,hi,hz0,hz1,hz2⟩:=info_parts infoPt;have HI:=zH (And.intro hi (And.intro hz0 (And.intro hz1 hz2)));clear hi hz0 hz1 hz2 hrl;obtain⟨i1,hi,hz0,hz1,hz2⟩:=info_parts infoSl;have HJ:=zH (And.intro hi (And.intro hz0 (And.intro hz1 hz2)));clear hi hz0 hz1 hz2 hv;go_enter Tryz.func120,Tryz.ntmps120
 have hB:=Blk.new w 28 #[.int .i64 0,.int .i64 0];have hE:Ext w (w.alloc (.cells #[.int .i64 0,.int .i64 0] 28)):=(Ext.refl _).alloc _;go_upto_if 13 with(go_at_call 60;refine(HC.out _ hE).mono ?_;rintro e w1 ⟨rfl,hx1⟩)
 have hb0:(!okR rs)=false:=by rw[HV.out];rfl
 rw[hb0];have HX1:=zH (hE.trans hx1);have HB1:=zH (hB.ext hx1);clear hB hE hx1;generalize hX3:w.heap.size=X3 at HB1⊢
 have HX3:=zH hX3;clear hX3;go_wp2_with fail
 go_loopg [5,16] rs.length (fun c v i wr=>∃(k:Nat) (v2:Value),k<=rs.length/\c=rs.length-k/\i= .int .i64 k/\v2=v/\Tr w.heap.size wr v2 (rs.take k)/\Ext w wr/\Blk wr X3 28 #[.int .i64 0,.int .i64 0]/\v2.ownBlock≠some X3)
 case atStart=>exact⟨0,_,Nat.zero_le _,rfl,rfl,rfl,⟨[],RowN.nil _ _ _ _,rfl,fun i r h=>by simp at h⟩,HX1.out,HB1.out,by simp[Value.ownBlock]⟩
 clear HX1 HB1;obtain⟨k,v,hk,rfl,rfl,rfl,htr,hx,hb3,hvx⟩:=hrel;have HTR:=zH htr;have HX:=zH hx;have HB:=zH hb3;have HVX:=zH hvx;clear htr hx hb3 hvx;by_cases hlt:k<rs.length
 ·have hlt2:(k:Int)<(rs.length:Int):=by omega
  obtain⟨r,hr⟩:∃r,rs[k]?=some r:=⟨_,List.getElem?_eq_getElem hlt⟩;have hru:∃g off,Au=some ⟨g,off,none⟩/\∃B cb,w.cell? ⟨g,off+k,none⟩=some (.slice B r.length cb)/\PtsV w (.slice B r.length cb) r:=by
   obtain⟨A2,c2,hv2,h2⟩:=HU.out;injection hv2 with e1 _ _
   obtain⟨g,off,h3,h4⟩:=h2 (by omega);obtain⟨B,cb,h5,h6⟩:=h4 k r hr;exact⟨g,off,e1.trans h3,B,cb,h5,h6⟩
  obtain⟨g,off,rfl,B,cb,hc1,hp1⟩:=hru;have c1:=HX.out.get hc1;have HP:=zH (hp1.ext HX.out);have HRK:=zH hr;have hr4:=HRL.out r (List.mem_of_getElem? hr);have HLT:=zH hlt;have HTK:=zH (show rs.take (k+1)=rs.take k++[r]by rw[List.take_succ_eq_append_getElem hlt];congr 1;obtain⟨_,h⟩:=List.getElem?_eq_some_iff.1 hr;rw[h]);have hkl:(rs.take k).length=k:=by rw[List.length_take];omega
  have HKL:=zH hkl;clear hc1 hp1 hr hlt hkl;generalize wr=W0 at*
  go_wp2_with fail
  go_loopg [8,22] r.length (fun c u i wx=>∃(j:Nat) (u2:Value),j<=r.length/\c=r.length-j/\i= .int .i64 j/\u2=u/\RowN wx W0.heap.size 28 2 u2 (r.take j).length (ptCells (r.take j))/\Ext W0 wx)
  case atStart=>exact⟨0,_,Nat.zero_le _,rfl,rfl,rfl,RowN.nil _ _ _ _,Ext.refl _⟩
  clear c1;obtain⟨j,v8,hj,rfl,rfl,rfl,hrow,hx2⟩:=hrel;have HROW:=zH hrow;have HX2:=zH hx2;clear hrow hx2;by_cases hjl:j<r.length
  ·have hjl2:(j:Int)<(r.length:Int):=by omega
   obtain⟨p,hp⟩:∃p,r[j]?=some p:=⟨_,List.getElem?_eq_getElem hjl⟩;have hgb:∃gb ob,B=some ⟨gb,ob,none⟩/\wr.cell? ⟨gb,ob+j*2,none⟩=some (.int .i64 p.1)/\wr.cell? ⟨gb,ob+j*2+1,none⟩=some (.int .i64 p.2):=by
    obtain⟨A2,c2,hv2,h2⟩:=HP.out;injection hv2 with e1 _ _
    obtain⟨gb,ob,h3,h4⟩:=h2 (by rintro rfl;simp at hjl);obtain⟨h5,h6⟩:=(h4.ext HX2.out) j hjl;have hgd:r.getD j (0,0)=p:=by obtain⟨_,h⟩:=List.getElem?_eq_some_iff.1 hp;simp[List.getD,hjl,h]
    rw[hgd]at h5 h6;exact⟨gb,ob,e1.trans h3,h5,h6⟩
   obtain⟨gb,ob,rfl,q1,q2⟩:=hgb;have HPK:=zH (okR_pt HV.out HRK.out hp);have HJL:=zH hjl;have HTJ:=zH (show r.take (j+1)=r.take j++[p]by rw[List.take_succ_eq_append_getElem hjl];congr 1;obtain⟨_,h⟩:=List.getElem?_eq_some_iff.1 hp;rw[h]);have hjk:(r.take j).length=j:=by rw[List.length_take];omega
   have HJK:=zH hjk;have HRG:=zH (show World.rangeAt wr gb (ob+j*2) [.int .i64 p.1,.int .i64 p.2]from fun i v hv=>by
    match i,hv with
    |0,hv=>simp at hv;rw[<-hv];exact q1
    |1,hv=>simp at hv;rw[<-hv];exact q2)
   rw[hjk]at HROW;clear hp hjl q1 q2 hjk;go_upto_region 10 with fail
   refine wp_region_lit ?_;refine zq (.pointer (some ⟨gb,ob+j*2,none⟩)) ?_;refine wpList_if (by rfl) (wp_load_mid _ _ (by rfl) gb (ob+j*2) (by rfl) [.int .i64 p.1,.int .i64 p.2] _ HRG.out Tryz.underlying28 (by rfl) (by kernel_rfl) ?_);try simp only[Act.put,zA,zB,zC]
   refine zp (w':=wr.alloc (.cells #[.int .i64 0,.int .i64 0] 28)) (.pointer (some ⟨wr.heap.size,0,none⟩)) (by go_simp) ?_;refine pO #[.int .i64 p.1,.int .i64 p.2] (Blk.new wr _ _) rfl (by kernel_rfl) (all_oneCell_toArray (one_pt p)) ?_
   (try simp only[Act.put])
   obtain⟨xq1,xq2⟩:=new_var wr 28 #[.int .i64 0,.int .i64 0] #[.int .i64 p.1,.int .i64 p.2] rfl;generalize (wr.alloc (.cells #[.int .i64 0,.int .i64 0] 28)).setCells wr.heap.size 0 (#[.int .i64 p.1,.int .i64 p.2]:Array Value).toList=w4 at*
   generalize wr.heap.size=X10 at*
   have HX4:=zH (HX2.out.trans xq1);have HB10:=zH xq2;have HROW4:=zH (HROW.out.ext xq1);clear xq1 xq2 HRG HROW;go_upto_region 11 with fail
   refine wp_region_lit ?_;refine zq (v8) ?_;refine pL HB10.out Tryz.underlying28 (by kernel_rfl) ?_;try simp only[Act.put,zA,zB,zC]
   refine pL (HB.out.ext HX4.out) Tryz.underlying28 (by kernel_rfl) ?_;try simp only[Act.put,zA,zB,zC]
   refine mv_call (by rfl) (by go_simp) (add0_any p.1 p.2 _ HPK.out) ?_;rintro e w5 ⟨rfl,hx⟩;have HEw5:=zH (show Ext w4 w5 from((Ext.refl w4)).trans hx);clear hx;refine⟨_,rfl,?_⟩;try simp only[Act.put,zA,zB,zC]
   have hAE:Ext w4 (w5.alloc (.cells #[.int .i64 p.1,.int .i64 p.2] 28)):=HEw5.out.alloc _;have hbz:=(HX4.out.trans hAE).size;have hj4:j<=4096:=by omega
   refine zp (w':=(w5.alloc (.cells #[.int .i64 p.1,.int .i64 p.2] 28))) (.slice (some ⟨w5.heap.size,0,none⟩) 1 1) (by go_simp) ?_;refine wpList_if (by rfl) (wp_append_rowF _ _ 44 (by rfl) W0.heap.size 28 i0 _ 2 16 Tryz.underlying44 HI.out.1 HI.out.2.1 HI.out.2.2.1 HI.out.2.2.2 rfl (by decide) noUL_zpt _ j (ptCells (r.take j)) (by rfl) (HROW4.out.ext hAE) ⟨w5.heap.size,0,none⟩ 1 1 [.int .i64 p.1,.int .i64 p.2] (by rfl) rfl (two_new _ _ _ _) (one_pt p) (noUL_pt p) (by decide) (by unfold maxLen;omega) (by omega) hbz ?_);intro gx cx w8 hf h2 h3 h4;try simp only[Act.put,zA,zB,zC]
   have HSN:=zH (show RowN w8 W0.heap.size 28 2 (.slice (some ⟨gx,0,none⟩) (j+1) cx) (r.take (j+1)).length (ptCells (r.take (j+1)))by rw[HTJ.out,ptCells_snoc,List.length_append,HJK.out];exact h2);have HXn:=zH (show Ext W0 w8 from(HX4.out.trans hAE).grown h3 (fun j hj=>(HROW4.out.ext hAE).block j hj));clear h2 h3 h4 hf hAE hbz;refine zp (w':=w8) (.slice (some ⟨gx,0,none⟩) (j+1) cx) (by go_simp) ?_;go_wp2_with fail
   go_roundg (r.length-(j+1))
   case measure=>have:=HJL.out;omega
   case rel=>exact⟨j+1,_,HJL.out,rfl,by go_num,rfl,HSN.out,HXn.out⟩
  obtain rfl:j=r.length:=by omega
  have hge:¬(r.length:Int)<(r.length:Int):=by omega
  obtain⟨Bn,cn,rfl,hpt,hbn⟩:=RowN.pts (ps:=r) (by have h:=HROW.out;rwa[List.take_of_length_le (Nat.le_refl _)]at h);have HPT:=zH hpt;have HBN:=zH hbn;have HTR2:=zH (HTR.out.ext HX2.out);have HX3':=zH (HX.out.trans HX2.out);have HB2:=zH (HB.out.ext HX2.out);have HLB:=zH (show∀A,Bn=some A->A.block<wr.heap.size from fun A hA=>by
   subst hA;obtain⟨_,⟨hv,_⟩|⟨g2,c2,r2,hv,_,hB2,_⟩⟩:=HROW.out
   ·cases hv
   injection hv with e1 _ _;injection e1 with e1;rw[e1];exact hB2.lt)
  have HVB:=zH (show∀j,v.ownBlock=some j->j<W0.heap.size from fun j hj=>by
   obtain⟨vs,h1,_⟩:=HTR.out;obtain⟨_,⟨rfl,_⟩|⟨g2,c2,r2,rfl,_,hB2,_⟩⟩:=h1
   ·simp[Value.ownBlock]at hj
   simp[Value.ownBlock]at hj;rw[<-hj];exact hB2.lt)
  clear hpt hbn HROW;go_upto_region 13 with fail
  refine wp_region_lit ?_;refine qV (v) ?_;refine zq (.slice Bn r.length cn) ?_;have hAE:Ext wr (wr.alloc (.cells #[.slice Bn r.length cn] 44)):=(Ext.refl _).alloc _;obtain⟨vs,hv1,hv2,hv3⟩:=HTR2.out.ext hAE;have hbz:=(HX3'.out.trans hAE).size;have hk4:k<=1048576:=by have:=HLT.out;omega
  refine zp (w':=(wr.alloc (.cells #[.slice Bn r.length cn] 44))) (.slice (some ⟨wr.heap.size,0,none⟩) 1 1) (by go_simp) ?_;refine wpList_if (by rfl) (wp_append_rowF _ _ 22 (by rfl) w.heap.size 44 i1 _ 1 24 Tryz.underlying22 HJ.out.1 HJ.out.2.1 HJ.out.2.2.1 HJ.out.2.2.2 rfl (by decide) noUL_zsl _ k vs (by rfl) (by have h:=hv1;rwa[HKL.out]at h) ⟨wr.heap.size,0,none⟩ 1 1 [.slice Bn r.length cn] (by rfl) rfl (one_new _ _ _) (by simp[Value.oneCell']) (by intro x hx q;simp at hx;rw[hx];simp) (by decide) (by unfold maxLen;omega) (by omega) hbz ?_);intro gx cx w8 hf h2 h3 h4;try simp only[Act.put,zA,zB,zC]
  skip
  have hsn:=Tr.snoc (HTR2.out.ext hAE) HKL.out (r:=r) (s:= .slice Bn r.length cn) rfl (HPT.out.ext hAE) (fun A hA=>⟨fun e=>by have q1:=HVB.out _ e;have q2:=HBN.out A hA;omega,Nat.lt_of_lt_of_le (HLB.out A hA) hAE.size⟩) (fun A hA=>by have q2:=HBN.out A hA;have q3:=HX.out.size;omega) vs ⟨vs,hv1,hv2,rfl,hv3⟩ h2 h3 hf;have HSN:=zH (show Tr w.heap.size w8 (.slice (some ⟨gx,0,none⟩) (k+1) cx) (rs.take (k+1))by rw[HTK.out];exact hsn);have HXn:=zH (show Ext w w8 from(HX3'.out.trans hAE).grown h3 (fun j hj=>hv1.block j hj));have HBn:=zH ((HB2.out.ext hAE).grown h3 HVX.out);have HVn:=zH (show(Value.slice (some ⟨gx,0,none⟩) (k+1) cx).ownBlock≠some X3 from fun e=>by simp[Value.ownBlock]at e;rcases hf with hf|hf;exact HVX.out (by rw[<-e];exact hf);have:=HB2.out.lt;have:=hAE.size;omega);clear h2 h3 h4 hf hAE hbz hsn hv1 hv2 hv3;refine zp (w':=w8) (.slice (some ⟨gx,0,none⟩) (k+1) cx) (by go_simp) ?_;go_wp2_with fail
  go_roundg (rs.length-(k+1))
  case measure=>have:=HLT.out;omega
  case rel=>exact⟨k+1,_,HLT.out,rfl,by go_num,rfl,HSN.out,HXn.out,HBn.out,HVn.out⟩
 obtain rfl:k=rs.length:=by omega
 have hge:¬(rs.length:Int)<(rs.length:Int):=by omega
 have HR:=zH (show Tr w.heap.size wr v rs from by have h:=HTR.out;rwa[List.take_of_length_le (Nat.le_refl _)]at h);go_wp2_with fail
 go_ret
 exact⟨_,rfl,HR.out,HX.out⟩
end Go.Proofs.YtngikkggjidenabGreat
namespace Go.Proofs.YtngikkggjidenabGreat
def edgeAt (r:Ring)(i:Nat):Option ((Int×Int)×(Int×Int)):=
  match r[i]?,r[(i+1)%r.length]?with
  |some a,some b=>if a=b then none else some (a,b)
  |_,_=>none
def ringEn (r:Ring)(n:Nat):List ((Int×Int)×(Int×Int)):=(List.range n).filterMap (edgeAt r)
def edgesV (rs:List Ring):List ((Int×Int)×(Int×Int)):=rs.flatMap fun r=>ringEn r r.length
theorem edgeAt_some {r:Ring}{i:Nat}{a b:Int×Int}(ha:r[i]?=some a)(hb:r[(i+1)%r.length]?=some b):edgeAt r i=if a=b then none else some (a,b):=by
  unfold edgeAt;rw[ha,hb]
theorem ringEn_succ_none {r:Ring}{n:Nat}(h:edgeAt r n=none):ringEn r (n+1)=ringEn r n:=by
  unfold ringEn;rw[List.range_succ,List.filterMap_append];simp[h]
theorem ringEn_succ_some {r:Ring}{n:Nat}{e:(Int×Int)×(Int×Int)}(h:edgeAt r n=some e):ringEn r (n+1)=ringEn r n++[e]:=by
  unfold ringEn;rw[List.range_succ,List.filterMap_append];simp[h]
theorem ringEn_le {r:Ring}{n m:Nat}(h:n<=m):ringEn r n<+:ringEn r m:=by
  unfold ringEn;obtain⟨d,rfl⟩:=Nat.exists_eq_add_of_le h;rw[List.range_add,List.filterMap_append];exact List.prefix_append _ _
theorem edgesV_take {rs:List Ring}{k:Nat}{r:Ring}(h:rs[k]?=some r):edgesV (rs.take (k+1))=edgesV (rs.take k)++ringEn r r.length:=by
  unfold edgesV;rw[List.take_add_one,h];simp
theorem edgesV_prefix (rs:List Ring)(k:Nat):edgesV (rs.take k)<+:edgesV rs:=by
  conv=>rhs;rw[<-List.take_append_drop k rs]
  unfold edgesV;rw[List.flatMap_append];exact List.prefix_append _ _
theorem edges_pre {rs:List Ring}{k n:Nat}{r:Ring}(h:rs[k]?=some r)(hn:n<=r.length):edgesV (rs.take k)++ringEn r n<+:edgesV rs:=by
  refine List.IsPrefix.trans ?_ (edgesV_prefix rs (k+1));rw[edgesV_take h];exact(List.prefix_append_right_inj _).2 (ringEn_le hn)
theorem ringEn_len (r:Ring)(n:Nat):(ringEn r n).length<=n:=by
  unfold ringEn;have:=List.length_filterMap_le (edgeAt r) (List.range n);simpa using this
theorem foldl_len (rs:List Ring):∀n:Nat,rs.foldl (fun n r=>n+r.length) n=n+rs.foldl (fun n r=>n+r.length) 0:=by
  induction rs with
  |nil=>intro n;simp
  |cons r rs ih=>intro n;rw[List.foldl_cons,List.foldl_cons,ih (n+r.length),ih (0+r.length)];omega
theorem edgesV_len (rs:List Ring):(edgesV rs).length<=tot rs:=by
  unfold tot;induction rs with
  |nil=>simp[edgesV]
  | cons r rs ih=>
    have h1:=ringEn_len r r.length;have h2:edgesV (r::rs)=ringEn r r.length++edgesV rs:=by simp[edgesV]
    rw[h2,List.length_append,List.foldl_cons,foldl_len];omega
end Go.Proofs.YtngikkggjidenabGreat
namespace Go.Proofs.YtngikkggjidenabGreat
open Go.RowKit
attribute [local go_sem ↓] Go.wp_at_zero Go.wp_at_succ run_eql_point run_neq_point
theorem r16Valid_any (u:Value)(rs:List Ring)(w:World)(hu:RingsV w u rs)(hn:rs.length<=1048576)(hr:∀r,r∈rs->r.length<=1048576):
    Calls Tryz.prog 7 #[u] w fun e w'=>e= .returned (.bool (okR rs))/\Ext w w':=by
  obtain⟨A,cu,rfl,hA⟩:=hu;have HA:=zH hA;have HR:=zH hr;clear hA hr;go_enter Tryz.func7,Tryz.ntmps7
  go_wp2_with fail
  go_loopg [3,4] rs.length (fun c n i wr=>∃k m:Nat,k<=rs.length/\c=rs.length-k/\i= .int .i64 k/\n= .int .i64 m/\m=tot (rs.take k)/\m<=4096/\(∀i r,i<k->rs[i]?=some r->okAll r=true)/\Ext w wr)
  case atStart=>exact⟨0,0,Nat.zero_le _,rfl,rfl,rfl,rfl,Nat.zero_le _,fun i r h=>absurd h (Nat.not_lt_zero _),Ext.refl _⟩
  obtain⟨k,m,hk,rfl,rfl,rfl,hm,hm2,ho,hx⟩:=hrel;have HO:=zH ho;have HX:=zH hx;have HM:=zH hm;clear ho hx hm;by_cases hlt:k<rs.length
  · obtain⟨r,hr⟩:∃r,rs[k]?=some r:=⟨_,List.getElem?_eq_getElem hlt⟩
    obtain⟨g,off,rfl,hp⟩:=HA.out (by omega);obtain⟨B,cb,h1,h2⟩:=hp k r hr;have c1:=HX.out.get h1;have HC1:=zH c1;have HP:=zH (h2.ext HX.out);have HRL:=zH (HR.out r (List.mem_of_getElem? hr));have HRK:=zH hr;have HTS:=zH (tot_succ hr);have hlt2:(k:Int)<(rs.length:Int):=by omega
    have HLT:=zH hlt;have hrl:=HRL.out;obtain⟨m2,hm3⟩:∃m2,m2=m+r.length:=⟨_,rfl⟩;have e1:(m:Int)+(r.length:Int)=(m2:Int):=by omega
    have wm:IntKind.i64.wrap (m2:Int)=(m2:Int):=by rw[IntKind.wrap_i64];omega
    have ws:IntKind.i64.wrap (4096-(m:Int))=4096-(m:Int):=by rw[IntKind.wrap_i64];omega
    have HM2:=zH (show m2=tot (rs.take (k+1))by rw[HTS.out,<-HM.out];exact hm3);have HM3:=zH hm3;clear hp h1 h2 hr hlt;by_cases hbig:4096<m2
    · have hbz:4096-(m:Int)<(r.length:Int):=by omega
      have HF:=zH (okR_stop HRK.out (Or.inl (by rw[<-HM2.out];exact hbig)));clear hm3;go_wp2_with fail
      go_ret
      exact⟨by rw[HF.out];rfl,HX.out⟩
    have hbz:¬4096-(m:Int)<(r.length:Int):=by omega
    clear hm3;go_wp2_with fail
    generalize wr=W0 at*
    go_loopg [5] r.length (fun c j wi=>∃t:Nat,t<=r.length/\c=r.length-t/\j= .int .i64 t/\okAll (r.take t)=true/\Ext W0 wi)
    case atStart=>exact⟨0,Nat.zero_le _,rfl,rfl,rfl,Ext.refl _⟩
    obtain⟨t,ht,rfl,rfl,hot,hxt⟩:=hrel;have HOT:=zH hot;have HXT:=zH hxt;have c2:=HXT.out.get HC1.out;clear hot hxt c1;by_cases hlt3:t<r.length
    · obtain⟨A2,cap2,ev,hv⟩:=HP.out
      injection ev with ev1 ev2 ev3
      subst ev1 ev3;clear ev2;obtain⟨g2,off2,rfl,hp2⟩:=hv (by rintro rfl;simp at hlt3);obtain⟨d0,d1⟩:=(hp2.ext HXT.out) t hlt3;have hgd:r.getD t (0,0)=r[t]:=by simp[List.getD,hlt3]
      rw[hgd]at d0 d1;have HSU:=zH (okAll_step r t hlt3 HOT.out);have HST:=zH (okAll_stop r t hlt3);have hlt4:(t:Int)<(r.length:Int):=by omega
      have HL3:=zH hlt3;generalize r[t]=x at*
      clear hp2 hv hgd hlt3;by_cases hok:okPt x.1 x.2=true
      · have hb:(!okPt x.1 x.2)=false:=by rw[hok];rfl
        go_wp2_with (go_at_call 21;refine(rvalid_any _ _ _).mono ?_;rintro e w2 ⟨rfl,hx2⟩)
        go_roundg (r.length-(t+1))
        case measure=>have:=HL3.out;omega
        case rel=>exact⟨t+1,HL3.out,rfl,by go_num,HSU.out hok,HXT.out.trans hx2⟩
      replace hok:=eq_false_of_ne_true hok;have hb:(!okPt x.1 x.2)=true:=by rw[hok];rfl
      have HF:=zH (okR_stop HRK.out (Or.inr (HST.out hok)));go_wp2_with (go_at_call 21;refine(rvalid_any _ _ _).mono ?_;rintro e w2 ⟨rfl,hx2⟩)
      go_ret
      exact⟨by rw[HF.out];rfl,(HX.out.trans HXT.out).trans hx2⟩
    have hge3:¬(t:Int)<(r.length:Int):=by omega
    have HE:=zH (okAll_end r t ht hlt3 HOT.out);go_wp2_with fail
    go_roundg (rs.length-(k+1))
    case measure=>have:=HLT.out;omega
    case rel=>exact⟨k+1,m2,HLT.out,rfl,by go_num,rfl,HM2.out,by omega,fun i r2 hi hr2=>by
      rcases Nat.lt_or_ge i k with h|h
      · exact HO.out i r2 h hr2
      obtain rfl:i=k:=by omega
      rw[HRK.out]at hr2;injection hr2 with hr2
      rw[<-hr2];exact HE.out,HX.out.trans HXT.out⟩
  obtain rfl:k=rs.length:=by omega
  have HF:=zH (okR_end (rs:=rs) (by have h:=HM.out;rw[List.take_of_length_le (Nat.le_refl _)]at h;omega) HO.out);have hge:¬(rs.length:Int)<(rs.length:Int):=by omega
  go_wp2_with fail
  go_ret
  exact⟨by rw[HF.out];rfl,HX.out⟩
end Go.Proofs.YtngikkggjidenabGreat
namespace Go.Proofs.YtngikkggjidenabGreat
open Go.RowKit
attribute [local go_sem ↓] Go.wp_at_zero Go.wp_at_succ run_max_ii run_min_ii
end Go.Proofs.YtngikkggjidenabGreat
namespace Go.Proofs.YtngikkggjidenabGreat
open Go.RowKit
attribute [local go_sem ↓] Go.wp_at_zero Go.wp_at_succ
theorem isNaN_any (n:Int)(w:World):Calls Tryz.prog 151 #[.int .i64 n] w fun e w'=>e= .returned (.bool false)/\Ext w w':=by
  have hne:(n != n)=false:=by simp
  go_enter Tryz.func151,Tryz.ntmps151
  go_wp2_with fail
  go_ret
  exact⟨by first|rfl|simp,Ext.refl _⟩
def cmpI (a b:Int):Int:=if a<b then-1 else if b<a then 1 else 0
theorem compare_any (a b:Int)(w:World):Calls Tryz.prog 113 #[.int .i64 a,.int .i64 b] w fun e w'=>e= .returned (.int .i64 (cmpI a b))/\Ext w w':=by
 by_cases h1:a<b
 ·have e:cmpI a b= -1:=by unfold cmpI;rw[if_pos h1]
  rw[e];go_enter Tryz.func113,Tryz.ntmps113
  go_wp2_with (go_at_call 151;refine(isNaN_any _ _).mono ?_;rintro e w2 ⟨rfl,hx2⟩)
  go_ret
  exact⟨rfl,(Ext.refl _).trans (by first|assumption|(apply Ext.trans<;>assumption))⟩
 by_cases h2:b<a
 ·have e:cmpI a b=1:=by unfold cmpI;rw[if_neg h1,if_pos h2]
  rw[e];go_enter Tryz.func113,Tryz.ntmps113
  go_wp2_with (go_at_call 151;refine(isNaN_any _ _).mono ?_;rintro e w2 ⟨rfl,hx2⟩)
  go_ret
  exact⟨rfl,(Ext.refl _).trans (by first|assumption|(apply Ext.trans<;>assumption))⟩
 have e:cmpI a b=0:=by unfold cmpI;rw[if_neg h1,if_neg h2]
 rw[e];go_enter Tryz.func113,Tryz.ntmps113
 go_wp2_with (go_at_call 151;refine(isNaN_any _ _).mono ?_;rintro e w2 ⟨rfl,hx2⟩)
 go_ret
 exact⟨rfl,(Ext.refl _).trans (by first|assumption|(apply Ext.trans<;>assumption))⟩
def orI (a b:Int):Int:=if a=0 then b else a
theorem or_any (g off c:Nat)(a b:Int)(w:World)(h0:w.cell? ⟨g,off,none⟩=some (.int .i64 a))(h1:w.cell? ⟨g,off+1,none⟩=some (.int .i64 b)):
  Calls Tryz.prog 112 #[.slice (some ⟨g,off,none⟩) 2 c] w fun e w'=>e= .returned (.int .i64 (orI a b))/\Ext w w':=by
 go_enter Tryz.func112,Tryz.ntmps112
 go_wp2_with fail
 go_loopg [8] 2 (fun d i wr=>∃k:Nat,k<=2/\d=2-k/\i= .int .i64 k/\(0<k->a=0)/\(1<k->b=0)/\Ext w wr)
 case atStart=>exact⟨0,by omega,rfl,rfl,by omega,by omega,Ext.refl _⟩
 obtain⟨k,hk,rfl,rfl,ha,hb,hx⟩:=hrel;have HX:=zH hx;have k0:=hx.get h0;have k1:=hx.get h1;clear hx;rcases(show k=0\/k=1\/k=2 by omega)with rfl|rfl|rfl
 ·by_cases hz:a=0
  ·subst hz
   go_wp2_with fail
   go_roundg 1
   case measure=>omega
   case rel=>exact⟨1,by omega,rfl,by first|rfl|go_num,by simp,by omega,HX.out⟩
  clear ha hb;go_wp2_with fail
  go_ret
  exact⟨by simp[orI,hz],HX.out⟩
 ·have hz:=ha (by omega)
  subst hz;by_cases hz:b=0
  ·subst hz
   clear ha hb;go_wp2_with fail
   go_roundg 0
   case measure=>omega
   case rel=>exact⟨2,by omega,rfl,by first|rfl|go_num,by simp,by simp,HX.out⟩
  clear ha hb;go_wp2_with fail
  go_ret
  exact⟨by simp[orI],HX.out⟩
 have hz:=ha (by omega);have hz2:=hb (by omega);subst hz;subst hz2;clear ha hb;go_wp2_with fail
 go_ret
 exact⟨by simp[orI],HX.out⟩
end Go.Proofs.YtngikkggjidenabGreat
namespace Go.Proofs.YtngikkggjidenabGreat
open Go.RowKit
attribute [local go_sem ↓] Go.wp_at_zero Go.wp_at_succ run_max_ii run_min_ii
def beforeV (p:Rat)(i:Int)(q:Rat)(j:Int):Bool:=decide (p<q)||(decide (p=q)&&decide (j<i))
end Go.Proofs.YtngikkggjidenabGreat
namespace Go.Proofs.YtngikkggjidenabGreat
theorem cmpI_neg {a b:Int}:cmpI a b<0↔a<b:=by
  unfold cmpI;split
  · omega
  split<;>omega
theorem ord_lt (p q:Rat)(i j:Int):decide (orI (rcmp p q) (cmpI j i)<0)=beforeV p i q j:=by
 unfold orI beforeV;by_cases h1:rcmp p q=0
 ·have h2:=rcmp_eq.1 h1
  subst h2;rw[if_pos h1];have h3:¬p<p:=by grind
  by_cases h4:j<i
  ·have h5:cmpI j i<0:=cmpI_neg.2 h4
   simp[h4,h5]
  have h5:¬cmpI j i<0:=fun k=>h4 (cmpI_neg.1 k)
  simp[h3,h4,h5]
 have h2:¬p=q:=fun k=>h1 (rcmp_eq.2 k)
 rw[if_neg h1];by_cases h3:p<q
 ·have h4:=rcmp_lt.2 h3
  simp[h3,h4]
 have h4:¬rcmp p q<0:=fun k=>h3 (rcmp_lt.1 k)
 simp[h2,h3,h4]
abbrev QI:=Rat×Int
def ltM (a b:QI):Bool:=beforeV a.1 a.2 b.1 b.2
theorem ltM_iff {a b:QI}:ltM a b=true↔a.1<b.1\/(a.1=b.1/\b.2<a.2):=by
  unfold ltM beforeV;simp
theorem wkM:Stb.Wk ltM:=by
  refine⟨fun x y h=> ?_,fun x y z h1 h2=> ?_⟩
  · rw[Bool.eq_false_iff]
    intro k;have h:=ltM_iff.1 h;have k:=ltM_iff.1 k;grind
  rw[Bool.eq_false_iff]at h1 h2⊢;intro k;have k:=ltM_iff.1 k;have h1:¬_:=fun q=>h1 (ltM_iff.2 q)
  have h2:¬_:=fun q=>h2 (ltM_iff.2 q)
  grind
end Go.Proofs.YtngikkggjidenabGreat
namespace Go.Proofs.YtngikkggjidenabGreat.mrk
open Go.RowKit
attribute [local go_sem ↓] Go.wp_at_zero Go.wp_at_succ run_max_ii run_min_ii
theorem swapRange_any {α:Type}(enc:α->List Value)(hk:∀x,(enc x).length=5)(h1:∀x,∀v,v∈enc x->v.oneCell'=true)(w0 w:World)(g cap a b n:Nat)(T:TypeId)(rest:List Value)(xs:List α)(cb:Value)(hst:Sw w0 w g T enc rest xs)(ha:a+n<=xs.length)(hb:b+n<=xs.length)(hsz:xs.length<=100000):
  Calls Tryz.prog 203 #[.slice (some ⟨g,0,none⟩) xs.length cap,.int .i64 a,.int .i64 b,.int .i64 n,cb] w fun e w'=>e= .returned (.tuple #[])/\Sw w0 w' g T enc rest (swpN xs a b n):=by
 have HST0:=zH hst;clear hst;go_enter Tryz.func203,Tryz.ntmps203
 go_wp2_with fail
 go_loopg [10] n (fun c i wr=>∃t:Nat,t<=n/\c=n-t/\i= .int .i64 t/\Sw w0 wr g T enc rest (swpN xs a b t))
 case atStart=>exact⟨0,Nat.zero_le _,rfl,rfl,HST0.out⟩
 clear HST0;obtain⟨t,ht,rfl,rfl,hst⟩:=hrel;by_cases hlt:t<n
 ·have hlt2:(t:Int)<(n:Int):=by omega
  obtain⟨i,hi⟩:∃i,i=a+t:=⟨_,rfl⟩;obtain⟨j,hj⟩:∃j,j=b+t:=⟨_,rfl⟩;have e1:(a:Int)+(t:Int)=(i:Int):=by omega
  have e2:(b:Int)+(t:Int)=(j:Int):=by omega
  have HI:=zH hi;have HJ:=zH hj;have hnl:(swpN xs a b t).length=xs.length:=swpN_len _ _ _ _;have HSW:=zH (swpN_succ xs a b t);rw[<-hi,<-hj]at HSW;have k1_:i<xs.length:=by omega
  have k2_:j<xs.length:=by omega
  clear hi hj;generalize swpN xs a b t=ys at*
  have wi:IntKind.i64.wrap (i:Int)=(i:Int):=by rw[IntKind.wrap_i64];omega
  have wj:IntKind.i64.wrap (j:Int)=(j:Int):=by rw[IntKind.wrap_i64];omega
  have bi:(i:Int)<(xs.length:Int):=by omega
  have bj:(j:Int)<(xs.length:Int):=by omega
  have bi2:i<xs.length:=by omega
  have bj2:j<xs.length:=by omega
  have hN:(xs.length:Int)<=100000:=by omega
  obtain⟨x,hx⟩:∃x,ys[i]?=some x:=⟨_,List.getElem?_eq_getElem (by omega)⟩;obtain⟨y,hy⟩:∃y,ys[j]?=some y:=⟨_,List.getElem?_eq_getElem (by omega)⟩;have Hx:=zH hx;have Hy:=zH hy;have HLi:=zH (show i<ys.length by omega);have HLj:=zH (show j<ys.length by omega);have HE:=zH (swp_eq hx hy);have HST:=zH hst;clear hx hy hst;go_upto_region 3 with fail
  refine wp_region_held_drew (S:=fun x=>Own g wr x) (by kernel_rfl) (Own.refl _ _).drew (fun _=> ?_);refine zv 0 (bs 24 1) (Own.refl _ _).drew ?_;refine zv 1 (bs 24 3) (Own.refl _ _).drew ?_;refine zv 2 (bs 24 7) (Own.refl _ _).drew ?_;refine zv 3 (bs 24 15) (Own.refl _ _).drew ?_;refine zv 4 (bs 24 31) (Own.refl _ _).drew ?_;refine zv 5 (bs 24 63) (Own.refl _ _).drew ?_;refine zv 6 (bs 24 127) (Own.refl _ _).drew ?_;refine zv 7 (bs 24 255) (Own.refl _ _).drew ?_;refine zv 8 (bs 24 511) (Own.refl _ _).drew ?_;refine zv 9 (bs 24 1023) (Own.refl _ _).drew ?_;refine zv 10 (bs 24 2047) (Own.refl _ _).drew ?_;refine zv 11 (bs 24 4095) (Own.refl _ _).drew ?_;refine zv 12 (bs 24 8191) (Own.refl _ _).drew ?_;refine zv 14 (bs 24 24575) (Own.refl _ _).drew ?_;refine zv 15 (bs 24 57343) (Own.refl _ _).drew ?_;refine zv 16 (bs 24 122879) (Own.refl _ _).drew ?_;refine zv 17 (bs 24 253951) (Own.refl _ _).drew ?_;refine zv 18 (bs 24 516095) (Own.refl _ _).drew ?_;refine md_loads2 (i:=13) (j:=19) (li:=(bs 24 524287)) (lj:=(bs 24 1040383)) (listed':=(bs 24 1048575)) (by rfl) (by rfl) (by kernel_rfl) (by kernel_rfl) (by kernel_rfl) (by kernel_rfl) (by kernel_rfl) (by kernel_rfl) (by kernel_rfl) 98 _ _ (by rfl) (by rfl) (by rfl) (by rfl) g (j*5) (i*5) (enc y) (enc x) _ Tryz.underlying98 (by rfl) (by rfl) (by rfl) (by rfl) (by rfl) (HST.out.ext (Ext.refl _).drew |>.read Hy.out hk) (HST.out.ext (Ext.refl _).drew |>.read Hx.out hk) (by rw[hk];kernel_rfl) (by rw[hk];kernel_rfl) (Own.refl _ _).drew (by rfl) ?_;try simp only[Act.put,zA,zB,zC]
  refine zv 20 (bs 24 2097151) (Own.refl _ _).drew ?_;have s1_:=(HST.out.ext (Ext.refl _).drew).put (i:=i) HLi.out hk y;have s2_:=s1_.put (i:=j) (by rw[List.length_set];exact HLj.out) hk x;refine md_rstore (i:=21) (listed':=(bs 24 4194303)) (by rfl) (by kernel_rfl) (by rfl) 98 _ _ (by rfl) g (i*5) (enc y) (by rfl) (by rfl) (by rw[hk];exact(HST.out.ext (Ext.refl _).drew).there HLi.out hk) (by rw[hk];kernel_rfl) (h1 y) (Own.setCells_l _ _ (Own.refl _ _).drew) (by kernel_rfl) ?_
  (try simp only[Act.put])
  refine zv 22 (bs 24 8388607) (Own.setCells_l _ _ (Own.refl _ _).drew) ?_;refine md_rstore (i:=23) (listed':=(bs 24 16777215)) (by rfl) (by kernel_rfl) (by rfl) 98 _ _ (by rfl) g (j*5) (enc x) (by rfl) (by rfl) (by rw[hk];exact s1_.there (by rw[List.length_set];exact HLj.out) hk) (by rw[hk];kernel_rfl) (h1 x) (Own.setCells_l _ _ (Own.setCells_l _ _ (Own.refl _ _).drew)) (by kernel_rfl) ?_
  (try simp only[Act.put])
  refine wpAnyH_done (by kernel_rfl) ?_ _;have HS2:=zH s2_;clear s1_ s2_;generalize (World.setCells _ g (j*5) (enc x))=w2 at*
  go_wp2_with fail
  go_roundg (n-(t+1))
  case measure=>omega
  case rel=>exact⟨t+1,hlt,rfl,by go_num,by rw[HSW.out,HE.out];exact HS2.out⟩
 obtain rfl:t=n:=by omega
 have HST:=zH hst;have hge:¬(t:Int)<(t:Int):=by omega
 clear hst;go_wp2_with fail
 go_end0
 exact⟨rfl,HST.out⟩
theorem rotate_any {α:Type}(enc:α->List Value)(hk:∀x,(enc x).length=5)(h1:∀x,∀v,v∈enc x->v.oneCell'=true)(w0 w:World)(g cap a m b N:Nat)(T:TypeId)(rest:List Value)(P A B S:List α)(cb:Value)(hst:Sw w0 w g T enc rest (P++(A++(B++S))))(ha:P.length=a)(hm:a+A.length=m)(hb:m+B.length=b)(hA:A≠ [])(hB:B≠ [])(hN:(P++(A++(B++S))).length=N)(hsz:N<=100000):
  Calls Tryz.prog 196 #[.slice (some ⟨g,0,none⟩) N cap,.int .i64 a,.int .i64 m,.int .i64 b,cb] w fun e w'=>e= .returned (.tuple #[])/\Sw w0 w' g T enc rest (P++(B++(A++S))):=by
 have hlen:P.length+(A.length+(B.length+S.length))=N:=by rw[<-hN];simp
 have HST:=zH hst;have HAB:=zH (And.intro hA hB);have HN:=zH hN;have HLN:=zH hlen;have HPA:=zH (show P.length+A.length=m by omega);have e1:(m:Int)-(a:Int)=(A.length:Int):=by omega
 have e2:(b:Int)-(m:Int)=(B.length:Int):=by omega
 have b1:m<=100000:=by omega
 have b2:b<=100000:=by omega
 have b3:A.length<=100000:=by omega
 have b4:B.length<=100000:=by omega
 have w1_:IntKind.i64.wrap (A.length:Int)=(A.length:Int):=by rw[IntKind.wrap_i64];omega
 have w2_:IntKind.i64.wrap (B.length:Int)=(B.length:Int):=by rw[IntKind.wrap_i64];omega
 clear hst ha hm hb hA hB hN hlen;go_enter Tryz.func196,Tryz.ntmps196
 go_wp2_with fail
 go_loopg [10,11] (A.length+B.length) (fun c u v wr=>∃(P' A' B' S':List α),c=A'.length+B'.length/\u= .int .i64 A'.length/\v= .int .i64 B'.length/\A'≠ []/\B'≠ []/\P'.length+A'.length=m/\(P'++(A'++(B'++S'))).length=N/\P'++(B'++(A'++S'))=P++(B++(A++S))/\Sw w0 wr g T enc rest (P'++(A'++(B'++S'))))
 case atStart=>exact⟨P,A,B,S,rfl,rfl,rfl,HAB.out.1,HAB.out.2,HPA.out,HN.out,rfl,HST.out⟩
 clear HST HAB HN HLN HPA e1 e2 b3 b4 w1_ w2_;obtain⟨P',A',B',S',rfl,rfl,rfl,hA,hB,hPm,hN,hT,hst⟩:=hrel;have hlen:P'.length+(A'.length+(B'.length+S'.length))=N:=by rw[<-hN];simp
 have hA0:0<A'.length:=by cases A' with|nil=>exact absurd rfl hA|cons _ _=>simp
 have hB0:0<B'.length:=by cases B' with|nil=>exact absurd rfl hB|cons _ _=>simp
 have HT:=zH hT;have HST:=zH hst;have HN:=zH hN;clear hT hst hA hB hN;obtain⟨i,hi⟩:∃i,A'.length=i:=⟨_,rfl⟩;obtain⟨j,hj⟩:∃j,B'.length=j:=⟨_,rfl⟩;rw[hi]at hPm hlen hA0⊢;rw[hj]at hlen hB0⊢;have HI:=zH hi;have HJ:=zH hj;clear hi hj;obtain⟨p,hp⟩:∃p,P'.length=p:=⟨_,rfl⟩;rw[hp]at hPm hlen;have HP:=zH hp;clear hp;have e1:(m:Int)-(i:Int)=(p:Int):=by omega
 have b3:i<=100000:=by omega
 have b4:j<=100000:=by omega
 have b5:p<=100000:=by omega
 have w1_:IntKind.i64.wrap (i:Int)=(i:Int):=by rw[IntKind.wrap_i64];omega
 have w2_:IntKind.i64.wrap (j:Int)=(j:Int):=by rw[IntKind.wrap_i64];omega
 have w3_:IntKind.i64.wrap (p:Int)=(p:Int):=by rw[IntKind.wrap_i64];omega
 have HLN:=zH hlen;have HPM:=zH hPm;clear hlen hPm;rcases Nat.lt_trichotomy i j with hij|hij|hij
 ·-- i < j
  obtain⟨d,hd⟩:∃d,d+i=j:=⟨j-i,by omega⟩;have e2:(j:Int)-(i:Int)=(d:Int):=by omega
  obtain⟨q,hq⟩:∃q,q=m+d:=⟨_,rfl⟩;have e3:(m:Int)+(j:Int)-(i:Int)=(q:Int):=by omega
  have n1:¬(i:Int)=(j:Int):=by omega
  have n2:((i:Int) != (j:Int))=true:=by simp;omega
  have n3:¬(j:Int)<(i:Int):=by omega
  have w4_:IntKind.i64.wrap (d:Int)=(d:Int):=by rw[IntKind.wrap_i64];omega
  have w5_:IntKind.i64.wrap (q:Int)=(q:Int):=by rw[IntKind.wrap_i64];have:=HLN.out;have:=HPM.out;omega
  have w6_:IntKind.i64.wrap ((m:Int)+(j:Int))=(m:Int)+(j:Int):=by rw[IntKind.wrap_i64];omega
  have hBs:B'=B'.take d++B'.drop d:=(List.take_append_drop d B').symm;have l1:(B'.take d).length=d:=by rw[List.length_take];have:=HJ.out;omega
  have l2:(B'.drop d).length=i:=by rw[List.length_drop];have:=HJ.out;omega
  have HC:=zH (swapRange_any enc hk h1 w0 wr g cap p q i T rest (P'++(A'++(B'++S'))) cb HST.out (by rw[HN.out];have:=HLN.out;omega) (by rw[HN.out];have:=HLN.out;have:=HPM.out;omega) (by rw[HN.out];exact hsz));rw[HN.out]at HC;have hcut:swpN (P'++(A'++(B'++S'))) p q i=P'++(B'.drop d++(B'.take d++(A'++S'))):=by
   have h:=swpN_cut P' A' (B'.take d) (B'.drop d) S' i HI.out l2;rw[l1,HP.out,show p+i+d=q by have:=HPM.out;omega,<-List.append_assoc (B'.take d) (B'.drop d) S',<-hBs]at h;exact h
  rw[hcut]at HC;have hTT:P'++(B'.take d++(B'.drop d++(A'++S')))=P++(B++(A++S)):=by rw[<-List.append_assoc (B'.take d),<-hBs];exact HT.out
  have HTT:=zH hTT;have HD:=zH (And.intro hd (And.intro l1 l2));clear hcut hTT hBs l1 l2 hd hq hij;go_wp2_with (go_at_call 203;refine HC.out.mono ?_;rintro e w2 ⟨rfl,hs2⟩)
  go_roundg (i+d)
  case measure=>have:=HD.out.1;have:=HI.out;have:=HJ.out;omega
  case rel=>exact⟨P',B'.drop d,B'.take d,A'++S',by rw[HD.out.2.1,HD.out.2.2],by rw[HD.out.2.2],by rw[HD.out.2.1],by intro h;have:=HD.out.2.2;rw[h]at this;simp at this;omega,by intro h;have h2:=HD.out.2.1;rw[h]at h2;simp at h2;omega,by rw[HP.out,HD.out.2.2];exact HPM.out,by have:=HLN.out;have:=HD.out;simp[HP.out,HI.out,HD.out.2.1,HD.out.2.2]at*;omega,HTT.out,hs2⟩
 ·-- i = j
  subst hij;have n2:((i:Int) != (i:Int))=false:=by simp
  have HC:=zH (swapRange_any enc hk h1 w0 wr g cap p m i T rest (P'++(A'++(B'++S'))) cb HST.out (by rw[HN.out];have:=HLN.out;omega) (by rw[HN.out];have:=HLN.out;have:=HPM.out;omega) (by rw[HN.out];exact hsz));rw[HN.out]at HC;have hcut:swpN (P'++(A'++(B'++S'))) p m i=P++(B++(A++S)):=by
   have h:=swpN_cut P' A' [] B' S' i HI.out HJ.out;rw[HP.out,List.length_nil,Nat.add_zero,HPM.out]at h;exact h.trans HT.out
  rw[hcut]at HC;clear hcut;go_wp2_with (go_at_call 203;refine HC.out.mono ?_;rintro e w2 ⟨rfl,hs2⟩)
  go_end0
  exact⟨rfl,hs2⟩
 -- i > j
 obtain⟨d,hd⟩:∃d,d+j=i:=⟨i-j,by omega⟩;have e2:(i:Int)-(j:Int)=(d:Int):=by omega
 have n2:((i:Int) != (j:Int))=true:=by simp;omega
 have n3:(j:Int)<(i:Int):=by omega
 have w4_:IntKind.i64.wrap (d:Int)=(d:Int):=by rw[IntKind.wrap_i64];omega
 have hAs:A'=A'.take j++A'.drop j:=(List.take_append_drop j A').symm;have l1:(A'.take j).length=j:=by rw[List.length_take];have:=HI.out;omega
 have l2:(A'.drop j).length=d:=by rw[List.length_drop];have:=HI.out;omega
 have HC:=zH (swapRange_any enc hk h1 w0 wr g cap p m j T rest (P'++(A'++(B'++S'))) cb HST.out (by rw[HN.out];have:=HLN.out;omega) (by rw[HN.out];have:=HLN.out;have:=HPM.out;omega) (by rw[HN.out];exact hsz));rw[HN.out]at HC;have hcut:swpN (P'++(A'++(B'++S'))) p m j=(P'++B')++(A'.drop j++(A'.take j++S')):=by
  have h:=swpN_cut P' (A'.take j) (A'.drop j) B' S' j l1 HJ.out;rw[l2,HP.out,show p+j+d=m by have:=HPM.out;omega,<-List.append_assoc (A'.take j),<-hAs]at h;rw[h];simp only[List.append_assoc]
 rw[hcut]at HC;have hTT:(P'++B')++(A'.take j++(A'.drop j++S'))=P++(B++(A++S)):=by rw[<-List.append_assoc (A'.take j),<-hAs,List.append_assoc];exact HT.out
 have HTT:=zH hTT;have HD:=zH (And.intro hd (And.intro l1 l2));clear hcut hTT hAs l1 l2 hd hij;go_wp2_with (go_at_call 203;refine HC.out.mono ?_;rintro e w2 ⟨rfl,hs2⟩)
 go_roundg (d+j)
 case measure=>have:=HD.out.1;have:=HI.out;have:=HJ.out;omega
 case rel=>exact⟨P'++B',A'.drop j,A'.take j,S',by rw[HD.out.2.1,HD.out.2.2],by rw[HD.out.2.2],by rw[HD.out.2.1],by intro h;have h2:=HD.out.2.2;rw[h]at h2;simp at h2;omega,by intro h;have h2:=HD.out.2.1;rw[h]at h2;simp at h2;omega,by rw[List.length_append,HP.out,HJ.out,HD.out.2.2];have:=HPM.out;have:=HD.out.1;omega,by have:=HLN.out;have:=HD.out;simp[HP.out,HJ.out,HD.out.2.1,HD.out.2.2]at*;omega,HTT.out,hs2⟩
theorem insertion_any {α:Type}(enc:α->List Value)(hk:∀x,(enc x).length=5)(h1:∀x,∀v,v∈enc x->v.oneCell'=true)(lt:α->α->Bool)(W:Stb.Wk lt)(w0 w:World)(g cap a b N:Nat)(T:TypeId)(rest:List Value)(P X S:List α)(hc:(∀wr,Own g w0 wr->∀x y:α,Calls Tryz.prog 111 #[.agg (enc x).toArray,.agg (enc y).toArray] wr fun e w'=>∃z:Int,e= .returned (.int .i64 z)/\(z<0↔lt x y=true)/\Ext wr w'))(hst:Sw w0 w g T enc rest (P++(X++S)))(ha:P.length=a)(hb:a+X.length=b)(hN:(P++(X++S)).length=N)(hsz:N<=100000):
  Calls Tryz.prog 178 #[.slice (some ⟨g,0,none⟩) N cap,.int .i64 a,.int .i64 b,.func (.func 111) #[] #[]] w fun e w'=>e= .returned (.tuple #[])/\Sw w0 w' g T enc rest (P++(Stb.stab lt X++S)):=by
 have hlen:P.length+(X.length+S.length)=N:=by rw[<-hN];simp
 have HC:=zH hc;have HST0:=zH (show Sw w0 w g T enc rest (P++(Stb.stab lt (X.take 1)++(X.drop 1++S)))by rw[Stb.stab_take1,<-List.append_assoc (X.take 1),List.take_append_drop];exact hst);have b1:a<=100000:=by omega
 have b2:b<=100000:=by omega
 have HPA:=zH ha;have HLN:=zH hlen;have HB:=zH hb;clear hst hc ha hb hN hlen;go_enter Tryz.func178,Tryz.ntmps178
 go_wp2_with fail
 go_loopg [8] (b+1-a) (fun c v wr=>∃t i:Nat,1<=t/\(t<=X.length\/t=1)/\i=a+t/\c=b+1-i+1/\v= .int .i64 i/\Sw w0 wr g T enc rest (P++(Stb.stab lt (X.take t)++(X.drop t++S))))
 case atStart=>exact⟨1,a+1,Nat.le_refl _,Or.inr rfl,rfl,by have:=HB.out;omega,by go_num,HST0.out⟩
 clear HST0;obtain⟨t,i,ht1,ht2,hi,rfl,rfl,hst⟩:=hrel;have hbb:=HB.out;have hib:i<=100001:=by have:=HLN.out;have:=HPA.out;omega
 by_cases hlt:i<b
 ·have hlt2:(i:Int)<(b:Int):=by omega
  have htl:t<X.length:=by omega
  obtain⟨y,hy⟩:∃y,X[t]=y:=⟨_,rfl⟩;have hdr:X.drop t=y::X.drop (t+1):=by rw[<-hy];exact List.drop_eq_getElem_cons htl
  have htk:X.take (t+1)=X.take t++[y]:=by rw[List.take_succ_eq_append_getElem htl,hy]
  have HSN:=zH (show Stb.stab lt (X.take (t+1))=Stb.ins lt (Stb.stab lt (X.take t)) y by rw[htk,Stb.stab_snoc]);have HSRT:=zH (Stb.stab_srt W (X.take t));have hLl:(Stb.stab lt (X.take t)).length=t:=by rw[Stb.stab_len,List.length_take];omega
  rw[hdr]at hst;generalize Stb.stab lt (X.take t)=L at*
  have HLL:=zH hLl;have HTL:=zH htl;have HI:=zH hi;have HST1:=zH (show Sw w0 wr g T enc rest (P++(L.take t++y::(L.drop t++(X.drop (t+1)++S))))by rw[List.take_of_length_le (by omega),List.drop_of_length_le (by omega)];exact hst);clear hst hdr htk hy hLl hi ht2 hbb;go_wp2_with fail
  go_loopg [9] t (fun c v wr=>∃u j:Nat,u<=t/\c=0+u/\j=a+u/\v= .int .i64 j/\(∀z,z∈L.drop u->lt y z=true)/\Sw w0 wr g T enc rest (P++(L.take u++y::(L.drop u++(X.drop (t+1)++S)))))
  case atStart=>exact⟨t,i,Nat.le_refl _,by omega,HI.out,rfl,by intro z hz;rw[List.drop_of_length_le (by have:=HLL.out;omega)]at hz;simp at hz,HST1.out⟩
  clear HST1;obtain⟨u,j,hu,rfl,hj,rfl,hall,hst⟩:=hrel;have HALL:=zH hall;have HST:=zH hst;have hjb:j<=100000:=by have:=HI.out;omega
  have wj:IntKind.i64.wrap (j:Int)=(j:Int):=by rw[IntKind.wrap_i64];omega
  have hlu:(P++(L.take u++y::(L.drop u++(X.drop (t+1)++S)))).length=N:=by
   have h1:=HLN.out;have h2:=HTL.out;have h3:=HLL.out
   simp;omega
  have HJ:=zH hj;have HU:=zH hu;clear hall hst;by_cases hu0:0<u
  ·obtain⟨p,hp⟩:∃p,p+1=j:=⟨j-1,by omega⟩
   obtain⟨q,hq⟩:∃q,q+1=u:=⟨u-1,by omega⟩;have hja:(a:Int)<(j:Int):=by omega
   have e1:(j:Int)-1=(p:Int):=by omega
   have wp:IntKind.i64.wrap (p:Int)=(p:Int):=by rw[IntKind.wrap_i64];omega
   have hPa:=HPA.out;have hql:q<L.length:=by have:=HLL.out;omega
   have gx:(P++(L.take u++y::(L.drop u++(X.drop (t+1)++S))))[p]?=some L[q]:=by
    have h:=get_mid P (L.take u) (y::(L.drop u++(X.drop (t+1)++S))) q (by rw[List.length_take];omega);rw[show P.length+q=p by omega]at h;rw[h,List.getElem?_take,if_pos (by omega)];exact List.getElem?_eq_getElem hql
   have gy:(P++(L.take u++y::(L.drop u++(X.drop (t+1)++S))))[j]?=some y:=by
    rw[List.getElem?_append_right (by omega),List.getElem?_append_right (by rw[List.length_take];omega),List.length_take,show j-P.length-min u L.length=0 by have:=HLL.out;omega];rfl
   have HSTEP:=zH (show swp (P++(L.take u++y::(L.drop u++(X.drop (t+1)++S)))) j p=P++(L.take q++y::(L.drop q++(X.drop (t+1)++S)))by
    have h:=swps_left P L (X.drop (t+1)++S) y q hql;rw[show P.length+q=p by omega,hp,hq]at h;exact h)
   have HQX:=zH (show∀z,z∈L.drop q->z=L[q]\/z∈L.drop u by
    intro z hz;rw[List.drop_eq_getElem_cons hql,hq]at hz;simpa using hz)
   have HINS:=zH (fun h=>Stb.ins_stop W (y:=y) HSRT.out HALL.out (by have:=HLL.out;omega) (Or.inr ⟨q,hq,hql,h⟩));have bj:(j:Int)<(N:Int):=by rw[<-hlu];have:=(List.getElem?_eq_some_iff.1 gy).1;omega
   have bp:(p:Int)<(N:Int):=by omega
   have HE:=zH (swp_eq gy gx);have HLj:=zH (List.getElem?_eq_some_iff.1 gy).1;have HLp:=zH (List.getElem?_eq_some_iff.1 gx).1;have Hx:=zH gx;have Hy:=zH gy;generalize L[q]=x at*
   generalize hrow:P++(L.take u++y::(L.drop u++(X.drop (t+1)++S)))=row at*
   have HQ:=zH (And.intro hq hp);have HROW:=zH hrow;clear gx gy hql hu hq hp hj hPa hrow;go_upto_region 4 with fail
   refine wp_region_held_drew (S:=fun x=>Ext wr x) (by kernel_rfl) (Ext.refl _).drew (fun _=> ?_);refine zv 0 (bs 17 1) (Ext.refl _).drew ?_;refine zv 1 (bs 17 3) (Ext.refl _).drew ?_;refine zv 2 (bs 17 7) (Ext.refl _).drew ?_;refine zv 3 (bs 17 15) (Ext.refl _).drew ?_;refine zv 4 (bs 17 31) (Ext.refl _).drew ?_;refine zv 5 (bs 17 63) (Ext.refl _).drew ?_;refine zv 6 (bs 17 127) (Ext.refl _).drew ?_;refine zv 7 (bs 17 255) (Ext.refl _).drew ?_;refine md_range (i:=8) (listed':=(bs 17 511)) (by rfl) (by kernel_rfl) (by kernel_rfl) (by kernel_rfl) _ _ (by rfl) g (j*5) (enc y) _ (by intro _ _ _ h;exact h) (by rfl) (by rfl) (fun w1 hw1=>(HST.out.ext hw1).read Hy.out hk) Tryz.underlying98 (by rfl) (by rw[hk];kernel_rfl) (Ext.refl _).drew (by kernel_rfl) ?_;try simp only[Act.put,zA,zB,zC]
   refine zv 9 (bs 17 1023) (Ext.refl _).drew ?_;refine zv 10 (bs 17 2047) (Ext.refl _).drew ?_;refine zv 11 (bs 17 4095) (Ext.refl _).drew ?_;refine zv 12 (bs 17 8191) (Ext.refl _).drew ?_;refine md_range (i:=13) (listed':=(bs 17 16383)) (by rfl) (by kernel_rfl) (by kernel_rfl) (by kernel_rfl) _ _ (by rfl) g (p*5) (enc x) _ (by intro _ _ _ h;exact h) (by rfl) (by rfl) (fun w1 hw1=>(HST.out.ext hw1).read Hx.out hk) Tryz.underlying98 (by rfl) (by rw[hk];kernel_rfl) (Ext.refl _).drew (by kernel_rfl) ?_;try simp only[Act.put,zA,zB,zC]
   refine mC 14 (bs 17 32767) (HC.out _ ((HST.out.ext (Ext.refl _).drew).own) y x) ?_;rintro e w2 ⟨z,rfl,hz,hx2⟩;have HX2:=zH (show Ext wr w2 from(Ext.refl _).drew.trans hx2);clear hx2;refine⟨_,rfl,HX2.out,?_⟩;try simp only[Act.put,zA,zB,zC]
   by_cases hlt:lt y x=true
   ·have HLT:=zH hlt
    have hz2:z<0:=hz.2 hlt;have hz3:decide (z<0)=true:=by simpa using hz2
    clear hz;refine zv 15 (bs 17 65535) HX2.out ?_;refine zv 16 (bs 17 131071) HX2.out ?_;refine wpAnyH_done (by kernel_rfl) ?_ _;clear hlt hz2 hz3;have HST:=zH (HST.out.ext HX2.out);clear HX2;have hN2:row.length=N:=hlu;generalize w2=wr at*
    go_upto_region 6 with fail
    refine wp_region_held_drew (S:=fun x=>Own g wr x) (by kernel_rfl) (Own.refl _ _).drew (fun _=> ?_);refine zv 0 (bs 18 1) (Own.refl _ _).drew ?_;refine zv 1 (bs 18 3) (Own.refl _ _).drew ?_;refine zv 2 (bs 18 7) (Own.refl _ _).drew ?_;refine zv 3 (bs 18 15) (Own.refl _ _).drew ?_;refine zv 4 (bs 18 31) (Own.refl _ _).drew ?_;refine zv 5 (bs 18 63) (Own.refl _ _).drew ?_;refine zv 6 (bs 18 127) (Own.refl _ _).drew ?_;refine zv 7 (bs 18 255) (Own.refl _ _).drew ?_;refine zv 8 (bs 18 511) (Own.refl _ _).drew ?_;refine zv 10 (bs 18 1535) (Own.refl _ _).drew ?_;refine zv 11 (bs 18 3583) (Own.refl _ _).drew ?_;refine zv 12 (bs 18 7679) (Own.refl _ _).drew ?_;refine md_loads2 (i:=9) (j:=13) (li:=(bs 18 8191)) (lj:=(bs 18 15871)) (listed':=(bs 18 16383)) (by rfl) (by rfl) (by kernel_rfl) (by kernel_rfl) (by kernel_rfl) (by kernel_rfl) (by kernel_rfl) (by kernel_rfl) (by kernel_rfl) 98 _ _ (by rfl) (by rfl) (by rfl) (by rfl) g (p*5) (j*5) (enc x) (enc y) _ Tryz.underlying98 (by rfl) (by rfl) (by rfl) (by rfl) (by rfl) (HST.out.ext (Ext.refl _).drew |>.read Hx.out hk) (HST.out.ext (Ext.refl _).drew |>.read Hy.out hk) (by rw[hk];kernel_rfl) (by rw[hk];kernel_rfl) (Own.refl _ _).drew (by rfl) ?_;try simp only[Act.put,zA,zB,zC]
    refine zv 14 (bs 18 32767) (Own.refl _ _).drew ?_;have s1_:=(HST.out.ext (Ext.refl _).drew).put (i:=j) HLj.out hk x;have s2_:=s1_.put (i:=p) (by rw[List.length_set];exact HLp.out) hk y;refine md_rstore (i:=15) (listed':=(bs 18 65535)) (by rfl) (by kernel_rfl) (by rfl) 98 _ _ (by rfl) g (j*5) (enc x) (by rfl) (by rfl) (by rw[hk];exact(HST.out.ext (Ext.refl _).drew).there HLj.out hk) (by rw[hk];kernel_rfl) (h1 x) (Own.setCells_l _ _ (Own.refl _ _).drew) (by kernel_rfl) ?_
    (try simp only[Act.put])
    refine zv 16 (bs 18 131071) (Own.setCells_l _ _ (Own.refl _ _).drew) ?_;refine md_rstore (i:=17) (listed':=(bs 18 262143)) (by rfl) (by kernel_rfl) (by rfl) 98 _ _ (by rfl) g (p*5) (enc y) (by rfl) (by rfl) (by rw[hk];exact s1_.there (by rw[List.length_set];exact HLp.out) hk) (by rw[hk];kernel_rfl) (h1 y) (Own.setCells_l _ _ (Own.setCells_l _ _ (Own.refl _ _).drew)) (by kernel_rfl) ?_
    (try simp only[Act.put])
    refine wpAnyH_done (by kernel_rfl) ?_ _;have HS2:=zH s2_;clear s1_ s2_;generalize (World.setCells _ g (p*5) (enc y))=w3 at*
    go_wp2_with fail
    go_roundg q
    case measure=>have:=HQ.out.1;omega
    case rel=>exact⟨q,p,by have:=HQ.out;have:=HU.out;omega,by omega,by have:=HQ.out;have:=HJ.out;omega,rfl,fun z hz=>(HQX.out z hz).elim (fun h=>by rw[h];exact HLT.out) (HALL.out z),by rw[<-HSTEP.out,HE.out];exact HS2.out⟩
   have HLT:=zH (eq_false_of_ne_true hlt);have hz2:¬z<0:=fun h=>hlt (hz.1 h)
   have hz3:decide (z<0)=false:=by simpa using hz2
   clear hz;refine zv 15 (bs 17 65535) HX2.out ?_;refine zv 16 (bs 17 131071) HX2.out ?_;refine wpAnyH_done (by kernel_rfl) ?_ _;clear hlt hz2 hz3;have HR:=zH (show Sw w0 w2 g T enc rest (P++(Stb.stab lt (X.take (t+1))++(X.drop (t+1)++S)))by rw[HSN.out,HINS.out HLT.out];have h:=HST.out.ext HX2.out;rw[<-HROW.out]at h;simpa using h);go_wp2_with fail
   go_roundg (b+1-(i+1)+1)
   case measure=>omega
   case rel=>exact⟨t+1,i+1,by omega,Or.inl HTL.out,by have:=HI.out;omega,by omega,by go_num,HR.out⟩
  obtain rfl:u=0:=by omega
  have hja:¬(a:Int)<(j:Int):=by omega
  have hja2:decide ((a:Int)<(j:Int))=false:=by simpa using hja
  have HINS:=zH (Stb.ins_stop W (y:=y) HSRT.out HALL.out (Nat.zero_le _) (Or.inl rfl));go_upto_region 4 with fail
  refine wp_region_held_drew (S:=fun x=>Ext wr x) (by kernel_rfl) (Ext.refl _).drew (fun _=> ?_);refine zv 0 (bs 17 1) (Ext.refl _).drew ?_;refine zv 1 (bs 17 3) (Ext.refl _).drew ?_;refine zv 2 (bs 17 7) (Ext.refl _).drew ?_;refine zv 3 (bs 17 15) (Ext.refl _).drew ?_;refine zs 4 (bs 17 31) (Ext.refl _).drew ?_;refine zs 5 (bs 17 63) (Ext.refl _).drew ?_;refine zs 6 (bs 17 127) (Ext.refl _).drew ?_;refine zs 7 (bs 17 255) (Ext.refl _).drew ?_;refine zs 8 (bs 17 511) (Ext.refl _).drew ?_;refine zs 9 (bs 17 1023) (Ext.refl _).drew ?_;refine zs 10 (bs 17 2047) (Ext.refl _).drew ?_;refine zs 11 (bs 17 4095) (Ext.refl _).drew ?_;refine zs 12 (bs 17 8191) (Ext.refl _).drew ?_;refine zs 13 (bs 17 16383) (Ext.refl _).drew ?_;refine zs 14 (bs 17 32767) (Ext.refl _).drew ?_;refine zs 15 (bs 17 65535) (Ext.refl _).drew ?_;refine zv 16 (bs 17 131071) (Ext.refl _).drew ?_;refine wpAnyH_done (by kernel_rfl) ?_ _;have HR:=zH (show Sw w0 wr.drew g T enc rest (P++(Stb.stab lt (X.take (t+1))++(X.drop (t+1)++S)))by rw[HSN.out,HINS.out];have h:=HST.out.ext (Ext.refl _).drew;simpa using h);go_wp2_with fail
  go_roundg (b+1-(i+1)+1)
  case measure=>omega
  case rel=>exact⟨t+1,i+1,by omega,Or.inl HTL.out,by have:=HI.out;omega,by omega,by go_num,HR.out⟩
 have HST:=zH (show Sw w0 wr g T enc rest (P++(Stb.stab lt X++S))by rw[List.take_of_length_le (by omega),List.drop_of_length_le (by omega)]at hst;exact hst);have hge:¬(i:Int)<(b:Int):=by omega
 clear hst;go_wp2_with fail
 go_end0
 exact⟨rfl,HST.out⟩
theorem symA_any {α:Type}(enc:α->List Value)(hk:∀x,(enc x).length=5)(h1:∀x,∀v,v∈enc x->v.oneCell'=true)(lt:α->α->Bool)(W:Stb.Wk lt)(w0 w:World)(g cap a m b N:Nat)(T:TypeId)(rest:List Value)(P B S:List α)(x:α)(hc:(∀wr,Own g w0 wr->∀x y:α,Calls Tryz.prog 111 #[.agg (enc x).toArray,.agg (enc y).toArray] wr fun e w'=>∃z:Int,e= .returned (.int .i64 z)/\(z<0↔lt x y=true)/\Ext wr w'))(hst:Sw w0 w g T enc rest (P++(x::(B++S))))(ha:P.length=a)(hm:a+1=m)(hb:m+B.length=b)(hB:Stb.Srt lt B)(hN:(P++(x::(B++S))).length=N)(hsz:N<=100000):
  Calls Tryz.prog 179 #[.slice (some ⟨g,0,none⟩) N cap,.int .i64 a,.int .i64 m,.int .i64 b,.func (.func 111) #[] #[]] w fun e w'=>e= .returned (.tuple #[])/\Sw w0 w' g T enc rest (P++(Stb.mrg lt [x] B++S)):=by
 have hlen:P.length+(1+(B.length+S.length))=N:=by rw[<-hN];simp;omega
 have e1:(m:Int)-(a:Int)=1:=by omega
 have b1:a<=100000:=by omega
 have b2:m<=100000:=by omega
 have b3:b<=100000:=by omega
 have ba:(a:Int)<(N:Int):=by omega
 have wa_:IntKind.i64.wrap (a:Int)=(a:Int):=by rw[IntKind.wrap_i64];omega
 have gx0:(P++(x::(B++S)))[a]?=some x:=by rw[<-ha];simp
 have gz:∀t z,B[t]?=some z->(P++(x::(B++S)))[m+t]?=some z:=fun t z h=>by
  have h2:=get_mid (P++[x]) B S t (List.getElem?_eq_some_iff.1 h).1;rw[show(P++[x]).length+t=m+t by simp;omega,h]at h2;simpa using h2
 have HC:=zH hc;have HST0:=zH hst;have HGZ:=zH gz;have Hx:=zH gx0;have HF:=zH (And.intro ha (And.intro hm (And.intro hb hlen)));have HN:=zH hN;have HBS:=zH hB;have hbl:m+B.length=b:=hb;have hsl:b<=N:=by omega
 clear hst hc ha hm hb hN hlen gz gx0 hB;go_enter Tryz.func179,Tryz.ntmps179
 go_wp2_with fail
 go_loopg [10,11] B.length (fun c u v wr=>∃s e i j:Nat,s<=e/\e<=B.length/\c=e-s/\i=m+s/\j=m+e/\u= .int .i64 i/\v= .int .i64 j/\(s=0\/∃z,B[s-1]?=some z/\lt z x=true)/\(B.length<=e\/∃z,B[e]?=some z/\lt z x=false)/\Sw w0 wr g T enc rest (P++(x::(B++S))))
 case atStart=>exact⟨0,B.length,m,b,Nat.zero_le _,Nat.le_refl _,by omega,rfl,by omega,rfl,rfl,Or.inl rfl,Or.inl (Nat.le_refl _),HST0.out⟩
 clear HST0;obtain⟨s,e,i,j,hse,heB,rfl,hi,hj,rfl,rfl,h1s,h2e,hst⟩:=hrel;have HST:=zH hst;have HI:=zH (And.intro hi hj);have H1:=zH h1s;have H2:=zH h2e;have bi:i<=100000:=by omega
 have bj:j<=100000:=by omega
 clear hst h1s h2e;by_cases hlt0:s<e
 ·have hij:(i:Int)<(j:Int):=by omega
  obtain⟨ss,hss⟩:∃ss,ss=i+j:=⟨_,rfl⟩;obtain⟨h,hh⟩:∃h,h=ss/2:=⟨_,rfl⟩;have e3:(i:Int)+(j:Int)=(ss:Int):=by omega
  obtain⟨c,hcc⟩:∃c,h=m+c:=⟨h-m,by omega⟩;have hcb:s<=c/\c<e:=by omega
  have wu:IntKind.u64.wrap (ss:Int)=(ss:Int):=by rw[IntKind.wrap_u64];omega
  have ws:IntKind.i64.wrap (ss:Int)=(ss:Int):=by rw[IntKind.wrap_i64];omega
  have wh:IntKind.i64.wrap (h:Int)=(h:Int):=by rw[IntKind.wrap_i64];omega
  have wuh:IntKind.u64.wrap (h:Int)=(h:Int):=by rw[IntKind.wrap_u64];omega
  have e2:(ss:Int)/2=(h:Int):=by omega
  have bh:(h:Int)<(N:Int):=by omega
  obtain⟨z0,hz0⟩:∃z,B[c]?=some z:=⟨_,List.getElem?_eq_getElem (by omega)⟩;have Hz0:=zH (show(P++(x::(B++S)))[h]?=some z0 by rw[hcc];exact HGZ.out c z0 hz0);have HZB:=zH hz0;have HH:=zH (And.intro hcc hcb);clear hz0 hcc hcb hss hh hi hj;generalize hrow:P++(x::(B++S))=row at*
  have HROW:=zH hrow;clear hrow;go_upto_region 5 with fail
  refine wp_region_held_drew (S:=fun x=>Ext wr x) (by kernel_rfl) (Ext.refl _).drew (fun _=> ?_);refine zv 0 (bs 11 1) (Ext.refl _).drew ?_;refine zv 1 (bs 11 3) (Ext.refl _).drew ?_;refine zv 2 (bs 11 7) (Ext.refl _).drew ?_;refine zv 3 (bs 11 15) (Ext.refl _).drew ?_;refine md_range (i:=4) (listed':=(bs 11 31)) (by rfl) (by kernel_rfl) (by kernel_rfl) (by kernel_rfl) _ _ (by rfl) g (h*5) (enc z0) _ (by intro _ _ _ h;exact h) (by rfl) (by rfl) (fun w1 hw1=>(HST.out.ext hw1).read Hz0.out hk) Tryz.underlying98 (by rfl) (by rw[hk];kernel_rfl) (Ext.refl _).drew (by kernel_rfl) ?_;try simp only[Act.put,zA,zB,zC]
  refine zv 5 (bs 11 63) (Ext.refl _).drew ?_;refine zv 6 (bs 11 127) (Ext.refl _).drew ?_;refine zv 7 (bs 11 255) (Ext.refl _).drew ?_;refine md_range (i:=8) (listed':=(bs 11 511)) (by rfl) (by kernel_rfl) (by kernel_rfl) (by kernel_rfl) _ _ (by rfl) g (a*5) (enc x) _ (by intro _ _ _ h;exact h) (by rfl) (by rfl) (fun w1 hw1=>(HST.out.ext hw1).read Hx.out hk) Tryz.underlying98 (by rfl) (by rw[hk];kernel_rfl) (Ext.refl _).drew (by kernel_rfl) ?_;try simp only[Act.put,zA,zB,zC]
  refine mC 9 (bs 11 1023) (HC.out _ ((HST.out.ext (Ext.refl _).drew).own) z0 x) ?_;rintro e w2 ⟨z,rfl,hz,hx2⟩;have HX2:=zH (show Ext wr w2 from(Ext.refl _).drew.trans hx2);clear hx2;refine⟨_,rfl,HX2.out,?_⟩;try simp only[Act.put,zA,zB,zC]
  by_cases hlt:lt z0 x=true
  ·have HLT:=zH hlt
   have hz2:z<0:=hz.2 hlt;have hz3:decide (z<0)=true:=by simpa using hz2
   clear hz;refine zv 10 (bs 11 2047) HX2.out ?_;refine wpAnyH_done (by kernel_rfl) ?_ _;clear hlt hz2 hz3;have HST:=zH (HST.out.ext HX2.out);go_wp2_with fail
   go_roundg (e-(c+1))
   case measure=>have:=HH.out;omega
   case rel=>exact⟨c+1,e,h+1,j,by have:=HH.out;omega,heB,rfl,by have:=HH.out;omega,HI.out.2,by go_num,rfl,Or.inr ⟨z0,HZB.out,HLT.out⟩,H2.out,HST.out⟩
  have HLT:=zH (eq_false_of_ne_true hlt);have hz2:¬z<0:=fun h=>hlt (hz.1 h)
  have hz3:decide (z<0)=false:=by simpa using hz2
  clear hz;refine zv 10 (bs 11 2047) HX2.out ?_;refine wpAnyH_done (by kernel_rfl) ?_ _;clear hlt hz2 hz3;have HST:=zH (HST.out.ext HX2.out);go_wp2_with fail
  go_roundg (c-s)
  case measure=>have:=HH.out;omega
  case rel=>exact⟨s,c,i,h,by have:=HH.out;omega,by have:=HH.out;omega,rfl,HI.out.1,by have:=HH.out;omega,rfl,rfl,H1.out,Or.inr ⟨z0,HZB.out,HLT.out⟩,HST.out⟩
 obtain rfl:s=e:=by omega
 have hij:¬(i:Int)<(j:Int):=by omega
 have HM:=zH (Stb.one_left W HBS.out H1.out H2.out);obtain⟨im,him⟩:∃im,im+1=i:=⟨i-1,by have:=HF.out;omega⟩;have e4:(i:Int)-1=(im:Int):=by omega
 have wim:IntKind.i64.wrap (im:Int)=(im:Int):=by rw[IntKind.wrap_i64];omega
 have HIM:=zH him;clear hi hj him Hx;go_wp2_with fail
 go_loopg [13] s (fun c v wr=>∃t k:Nat,t<=s/\c=s-t/\k=a+t/\v= .int .i64 k/\Sw w0 wr g T enc rest (P++(B.take t++x::(B.drop t++S))))
 case atStart=>exact⟨0,a,Nat.zero_le _,rfl,rfl,rfl,by simpa using HST.out⟩
 clear HST;obtain⟨t,k0,hts,rfl,hk0,rfl,hst⟩:=hrel;by_cases hlt:t<s
 ·have hF:=HF.out
  have hI:=HI.out;have hIM:=HIM.out;have hki:(k0:Int)<(im:Int):=by omega
  obtain⟨k1,hk1⟩:∃k1,k1=k0+1:=⟨_,rfl⟩;have e5:(k0:Int)+1=(k1:Int):=by omega
  have wk:IntKind.i64.wrap (k1:Int)=(k1:Int):=by rw[IntKind.wrap_i64];omega
  have wk0:IntKind.i64.wrap (k0:Int)=(k0:Int):=by rw[IntKind.wrap_i64];omega
  have bk1:(k1:Int)<(N:Int):=by omega
  have bk0:(k0:Int)<(N:Int):=by omega
  have htB:t<B.length:=by omega
  have hsw:=swps_right P B S x t htB;rw[show P.length+t=k0 by omega,<-hk1]at hsw;have hrl:(P++(B.take t++x::(B.drop t++S))).length=N:=by simp;omega
  have gx:(P++(B.take t++x::(B.drop t++S)))[k0]?=some x:=by
   rw[List.getElem?_append_right (by omega),List.getElem?_append_right (by rw[List.length_take];omega),List.length_take,show k0-P.length-min t B.length=0 by omega];rfl
  obtain⟨z0,hz0⟩:∃z,(P++(B.take t++x::(B.drop t++S)))[k1]?=some z:=⟨_,List.getElem?_eq_getElem (by omega)⟩;have HE:=zH ((swp_eq gx hz0).symm.trans hsw);have Hx:=zH gx;have Hz0:=zH hz0;have HLk0:=zH (List.getElem?_eq_some_iff.1 gx).1;have HLk1:=zH (List.getElem?_eq_some_iff.1 hz0).1;have HST:=zH hst;generalize P++(B.take t++x::(B.drop t++S))=row at*
  have HK:=zH (And.intro hk0 hk1);clear gx hz0 hsw hst hF hI hIM hk0 hk1;go_upto_region 11 with fail
  refine wp_region_held_drew (S:=fun x=>Own g wr x) (by kernel_rfl) (Own.refl _ _).drew (fun _=> ?_);refine zv 0 (bs 18 1) (Own.refl _ _).drew ?_;refine zv 1 (bs 18 3) (Own.refl _ _).drew ?_;refine zv 2 (bs 18 7) (Own.refl _ _).drew ?_;refine zv 3 (bs 18 15) (Own.refl _ _).drew ?_;refine zv 4 (bs 18 31) (Own.refl _ _).drew ?_;refine zv 5 (bs 18 63) (Own.refl _ _).drew ?_;refine zv 6 (bs 18 127) (Own.refl _ _).drew ?_;refine zv 7 (bs 18 255) (Own.refl _ _).drew ?_;refine zv 8 (bs 18 511) (Own.refl _ _).drew ?_;refine zv 10 (bs 18 1535) (Own.refl _ _).drew ?_;refine zv 11 (bs 18 3583) (Own.refl _ _).drew ?_;refine zv 12 (bs 18 7679) (Own.refl _ _).drew ?_;refine md_loads2 (i:=9) (j:=13) (li:=(bs 18 8191)) (lj:=(bs 18 15871)) (listed':=(bs 18 16383)) (by rfl) (by rfl) (by kernel_rfl) (by kernel_rfl) (by kernel_rfl) (by kernel_rfl) (by kernel_rfl) (by kernel_rfl) (by kernel_rfl) 98 _ _ (by rfl) (by rfl) (by rfl) (by rfl) g (k1*5) (k0*5) (enc z0) (enc x) _ Tryz.underlying98 (by rfl) (by rfl) (by rfl) (by rfl) (by rfl) (HST.out.ext (Ext.refl _).drew |>.read Hz0.out hk) (HST.out.ext (Ext.refl _).drew |>.read Hx.out hk) (by rw[hk];kernel_rfl) (by rw[hk];kernel_rfl) (Own.refl _ _).drew (by rfl) ?_;try simp only[Act.put,zA,zB,zC]
  refine zv 14 (bs 18 32767) (Own.refl _ _).drew ?_;have s1_:=(HST.out.ext (Ext.refl _).drew).put (i:=k0) HLk0.out hk z0;have s2_:=s1_.put (i:=k1) (by rw[List.length_set];exact HLk1.out) hk x;refine md_rstore (i:=15) (listed':=(bs 18 65535)) (by rfl) (by kernel_rfl) (by rfl) 98 _ _ (by rfl) g (k0*5) (enc z0) (by rfl) (by rfl) (by rw[hk];exact(HST.out.ext (Ext.refl _).drew).there HLk0.out hk) (by rw[hk];kernel_rfl) (h1 z0) (Own.setCells_l _ _ (Own.refl _ _).drew) (by kernel_rfl) ?_
  (try simp only[Act.put])
  refine zv 16 (bs 18 131071) (Own.setCells_l _ _ (Own.refl _ _).drew) ?_;refine md_rstore (i:=17) (listed':=(bs 18 262143)) (by rfl) (by kernel_rfl) (by rfl) 98 _ _ (by rfl) g (k1*5) (enc x) (by rfl) (by rfl) (by rw[hk];exact s1_.there (by rw[List.length_set];exact HLk1.out) hk) (by rw[hk];kernel_rfl) (h1 x) (Own.setCells_l _ _ (Own.setCells_l _ _ (Own.refl _ _).drew)) (by kernel_rfl) ?_
  (try simp only[Act.put])
  refine wpAnyH_done (by kernel_rfl) ?_ _;have HS2:=zH s2_;clear s1_ s2_;generalize (World.setCells _ g (k1*5) (enc x))=w3 at*
  go_wp2_with fail
  go_roundg (s-(t+1))
  case measure=>omega
  case rel=>exact⟨t+1,k1,hlt,rfl,by have:=HK.out;omega,rfl,by rw[<-HE.out];exact HS2.out⟩
 obtain rfl:t=s:=by omega
 have HR:=zH (show Sw w0 wr g T enc rest (P++(Stb.mrg lt [x] B++S))by rw[HM.out];simpa using hst);have hki:¬(k0:Int)<(im:Int):=by have:=HF.out;have:=HI.out;have:=HIM.out;omega
 clear hst;go_wp2_with fail
 refine bodyPost_ret (results_none rfl _ _ _) rfl ?_;exact⟨rfl,HR.out⟩
theorem symB_any {α:Type}(enc:α->List Value)(hk:∀x,(enc x).length=5)(h1:∀x,∀v,v∈enc x->v.oneCell'=true)(lt:α->α->Bool)(W:Stb.Wk lt)(w0 w:World)(g cap a m b N:Nat)(T:TypeId)(rest:List Value)(P A S:List α)(y:α)(hc:(∀wr,Own g w0 wr->∀x y:α,Calls Tryz.prog 111 #[.agg (enc x).toArray,.agg (enc y).toArray] wr fun e w'=>∃z:Int,e= .returned (.int .i64 z)/\(z<0↔lt x y=true)/\Ext wr w'))(hst:Sw w0 w g T enc rest (P++(A++(y::S))))(ha:P.length=a)(hm:a+A.length=m)(hb:m+1=b)(hA1:A.length≠1)(hA:Stb.Srt lt A)(hN:(P++(A++(y::S))).length=N)(hsz:N<=100000):
  Calls Tryz.prog 179 #[.slice (some ⟨g,0,none⟩) N cap,.int .i64 a,.int .i64 m,.int .i64 b,.func (.func 111) #[] #[]] w fun e w'=>e= .returned (.tuple #[])/\Sw w0 w' g T enc rest (P++(Stb.mrg lt A [y]++S)):=by
 have hlen:P.length+(A.length+(1+S.length))=N:=by rw[<-hN];simp;omega
 obtain⟨d1,hd1⟩:∃d1,a+d1=m:=⟨A.length,hm⟩;have e0:(m:Int)-(a:Int)=(d1:Int):=by omega
 have e0b:((d1:Int)==1)=false:=by simp;omega
 have wd:IntKind.i64.wrap (d1:Int)=(d1:Int):=by rw[IntKind.wrap_i64];omega
 have e1:(b:Int)-(m:Int)=1:=by omega
 have b1:a<=100000:=by omega
 have b2:m<=100000:=by omega
 have b3:b<=100000:=by omega
 have ba:(m:Int)<(N:Int):=by omega
 have wa_:IntKind.i64.wrap (m:Int)=(m:Int):=by rw[IntKind.wrap_i64];omega
 have gy0:(P++(A++(y::S)))[m]?=some y:=by
  rw[List.getElem?_append_right (by omega),List.getElem?_append_right (by omega),show m-P.length-A.length=0 by omega];rfl
 have gz:∀t z,A[t]?=some z->(P++(A++(y::S)))[a+t]?=some z:=fun t z h=>by
  have h2:=get_mid P A (y::S) t (List.getElem?_eq_some_iff.1 h).1;rw[show P.length+t=a+t by omega,h]at h2;exact h2
 have HC:=zH hc;have HST0:=zH hst;have HGZ:=zH gz;have Hy:=zH gy0;have HF:=zH (And.intro ha (And.intro hm (And.intro hb hlen)));have HN:=zH hN;have HAS:=zH hA;have hbl:a+A.length=m:=hm;have hsl:m<N:=by omega
 clear hst hc ha hm hb hN hlen gz gy0 hA hd1;go_enter Tryz.func179,Tryz.ntmps179
 go_wp2_with fail
 go_loopg [14,15] A.length (fun c u v wr=>∃s e i j:Nat,s<=e/\e<=A.length/\c=e-s/\i=a+s/\j=a+e/\u= .int .i64 i/\v= .int .i64 j/\(s=0\/∃z,A[s-1]?=some z/\lt y z=false)/\(A.length<=e\/∃z,A[e]?=some z/\lt y z=true)/\Sw w0 wr g T enc rest (P++(A++(y::S))))
 case atStart=>exact⟨0,A.length,a,m,Nat.zero_le _,Nat.le_refl _,by omega,rfl,by omega,rfl,rfl,Or.inl rfl,Or.inl (Nat.le_refl _),HST0.out⟩
 clear HST0;obtain⟨s,e,i,j,hse,heB,rfl,hi,hj,rfl,rfl,h1s,h2e,hst⟩:=hrel;have HST:=zH hst;have HI:=zH (And.intro hi hj);have H1:=zH h1s;have H2:=zH h2e;have bi:i<=100000:=by omega
 have bj:j<=100000:=by omega
 clear hst h1s h2e;by_cases hlt0:s<e
 ·have hij:(i:Int)<(j:Int):=by omega
  obtain⟨ss,hss⟩:∃ss,ss=i+j:=⟨_,rfl⟩;obtain⟨h,hh⟩:∃h,h=ss/2:=⟨_,rfl⟩;have e3:(i:Int)+(j:Int)=(ss:Int):=by omega
  obtain⟨c,hcc⟩:∃c,h=a+c:=⟨h-a,by omega⟩;have hcb:s<=c/\c<e:=by omega
  have wu:IntKind.u64.wrap (ss:Int)=(ss:Int):=by rw[IntKind.wrap_u64];omega
  have ws:IntKind.i64.wrap (ss:Int)=(ss:Int):=by rw[IntKind.wrap_i64];omega
  have wh:IntKind.i64.wrap (h:Int)=(h:Int):=by rw[IntKind.wrap_i64];omega
  have wuh:IntKind.u64.wrap (h:Int)=(h:Int):=by rw[IntKind.wrap_u64];omega
  have e2:(ss:Int)/2=(h:Int):=by omega
  have bh:(h:Int)<(N:Int):=by omega
  obtain⟨z0,hz0⟩:∃z,A[c]?=some z:=⟨_,List.getElem?_eq_getElem (by omega)⟩;have Hz0:=zH (show(P++(A++(y::S)))[h]?=some z0 by rw[hcc];exact HGZ.out c z0 hz0);have HZB:=zH hz0;have HH:=zH (And.intro hcc hcb);clear hz0 hcc hcb hss hh hi hj;generalize hrow:P++(A++(y::S))=row at*
  clear hrow;go_upto_region 17 with fail
  refine wp_region_held_drew (S:=fun x=>Ext wr x) (by kernel_rfl) (Ext.refl _).drew (fun _=> ?_);refine zv 0 (bs 12 1) (Ext.refl _).drew ?_;refine zv 1 (bs 12 3) (Ext.refl _).drew ?_;refine zv 2 (bs 12 7) (Ext.refl _).drew ?_;refine zv 3 (bs 12 15) (Ext.refl _).drew ?_;refine md_range (i:=4) (listed':=(bs 12 31)) (by rfl) (by kernel_rfl) (by kernel_rfl) (by kernel_rfl) _ _ (by rfl) g (m*5) (enc y) _ (by intro _ _ _ h;exact h) (by rfl) (by rfl) (fun w1 hw1=>(HST.out.ext hw1).read Hy.out hk) Tryz.underlying98 (by rfl) (by rw[hk];kernel_rfl) (Ext.refl _).drew (by kernel_rfl) ?_;try simp only[Act.put,zA,zB,zC]
  refine zv 5 (bs 12 63) (Ext.refl _).drew ?_;refine zv 6 (bs 12 127) (Ext.refl _).drew ?_;refine zv 7 (bs 12 255) (Ext.refl _).drew ?_;refine md_range (i:=8) (listed':=(bs 12 511)) (by rfl) (by kernel_rfl) (by kernel_rfl) (by kernel_rfl) _ _ (by rfl) g (h*5) (enc z0) _ (by intro _ _ _ h;exact h) (by rfl) (by rfl) (fun w1 hw1=>(HST.out.ext hw1).read Hz0.out hk) Tryz.underlying98 (by rfl) (by rw[hk];kernel_rfl) (Ext.refl _).drew (by kernel_rfl) ?_;try simp only[Act.put,zA,zB,zC]
  refine mC 9 (bs 12 1023) (HC.out _ ((HST.out.ext (Ext.refl _).drew).own) y z0) ?_;rintro e w2 ⟨z,rfl,hz,hx2⟩;have HX2:=zH (show Ext wr w2 from(Ext.refl _).drew.trans hx2);clear hx2;refine⟨_,rfl,HX2.out,?_⟩;try simp only[Act.put,zA,zB,zC]
  by_cases hlt:lt y z0=true
  ·have HLT:=zH hlt
   have hz2:z<0:=hz.2 hlt;have hz3:decide (z<0)=true:=by simpa using hz2
   clear hz;refine zv 10 (bs 12 2047) HX2.out ?_;refine zv 11 (bs 12 4095) HX2.out ?_;refine wpAnyH_done (by kernel_rfl) ?_ _;clear hlt hz2 hz3;have HST:=zH (HST.out.ext HX2.out);go_wp2_with fail
   go_roundg (c-s)
   case measure=>have:=HH.out;omega
   case rel=>exact⟨s,c,i,h,by have:=HH.out;omega,by have:=HH.out;omega,rfl,HI.out.1,by have:=HH.out;omega,rfl,rfl,H1.out,Or.inr ⟨z0,HZB.out,HLT.out⟩,HST.out⟩
  have HLT:=zH (eq_false_of_ne_true hlt);have hz2:¬z<0:=fun h=>hlt (hz.1 h)
  have hz3:decide (z<0)=false:=by simpa using hz2
  clear hz;refine zv 10 (bs 12 2047) HX2.out ?_;refine zv 11 (bs 12 4095) HX2.out ?_;refine wpAnyH_done (by kernel_rfl) ?_ _;clear hlt hz2 hz3;have HST:=zH (HST.out.ext HX2.out);go_wp2_with fail
  go_roundg (e-(c+1))
  case measure=>have:=HH.out;omega
  case rel=>exact⟨c+1,e,h+1,j,by have:=HH.out;omega,heB,rfl,by have:=HH.out;omega,HI.out.2,by go_num,rfl,Or.inr ⟨z0,HZB.out,HLT.out⟩,H2.out,HST.out⟩
 obtain rfl:s=e:=by omega
 have hij:¬(i:Int)<(j:Int):=by omega
 have HM:=zH (Stb.one_right W HAS.out H1.out H2.out);clear hi hj Hy;go_wp2_with fail
 go_loopg [17] (A.length-s) (fun c v wr=>∃t k:Nat,s<=t/\t<=A.length/\c=t-s/\k=a+t/\v= .int .i64 k/\Sw w0 wr g T enc rest (P++(A.take t++y::(A.drop t++S))))
 case atStart=>exact⟨A.length,m,heB,Nat.le_refl _,by omega,by omega,rfl,by simpa using HST.out⟩
 clear HST;obtain⟨t,k0,hts,htA,rfl,hk0,rfl,hst⟩:=hrel;by_cases hlt:s<t
 ·have hF:=HF.out
  have hI:=HI.out;have hki:(i:Int)<(k0:Int):=by omega
  obtain⟨k1,hk1⟩:∃k1,k1+1=k0:=⟨k0-1,by omega⟩;have e5:(k0:Int)-1=(k1:Int):=by omega
  have wk:IntKind.i64.wrap (k1:Int)=(k1:Int):=by rw[IntKind.wrap_i64];omega
  have wk0:IntKind.i64.wrap (k0:Int)=(k0:Int):=by rw[IntKind.wrap_i64];omega
  have bk1:(k1:Int)<(N:Int):=by omega
  have bk0:(k0:Int)<(N:Int):=by omega
  obtain⟨q,hq⟩:∃q,q+1=t:=⟨t-1,by omega⟩;have hsw:=swps_left P A S y q (by omega);rw[show P.length+q=k1 by omega,hk1,hq]at hsw;have hrl:(P++(A.take t++y::(A.drop t++S))).length=N:=by simp;omega
  have gx:(P++(A.take t++y::(A.drop t++S)))[k0]?=some y:=by
   rw[List.getElem?_append_right (by omega),List.getElem?_append_right (by rw[List.length_take];omega),List.length_take,show k0-P.length-min t A.length=0 by omega];rfl
  obtain⟨z0,hz0⟩:∃z,(P++(A.take t++y::(A.drop t++S)))[k1]?=some z:=⟨_,List.getElem?_eq_getElem (by omega)⟩;have HE:=zH ((swp_eq gx hz0).symm.trans hsw);have Hy:=zH gx;have Hz0:=zH hz0;have HLk0:=zH (List.getElem?_eq_some_iff.1 gx).1;have HLk1:=zH (List.getElem?_eq_some_iff.1 hz0).1;have HST:=zH hst;generalize P++(A.take t++y::(A.drop t++S))=row at*
  have HK:=zH (And.intro hk0 (And.intro hk1 hq));clear gx hz0 hsw hst hF hI hk0 hk1 hq;go_upto_region 23 with fail
  refine wp_region_held_drew (S:=fun x=>Own g wr x) (by kernel_rfl) (Own.refl _ _).drew (fun _=> ?_);refine zv 0 (bs 18 1) (Own.refl _ _).drew ?_;refine zv 1 (bs 18 3) (Own.refl _ _).drew ?_;refine zv 2 (bs 18 7) (Own.refl _ _).drew ?_;refine zv 3 (bs 18 15) (Own.refl _ _).drew ?_;refine zv 4 (bs 18 31) (Own.refl _ _).drew ?_;refine zv 5 (bs 18 63) (Own.refl _ _).drew ?_;refine zv 6 (bs 18 127) (Own.refl _ _).drew ?_;refine zv 7 (bs 18 255) (Own.refl _ _).drew ?_;refine zv 8 (bs 18 511) (Own.refl _ _).drew ?_;refine zv 10 (bs 18 1535) (Own.refl _ _).drew ?_;refine zv 11 (bs 18 3583) (Own.refl _ _).drew ?_;refine zv 12 (bs 18 7679) (Own.refl _ _).drew ?_;refine md_loads2 (i:=9) (j:=13) (li:=(bs 18 8191)) (lj:=(bs 18 15871)) (listed':=(bs 18 16383)) (by rfl) (by rfl) (by kernel_rfl) (by kernel_rfl) (by kernel_rfl) (by kernel_rfl) (by kernel_rfl) (by kernel_rfl) (by kernel_rfl) 98 _ _ (by rfl) (by rfl) (by rfl) (by rfl) g (k1*5) (k0*5) (enc z0) (enc y) _ Tryz.underlying98 (by rfl) (by rfl) (by rfl) (by rfl) (by rfl) (HST.out.ext (Ext.refl _).drew |>.read Hz0.out hk) (HST.out.ext (Ext.refl _).drew |>.read Hy.out hk) (by rw[hk];kernel_rfl) (by rw[hk];kernel_rfl) (Own.refl _ _).drew (by rfl) ?_;try simp only[Act.put,zA,zB,zC]
  refine zv 14 (bs 18 32767) (Own.refl _ _).drew ?_;have s1_:=(HST.out.ext (Ext.refl _).drew).put (i:=k0) HLk0.out hk z0;have s2_:=s1_.put (i:=k1) (by rw[List.length_set];exact HLk1.out) hk y;refine md_rstore (i:=15) (listed':=(bs 18 65535)) (by rfl) (by kernel_rfl) (by rfl) 98 _ _ (by rfl) g (k0*5) (enc z0) (by rfl) (by rfl) (by rw[hk];exact(HST.out.ext (Ext.refl _).drew).there HLk0.out hk) (by rw[hk];kernel_rfl) (h1 z0) (Own.setCells_l _ _ (Own.refl _ _).drew) (by kernel_rfl) ?_
  (try simp only[Act.put])
  refine zv 16 (bs 18 131071) (Own.setCells_l _ _ (Own.refl _ _).drew) ?_;refine md_rstore (i:=17) (listed':=(bs 18 262143)) (by rfl) (by kernel_rfl) (by rfl) 98 _ _ (by rfl) g (k1*5) (enc y) (by rfl) (by rfl) (by rw[hk];exact s1_.there (by rw[List.length_set];exact HLk1.out) hk) (by rw[hk];kernel_rfl) (h1 y) (Own.setCells_l _ _ (Own.setCells_l _ _ (Own.refl _ _).drew)) (by kernel_rfl) ?_
  (try simp only[Act.put])
  refine wpAnyH_done (by kernel_rfl) ?_ _;have HS2:=zH s2_;clear s1_ s2_;generalize (World.setCells _ g (k1*5) (enc y))=w3 at*
  go_wp2_with fail
  go_roundg (q-s)
  case measure=>have:=HK.out;omega
  case rel=>exact⟨q,k1,by have:=HK.out;omega,by have:=HK.out;omega,rfl,by have:=HK.out;omega,rfl,by rw[<-HE.out];exact HS2.out⟩
 obtain rfl:t=s:=by omega
 have HR:=zH (show Sw w0 wr g T enc rest (P++(Stb.mrg lt A [y]++S))by rw[HM.out];simpa using hst);have hki:¬(i:Int)<(k0:Int):=by have:=HI.out;omega
 clear hst;go_wp2_with fail
 refine bodyPost_ret (results_none rfl _ _ _) rfl ?_;exact⟨rfl,HR.out⟩
theorem symC_any {α:Type}(enc:α->List Value)(hk:∀x,(enc x).length=5)(h1:∀x,∀v,v∈enc x->v.oneCell'=true)(lt:α->α->Bool)(W:Stb.Wk lt)(w0 w:World)(g cap a m b N:Nat)(T:TypeId)(rest:List Value)(P A B S:List α)(hc:(∀wr,Own g w0 wr->∀x y:α,Calls Tryz.prog 111 #[.agg (enc x).toArray,.agg (enc y).toArray] wr fun e w'=>∃z:Int,e= .returned (.int .i64 z)/\(z<0↔lt x y=true)/\Ext wr w'))(ih:(∀(P' A' B' S':List α) (a m b:Nat) (wr:World),A'≠ []->B'≠ []->A'.length+B'.length<A.length+B.length->Sw w0 wr g T enc rest (P'++(A'++(B'++S')))->P'.length=a->a+A'.length=m->m+B'.length=b->Stb.Srt lt A'->Stb.Srt lt B'->(P'++(A'++(B'++S'))).length=N->Calls Tryz.prog 179 #[.slice (some ⟨g,0,none⟩) N cap,.int .i64 a,.int .i64 m,.int .i64 b,.func (.func 111) #[] #[]] wr fun e w'=>e= .returned (.tuple #[])/\Sw w0 w' g T enc rest (P'++(Stb.mrg lt A' B'++S'))))(hst:Sw w0 w g T enc rest (P++(A++(B++S))))(ha:P.length=a)(hm:a+A.length=m)(hb:m+B.length=b)(hA0:A≠ [])(hB0:B≠ [])(hA1:A.length≠1)(hB1:B.length≠1)(hA:Stb.Srt lt A)(hB:Stb.Srt lt B)(hN:(P++(A++(B++S))).length=N)(hsz:N<=100000):
  Calls Tryz.prog 179 #[.slice (some ⟨g,0,none⟩) N cap,.int .i64 a,.int .i64 m,.int .i64 b,.func (.func 111) #[] #[]] w fun e w'=>e= .returned (.tuple #[])/\Sw w0 w' g T enc rest (P++(Stb.mrg lt A B++S)):=by
 have hlen:P.length+(A.length+(B.length+S.length))=N:=by rw[<-hN];simp
 have hAl:2<=A.length:=by have:A.length≠0:=fun h=>hA0 (List.eq_nil_of_length_eq_zero h);omega
 have hBl:2<=B.length:=by have:B.length≠0:=fun h=>hB0 (List.eq_nil_of_length_eq_zero h);omega
 have e0:(m:Int)-(a:Int)=(A.length:Int):=by omega
 have e1:(b:Int)-(m:Int)=(B.length:Int):=by omega
 have e0b:((A.length:Int)==1)=false:=by simp;omega
 have e1b:((B.length:Int)==1)=false:=by simp;omega
 have wA:IntKind.i64.wrap (A.length:Int)=(A.length:Int):=by rw[IntKind.wrap_i64];omega
 have wB:IntKind.i64.wrap (B.length:Int)=(B.length:Int):=by rw[IntKind.wrap_i64];omega
 have b1:a<=100000:=by omega
 have b2:m<=100000:=by omega
 have b3:b<=100000:=by omega
 obtain⟨ss,hss⟩:∃ss,ss=a+b:=⟨_,rfl⟩;obtain⟨mid,hmid⟩:∃mid,mid=ss/2:=⟨_,rfl⟩;obtain⟨M,hM⟩:∃M,a+M=mid:=⟨mid-a,by omega⟩;obtain⟨n,hn⟩:∃n,n=mid+m:=⟨_,rfl⟩;obtain⟨p,hp⟩:∃p,p+1=n:=⟨n-1,by omega⟩;have e3:(a:Int)+(b:Int)=(ss:Int):=by omega
 have wu:IntKind.u64.wrap (ss:Int)=(ss:Int):=by rw[IntKind.wrap_u64];omega
 have ws:IntKind.i64.wrap (ss:Int)=(ss:Int):=by rw[IntKind.wrap_i64];omega
 have wh:IntKind.i64.wrap (mid:Int)=(mid:Int):=by rw[IntKind.wrap_i64];omega
 have wuh:IntKind.u64.wrap (mid:Int)=(mid:Int):=by rw[IntKind.wrap_u64];omega
 have e2:(ss:Int)/2=(mid:Int):=by omega
 have e4:(mid:Int)+(m:Int)=(n:Int):=by omega
 have wn:IntKind.i64.wrap (n:Int)=(n:Int):=by rw[IntKind.wrap_i64];omega
 have e5:(n:Int)-1=(p:Int):=by omega
 have wp:IntKind.i64.wrap (p:Int)=(p:Int):=by rw[IntKind.wrap_i64];omega
 have HC:=zH hc;have HIH:=zH ih;have HST0:=zH hst;have HF:=zH (show SymF P.length A.length B.length S.length a m b N ss mid M n p from⟨ha,hm,hb,hlen,hAl,hBl,hss,hmid,hM,hn,hp⟩);have HN:=zH hN;have HS:=zH (And.intro hA hB);clear hst hc ih ha hm hb hN hlen hA hB hA0 hB0 hA1 hB1 hAl hBl hss hmid hM hn hp;go_enter Tryz.func179,Tryz.ntmps179
 go_upto_if 140 with fail
 go_cut [20,21] (fun u v wx=>∃lo hi st r0:Nat,st=a+lo/\r0=a+hi/\u= .int .i64 st/\v= .int .i64 r0/\lo<=hi/\hi<=A.length/\hi<=M/\M<=lo+B.length/\(lo=0\/lo+B.length<=M)/\(A.length<=hi\/M<=hi)/\wx=w)
 case first=>as_aux_lemma=>
  by_cases hmm:mid<m
  ·have h2:(mid:Int)<(m:Int):=by omega
   obtain⟨st,lo,k0,k9,k⟩:=sym_ar0 hsz HF.out hmm;have e6:(n:Int)-(b:Int)=(st:Int):=by omega
   have wst:IntKind.i64.wrap (st:Int)=(st:Int):=by rw[IntKind.wrap_i64];omega
   have HK:=zH k;clear k k0 hmm;go_wp2_with fail
   go_meet
   obtain⟨k1,k2,k3,k4,k5⟩:=HK.out;exact⟨lo,M,st,mid,k1,k3,rfl,rfl,k4,k5,Nat.le_refl _,Nat.le_of_eq k2.symm,Or.inr (Nat.le_of_eq k2),Or.inr (Nat.le_refl _),rfl⟩
  have h2:¬(mid:Int)<(m:Int):=by omega
  have HK:=zH (sym_ar1 HF.out hmm);clear hmm;go_wp2_with fail
  go_meet
  obtain⟨k1,k2,k3⟩:=HK.out;exact⟨0,A.length,a,m,rfl,k3,rfl,rfl,Nat.zero_le _,Nat.le_refl _,k1,by rw[Nat.zero_add];exact k2,Or.inl rfl,Or.inl (Nat.le_refl _),rfl⟩
 obtain⟨lo,hi,st,r0,hst,hr0,rfl,rfl,g1,g2,g3,g4,g5,g6,rfl⟩:=hcut;have HG:=zH (show SymG A.length B.length a M lo hi st r0 from⟨hst,hr0,g1,g2,g3,g4⟩);have HGO:=zH (And.intro g5 g6);clear hst hr0 g1 g2 g3 g4 g5 g6;go_wp2_with fail
 go_loopg [20,21] (hi-lo) (fun c u v wr=>∃s e i j:Nat,lo<=s/\s<=e/\e<=hi/\c=e-s/\i=a+s/\j=a+e/\u= .int .i64 i/\v= .int .i64 j/\(s=lo\/∃x y,A[s-1]?=some x/\B[M-s]?=some y/\lt y x=false)/\(e=hi\/∃x y,A[e]?=some x/\B[M-e-1]?=some y/\lt y x=true)/\Sw w0 wr g T enc rest (P++(A++(B++S))))
 case atStart=>exact⟨lo,hi,st,r0,Nat.le_refl _,HG.out.2.2.1,Nat.le_refl _,rfl,HG.out.1,HG.out.2.1,rfl,rfl,Or.inl rfl,Or.inl rfl,HST0.out⟩
 case round=>as_aux_lemma=>
  clear HST0;obtain⟨s,e,i,j,hls,hse,heh,rfl,hi_,hj_,rfl,rfl,h1s,h2e,hst⟩:=hrel;have HST:=zH hst;have HI:=zH (And.intro hi_ (And.intro hj_ (And.intro hls heh)));have H1:=zH h1s;have H2:=zH h2e;clear hst h1s h2e;by_cases hlt0:s<e
  ·obtain⟨sq,h,c,ph,⟨k1,k2,k3,k4,k5,k6,k7,k8,k9⟩,hcc,q1,q2,q3,q4⟩:=sym_ar hsz HF.out HG.out hls heh hi_ hj_ hlt0
   have hij:(i:Int)<(j:Int):=by omega
   have f3:(i:Int)+(j:Int)=(sq:Int):=by omega
   have fu:IntKind.u64.wrap (sq:Int)=(sq:Int):=by rw[IntKind.wrap_u64];omega
   have fs:IntKind.i64.wrap (sq:Int)=(sq:Int):=by rw[IntKind.wrap_i64];omega
   have fh:IntKind.i64.wrap (h:Int)=(h:Int):=by rw[IntKind.wrap_i64];omega
   have fuh:IntKind.u64.wrap (h:Int)=(h:Int):=by rw[IntKind.wrap_u64];omega
   have f2:(sq:Int)/2=(h:Int):=by omega
   have f4:(p:Int)-(h:Int)=(ph:Int):=by omega
   have fp:IntKind.i64.wrap (ph:Int)=(ph:Int):=by rw[IntKind.wrap_i64];omega
   have bh:(h:Int)<(N:Int):=by omega
   have bp:(ph:Int)<(N:Int):=by omega
   have bi:i<=100000:=k8;obtain⟨x0,hx0⟩:∃z,A[c]?=some z:=⟨_,List.getElem?_eq_getElem q1⟩;obtain⟨y0,hy0⟩:∃z,B[M-c-1]?=some z:=⟨_,List.getElem?_eq_getElem q2⟩;have Hx0:=zH (show(P++(A++(B++S)))[h]?=some x0 by
    have q:=get_mid P A (B++S) c q1;rw[q3,hx0]at q;exact q)
   have Hy0:=zH (show(P++(A++(B++S)))[ph]?=some y0 by
    have q:=get_mid (P++A) B S (M-c-1) q2;rw[List.length_append,q4,hy0]at q;simpa using q)
   have HXA:=zH hx0;have HYB:=zH hy0;have HH:=zH hcc;clear hx0 hy0 hcc hi_ hj_ k1 k2 k3 k4 q1 q2 q3 q4;generalize hrow:P++(A++(B++S))=row at*
   clear hrow;go_upto_region 35 with fail
   refine wp_region_held_drew (S:=fun x=>Ext wr x) (by kernel_rfl) (Ext.refl _).drew (fun _=> ?_);refine zv 0 (bs 14 1) (Ext.refl _).drew ?_;refine zv 1 (bs 14 3) (Ext.refl _).drew ?_;refine zv 2 (bs 14 7) (Ext.refl _).drew ?_;refine zv 3 (bs 14 15) (Ext.refl _).drew ?_;refine zv 4 (bs 14 31) (Ext.refl _).drew ?_;refine zv 5 (bs 14 63) (Ext.refl _).drew ?_;refine md_range (i:=6) (listed':=(bs 14 127)) (by rfl) (by kernel_rfl) (by kernel_rfl) (by kernel_rfl) _ _ (by rfl) g (ph*5) (enc y0) _ (by intro _ _ _ h;exact h) (by rfl) (by rfl) (fun w1 hw1=>(HST.out.ext hw1).read Hy0.out hk) Tryz.underlying98 (by rfl) (by rw[hk];kernel_rfl) (Ext.refl _).drew (by kernel_rfl) ?_;try simp only[Act.put,zA,zB,zC]
   refine zv 7 (bs 14 255) (Ext.refl _).drew ?_;refine zv 8 (bs 14 511) (Ext.refl _).drew ?_;refine zv 9 (bs 14 1023) (Ext.refl _).drew ?_;refine md_range (i:=10) (listed':=(bs 14 2047)) (by rfl) (by kernel_rfl) (by kernel_rfl) (by kernel_rfl) _ _ (by rfl) g (h*5) (enc x0) _ (by intro _ _ _ h;exact h) (by rfl) (by rfl) (fun w1 hw1=>(HST.out.ext hw1).read Hx0.out hk) Tryz.underlying98 (by rfl) (by rw[hk];kernel_rfl) (Ext.refl _).drew (by kernel_rfl) ?_;try simp only[Act.put,zA,zB,zC]
   refine mC 11 (bs 14 4095) (HC.out _ ((HST.out.ext (Ext.refl _).drew).own) y0 x0) ?_;rintro e w2 ⟨z,rfl,hz,hx2⟩;have HX2:=zH (show Ext wr w2 from(Ext.refl _).drew.trans hx2);clear hx2;refine⟨_,rfl,HX2.out,?_⟩;try simp only[Act.put,zA,zB,zC]
   by_cases hlt:lt y0 x0=true
   ·as_aux_lemma=>
    have HLT:=zH hlt;have hz2:z<0:=hz.2 hlt;have hz3:decide (z<0)=true:=by simpa using hz2
    clear hz;refine zv 12 (bs 14 8191) HX2.out ?_;refine zv 13 (bs 14 16383) HX2.out ?_;refine wpAnyH_done (by kernel_rfl) ?_ _;clear hlt hz2 hz3;have HST:=zH (HST.out.ext HX2.out);go_wp2_with fail
    go_roundg (c-s)
    case measure=>have:=HH.out;omega
    case rel=>exact⟨s,c,i,h,hls,by have:=HH.out;omega,by have:=HH.out;omega,rfl,HI.out.1,by have:=HH.out;omega,rfl,rfl,H1.out,Or.inr ⟨x0,y0,HXA.out,HYB.out,HLT.out⟩,HST.out⟩
   as_aux_lemma=>
   have HLT:=zH (eq_false_of_ne_true hlt);have hz2:¬z<0:=fun h=>hlt (hz.1 h)
   have hz3:decide (z<0)=false:=by simpa using hz2
   clear hz;refine zv 12 (bs 14 8191) HX2.out ?_;refine zv 13 (bs 14 16383) HX2.out ?_;refine wpAnyH_done (by kernel_rfl) ?_ _;clear hlt hz2 hz3;have HST:=zH (HST.out.ext HX2.out);go_wp2_with fail
   go_roundg (e-(c+1))
   case measure=>have:=HH.out;omega
   case rel=>exact⟨c+1,e,h+1,j,by have:=HH.out;omega,by have:=HH.out;omega,heh,rfl,by have:=HH.out;omega,HI.out.2.1,by go_num,rfl,Or.inr ⟨x0,y0,HXA.out,by rw[show M-(c+1)=M-c-1 by omega];exact HYB.out,HLT.out⟩,H2.out,HST.out⟩
  as_aux_lemma=>
  obtain rfl:s=e:=by omega
  have hij:¬(i:Int)<(j:Int):=by omega
  obtain⟨r,en,⟨k1,k2,k3,k4,k5⟩,klen,kiff,keq,klt1,klt2⟩:=sym_ar2 hsz HF.out HG.out hls heh hi_;have HM:=zH (Stb.sym_split (lt:=lt) (s:=s) (r:=r) W HS.out.1 HS.out.2 (by
   rcases H1.out with h|⟨x,y,q1,q2,q3⟩
   ·rcases HGO.out.1 with q|q
    ·exact Or.inl (by omega)
    exact Or.inr (Or.inl (by omega))
   ·exact Or.inr (Or.inr ⟨x,y,q1,by rw[show r=M-s by omega];exact q2,q3⟩)) (by
   rcases H2.out with h|⟨x,y,q1,q2,q3⟩
   ·rcases HGO.out.2 with q|q
    ·exact Or.inr (Or.inl (by omega))
    exact Or.inl (by omega)
   exact Or.inr (Or.inr ⟨x,y,q1,by rw[show r-1=M-s-1 by omega];exact q2,q3⟩)))
  have e6:(n:Int)-(i:Int)=(en:Int):=by omega
  have wen:IntKind.i64.wrap (en:Int)=(en:Int):=by rw[IntKind.wrap_i64];omega
  have hAs:A.take s++A.drop s=A:=List.take_append_drop s A;have hBs:B.take r++B.drop r=B:=List.take_append_drop r B;have la1:(A.take s).length=s:=by rw[List.length_take];exact Nat.min_eq_left k4
  have la2:(A.drop s).length=A.length-s:=List.length_drop;have lb1:(B.take r).length=r:=by rw[List.length_take];exact Nat.min_eq_left k3
  have lb2:(B.drop r).length=B.length-r:=List.length_drop;have HLL:=zH (And.intro la1 (And.intro la2 (And.intro lb1 lb2)));have HKL:=zH klen;have HKI:=zH kiff;have HKE:=zH keq;have HLT:=zH (And.intro klt1 klt2);have HST2:=zH (show Sw w0 wr g T enc rest ((P++A.take s)++(A.drop s++(B.take r++(B.drop r++S))))by
   have h:=HST.out;rw[<-hAs,<-hBs]at h;simpa only[List.append_assoc]using h)
  have HN2:=zH (show((P++A.take s)++(A.drop s++(B.take r++(B.drop r++S)))).length=N by simp only[List.length_append,la1,la2,lb1,lb2];omega);have HSA:=zH (And.intro (Stb.srt_take HS.out.1 s) (And.intro (Stb.srt_drop HS.out.1 s) (And.intro (Stb.srt_take HS.out.2 r) (Stb.srt_drop HS.out.2 r))));have HE1:=zH (Stb.mrg_take_nil (lt:=lt) (A:=A) (B:=B) (s:=s) (r:=r));have HE2:=zH (Stb.mrg_drop_nil (lt:=lt) (A:=A) (B:=B) (s:=s) (r:=r));clear HST hi_ hj_ hAs hBs la1 la2 lb1 lb2 H1 H2 klen kiff keq klt1 klt2 k1 k2 k3 k4 hls heh hse;generalize A.take s=A1 at*
  generalize A.drop s=A2 at*
  generalize B.take r=B1 at*
  generalize B.drop r=B2 at*
  go_upto_region 39 with fail
  go_cut [185] (fun u wx=>u= .bool (decide (s<A.length/\0<r))/\wx=wr)
  case first=>as_aux_lemma=>
   by_cases c:s<A.length
   ·have c2:(i:Int)<(m:Int):=Int.ofNat_lt.2 (HKI.out.1.2 c)
    by_cases d:0<r
    ·have c3:(m:Int)<(en:Int):=Int.ofNat_lt.2 (HKI.out.2.1.2 d)
     go_wp2_with fail
     go_meet
     exact⟨by simp[c,d],rfl⟩
    have c3:¬(m:Int)<(en:Int):=fun h=>d (HKI.out.2.1.1 (Int.ofNat_lt.1 h))
    go_wp2_with fail
    go_meet
    exact⟨by simp[d],rfl⟩
   have c2:¬(i:Int)<(m:Int):=fun h=>c (HKI.out.1.1 (Int.ofNat_lt.1 h))
   have c4:decide ((i:Int)<(m:Int))=false:=decide_eq_false c2;go_wp2_with fail
   go_meet
   exact⟨by simp[c],rfl⟩
  obtain⟨rfl,rfl⟩:=hcut;go_upto_if 185 with fail
  go_cut [] (fun wx=>Sw w0 wx g T enc rest (P++(A1++(B1++(A2++(B2++S))))))
  case first=>as_aux_lemma=>
   by_cases c1:s<A.length/\0<r
   ·have cb:decide (s<A.length/\0<r)=true:=decide_eq_true c1
    have HR:=zH (rotate_any enc hk h1 w0 wc g cap i m en N T rest (P++A1) A2 B1 (B2++S) (.func (.func 111) #[] #[]) HST2.out (by rw[List.length_append,HLL.out.1];exact HKE.out.1) (by rw[HLL.out.2.1];exact HKE.out.2.1) (by rw[HLL.out.2.2.1];exact HKE.out.2.2.1) (ne_of_len (by rw[HLL.out.2.1];omega)) (ne_of_len (by rw[HLL.out.2.2.1];exact c1.2)) HN2.out hsz);generalize decide (s<A.length/\0<r)=bb at*
    subst cb;go_wp2_with (go_at_call 196;refine HR.out.mono ?_;rintro e w2 ⟨rfl,hs2⟩)
    go_meet
    simpa only[List.append_assoc]using hs2
   have cb:decide (s<A.length/\0<r)=false:=decide_eq_false c1;have HE:=zH (show(P++A1)++(A2++(B1++(B2++S)))=P++(A1++(B1++(A2++(B2++S))))by
    by_cases c:s<A.length
    ·have:B1=[]:=List.eq_nil_of_length_eq_zero (by rw[HLL.out.2.2.1];omega)
     rw[this];simp
    have:A2=[]:=List.eq_nil_of_length_eq_zero (by rw[HLL.out.2.1];omega);rw[this];simp)
   generalize decide (s<A.length/\0<r)=bb at*
   subst cb;go_wp2_with fail
   go_meet
   rw[<-HE.out];exact HST2.out
  have HST3:=zH hcut;clear hcut HST2;go_upto_region 41 with fail
  go_cut [199] (fun u wx=>u= .bool (decide (0<s/\0<r))/\wx=wc)
  case first=>as_aux_lemma=>
   by_cases c:0<s
   ·have c2:(a:Int)<(i:Int):=Int.ofNat_lt.2 (HKI.out.2.2.1.2 c)
    by_cases d:0<r
    ·have c3:(i:Int)<(mid:Int):=Int.ofNat_lt.2 (HKI.out.2.2.2.1.2 d)
     go_wp2_with fail
     go_meet
     exact⟨by simp[c,d],rfl⟩
    have c3:¬(i:Int)<(mid:Int):=fun h=>d (HKI.out.2.2.2.1.1 (Int.ofNat_lt.1 h))
    go_wp2_with fail
    go_meet
    exact⟨by simp[d],rfl⟩
   have c2:¬(a:Int)<(i:Int):=fun h=>c (HKI.out.2.2.1.1 (Int.ofNat_lt.1 h))
   have c4:decide ((a:Int)<(i:Int))=false:=decide_eq_false c2;go_wp2_with fail
   go_meet
   exact⟨by simp[c],rfl⟩
  obtain⟨rfl,rfl⟩:=hcut;go_upto_if 199 with fail
  go_cut [] (fun wx=>Sw w0 wx g T enc rest (P++(Stb.mrg lt A1 B1++(A2++(B2++S)))))
  case first=>as_aux_lemma=>
   by_cases c1:0<s/\0<r
   ·have cb:decide (0<s/\0<r)=true:=decide_eq_true c1
    have HR:=zH (HIH.out P A1 B1 (A2++(B2++S)) a i mid wc (ne_of_len (by rw[HLL.out.1];exact c1.1)) (ne_of_len (by rw[HLL.out.2.2.1];exact c1.2)) (by rw[HLL.out.1,HLL.out.2.2.1];exact HLT.out.1) HST3.out HKE.out.2.2.2.2.2.2.2.2 (by rw[HLL.out.1];exact HKE.out.2.2.2.1) (by rw[HLL.out.2.2.1];exact HKE.out.2.2.2.2.1) HSA.out.1 HSA.out.2.2.1 (by simp only[List.length_append,HLL.out.1,HLL.out.2.1,HLL.out.2.2.1,HLL.out.2.2.2];exact HKL.out));generalize decide (0<s/\0<r)=bb at*
    subst cb;go_wp2_with (go_at_call 179;refine HR.out.mono ?_;rintro e w2 ⟨rfl,hs2⟩)
    go_meet
    exact hs2
   have cb:decide (0<s/\0<r)=false:=decide_eq_false c1;have HE:=zH (HE1.out c1);generalize decide (0<s/\0<r)=bb at*
   subst cb;go_wp2_with fail
   go_meet
   rw[HE.out];have h:=HST3.out;simpa only[List.append_assoc]using h
  have HST4:=zH hcut;clear hcut HST3;have HLM:=zH (Stb.mrg_len (lt:=lt) A1 B1);have HR0:=zH (show P++(Stb.mrg lt A1 B1++(Stb.mrg lt A2 B2++S))=P++(Stb.mrg lt A B++S)by rw[HM.out,List.append_assoc]);go_upto_region 43 with fail
  go_cut [213] (fun u wx=>u= .bool (decide (s<A.length/\r<B.length))/\wx=wc)
  case first=>as_aux_lemma=>
   by_cases c:s<A.length
   ·have c2:(mid:Int)<(en:Int):=Int.ofNat_lt.2 (HKI.out.2.2.2.2.1.2 c)
    by_cases d:r<B.length
    ·have c3:(en:Int)<(b:Int):=Int.ofNat_lt.2 (HKI.out.2.2.2.2.2.2 d)
     go_wp2_with fail
     go_meet
     exact⟨by simp[c,d],rfl⟩
    have c3:¬(en:Int)<(b:Int):=fun h=>d (HKI.out.2.2.2.2.2.1 (Int.ofNat_lt.1 h))
    go_wp2_with fail
    go_meet
    exact⟨by simp[d],rfl⟩
   have c2:¬(mid:Int)<(en:Int):=fun h=>c (HKI.out.2.2.2.2.1.1 (Int.ofNat_lt.1 h))
   have c4:decide ((mid:Int)<(en:Int))=false:=decide_eq_false c2;go_wp2_with fail
   go_meet
   exact⟨by simp[c],rfl⟩
  obtain⟨rfl,rfl⟩:=hcut;by_cases c1:s<A.length/\r<B.length
  ·have cb:decide (s<A.length/\r<B.length)=true:=decide_eq_true c1
   have HR:=zH (HIH.out (P++Stb.mrg lt A1 B1) A2 B2 S mid en b wc (ne_of_len (by rw[HLL.out.2.1];omega)) (ne_of_len (by rw[HLL.out.2.2.2];omega)) (by rw[HLL.out.2.1,HLL.out.2.2.2];exact HLT.out.2) (by rw[List.append_assoc];exact HST4.out) (by rw[List.length_append,HLM.out,HLL.out.1,HLL.out.2.2.1];exact HKE.out.2.2.2.2.2.2.2.1) (by rw[HLL.out.2.1];exact HKE.out.2.2.2.2.2.1) (by rw[HLL.out.2.2.2];exact HKE.out.2.2.2.2.2.2.1) HSA.out.2.1 HSA.out.2.2.2 (by have h:=HKL.out;simp only[List.length_append,HLM.out,HLL.out.1,HLL.out.2.1,HLL.out.2.2.1,HLL.out.2.2.2];omega));generalize decide (s<A.length/\r<B.length)=bb at*
   subst cb;go_wp2_with (go_at_call 179;refine HR.out.mono ?_;rintro e w2 ⟨rfl,hs2⟩)
   go_end0
   exact⟨rfl,by rw[<-HR0.out,<-List.append_assoc P];exact hs2⟩
  have cb:decide (s<A.length/\r<B.length)=false:=decide_eq_false c1;have HE:=zH (HE2.out c1);generalize decide (s<A.length/\r<B.length)=bb at*
  subst cb;go_wp2_with fail
  go_end0
  exact⟨rfl,by rw[<-HR0.out,HE.out,List.append_assoc];exact HST4.out⟩
theorem symMerge_any {α:Type}(enc:α->List Value)(hk:∀x,(enc x).length=5)(h1:∀x,∀v,v∈enc x->v.oneCell'=true)(lt:α->α->Bool)(W:Stb.Wk lt)(w0:World)(g cap N:Nat)(T:TypeId)(rest:List Value)(hc:(∀wr,Own g w0 wr->∀x y:α,Calls Tryz.prog 111 #[.agg (enc x).toArray,.agg (enc y).toArray] wr fun e w'=>∃z:Int,e= .returned (.int .i64 z)/\(z<0↔lt x y=true)/\Ext wr w'))(hsz:N<=100000):
  ∀(n:Nat) (P A B S:List α) (a m b:Nat) (wr:World),A≠ []->B≠ []->A.length+B.length<=n->Sw w0 wr g T enc rest (P++(A++(B++S)))->P.length=a->a+A.length=m->m+B.length=b->Stb.Srt lt A->Stb.Srt lt B->(P++(A++(B++S))).length=N->Calls Tryz.prog 179 #[.slice (some ⟨g,0,none⟩) N cap,.int .i64 a,.int .i64 m,.int .i64 b,.func (.func 111) #[] #[]] wr fun e w'=>e= .returned (.tuple #[])/\Sw w0 w' g T enc rest (P++(Stb.mrg lt A B++S)):=by
 intro n;induction n with
 |zero=>intro P A B S a m b wr hA hB hl;exact absurd (List.eq_nil_of_length_eq_zero (by omega)) hA
 |succ n ih=>
  intro P A B S a m b wr hA0 hB0 hl hst ha hm hb hA hB hN;match A,hA0 with
  | [x],_=>exact symA_any enc hk h1 lt W w0 wr g cap a m b N T rest P B S x hc hst ha hm hb hB hN hsz
  |x::x2::A,hA0=>
   match B,hB0 with
   | [y],_=>exact symB_any enc hk h1 lt W w0 wr g cap a m b N T rest P (x::x2::A) S y hc hst ha hm hb (by simp) hA hN hsz
   |y::y2::B,hB0=>
    exact symC_any enc hk h1 lt W w0 wr g cap a m b N T rest P (x::x2::A) (y::y2::B) S hc (fun P' A' B' S' a' m' b' w' q1 q2 q3 q4 q5 q6 q7 q8 q9 q10=>ih P' A' B' S' a' m' b' w' q1 q2 (by omega) q4 q5 q6 q7 q8 q9 q10) hst ha hm hb hA0 hB0 (by simp) (by simp) hA hB hN hsz
theorem stable_any {α:Type}(enc:α->List Value)(hk:∀x,(enc x).length=5)(h1:∀x,∀v,v∈enc x->v.oneCell'=true)(lt:α->α->Bool)(W:Stb.Wk lt)(w0 w:World)(g cap N:Nat)(T:TypeId)(rest:List Value)(xs:List α)(hc:(∀wr,Own g w0 wr->∀x y:α,Calls Tryz.prog 111 #[.agg (enc x).toArray,.agg (enc y).toArray] wr fun e w'=>∃z:Int,e= .returned (.int .i64 z)/\(z<0↔lt x y=true)/\Ext wr w'))(hst:Sw w0 w g T enc rest xs)(hN:xs.length=N)(hsz:N<=20000):
  Calls Tryz.prog 150 #[.slice (some ⟨g,0,none⟩) N cap,.int .i64 N,.func (.func 111) #[] #[]] w fun e w'=>e= .returned (.tuple #[])/\Sw w0 w' g T enc rest (Stb.stab lt xs):=by
 have HC:=zH hc;have HST0:=zH hst;have HN:=zH hN;clear hst hc hN;go_enter Tryz.func150,Tryz.ntmps150
 go_wp2_with fail
 go_loopg [7,8] (N+20) (fun c u v wr=>∃(a b:Nat) (row:List α),b=a+20/\a<=N/\c=N+20-a/\u= .int .i64 a/\v= .int .i64 b/\Stb.Fst lt 20 a xs row/\Sw w0 wr g T enc rest row)
 case atStart=>exact⟨0,20,xs,rfl,Nat.zero_le _,rfl,rfl,rfl,Stb.Fst.start 20 xs,HST0.out⟩
 clear HST0;obtain⟨a,b,row,hb,haN,rfl,rfl,rfl,hf,hst⟩:=hrel;have HST:=zH hst;have HF:=zH hf;clear hst hf;by_cases hlt:b<=N
 ·have hlt2:(b:Int)<=(N:Int):=by omega
  obtain⟨P,X,S,rfl,hP,hX,hF2⟩:=HF.out.cut (by rw[HN.out];omega);have hlen:=HF.out.len;have HB:=zH (insertion_any enc hk h1 lt W w0 wr g cap a b N T rest P X S HC.out HST.out hP (by omega) (by rw[hlen,HN.out]) (by omega));have HF2:=zH hF2;clear hP hX hF2 hlen HST;obtain⟨b2,hb2⟩:∃b2,b2=b+20:=⟨_,rfl⟩;have e1:(b:Int)+20=(b2:Int):=by omega
  have wb:IntKind.i64.wrap (b2:Int)=(b2:Int):=by rw[IntKind.wrap_i64];omega
  have HB2:=zH (And.intro hb hb2);clear hb hb2;go_wp2_with (go_at_call 178;refine HB.out.mono ?_;rintro e w2 ⟨rfl,hs2⟩)
  go_roundg (N+20-b)
  case measure=>have:=HB2.out;omega
  case rel=>exact⟨b,b2,_,HB2.out.2,hlt,rfl,rfl,rfl,by rw[HB2.out.1];exact HF2.out,hs2⟩
 have hlt2:¬(b:Int)<=(N:Int):=by omega
 obtain⟨P,X,rfl,hP,hX,hF2⟩:=HF.out.last (by rw[HN.out];omega);have hlen:=HF.out.len;have HB:=zH (insertion_any enc hk h1 lt W w0 wr g cap a N N T rest P X [] HC.out HST.out hP (by rw[hX,HN.out]) (by rw[hlen,HN.out]) (by omega));have HF2:=zH hF2;clear hP hX hF2 hlen HST hb;go_wp2_with (go_at_call 178;refine HB.out.mono ?_;rintro e w2 ⟨rfl,hs2⟩)
 have HS2:=zH hs2;clear hs2 HB HF;go_loopg [6] (2*N) (fun c v wr=>∃(s:Nat) (row:List α),20<=s/\s<=2*N+20/\c=2*N+20-s/\v= .int .i64 s/\Stb.Blks lt s xs row/\Sw w0 wr g T enc rest row)
 case atStart=>exact⟨20,_,Nat.le_refl _,by omega,by omega,rfl,HF2.out,HS2.out⟩
 clear HS2 HF2 hlt2 hlt;obtain⟨s,row,hs20,hs2N,rfl,rfl,hf,hst⟩:=hrel;have HST:=zH hst;have HF:=zH hf;clear hst hf;by_cases hlt:s<N
 ·have hlt2:(s:Int)<(N:Int):=by omega
  obtain⟨d,hd⟩:∃d,d=2*s:=⟨_,rfl⟩;have e1:2*(s:Int)=(d:Int):=by omega
  have e1b:(s:Int)*2=(d:Int):=by omega
  have wd:IntKind.i64.wrap (d:Int)=(d:Int):=by rw[IntKind.wrap_i64];omega
  have HD:=zH hd;clear hd;go_wp2_with fail
  go_loopg [7,8] (N+d) (fun c u v wr=>∃(a b:Nat) (row:List α),b=a+d/\a<=N/\c=N+d-a/\u= .int .i64 a/\v= .int .i64 b/\Stb.Half lt s a xs row/\Sw w0 wr g T enc rest row)
  case atStart=>exact⟨0,d,row,by omega,Nat.zero_le _,rfl,rfl,rfl,HF.out.half,HST.out⟩
  clear HST HF;obtain⟨a,b,row2,hb,haN,rfl,rfl,rfl,hf,hst⟩:=hrel;have HST:=zH hst;have HF:=zH hf;clear hst hf;by_cases hlb:b<=N
  ·have hlb2:(b:Int)<=(N:Int):=by omega
   obtain⟨P,A,B,S,rfl,hP,hA,hB,hsA,hsB,hF2⟩:=HF.out.cut W (by omega) (by rw[HN.out];have:=HD.out;omega);have hlen:=HF.out.len;obtain⟨m,hm⟩:∃m,m=a+s:=⟨_,rfl⟩;have e2:(a:Int)+(s:Int)=(m:Int):=by omega
   have wm:IntKind.i64.wrap (m:Int)=(m:Int):=by rw[IntKind.wrap_i64];omega
   have HB:=zH (symMerge_any enc hk h1 lt W w0 g cap N T rest HC.out (by omega) _ P A B S a m b wr (ne_of_len (by omega)) (ne_of_len (by omega)) (Nat.le_refl _) HST.out hP (by rw[hA,hm]) (by have:=HD.out;omega) hsA hsB (by rw[hlen,HN.out]));obtain⟨b2,hb2⟩:∃b2,b2=b+d:=⟨_,rfl⟩;have e3:(b:Int)+(d:Int)=(b2:Int):=by omega
   have wb:IntKind.i64.wrap (b2:Int)=(b2:Int):=by rw[IntKind.wrap_i64];omega
   have HB2:=zH (And.intro hb hb2);have HF2:=zH hF2;clear hP hA hB hsA hsB hF2 hlen HST hb hb2 hm;go_wp2_with (go_at_call 179;refine HB.out.mono ?_;rintro e w2 ⟨rfl,hs2⟩)
   go_roundg (N+d-b)
   case measure=>have:=HB2.out;omega
   case rel=>exact⟨b,b2,_,HB2.out.2,hlb,rfl,rfl,rfl,by rw[HB2.out.1,HD.out];exact HF2.out,hs2⟩
  have hlb2:¬(b:Int)<=(N:Int):=by omega
  obtain⟨m,hm⟩:∃m,m=a+s:=⟨_,rfl⟩;have e2:(a:Int)+(s:Int)=(m:Int):=by omega
  have wm:IntKind.i64.wrap (m:Int)=(m:Int):=by rw[IntKind.wrap_i64];omega
  by_cases hmN:m<N
  ·have hmN2:(m:Int)<(N:Int):=by omega
   obtain⟨P,A,B,rfl,hP,hA,hB,hsA,hsB,hF2⟩:=HF.out.last W (by rw[HN.out];have:=HD.out;omega) (by rw[HN.out];omega);have hlen:=HF.out.len;rw[HN.out]at hB;have HB:=zH (symMerge_any enc hk h1 lt W w0 g cap N T rest HC.out (by omega) _ P A B [] a m N wr (ne_of_len (by omega)) (ne_of_len (by omega)) (Nat.le_refl _) HST.out hP (by rw[hA,hm]) (by omega) hsA hsB (by rw[hlen,HN.out]));have HF2:=zH hF2;clear hP hA hB hsA hsB hF2 hlen HST hb hm;go_wp2_with (go_at_call 179;refine HB.out.mono ?_;rintro e w2 ⟨rfl,hs2⟩)
   go_roundg (2*N+20-d)
   case measure=>have:=HD.out;omega
   case rel=>exact⟨d,_,by have:=HD.out;omega,by have:=HD.out;omega,rfl,rfl,by rw[HD.out];exact HF2.out,hs2⟩
  have hmN2:¬(m:Int)<(N:Int):=by omega
  have HF2:=zH (HF.out.none (by rw[HN.out];have:=HD.out;omega) (by rw[HN.out];omega));clear hb hm;go_wp2_with fail
  go_roundg (2*N+20-d)
  case measure=>have:=HD.out;omega
  case rel=>exact⟨d,_,by have:=HD.out;omega,by have:=HD.out;omega,rfl,rfl,by rw[HD.out];exact HF2.out,HST.out⟩
 have hlt2:¬(s:Int)<(N:Int):=by omega
 have HR:=zH (HF.out.all (by rw[HN.out];omega));go_wp2_with fail
 go_end0
 exact⟨rfl,by rw[<-HR.out];exact HST.out⟩
theorem sortStable_any {α:Type}(enc:α->List Value)(hk:∀x,(enc x).length=5)(h1:∀x,∀v,v∈enc x->v.oneCell'=true)(lt:α->α->Bool)(W:Stb.Wk lt)(w0 w:World)(g cap N:Nat)(T:TypeId)(rest:List Value)(xs:List α)(hc:(∀wr,Own g w0 wr->∀x y:α,Calls Tryz.prog 111 #[.agg (enc x).toArray,.agg (enc y).toArray] wr fun e w'=>∃z:Int,e= .returned (.int .i64 z)/\(z<0↔lt x y=true)/\Ext wr w'))(hst:Sw w0 w g T enc rest xs)(hN:xs.length=N)(hsz:N<=20000):
  Calls Tryz.prog 110 #[.slice (some ⟨g,0,none⟩) N cap,.func (.func 111) #[] #[]] w fun e w'=>e= .returned (.tuple #[])/\Sw w0 w' g T enc rest (Stb.stab lt xs):=by
 have HB:=zH (stable_any enc hk h1 lt W w0 w g cap N T rest xs hc hst hN hsz);clear hc hst hN;go_enter Tryz.func110,Tryz.ntmps110
 go_wp2_with (go_at_call 150;refine HB.out.mono ?_;rintro e w2 ⟨rfl,hs2⟩)
 go_end0
 exact⟨rfl,hs2⟩
theorem insertion_none (v c:Value)(w:World):Calls Tryz.prog 178 #[v,.int .i64 0,.int .i64 0,c] w fun e w'=>e= .returned (.tuple #[])/\w=w':=by
  go_enter Tryz.func178,Tryz.ntmps178
  go_wp2_with fail
  refine wp_loop_rounds 1 ?_;rw[rounds_succ];go_wp2_with fail
  go_end0
  exact⟨rfl,rfl⟩
theorem stable_none (v c:Value)(w:World):Calls Tryz.prog 150 #[v,.int .i64 0,c] w fun e w'=>e= .returned (.tuple #[])/\w=w':=by
  go_enter Tryz.func150,Tryz.ntmps150
  go_wp2_with fail
  refine wp_loop_rounds 1 ?_;rw[rounds_succ];go_wp2_with (go_at_call 178;refine(insertion_none _ _ _).mono ?_;rintro e w2 ⟨rfl,rfl⟩)
  refine wp_loop_rounds 1 ?_;rw[rounds_succ];go_wp2_with fail
  go_end0
  exact⟨rfl,rfl⟩
theorem sortStable_none (A:Option Addr)(cap:Nat)(c:Value)(w:World):Calls Tryz.prog 110 #[.slice A 0 cap,c] w fun e w'=>e= .returned (.tuple #[])/\w=w':=by
  go_enter Tryz.func110,Tryz.ntmps110
  go_wp2_with (go_at_call 150;refine(stable_none _ _ _).mono ?_;rintro e w2 ⟨rfl,rfl⟩)
  go_end0
  exact⟨rfl,rfl⟩
end Go.Proofs.YtngikkggjidenabGreat.mrk
namespace Go.Proofs.YtngikkggjidenabGreat
open Go.RowKit Go.Shelf
section
variable {P:Program} {n l:Nat} {Q:Exit->Act->World->Prop}
theorem rowsIn_of {row:String}{args:Array Value}{w:World}{R:Value->World->Prop}(h:Rows P row args w R):RowsIn (Fence.wide.inRound l) n P row args w R:=fun c cs _=>
  let ⟨v,w',r,s⟩:=h c cs
  ⟨v,w',r,stepsIn_wide.2 s⟩
theorem opIn_of {o:Oper}{a:Act}{w:World}{K:Act->World->Prop}(ho:∀c,o.op≠ .defer c)(_hQ:¬LetsOut Q)(h:o.wp P a w K Q):o.wpIn (Fence.wide.inRound l) n P a w K Q:=by
 unfold Oper.wp at h;refine⟨fun _ _=>trivial,?_⟩;rw[Oper.semAt_eq _ _ _ ho];generalize (execOp a.eval o).run P w=r at h
 cases r with
 |ok x w'=>
  cases x<;>simp only[Oper.upon]at h<;>simp only[Oper.uponIn];case value=>exact h
  case skip=>exact h
  case defer=>exact h
  case enter=>exact⟨fun hd=>by simp[Fence.wide]at hd,CallsIn.inRound l (callsIn_wide.2 h)⟩
  case row=>exact⟨fun hd=>by simp[Fence.wide]at hd,rowsIn_of h⟩
 |halt x w'=>cases x<;>simp only[Oper.upon]at h<;>simp only[Oper.uponIn]<;>exact h
def noDefer (ops:List Oper):Bool:=ops.all fun o=>match o.op with| .defer _=>false|_=>true
theorem noDefer_spec {ops:List Oper}(h:noDefer ops=true){o:Oper}(ho:o∈ops):∀c,o.op≠ .defer c:=by
  intro c e;have:=List.all_eq_true.1 h o ho;rw[e]at this;cases this
theorem anyIn_of {md:Region.Mode}{ops:Array Oper}(hd:noDefer ops.toList=true)(hQ:¬LetsOut Q):∀(fuel:Nat) (listed:Array Bool) (a:Act) (w:World),wpAny P md ops Q fuel listed a w->wpAnyIn (Fence.wide.inRound l) n P md ops Q fuel listed a w
  |0,_,_,_,h=>h
  | fuel+1,listed,a,w,h=>⟨h.1,fun i hi=>by
    have h2:=h.2 i hi;unfold wpOp at h2;unfold wpOpIn;cases ho:ops[i]?with
    |none=>rw[ho]at h2;exact anyIn_of hd hQ fuel _ _ _ h2
    | some o=>
      rw[ho]at h2;simp only at h2⊢;split
      · rename_i hw
        rw[if_pos hw]at h2;rcases h2 with h2|⟨_,h3⟩
        · exact Oper.wpIn_mono (fun a' w' h4=>anyIn_of hd hQ fuel _ _ _ h4) (opIn_of (noDefer_spec hd (by
            have h5:=Array.mem_of_getElem? ho;exact h5.1)) hQ h2)
        exact absurd h3 hQ
      rename_i hw;rw[if_neg hw]at h2;exact⟨fun _ _=>trivial,anyIn_of hd hQ fuel _ _ _ h2⟩⟩
theorem listIn_of {ops:Array Oper}(hQ:¬LetsOut Q):∀(rest:List Oper) (_:noDefer rest=true) (a:Act) (w:World),wpList P ops Q rest a w->wpListIn (Fence.wide.inRound l) n P ops Q rest a w
 | [],_,_,_,h=>h
 |o::rest,hd,a,w,h=>by
  unfold wpList at h;unfold wpListIn;have hd2:noDefer rest=true:=by
   unfold noDefer at hd⊢;rw[List.all_cons,Bool.and_eq_true]at hd;exact hd.2
  split
  ·rename_i hw
   rw[if_pos hw]at h;rcases h with h|⟨_,h3⟩
   ·exact Oper.wpIn_mono (fun a' w' h4=>listIn_of hQ rest hd2 a' w' h4) (opIn_of (noDefer_spec hd (by simp)) hQ h)
   exact absurd h3 hQ
  rename_i hw;rw[if_neg hw]at h;exact⟨fun _ _=>trivial,listIn_of hQ rest hd2 _ _ h⟩
theorem wpIn_region_held_drew {id:Nat}{ops:Array Oper}{S:World->Prop}{a:Act}{w:World}(hm:P.follows .mixedOrders=true)(hd:noDefer ops.toList=true)(hQ:¬LetsOut Q)(hS:S w.drew)
    (h:S w.drew->wpAnyH P .any ops Q S ops.size (Array.replicate ops.size false) a w.drew):(Code.region id ops true).wpIn (Fence.wide.inRound l) n P Q a w:=
  wpIn_region_any hm (anyIn_of hd hQ _ _ _ _ (wpAny_of_held _ _ _ _ (h hS)))
theorem wpIn_region_plain {id:Nat}{ops:List Oper}{a:Act}{w:World}(hd:noDefer ops=true)(hQ:¬LetsOut Q)(h:wpList P ops.toArray Q ops a w):(Code.region id ops.toArray false).wpIn (Fence.wide.inRound l) n P Q a w:=
  wpIn_region_lit (listIn_of hQ _ hd _ _ h)
end
end Go.Proofs.YtngikkggjidenabGreat
namespace Go.Proofs.YtngikkggjidenabGreat
open Go.RowKit
structure MkE where
  a:RV
  q:Rat
  up:Int
def MkE.cells (e:MkE):List Value:=[.bool e.a.n,.slice e.a.p e.a.l e.a.c,.bool e.a.m,.slice e.a.p2 e.a.l2 e.a.c2,.int .i64 e.up]
theorem MkE.len (e:MkE):e.cells.length=5:=rfl
theorem MkE.one (e:MkE):∀v,v∈e.cells->v.oneCell'=true:=by simp[MkE.cells,Value.oneCell']
theorem MkE.noU (e:MkE):NoUL e.cells:=by simp[NoUL,MkE.cells]
def MkE.vl (e:MkE):QI:=(e.q,e.up)
def MkE.Ok (L:Nat)(w:World)(e:MkE):Prop:=e.a.Is w e.q/\Nm.rl e.q<=L/\ -1<=e.up/\e.up<=1
theorem MkE.Ok.dig {L:Nat}{w w':World}{e:MkE}(h:e.Ok L w)(d:Dig w w'):e.Ok L w':=⟨h.1.dig d,h.2⟩
theorem noUL_mk (es:List MkE):NoUL (es.flatMap MkE.cells):=by
  intro x hx;obtain⟨e,_,he⟩:=List.mem_flatMap.1 hx;exact MkE.noU e x he
theorem wkQ' {α:Type}(f:α->QI):Stb.Wk (fun x y:α=>ltM (f x) (f y)):=⟨fun _ _ h=>wkM.1 _ _ h,fun _ _ _ h1 h2=>wkM.2 _ _ _ h1 h2⟩
def ltK (e f:MkE):Bool:=ltM e.vl f.vl
theorem Dig.kept {w w':World}{r:Option Nat}(hg:w.grownBy w' r)(hr:∀k,r=some k->∃o:Obj,w.heap[k]?=some o/\o.isCells=false):Dig w w':=by
 intro v xs h;obtain⟨p,cap,rfl,hc,hd,hp⟩:=h;refine⟨p,cap,rfl,hc,hd,fun h0=> ?_⟩;obtain⟨b,o,rfl,hb⟩:=hp h0;refine⟨b,o,rfl,fun i hi=> ?_⟩;have h1:=hb i hi;have hne:¬(some b=r):=fun e=>by
  obtain⟨ob,h2,h3⟩:=hr b e.symm;cases ob with
  |cells cs t fz=>cases h3
  |_=>simp[World.cell?,h2]at h1
 rw[World.cell?_of_block (hg.block b (World.block_lt_of_cell? w ⟨b,o+i,none⟩ h1) hne)];exact h1
theorem Hp.kept {w0 w w':World}{m:List Ent}{r:Option Nat}(h:Hp w0 w m)(hg:w.grownBy w' r)(hr:∀k,r=some k->w0.heap.size<=k/\∃o:Obj,w.heap[k]?=some o/\o.isCells=false):Hp w0 w' m:=by
 refine⟨h.ext.grown hg (fun k hk=>(hr k hk).1),fun i e he=>(h.all i e he).kept hg (fun k hk hrk=> ?_),h.apart⟩;obtain⟨o,h2,h3⟩:=(hr k hrk).2;cases e with
 |blk g t cs=>
  injection hk with hk
  subst hk;have:=h.blk he;unfold Blk at this;rw[h2]at this;injection this with this
  rw[this]at h3;cases h3
 |row t size v n xs=>
  obtain⟨h4,⟨rfl,_⟩|⟨g,cap,rest,rfl,a,hb,c⟩⟩:=h.row he
  ·simp[Ent.own,Value.ownBlock]at hk
  have hk:g=k:=by simpa[Ent.own,Value.ownBlock]using hk
  subst hk;unfold Blk at hb;rw[h2]at hb;injection hb with hb
  rw[hb]at h3;cases h3
def crossV (y:Rat)(e:(Int×Int)×(Int×Int)):Option QI:=
  if (e.1.2:Rat)<y/\y<(e.2.2:Rat)then some (xatV e.1.1 e.1.2 e.2.1 e.2.2 y,1)
  else if (e.2.2:Rat)<y/\y<(e.1.2:Rat)then some (xatV e.1.1 e.1.2 e.2.1 e.2.2 y,-1)else none
def crossesV (y:Rat)(rs:List Ring):List QI:=(edgesV rs).filterMap (crossV y)
def marksV (y:Rat)(rs:List Ring):List QI:=Stb.stab ltM (crossesV y (if okR rs=true then rs else[]))
theorem rl_xat {ax ay bx bY:Int}{y:Rat}{L:Nat}(ha:okPt ax ay=true)(hb:okPt bx bY=true)(hy:Nm.rl y<=L):Nm.rl (xatV ax ay bx bY y)<=L+8:=by
 unfold okPt at ha hb;simp only[Bool.and_eq_true,decide_eq_true_eq]at ha hb;unfold xatV;have q1:=Nm.rl_sub y (ay:Rat);have q2:=Nm.rl_div ((1:Int):Rat) ((bY-ay:Int):Rat);have q3:=Nm.rl_mul (y-(ay:Rat)) (((1:Int):Rat)/((bY-ay:Int):Rat));have q4:=Nm.rl_mul ((y-(ay:Rat))*(((1:Int):Rat)/((bY-ay:Int):Rat))) ((bx-ax:Int):Rat);have q5:=Nm.rl_add (ax:Rat) ((y-(ay:Rat))*(((1:Int):Rat)/((bY-ay:Int):Rat))*((bx-ax:Int):Rat));have e1:=rlI ax (by omega);have e2:=rlI ay (by omega);have e3:=rlI (bY-ay) (by omega);have e4:=rlI (bx-ax) (by omega);have e5:=rlI 1 (by omega);omega
theorem sortMk_any (L:Nat)(v:Value)(es:List MkE)(base:Nat)(w:World)(h:RowN w base 98 5 v es.length (es.flatMap MkE.cells))(hok:∀e,e∈es->e.Ok L w)
  (hcmp:∀(w:World) (e f:MkE),e.Ok L w->f.Ok L w->Calls Tryz.prog 111 #[.agg e.cells.toArray,.agg f.cells.toArray] w fun x w'=>∃z:Int,x= .returned (.int .i64 z)/\(z<0↔ltK e f=true)/\Ext w w')
  (hn:es.length<=20000):
  Calls Tryz.prog 110 #[v,.func (.func 111) #[] #[]] w fun e w'=>
   e= .returned (.tuple #[])/\RowN w' base 98 5 v es.length ((Stb.stab ltK es).flatMap MkE.cells)/\w.grownBy w' v.ownBlock:=by
 rcases h.2 with⟨rfl,h0⟩|⟨g,cap,rest,rfl,hb,hg,hc1,hc2,hc3,hc4⟩
 ·have:es=[]:=List.eq_nil_of_length_eq_zero h0
  subst this;refine(mrk.sortStable_none none 0 _ w).mono ?_;rintro e w' ⟨rfl,rfl⟩;exact⟨rfl,h,World.grownBy.refl _ _⟩
 have hxs:∃xs:List {e:MkE//e.Ok L w},xs.map Subtype.val=es:=by
  clear h hg hc1 hc3 hn hc4;induction es with
  |nil=>exact⟨[],rfl⟩
  |cons e es ih=>
   obtain⟨xs,hx⟩:=ih (fun f hf=>hok f (by simp[hf]));exact⟨⟨e,hok e (by simp)⟩::xs,by rw[List.map_cons,hx]⟩
 obtain⟨xs,rfl⟩:=hxs;have hfm:xs.flatMap (fun x=>x.1.cells)=(xs.map Subtype.val).flatMap MkE.cells:=by rw[List.flatMap_map]
 have hlen:xs.length=(xs.map Subtype.val).length:=by rw[List.length_map]
 refine(mrk.sortStable_any (fun x: {e:MkE//e.Ok L w}=>x.1.cells) (fun _=>rfl) (fun x=>x.1.one) (fun x y=>ltK x.1 y.1) (wkQ' (fun x: {e:MkE//e.Ok L w}=>x.1.vl)) w w g cap _ 98 rest xs (fun wr o x y=> ?_) ⟨by rw[hfm];exact hg,Own.refl _ _⟩ hlen hn).mono ?_
 ·have d:Dig w wr:=Dig.of_own hg hc4.arr o
  exact hcmp wr x.1 y.1 (x.2.dig d) (y.2.dig d)
 rintro e w' ⟨rfl,hs2⟩;have hm:(Stb.stab (fun x y: {e:MkE//e.Ok L w}=>ltK x.1 y.1) xs).map Subtype.val=Stb.stab ltK (xs.map Subtype.val):=stab_map Subtype.val (lt':=ltK) (fun _ _=>rfl) xs;have hl2:(Stb.stab ltK (xs.map Subtype.val)).length=(xs.map Subtype.val).length:=Stb.stab_len _;have hfl:∀es:List MkE,(es.flatMap MkE.cells).length=es.length*5:=fun es=>flat_length MkE.len es
 refine⟨rfl,⟨by rw[hfl,hl2],Or.inr ⟨g,cap,rest,rfl,hb,?_,hc1,hc2,?_,?_⟩⟩,?_⟩
 ·have h3:=hs2.blk
  rw[show(Stb.stab (fun x y: {e:MkE//e.Ok L w}=>ltK x.1 y.1) xs).flatMap (fun x=>x.1.cells)=(Stb.stab ltK (xs.map Subtype.val)).flatMap MkE.cells by rw[<-hm,List.flatMap_map]]at h3;exact h3
 ·rw[hfl,hl2,<-hfl];exact hc3
 ·exact(noUL_mk _).app hc4.right
 have:=hs2.own;simpa[Value.ownBlock,Own]using this
end Go.Proofs.YtngikkggjidenabGreat
namespace Go.Proofs.YtngikkggjidenabGreat
theorem cross_up {y:Rat}{a b:Int×Int}(h:(a.2:Rat)<y/\y<(b.2:Rat)):crossV y (a,b)=some (xatV a.1 a.2 b.1 b.2 y,1):=if_pos h
theorem cross_down {y:Rat}{a b:Int×Int}(h:(b.2:Rat)<y/\y<(a.2:Rat)):crossV y (a,b)=some (xatV a.1 a.2 b.1 b.2 y,-1):=by
  unfold crossV;rw[if_neg (fun k=>by have h1:=h.1;have h2:=h.2;have k1:=k.1;have k2:=k.2;grind),if_pos h]
theorem cross_no {y:Rat}{a b:Int×Int}(h1:¬((a.2:Rat)<y/\y<(b.2:Rat)))(h2:¬((b.2:Rat)<y/\y<(a.2:Rat))):crossV y (a,b)=none:=by
  unfold crossV;rw[if_neg h1,if_neg h2]
theorem rat_tri (a b:Rat):a<b\/a=b\/b<a:=by grind
theorem rcmp_m1 {p q:Rat}(h:p<q):rcmp p q= -1:=by
  have h1:=rcmp_lt.2 h;unfold rcmp at h1⊢;have:=Int.sign_trichotomy (p.num*q.den-q.num*p.den);omega
theorem rcmp_p1 {p q:Rat}(h:q<p):rcmp p q=1:=by
  have h1:=rcmp_gt.2 h;unfold rcmp at h1⊢;have:=Int.sign_trichotomy (p.num*q.den-q.num*p.den);omega
theorem cross_prod {p q y:Rat}(h1:¬(p<y/\y<q))(h2:¬(q<y/\y<p)):0<=rcmp p y*rcmp q y/\rcmp p y*rcmp q y<=1:=by
  rcases rat_tri p y with a|a|a
  · rw[rcmp_m1 a]
    rcases rat_tri q y with b|b|b
    · rw[rcmp_m1 b];decide
    · rw[rcmp_eq.2 b];decide
    exact absurd ⟨a,b⟩ h1
  · rw[rcmp_eq.2 a];simp
  rw[rcmp_p1 a];rcases rat_tri q y with b|b|b
  · exact absurd ⟨b,a⟩ h2
  · rw[rcmp_eq.2 b];decide
  rw[rcmp_p1 b];decide
theorem xat_pre {y:Rat}{a b:Int}(h:((a:Rat)<y/\y<(b:Rat))\/((b:Rat)<y/\y<(a:Rat))):a≠b/\((min a b:Int):Rat)<=y/\y<=((max a b:Int):Rat):=by
  rcases h with⟨h1,h2⟩|⟨h1,h2⟩
  · have hab : a < b := by have h3:(a:Rat)<(b:Rat):=by grind
                           exact_mod_cast h3
    rw[Int.min_eq_left (by omega),Int.max_eq_right (by omega)];exact⟨by omega,by grind,by grind⟩
  have hab : b < a := by have h3:(b:Rat)<(a:Rat):=by grind
                         exact_mod_cast h3
  rw[Int.min_eq_right (by omega),Int.max_eq_left (by omega)];exact⟨by omega,by grind,by grind⟩
end Go.Proofs.YtngikkggjidenabGreat
namespace Go.Proofs.YtngikkggjidenabGreat
open Go.RowKit Go.Shelf
attribute [local go_sem] Oper.semAt_some
attribute [local go_sem ↓] Go.wp_at_zero Go.wp_at_succ run_eql_point run_neq_point run_max_ii run_min_ii
def ptVal2 (x:Int×Int):Value:= .agg #[.int .i64 x.1,.int .i64 x.2]
def RingsO (ok:Nat->Prop)(w:World)(v:Value)(rs:List Ring):Prop:=
  ∃(A:Option Addr) (cap:Nat),v= .slice A rs.length cap/\(0<rs.length->∃g off,A=some ⟨g,off,none⟩/\ok g/\∀i r,rs[i]?=some r->∃B cb,w.cell? ⟨g,off+i,none⟩=some (.slice B r.length cb)/\PtsV w (.slice B r.length cb) r/\∀A,B=some A->ok A.block)
theorem edges1_in (m:Nat)(hm:1<=m)(l Bx N:Nat)(G:Nat->Prop)(u:Value)(rs:List Ring)(J Jx:List ((Int×Int)×(Int×Int))->World->Prop)(w:World)
  (hcb:w.cell? ⟨Bx,0,none⟩=some u)(_hGb:¬G Bx)(hR:RingsO (fun k=>¬G k) w u rs)(hrl:∀r,r∈rs->r.length<=4096)(hrs:rs.length<=1048576)
  (hJ:∀s A B,J s A->Ext A B->J s B)
  (hY:∀pre x W,J pre W->pre.length<N->x∈edgesV rs->YieldAt Fence.wide (m-1) Tryz.prog l #[ptVal2 x.1,ptVal2 x.2] W fun e W'=>(e= .returned (.bool true)/\J (pre++[x]) W'/\Fr G W W')\/(e= .returned (.bool false)/\Jx (pre++[x]) W'))
  (hN:(edgesV rs).length<=N)(h0:J [] w):
  CallsIn Fence.wide m Tryz.prog 121 #[.func (.yield l) #[] #[],.pointer (some ⟨Bx,0,none⟩)] w fun e W'=>(∃v,e= .returned v)/\
   ((∃ys,ys=edgesV rs/\J ys W')\/(∃pre,pre<+:edgesV rs/\Jx pre W')):=by
 obtain⟨A,cap,rfl,hA⟩:=hR;have HA:=zH hA;have HJ:=zH hJ;have HY:=zH hY;have HRL:=zH hrl;clear hA hJ hY hrl;refine callsIn_of_wp Tryz.func121 rfl trivial ?_ rfl;simp only[Tryz.ntmps121,List.size_toArray,List.length_cons,List.length_nil,Nat.reduceAdd,Nat.reduceSub,Array.replicate_succ,Array.replicate_zero,List.push_toArray,List.append_toArray,List.nil_append,List.cons_append];gi_wp2
 gi_loopw [10] (fun i wr=>∃k:Nat,k<=rs.length/\i= .int .i64 k/\Fr G w wr/\J (edgesV (rs.take k)) wr) (fun i _=>rs.length-(intOf i).toNat)
 case atStart=>exact⟨0,Nat.zero_le _,rfl,Fr.of_ext (Ext.refl _),h0⟩
 obtain⟨k,hk,rfl,hfr,hj⟩:=hrel;have HFR:=zH hfr;have HJ1:=zH hj;clear hfr hj;by_cases hlt:k<rs.length
 ·obtain⟨r,hr⟩:∃r,rs[k]?=some r:=⟨_,List.getElem?_eq_getElem hlt⟩
  obtain⟨g,off,rfl,hg,h1⟩:=HA.out (by omega);obtain⟨B,cb,hc1,hp1,hB⟩:=h1 k r hr;have c1:=HFR.out.cell hc1 hg;have hlt2:(k:Int)<(rs.length:Int):=by omega
  have HP:=zH hp1;have HB:=zH hB;have HR:=zH hr;have hr4:=HRL.out r (List.mem_of_getElem? hr);clear h1 hc1 hp1 hB hr;gi_wp2
  generalize wr=W0 at*
  gi_loopw [16] (fun i wr=>∃j:Nat,j<=r.length/\i= .int .i64 j/\Fr G W0 wr/\J (edgesV (rs.take k)++ringEn r j) wr) (fun i _=>r.length-(intOf i).toNat)
  case atStart=>exact⟨0,Nat.zero_le _,rfl,Fr.of_ext (Ext.refl _),by have h:=HJ1.out;rwa[show ringEn r 0=[]from rfl,List.append_nil]⟩
  obtain⟨j,hjl,rfl,hfr,hj⟩:=hrel;have HF2:=zH hfr;have HJ2:=zH hj;clear hfr hj;by_cases hjt:j<r.length
  ·have hjt2:(j:Int)<(r.length:Int):=by omega
   obtain⟨a,ha⟩:∃a,r[j]?=some a:=⟨_,List.getElem?_eq_getElem hjt⟩;have hmod:(j+1)%r.length<r.length:=Nat.mod_lt _ (by omega);obtain⟨b,hb⟩:∃b,r[(j+1)%r.length]?=some b:=⟨_,List.getElem?_eq_getElem hmod⟩;have hEA:=zH (edgeAt_some ha hb);have hpts:∃g2 off2,B=some ⟨g2,off2,none⟩/\¬G g2/\PtsAt w g2 off2 r:=by
    obtain⟨A2,c2,hv2,h2⟩:=HP.out;injection hv2 with e1 _ _
    obtain⟨g2,off2,h3,h4⟩:=h2 (fun e=>by rw[e]at hjt;simp at hjt);exact⟨g2,off2,e1.trans h3,HB.out _ (e1.trans h3),h4⟩
   obtain⟨g2,off2,rfl,hg2,hpa⟩:=hpts;have HFW:=zH (HFR.out.trans HF2.out);have hga:∀i p,r[i]?=some p->r.getD i (0,0)=p:=fun i p h=>by rw[List.getD_eq_getElem?_getD,h];rfl
   have hpj:=hpa j hjt;have hpm:=hpa _ hmod;rw[hga j a ha]at hpj;rw[hga _ b hb]at hpm;have x0:=HFW.out.cell hpj.1 hg2;have x1:=HFW.out.cell hpj.2 hg2;have y0:=HFW.out.cell hpm.1 hg2;have y1:=HFW.out.cell hpm.2 hg2;have wj:IntKind.i64.wrap ((j:Int)+1)=(j:Int)+1:=by rw[IntKind.wrap_i64];omega
   have hrem:((j:Int)+1).tmod (r.length:Int)=(((j+1)%r.length:Nat):Int):=by rw[Int.tmod_eq_emod_of_nonneg (by omega)];simp
   have HHA:=zH ha;have HHB:=zH hb;clear hpa hpj hpm ha hb hga;generalize hM:(j+1)%r.length=M at*
   clear hM;obtain⟨a0,a1⟩:=a;obtain⟨b0,b1⟩:=b;dsimp only at x0 x1 y0 y1
   by_cases hab:(a0,a1)=(b0,b1)
   ·injection hab with e0 e1
    subst e0;subst e1;have hne:(a0==a0&&a1==a1)=true:=by simp
    have HED:=zH (hEA.out.trans (if_pos rfl));have y0a:=((Ext.refl wr).alloc (.cells #[.int .i64 a0,.int .i64 a1] 28)).get y0;have y1a:=((Ext.refl wr).alloc (.cells #[.int .i64 a0,.int .i64 a1] 28)).get y1;have hx2:Ext wr ((wr.alloc (.cells #[.int .i64 a0,.int .i64 a1] 28)).alloc (.cells #[.int .i64 a0,.int .i64 a1] 28)):=((Ext.refl wr).alloc _).alloc _;gi_wp2
    refine⟨fun _ h=>(by cases h),?_⟩;gi_wp2
    go_roundw
    case rel=>exact⟨j+1,hjt,by go_num,HF2.out.trans (Fr.of_ext hx2),by rw[ringEn_succ_none HED.out];exact HJ.out _ _ _ HJ2.out hx2⟩
    case measure=>simp[intOf];omega
   have hne:(a0==b0&&a1==b1)=false:=by
    rw[Bool.and_eq_false_iff,beq_eq_false_iff_ne,beq_eq_false_iff_ne];by_cases h0:a0=b0
    ·exact .inr fun h1=>hab (by rw[h0,h1])
    exact .inl h0
   have HED:=zH (hEA.out.trans (if_neg hab));clear hab;have y0a:=((Ext.refl wr).alloc (.cells #[.int .i64 a0,.int .i64 a1] 28)).get y0;have y1a:=((Ext.refl wr).alloc (.cells #[.int .i64 a0,.int .i64 a1] 28)).get y1;have hx2:Ext wr ((wr.alloc (.cells #[.int .i64 a0,.int .i64 a1] 28)).alloc (.cells #[.int .i64 b0,.int .i64 b1] 28)):=((Ext.refl wr).alloc _).alloc _;have hlen:(edgesV (rs.take k)++ringEn r j).length<N:=by
    have h1:=(edges_pre HR.out (show j+1<=r.length by omega)).length_le;rw[ringEn_succ_some HED.out]at h1;simp at h1⊢;omega
   obtain⟨fn,tmps,assign,body,hy,hRd⟩:=HY.out _ ((a0,a1),(b0,b1)) _ (HJ.out _ _ _ HJ2.out hx2) hlen (by
    have h1:=edges_pre HR.out (show j+1<=r.length by omega);rw[ringEn_succ_some HED.out]at h1;exact h1.subset (by simp))
   dsimp only[ptVal2]at hy
   gi_wp2
   refine hRd.mono ?_;rintro e W3 (⟨rfl,hJ3,hk3⟩|⟨rfl,hJx3⟩)
   ·gi_wp2
    go_roundw
    case rel=>exact⟨j+1,hjt,by go_num,(HF2.out.trans (Fr.of_ext hx2)).trans hk3,by rw[ringEn_succ_some HED.out,<-List.append_assoc];exact hJ3⟩
    case measure=>simp[intOf];omega
   gi_wp2
   refine bodyPost_ret (results_none rfl _ _ _) rfl ?_;exact⟨⟨_,rfl⟩,.inr ⟨_,by have h:=edges_pre HR.out (show j+1<=r.length by omega);rwa[ringEn_succ_some HED.out,<-List.append_assoc]at h,hJx3⟩⟩
  have hjn:¬(j:Int)<(r.length:Int):=by omega
  gi_wp2
  go_roundw
  case rel=>exact⟨k+1,by omega,by go_num,HFR.out.trans HF2.out,by rw[edgesV_take HR.out];have h:=HJ2.out;rwa[show j=r.length by omega]at h⟩
  case measure=>simp[intOf];omega
 gi_wp2
 go_end0
 have e:k=rs.length:=by omega
 subst e;exact⟨⟨_,rfl⟩,.inl ⟨_,rfl,by have h:=HJ1.out;rwa[List.take_of_length_le (Nat.le_refl _)]at h⟩⟩
end Go.Proofs.YtngikkggjidenabGreat
namespace Go.Proofs.YtngikkggjidenabGreat
open Go.RowKit
attribute [local go_sem ↓] Go.wp_at_zero Go.wp_at_succ run_eql_point run_neq_point run_max_ii run_min_ii
theorem RingsO.ext {ok:Nat->Prop}{w w':World}{v:Value}{rs:List Ring}(h:RingsO ok w v rs)(x:Ext w w'):RingsO ok w' v rs:=by
  obtain⟨A,cap,h1,h2⟩:=h;refine⟨A,cap,h1,fun h0=> ?_⟩;obtain⟨g,off,h3,h4,h5⟩:=h2 h0;refine⟨g,off,h3,h4,fun i r hr=> ?_⟩;obtain⟨B,cb,h6,h7,h8⟩:=h5 i r hr;exact⟨B,cb,x.get h6,h7.ext x,h8⟩
theorem RingsO.imp {ok ok':Nat->Prop}{w:World}{v:Value}{rs:List Ring}(h:RingsO ok w v rs)(hi:∀k,ok k->ok' k):RingsO ok' w v rs:=by
  obtain⟨A,cap,h1,h2⟩:=h;refine⟨A,cap,h1,fun h0=> ?_⟩;obtain⟨g,off,h3,h4,h5⟩:=h2 h0;refine⟨g,off,h3,hi _ h4,fun i r hr=> ?_⟩;obtain⟨B,cb,h6,h7,h8⟩:=h5 i r hr;exact⟨B,cb,h6,h7,fun A hA=>hi _ (h8 A hA)⟩
theorem Tr.ringsO {b0:Nat}{w:World}{v:Value}{rs:List Ring}(h:Tr b0 w v rs):RingsO (fun k=>b0<=k/\k<w.heap.size) w v rs:=by
 obtain⟨vs,h1,h2,h3⟩:=h;obtain⟨_,⟨rfl,hz⟩|⟨g,cap,rest,rfl,hb,hB,_⟩⟩:=h1
 ·exact⟨none,0,by rw[hz],fun h=>by omega⟩
 refine⟨_,cap,rfl,fun _=>⟨g,0,rfl,⟨hb,hB.lt⟩,fun i r hr=> ?_⟩⟩;obtain⟨B,cb,h4,h5,h6,h7⟩:=h3 i r hr;refine⟨B,cb,?_,h5,fun A hA=>⟨h7 A hA,(h6 A hA).2⟩⟩;rw[Nat.zero_add,hB.cell,List.getElem?_toArray,List.getElem?_append_left (by have:=(List.getElem?_eq_some_iff.1 h4).1;exact this)];exact h4
theorem RingsO.nil (ok:Nat->Prop)(w:World):RingsO ok w (.slice none 0 0) []:=⟨none,0,rfl,fun h=>by simp at h⟩
theorem translate_no (u:Value)(rs:List Ring)(w:World)(hu:RingsV w u rs)(hv:okR rs=false)(hn:rs.length<=1048576)(hr:∀r,r∈rs->r.length<=1048576):
  Calls Tryz.prog 120 #[u,.agg #[.int .i64 0,.int .i64 0]] w fun e w'=>e= .returned (.slice none 0 0)/\Ext w w':=by
 have HC:=zH (fun W (hW:Ext w W)=>polyValid_any u rs W (hu.ext hW) hn hr);have HV:=zH hv;obtain⟨Au,cu,rfl,_⟩:=hu;clear hv hr;go_enter Tryz.func120,Tryz.ntmps120
 have hE:Ext w (w.alloc (.cells #[.int .i64 0,.int .i64 0] 28)):=(Ext.refl _).alloc _;go_upto_if 13 with(go_at_call 60;refine(HC.out _ hE).mono ?_;rintro e w1 ⟨rfl,hx1⟩)
 have hb0:(!okR rs)=true:=by rw[HV.out];rfl
 rw[hb0];go_wp2_with fail
 go_ret
 exact⟨rfl,hE.trans hx1⟩
theorem edges_any (u:Value)(rs:List Ring)(w:World)(hu:RingsV w u rs)(hn:rs.length<=1048576)(hr:∀r,r∈rs->r.length<=1048576):
  Calls Tryz.prog 80 #[u] w fun e w'=>∃Bx v,e= .returned (.func (.func 121) #[] #[.pointer (some ⟨Bx,0,none⟩)])/\w.heap.size<=Bx/\Bx<w'.heap.size/\
   w'.cell? ⟨Bx,0,none⟩=some v/\RingsO (fun k=>w.heap.size<=k/\k<w'.heap.size) w' v (if okR rs=true then rs else[])/\Ext w w':=by
 have HC:Calls Tryz.prog 120 #[u,.agg #[.int .i64 0,.int .i64 0]] w fun e w'=>∃A n c,e= .returned (.slice A n c)/\RingsO (fun k=>w.heap.size<=k/\k<w'.heap.size) w' (.slice A n c) (if okR rs=true then rs else[])/\Ext w w':=by
  by_cases h:okR rs=true
  ·rw[if_pos h]
   refine(translate0_tr u rs w hu h hn).mono ?_;rintro e w' ⟨v,rfl,h2,h3⟩;have h4:=h2.ringsO;obtain⟨A,c,rfl,_⟩:=id h4;exact⟨A,_,c,rfl,h4,h3⟩
  rw[if_neg h];refine(translate_no u rs w hu (by simpa using h) hn hr).mono ?_;rintro e w' ⟨rfl,h3⟩;exact⟨none,0,0,rfl,RingsO.nil _ _,h3⟩
 generalize (if okR rs=true then rs else[])=qs at HC⊢
 have HC2:=zH HC;clear HC hu hr;go_enter Tryz.func80,Tryz.ntmps80
 go_wp2_with (go_at_call 120;refine HC2.out.mono ?_;rintro e w1 ⟨A,n,c,rfl,hR,hx⟩)
 go_ret
 have hx2:Ext w1 (w1.alloc (.cells #[.slice A n c] 22)):=(Ext.refl _).alloc _;refine⟨_,_,rfl,hx.size,by simp,?_,(hR.ext hx2).imp (fun k h=>⟨h.1,Nat.lt_of_lt_of_le h.2 hx2.size⟩),hx.trans hx2⟩;exact(Blk.new w1 _ _).cell 0
end Go.Proofs.YtngikkggjidenabGreat
namespace Go.Proofs.YtngikkggjidenabGreat
open Go.RowKit Go.Shelf
attribute [local go_sem] Oper.semAt_some
abbrev Edge:=(Int×Int)×(Int×Int)
def okE (e:Edge):Prop:=okPt e.1.1 e.1.2=true/\okPt e.2.1 e.2.2=true
abbrev OkE:={e:Edge//okE e}
def encE (x:OkE):Array Value:=#[ptVal2 x.1.1,ptVal2 x.1.2]
theorem edges_ok {rs:List Ring}(h:okR rs=true):∀e,e∈edgesV rs->okE e:=by
 intro e he;obtain⟨r,hr,h2⟩:=List.mem_flatMap.1 he;obtain⟨i,_,h3⟩:=List.mem_filterMap.1 h2;unfold okR at h;rw[Bool.and_eq_true]at h;have h4:=List.all_eq_true.1 h.2 r hr;unfold okAll at h4;have hp:∀(j:Nat) (p:Int×Int),r[j]?=some p->okPt p.1 p.2=true:=fun j p hj=>List.all_eq_true.1 h4 p (List.mem_of_getElem? hj)
 unfold edgeAt at h3;split at h3
 ·rename_i a b ha hb
  split at h3
  ·cases h3
  injection h3 with h3
  subst h3;exact⟨hp _ _ ha,hp _ _ hb⟩
 cases h3
theorem Fr.putObj {G:Nat->Prop}(W:World)(l:Nat)(o':Obj)(h:G l\/W.heap.size<=l):Fr G W (W.putObj l o'):=
  Fr.trans_new (Fr.of_ext (Ext.refl W)) (grownBy_putObj' W l o') (fun j hj=>by injection hj with hj;subst hj;exact h)
theorem edges_loop {n p0 p1:Nat}{g:Operand}{assign body:Code}{Q:Exit->Act->World->Prop}{a:Act}{W1:World}(hn:2<=n)(G:Nat->Prop)(Bx:Nat)(u:Value)(rs:List Ring)
  (hg:a.eval g= .func (.func 121) #[] #[.pointer (some ⟨Bx,0,none⟩)])(hcb:W1.cell? ⟨Bx,0,none⟩=some u)(hGb:¬G Bx)(hR:RingsO (fun k=>¬G k) W1 u rs)(hrs:rs.length<=1048576)(hok:okR rs=true)
  (hG:∀k,W1.heap.size<=k->G k)
  (I:List OkE->World->Prop)(hI:OwnFrom W1.heap.size I)(h0:I [] W1)(Ax:OkE->Act->World->Prop)(hAx:∀x a',OwnFrom W1.heap.size (fun(_:Unit) W=>Ax x a' W))
  (hassign:∀(l:Nat) (pre:List OkE) (x:OkE) (W:World) (K:Act->World->Prop),I pre W->(∀a' W',KeepsFrom W1.heap.size W W'->Fr G W W'->I pre W'->Ax x a' W'->K a' W')->
   assign.wpIn (Fence.wide.inRound l) (n-1-1) Tryz.prog (Exit.then K (fun _ _ _=>False)) {tmps:=(a.tmps.setIfInBounds p0 (ptVal2 x.1.1)).setIfInBounds p1 (ptVal2 x.1.2),defers:=[]} W)
  (hbody:∀(l:Nat) (pre:List OkE) (x:OkE) (a':Act) (W:World),I pre W->Ax x a' W->pre.length<4096->
   body.wpIn (Fence.wide.inRound l) (n-1-1) Tryz.prog (ownPostG W1.heap.size (Fr G) I (fun _ _ _=>False) (pre++[x]) W) a' W)
  (hdone:∀(D:Nat) (xs:List OkE) (W:World),W1.heap.size<=D->xs.map Subtype.val=edgesV rs->I xs W->W.heap[D]?=some (.deferred (some []))->Q .normal {a with defers:={target:= .collected D,args:=#[]}::a.defers} W):
  (Code.rangeFunc g #[p0,p1] assign body).wpIn Fence.wide n Tryz.prog Q a W1:=by
 have hseq:SeqStopsK Fence.wide (n-1) Tryz.prog 121 #[.pointer (some ⟨Bx,0,none⟩)] encE (Fr G) (fun xs=>xs.map Subtype.val=edgesV rs) (fun pre=>pre.map Subtype.val<+:edgesV rs) 4096 W1:=by
  intro l J Jx W hW hJa hJxa hY hJ0;have hx:Ext W1 W:=hW;have hRW:=hR.ext hx;have hrl:∀r,r∈rs->r.length<=4096:=fun r hr=>by
   obtain⟨k,hk⟩:=List.mem_iff_getElem?.1 hr;have h1:=tot_succ hk;have h2:=tot_take rs (k+1);have h3:=okR_tot hok;omega
  have hN:(edgesV rs).length<=4096:=Nat.le_trans (edgesV_len rs) (okR_tot hok);have hEx:∀(s:List OkE) (A B:World),J s A->Ext A B->J s B:=fun s A B h x=>hJa s A B none h (grown_of_ext _ x) (fun r e=>by cases e)
  refine(edges1_in (n-1) (by omega) l Bx 4096 G u rs (fun s W=>∃xs:List OkE,xs.map Subtype.val=s/\J xs W) (fun s W=>∃xs:List OkE,xs.map Subtype.val=s/\Jx xs W) W (hx.get hcb) hGb hRW hrl hrs
   (fun s A B h x=>by obtain⟨xs,h1,h2⟩:=h;exact⟨xs,h1,hEx _ _ _ h2 x⟩) ?_ hN ⟨[],rfl,hJ0⟩).mono ?_
  ·rintro pre x W2 ⟨xs,rfl,h2⟩ hlen hmem
   refine(hY xs ⟨x,edges_ok hok x hmem⟩ W2 h2 (by simpa using hlen)).mono ?_;rintro e W3 (⟨rfl,h3,h4⟩|⟨rfl,h3⟩)
   ·exact .inl ⟨rfl,⟨_,by simp,h3⟩,h4⟩
   exact .inr ⟨rfl,⟨_,by simp,h3⟩⟩
  rintro e W2 ⟨h1,⟨ys,rfl,xs,h2,h3⟩|⟨pre,h2,xs,h3,h4⟩⟩
  ·exact⟨h1,.inl ⟨xs,h2,h3⟩⟩
  exact⟨h1,.inr ⟨xs,by show xs.map Subtype.val<+:edgesV rs;rw[h3];exact h2,h4⟩⟩
 refine wpIn_rangeFunc_ownH rfl (by omega) (gf:=121) (lb:=#[.pointer (some ⟨Bx,0,none⟩)]) hg trivial (enters_of Tryz.func121 kR rfl)
  hseq (fun h k=>Fr.trans h k) (fun W l o o' hl _ _ _=>Fr.putObj W l o' (.inl (hG l hl))) (Below.refl _ _) (fun _=>rfl) I (fun _ _ _=>False) hI (fun _ _ _ _ _ hs _ _=>hs) h0 Ax hAx ?assign ?body ?done ?stop
 case assign=>
  intro l pre x W K hi hK;have e:((#[p0,p1]:Array Tmp).zip (encE x)).foldl (fun t (p,v)=>t.setIfInBounds p v) a.tmps=(a.tmps.setIfInBounds p0 (ptVal2 x.1.1)).setIfInBounds p1 (ptVal2 x.1.2):=by simp[encE]
  rw[e];exact hassign l pre x W K hi hK
 case body=>exact fun l pre x a' W _ _ hi ha hlt=>hbody l pre x a' W hi ha hlt
 case done=>exact fun D xs W hD hs hi hK=>hdone D xs W hD hs hi hK
 case stop=>exact fun D c pre W _ _ h _=>h.elim
theorem KeepsFrom.of_fr {B:Nat}{G:Nat->Prop}{W W':World}(h:Fr G W W')(hG:∀k,G k->∀o:Obj,W.heap[k]?=some o->o.isCells=true):KeepsFrom B W W':=
  ⟨h.size,fun k o _ hk ho=>by
    have hlt:k<W.heap.size:=(Array.getElem?_eq_some_iff.1 hk).1;rw[h.block k hlt (fun g=>by rw[hG k g o hk]at ho;cases ho)];exact hk⟩
theorem Fr.imp {G G':Nat->Prop}{W W':World}(h:Fr G W W')(hG:∀k,G k->G' k):Fr G' W W':=⟨h.os,h.tape,h.output,h.size,fun k hk hn=>h.block k hk (fun g=>hn (hG k g))⟩
theorem Hp.cells {w0 w:World}{m:List Ent}{i k:Nat}{e:Ent}(h:Hp w0 w m)(hi:m[i]?=some e)(hk:e.own=some k):∀o:Obj,w.heap[k]?=some o->o.isCells=true:=by
 intro o ho;cases e with
 |blk g t cs=>
  injection hk with hk
  subst hk;have:=h.blk hi;unfold Blk at this;rw[this]at ho;injection ho with ho
  rw[<-ho];rfl
 |row t size v n xs=>
  obtain⟨h4,⟨rfl,_⟩|⟨g,cap,rest,rfl,a,hb,c⟩⟩:=h.row hi
  ·simp[Ent.own,Value.ownBlock]at hk
  have hk:g=k:=by simpa[Ent.own,Value.ownBlock]using hk
  subst hk;unfold Blk at hb;rw[hb]at ho;injection ho with ho
  rw[<-ho];rfl
def Ent.typ:Ent->TypeId
  | .blk _ t _=>t
  | .row t _ _ _ _=>t
theorem Hp.typ {w0 w:World}{m:List Ent}{i g:Nat}{e:Ent}{T:TypeId}{cs:Array Value}(h:Hp w0 w m)(hi:m[i]?=some e)(hb:Blk w g T cs)(hk:e.own=some g):e.typ=T:=by
 unfold Blk at hb;cases e with
 |blk g' t cs'=>
  injection hk with hk
  subst hk;have:=h.blk hi;unfold Blk at this;rw[this]at hb;injection hb with hb
  injection hb with _ hb _
 |row t size v n xs=>
  obtain⟨h4,⟨rfl,_⟩|⟨g',cap,rest,rfl,a,hb2,c⟩⟩:=h.row hi
  ·simp[Ent.own,Value.ownBlock]at hk
  have hk:g'=g:=by simpa[Ent.own,Value.ownBlock]using hk
  subst hk;unfold Blk at hb2;rw[hb2]at hb;injection hb with hb
  injection hb with _ hb _
theorem Hp.addTyp2 {w0 w:World}{m:List Ent}{X Y:Nat}{T:TypeId}{zs us:List Value}(h:Hp w0 w m)(B1:Blk w X T zs.toArray)(B2:Blk w Y T us.toArray)(hne:X≠Y)(z1:w0.heap.size<=X)(z2:w0.heap.size<=Y)(n1:NoUL zs)(n2:NoUL us)
  (ht:∀e,e∈m->e.typ≠T):Hp w0 w (m++[.blk X T zs]++[.blk Y T us]):=by
 have h1:Hp w0 w (m++[.blk X T zs]):=h.add ⟨z1,B1,n1⟩ (fun i f hf k hk e=>by
  injection e with e
  subst e;exact ht f (List.mem_of_getElem? hf) (h.typ hf B1 hk))
 refine h1.add ⟨z2,B2,n2⟩ (fun i f hf k hk e=> ?_);injection e with e
 subst e;rcases List.mem_append.1 (List.mem_of_getElem? hf)with hm|hm
 ·obtain⟨j,hj⟩:=List.mem_iff_getElem?.1 hm
  exact ht f hm (h.typ hj B2 hk)
 simp at hm;subst hm;injection hk with hk
 exact hne hk
theorem Blk.kept {w w':World}{g:Nat}{t:TypeId}{cs:Array Value}{r:Option Nat}(h:Blk w g t cs)(hg:w.grownBy w' r)(hr:∀k,r=some k->∃o:Obj,w.heap[k]?=some o/\o.isCells=false):Blk w' g t cs:=
  h.grown hg (fun e=>by
    obtain⟨o,h2,h3⟩:=hr g e;unfold Blk at h;rw[h]at h2;injection h2 with h2
    rw[<-h2]at h3;cases h3)
end Go.Proofs.YtngikkggjidenabGreat
namespace Go.Proofs.YtngikkggjidenabGreat
open Go.RowKit
attribute [local go_sem ↓] Go.wp_at_zero Go.wp_at_succ run_max_ii run_min_ii
theorem ev_rem {P:Program}{ρ:Operand->Value}{o:Oper}{w:World}{A B E:Int}{t t':TypeId}{x y:Operand}(ho:o.op= .binOp .rem t x y t')(hx:ρ x= .int .i64 A)(hy:ρ y= .int .i64 B)(hB:B≠0)(hE:A.tmod B=E)(_h1: -9223372036854775808<=E)(_h2:E<=9223372036854775807):(execOp ρ o).run P w= .ok (.value (.int .i64 E)) w:=by
  unfold execOp;simp only[ho,hx,hy];simp[go_sem,hB,hE]
theorem ev_neqpt {ρ:Operand->Value}{o:Oper}{w:World}{a b c d:Int}{bb:Bool}{t':TypeId}{x y:Operand}(ho:o.op= .binOp .neq 28 x y t')(hx:ρ x= .agg #[.int .i64 a,.int .i64 b])(hy:ρ y= .agg #[.int .i64 c,.int .i64 d])(h:(!(a==c&&b==d))=bb):
    (execOp ρ o).run Tryz.prog w= .ok (.value (.bool bb)) w:=by
  subst h;unfold execOp;simp only[ho,hx,hy];simp[go_sem,run_neq_point]
def edC (e:Edge):List Value:=[.int .i64 e.1.1,.int .i64 e.1.2,.int .i64 e.2.1,.int .i64 e.2.2]
theorem edC_len (e:Edge):(edC e).length=4:=rfl
theorem range_one {w:World}{g o:Nat}{v:Value}(h:w.cell? ⟨g,o,none⟩=some v):w.rangeAt g o [v]:=by
  intro j u hj;match j,hj with
  |0,hj=>injection hj with hj;rw[<-hj];exact h
  |k+1,hj=>simp at hj
theorem range_pt {w:World}{g off i:Nat}{ps:List (Int×Int)}{a:Int×Int}(h:PtsAt w g off ps)(hi:ps[i]?=some a):w.rangeAt g (off+i*2) [.int .i64 a.1,.int .i64 a.2]:=by
  have hl:=(List.getElem?_eq_some_iff.1 hi).1;have h1:=h i hl;have e:ps.getD i (0,0)=a:=by rw[List.getD_eq_getElem?_getD,hi];rfl
  rw[e]at h1;intro j u hj;match j,hj with
  |0,hj=>injection hj with hj;rw[<-hj];exact h1.1
  |1,hj=>injection hj with hj;rw[<-hj];exact h1.2
  |k+2,hj=>simp at hj
def edgesOf (rs:List Ring):List Edge:=edgesV (if okR rs=true then rs else[])
theorem edgesOf_t {rs:List Ring}(h:okR rs=true):edgesOf rs=edgesV rs:=by unfold edgesOf;rw[if_pos h]
theorem ptsLit4 {w0 w:World}{m:List Ent}{X i:Nat}{a b c d:Int×Int}(h:Hp w0 w m)(h1:m[i]?=some (.blk X 28 [.int .i64 a.1,.int .i64 a.2,.int .i64 b.1,.int .i64 b.2,.int .i64 c.1,.int .i64 c.2,.int .i64 d.1,.int .i64 d.2])):PtsV w (.slice (some ⟨X,0,none⟩) 4 4) [a,b,c,d]:=by
 refine⟨_,4,rfl,fun _=>⟨X,0,rfl,fun i hi=> ?_⟩⟩;have hi:i<4:=hi;have:i=0\/i=1\/i=2\/i=3:=by omega
 rcases this with rfl|rfl|rfl|rfl
 ·exact⟨h.cell h1 0 rfl,h.cell h1 1 rfl⟩
 ·exact⟨h.cell h1 2 rfl,h.cell h1 3 rfl⟩
 ·exact⟨h.cell h1 4 rfl,h.cell h1 5 rfl⟩
 exact⟨h.cell h1 6 rfl,h.cell h1 7 rfl⟩
theorem ptsLit2 {w0 w:World}{m:List Ent}{X i:Nat}{a b:Int×Int}(h:Hp w0 w m)(h1:m[i]?=some (.blk X 28 [.int .i64 a.1,.int .i64 a.2,.int .i64 b.1,.int .i64 b.2])):PtsV w (.slice (some ⟨X,0,none⟩) 2 2) [a,b]:=by
  refine⟨_,2,rfl,fun _=>⟨X,0,rfl,fun i hi=> ?_⟩⟩;have hi:i<2:=hi;have:i=0\/i=1:=by omega
  rcases this with rfl|rfl
  · exact⟨h.cell h1 0 rfl,h.cell h1 1 rfl⟩
  exact⟨h.cell h1 2 rfl,h.cell h1 3 rfl⟩
theorem shared_bd (a b c d:Int×Int):0<=(sharedV a b c d).2/\(sharedV a b c d).2<=2:=by
  unfold sharedV;split
  · exact⟨by decide,by decide⟩
  split
  · exact⟨(show(0:Int)<=1 by decide),(show(1:Int)<=2 by decide)⟩
  exact⟨by decide,by decide⟩
theorem shared_ok {a b c d:Int×Int}(ha:okP a)(hb:okP b)(hc:okP c)(hd:okP d):okP (sharedV a b c d).1:=by
  unfold sharedV;split
  · exact(show okPt 0 0=true by decide)
  split
  · exact okSL ha hb hc hd
  exact(show okPt 0 0=true by decide)
def segT (a b c d:Int×Int):Rat:=((cr (dv a c) (dv c d):Int):Rat)/((cr (dv a b) (dv c d):Int):Rat)
def segS (a b c d:Int×Int):Rat:=((cr (dv a c) (dv a b):Int):Rat)/((cr (dv a b) (dv c d):Int):Rat)
def inU (x:Rat):Prop:=¬x<(((0):Int):Rat)/\¬(((1):Int):Rat)<x
instance inU_dec (x:Rat):Decidable (inU x):=inferInstanceAs (Decidable (_/\_))
def lineV (a b c d:Int×Int):Int×Int:=if dv a b=(0,0)then dv c d else dv a b
def segN (a b c d:Int×Int):Int:=
  if cr (dv a b) (dv c d)≠0 then(if inU (segT a b c d)/\inU (segS a b c d)then 1 else 0)
  else if cr (lineV a b c d) (dv a c)≠0\/(lineV a b c d=(0,0)/\a≠c)then 0 else(sharedV a b c d).2
def segX (a b c d:Int×Int):Rat:=if cr (dv a b) (dv c d)≠0 then(a.1:Rat)+segT a b c d*((b.1-a.1:Int):Rat)else(((sharedV a b c d).1.1:Int):Rat)
def segY (a b c d:Int×Int):Rat:=if cr (dv a b) (dv c d)≠0 then(a.2:Rat)+segT a b c d*((b.2-a.2:Int):Rat)else(((sharedV a b c d).1.2:Int):Rat)
def SegRet (a b c d:Int×Int)(w:World)(e:Ending)(w':World):Prop:=
  ((∃r s:RV,segN a b c d=1/\e= .returned (.tuple #[.agg #[.bool r.n,.slice r.p r.l r.c,.bool r.m,.slice r.p2 r.l2 r.c2],.agg #[.bool s.n,.slice s.p s.l s.c,.bool s.m,.slice s.p2 s.l2 s.c2],.int .i64 1])/\r.Is w' (segX a b c d)/\s.Is w' (segY a b c d))\/
    (segN a b c d≠1/\e= .returned (.tuple #[.agg z4,.agg z4,.int .i64 (segN a b c d)])))/\Ext w w'
theorem rl_qq (a b:Int)(h1: -9223372036854775808<=a/\a<=9223372036854775807)(h2: -9223372036854775808<=b/\b<=9223372036854775807):Nm.rl ((a:Rat)/(b:Rat))<=8:=by
  have h:=Nm.rl_div (a:Rat) (b:Rat);have h3:=rl_i64 a h1.1 h1.2;have h4:=rl_i64 b h2.1 h2.2;omega
theorem segments_any (a b c d:Int×Int)(w:World)(ha:okP a)(hb:okP b)(hc:okP c)(hd:okP d):
  Calls Tryz.prog 82 #[.agg #[.int .i64 a.1,.int .i64 a.2],.agg #[.int .i64 b.1,.int .i64 b.2],.agg #[.int .i64 c.1,.int .i64 c.2],.agg #[.int .i64 d.1,.int .i64 d.2]] w (SegRet a b c d w):=by
 have HALL:=zH (show okAll [a,b,c,d]=true from by simp[okAll,ha,hb,hc,hd]);have hn1:=cr_bd (dv_bd ha hb) (dv_bd hc hd);have hn2:=cr_bd (dv_bd ha hc) (dv_bd hc hd);have hn3:=cr_bd (dv_bd ha hc) (dv_bd ha hb);have oa:=okP_out ha;have ob:=okP_out hb;have oc:=okP_out hc;have od:=okP_out hd;go_enter Tryz.func82,Tryz.ntmps82
 have H0:=zH (Hp.start w);go_upto_region 0 with fail
 refine wl ?_;refine aA' 28 [.int .i64 a.1,.int .i64 a.2] H0.out ?_;intro X49 w50 H51 _;refine aA' 28 [.int .i64 b.1,.int .i64 b.2] H51.out ?_;intro X54 w55 H56 _;refine aA' 28 [.int .i64 c.1,.int .i64 c.2] H56.out ?_;intro X59 w60 H61 _;refine aA' 28 [.int .i64 d.1,.int .i64 d.2] H61.out ?_;intro X64 w65 H66 _;refine aA' 33 rz H66.out ?_;intro X69 w70 H71 _;refine aA' 33 rz H71.out ?_;intro X74 w75 H76 _;refine zq (.int .i64 0) ?_;go_upto_region 1 with fail
 refine wl ?_;refine zI4 H76.out _ _ _ _ ?_;refine aL' 4 28 [.int .i64 a.1,.int .i64 a.2,.int .i64 b.1,.int .i64 b.2,.int .i64 c.1,.int .i64 c.2,.int .i64 d.1,.int .i64 d.2] H76.out ?_;intro X80 w81 H82 _;refine zc (may_any (.slice (some ⟨X80,0,none⟩) 4 4) [a,b,c,d] _ (ptsLit4 H82.out (i:=6) rR) (by simp)) ?_;rintro e w84 ⟨rfl,hx⟩;have H85:=zH (H82.out.step hx);clear hx;refine⟨.bool true,by rw[HALL.out],?_⟩;try simp only[Act.put,zA,zB,zC]
 refine zq (.bool false) ?_;go_upto_region 3 with fail
 refine zy ?_;have H88:=zH (H85.out.step (Ext.refl w84).drew);refine zJ6 H85.out zb (bs 15 219) 0 1 3 4 6 7 _ _ _ _ _ _ ?_;refine FN.go3 (j1:=⟨9,some 11,28,[.int .i64 0,.int .i64 0]⟩) (j2:=⟨10,some 12,28,[.int .i64 0,.int .i64 0]⟩) (j3:=⟨11,some 13,28,[.int .i64 0,.int .i64 0]⟩) (b:=w84) ?_ zb;refine gN 2 (bs 15 223) (fk (fk (fk trivial))) zb.size (fun xq hxq=>vsub_any b a _ hb ha) (by rintro x_ e x2_ ⟨rfl,hx⟩;exact hx) ?_;rintro xq e w90 hxq ⟨rfl,hx⟩;replace hx:=hxq.trans hx;clear hxq;have H91:=zH (H88.out.step hx);have S93:=zH (zb.trans hx);clear hx;refine⟨_,rfl,?_⟩;try simp only[Act.put,zA,zB,zC]
 refine gN 5 (bs 15 255) (fk (fk (fk trivial))) S93.out.size (fun xq hxq=>vsub_any d c _ hd hc) (by rintro x_ e x2_ ⟨rfl,hx⟩;exact hx) ?_;rintro xq e w94 hxq ⟨rfl,hx⟩;replace hx:=hxq.trans hx;clear hxq;have H95:=zH (H91.out.step hx);have S97:=zH (S93.out.trans hx);clear hx;refine⟨_,rfl,?_⟩;try simp only[Act.put,zA,zB,zC]
 refine gN 8 (bs 15 511) (fk (fk (fk trivial))) S97.out.size (fun xq hxq=>vsub_any c a _ hc ha) (by rintro x_ e x2_ ⟨rfl,hx⟩;exact hx) ?_;rintro xq e w98 hxq ⟨rfl,hx⟩;replace hx:=hxq.trans hx;clear hxq;have H99:=zH (H95.out.step hx);have S101:=zH (S97.out.trans hx);clear hx;refine⟨_,rfl,?_⟩;try simp only[Act.put,zA,zB,zC]
 refine gE3 (bs 15 4095) (fk (fk (fk trivial))) S101.out.size H85.out H99.out ?_;intro X102 X103 X104 w105 hx hh hg0 hg1 hg2 hs;have H106:=hN hh;have S108:=zH (show Ext w84 w105 from hs);have G109:=zH (show w84.heap.size<=X102 from hg0);have G110:=zH (show w84.heap.size<=X103 from hg1);have G111:=zH (show w84.heap.size<=X104 from hg2);clear hh hx hs hg0 hg1 hg2;try simp only[Act.put,zA,zB,zC]
 refine bS 7 12 (bs 15 8191) [.int .i64 ((dv a b).1),.int .i64 ((dv a b).2)] H106.out S108.out G109.out ?_;intro w112 H113 _ S115;refine bS 8 13 (bs 15 16383) [.int .i64 ((dv c d).1),.int .i64 ((dv c d).2)] H113.out S115.out G110.out ?_;intro w116 H117 _ S119;refine bS 9 14 (bs 15 32767) [.int .i64 ((dv a c).1),.int .i64 ((dv a c).2)] H117.out S119.out G111.out ?_;intro w120 H121 _ S123;refine wpAnyH_done kR ?_ _;go_upto_region 4 with fail
 refine wl ?_;refine zI2 H121.out _ _ ?_;refine aC H121.out (icross_any (dv a b) (dv c d) _ (dv_bd ha hb) (dv_bd hc hd)) ?_;intro w124 H125 _;refine zq (.int .i64 (cr (dv a b) (dv c d))) ?_;rcases emH (cr (dv a b) (dv c d)≠0)with HNZ|HNZ
 ·go_upto_region 5 with fail
  refine wl ?_;refine zq (.int .i64 (cr (dv a b) (dv c d))) ?_;refine zp (.bool true) (by exact ezn (e:=(dec_t HNZ.out))) ?_;go_upto_region 6 with fail
  refine zy ?_;have H131:=zH (H125.out.step (Ext.refl w124).drew);refine zJ6 H125.out zb (bs 14 363) 0 1 3 5 6 8 _ _ (.int .i64 (cr (dv a b) (dv c d))) _ _ (.int .i64 (cr (dv a b) (dv c d))) ?_;refine FN.go2 (j1:=⟨10,some 15,33,[.bool false,.slice none 0 0,.bool false,.slice none 0 0]⟩) (j2:=⟨11,some 16,33,[.bool false,.slice none 0 0,.bool false,.slice none 0 0]⟩) (b:=w124) ?_ zb;refine gN 2 (bs 14 367) (fk (fk trivial)) zb.size (fun xq hxq=>icross_any (dv a c) (dv c d) _ (dv_bd ha hc) (dv_bd hc hd)) (by rintro x_ e x2_ ⟨rfl,hx⟩;exact hx) ?_;rintro xq e w135 hxq ⟨rfl,hx⟩;replace hx:=hxq.trans hx;clear hxq;have H136:=zH (H131.out.step hx);have S138:=zH (zb.trans hx);clear hx;refine⟨_,rfl,?_⟩;try simp only[Act.put,zA,zB,zC]
  refine gN 4 (bs 14 383) (fk (fk trivial)) S138.out.size (fun xq hxq=>by_any (cr (dv a c) (dv c d)) (cr (dv a b) (dv c d)) _ (by omega) (by omega) (by omega) (by omega) HNZ.out) (by rintro x_ e x2_ ⟨c_,rfl,hc_,hx⟩;exact hx) ?_;rintro xq e w139 hxq ⟨c_,rfl,hc_,hx⟩;replace hx:=hxq.trans hx;clear hxq;have H141:=zH (H136.out.step hx);have S143:=zH (S138.out.trans hx);obtain⟨r140,rfl,hr_⟩:=hc_;have R140:=zH hr_;have B140:=zH (rl_qq (cr (dv a c) (dv c d)) (cr (dv a b) (dv c d)) (by omega) (by omega));clear hr_ hx;refine⟨_,rfl,?_⟩;try simp only[Act.put,zA,zB,zC]
  refine gN 7 (bs 14 511) (fk (fk trivial)) S143.out.size (fun xq hxq=>icross_any (dv a c) (dv a b) _ (dv_bd ha hc) (dv_bd ha hb)) (by rintro x_ e x2_ ⟨rfl,hx⟩;exact hx) ?_;rintro xq e w144 hxq ⟨rfl,hx⟩;replace hx:=hxq.trans hx;clear hxq;have H145:=zH (H141.out.step hx);have D145:=zH (Dig.of_ext hx);have S147:=zH (S143.out.trans hx);clear hx;refine⟨_,rfl,?_⟩;try simp only[Act.put,zA,zB,zC]
  refine gN 9 (bs 14 1023) (fk (fk trivial)) S147.out.size (fun xq hxq=>by_any (cr (dv a c) (dv a b)) (cr (dv a b) (dv c d)) _ (by omega) (by omega) (by omega) (by omega) HNZ.out) (by rintro x_ e x2_ ⟨c_,rfl,hc_,hx⟩;exact hx) ?_;rintro xq e w148 hxq ⟨c_,rfl,hc_,hx⟩;replace hx:=hxq.trans hx;clear hxq;have H150:=zH (H145.out.step hx);have D150:=zH (Dig.of_ext hx);have S152:=zH (S147.out.trans hx);obtain⟨r149,rfl,hr_⟩:=hc_;have R149:=zH hr_;have B149:=zH (rl_qq (cr (dv a c) (dv a b)) (cr (dv a b) (dv c d)) (by omega) (by omega));clear hr_ hx;refine⟨_,rfl,?_⟩;try simp only[Act.put,zA,zB,zC]
  refine gE2 (bs 14 4095) (fk (fk trivial)) S152.out.size H125.out H150.out ?_;intro X153 X154 w155 hx hh hg0 hg1 hs;have H156:=hN hh;have D156:=zH (Dig.of_ext hx);have S158:=zH (show Ext w124 w155 from hs);have G159:=zH (show w124.heap.size<=X153 from hg0);have G160:=zH (show w124.heap.size<=X154 from hg1);clear hh hx hs hg0 hg1;try simp only[Act.put,zA,zB,zC]
  refine bS 10 12 (bs 14 8191) (rc r140) H156.out S158.out G159.out ?_;intro w161 H162 D162 S164;refine bS 11 13 (bs 14 16383) (rc r149) H162.out S164.out G160.out ?_;intro w165 H166 D166 S168;refine wpAnyH_done kR ?_ _;go_upto_region 7 with fail
  refine wl ?_;refine zI2 H166.out _ _ ?_;refine aL' 2 33 [.bool r140.n,.slice r140.p r140.l r140.c,.bool r140.m,.slice r140.p2 r140.l2 r140.c2,.bool r149.n,.slice r149.p r149.l r149.c,.bool r149.m,.slice r149.p2 r149.l2 r149.c2] H166.out ?_;intro X169 w170 H171 D171;refine zI2 (Hp.start _) _ _ ?_;go_wp2_with fail
  go_loopg [59] (2) (fun cq v175 wr=>∃(k:Nat),cq=2-k/\v175= .int .i64 (k:Int)/\(k<=2)/\(1<=k->inU (segT a b c d))/\(2<=k->inU (segS a b c d))/\Hp w wr [.blk X49 28 [.int .i64 a.1,.int .i64 a.2],.blk X54 28 [.int .i64 b.1,.int .i64 b.2],.blk X59 28 [.int .i64 c.1,.int .i64 c.2],.blk X64 28 [.int .i64 d.1,.int .i64 d.2],.blk X69 33 [.bool false,.slice none 0 0,.bool false,.slice none 0 0],.blk X74 33 [.bool false,.slice none 0 0,.bool false,.slice none 0 0],.blk X80 28 [.int .i64 a.1,.int .i64 a.2,.int .i64 b.1,.int .i64 b.2,.int .i64 c.1,.int .i64 c.2,.int .i64 d.1,.int .i64 d.2],.blk X102 28 [.int .i64 ((dv a b).1),.int .i64 ((dv a b).2)],.blk X103 28 [.int .i64 ((dv c d).1),.int .i64 ((dv c d).2)],.blk X104 28 [.int .i64 ((dv a c).1),.int .i64 ((dv a c).2)],.blk X153 33 [.bool r140.n,.slice r140.p r140.l r140.c,.bool r140.m,.slice r140.p2 r140.l2 r140.c2],.blk X154 33 [.bool r149.n,.slice r149.p r149.l r149.c,.bool r149.m,.slice r149.p2 r149.l2 r149.c2],.blk X169 33 [.bool r140.n,.slice r140.p r140.l r140.c,.bool r140.m,.slice r140.p2 r140.l2 r140.c2,.bool r149.n,.slice r149.p r149.l r149.c,.bool r149.m,.slice r149.p2 r149.l2 r149.c2]]/\Dig w170 wr)
  case atStart=>exact⟨0,rfl,rfl,(by decide),(fun h_=>absurd h_ (by decide)),(fun h_=>absurd h_ (by decide)),H171.out,Dig.refl _⟩
  obtain⟨k,rfl,rfl,q_HK,q_H0,q_H1,hh_,hd_⟩:=hrel;generalize wr=w176 at*
  have HK:=zH q_HK;clear q_HK;have H0:=zH q_H0;clear q_H0;have H1:=zH q_H1;clear q_H1;have H178:=zH hh_;have D178:=zH hd_;clear hh_ hd_ H171;rcases emH (k<2)with HLT|HLT
  ·have DD180:=tD (tD (tD (tD (tD (tD D145 D150) D156) D162) D166) D171) D178
   have DD181:=tD (tD (tD (tD D156 D162) D166) D171) D178;have hk2_:k=0\/k=1:=by have h_:=HLT.out;omega
   have HK2:=zH hk2_;clear hk2_;obtain⟨rk,hrk_⟩:∃r:RV,r=if k=0 then r140 else r149:=⟨_,rfl⟩
   obtain⟨xk,hxk_⟩:∃x:Rat,x=if k=0 then segT a b c d else segS a b c d:=⟨_,rfl⟩
   have HXK:=zH hxk_;have HRK:=zH (show rk.Is w176 xk from by rcases HK2.out with h_|h_;rw[hrk_,hxk_,if_pos h_,if_pos h_];exact(R140.out.dig DD180.out);rw[hrk_,hxk_,if_neg (by omega),if_neg (by omega)];exact(R149.out.dig DD181.out));have HBK:=zH (show Nm.rl xk<=8 from by rcases HK2.out with h_|h_;rw[hxk_,if_pos h_];exact B140.out;rw[hxk_,if_neg (by omega)];exact B149.out);have HRR:=zH (show World.rangeAt w176 X169 (k*4) [.bool rk.n,.slice rk.p rk.l rk.c,.bool rk.m,.slice rk.p2 rk.l2 rk.c2]from by rcases HK2.out with h_|h_;rw[hrk_,if_pos h_,h_];exact H178.out.range (i:=12) (by rfl) 0 4;have h1_:k=1:=h_;rw[hrk_,if_neg (by omega),h1_];exact H178.out.range (i:=12) (by rfl) 4 4);clear hrk_ hxk_;go_upto_region 8 with fail
   refine wl ?_;refine zp (.bool true) (by exact ezl (e:=(dec_t (by have ob3:=HLT.out;omega)))) ?_;go_upto_region 9 with fail
   refine wl ?_;refine zp (.pointer (some ⟨X169,k*4,none⟩)) (by exact ezi (k:=k) Tryz.underlying76 (l:=HLT.out) (f:=(Nat.zero_add _).symm)) ?_;refine zd X169 (k*4) (rc rk) HRR.out Tryz.underlying33 ?_;refine aA' 33 rz H178.out ?_;intro X184 w185 H186 D186;refine aS' 13 (rc rk) H186.out ?_;intro w189 H190 D190;rcases emH (xk<(((0):Int):Rat))with C1|C1
   ·go_upto_region 10 with fail
    refine zy ?_;have H193:=zH (H190.out.step (Ext.refl w189).drew);have D193:=zH (Dig.of_ext (w:=w189) zb);refine zJ1 H190.out zb (bs 10 1) 0 _ ?_;refine mC 1 (bs 10 3) (pFrom 0 _ (by have ob3:=HLT.out;omega) (by have ob3:=HLT.out;omega)) ?_;rintro e w195 ⟨c_,rfl,hc_,hx⟩;have H197:=zH (H193.out.step hx);have D197:=zH (show Dig w189.drew w195 from Dig.of_ext hx);have S199:=zH (zb.trans hx);obtain⟨r196,rfl,hr_⟩:=hc_;have R196:=zH hr_;have B196:=zH (rl_i64 0 (by have ob3:=HLT.out;omega) (by have ob3:=HLT.out;omega));clear hr_ hx;refine zm S199.out ?_;have DD201:=tD (tD (tD D186 D190) D193) D197;refine mC 2 (bs 10 7) (pCmp (L:=60000) (RV.Is.nin (HRK.out.dig DD201.out) (Nat.le_trans HBK.out (by omega))) (RV.Is.nin R196.out (Nat.le_trans B196.out (by omega))) (by omega)) ?_;rintro e w200 ⟨rfl,hx⟩;have H202:=zH (H197.out.step hx);have S204:=zH (S199.out.trans hx);clear hx;refine zm S204.out ?_;refine zu 3 (bs 10 15) (v:= .bool true) S204.out ?_ (hv:=by intro w hSw;exact ezl (e:=(dec_t (rcmp_lt.2 C1.out))));refine zJ6 (Hp.start _) S204.out (bs 10 1023) 4 5 6 7 8 9 (.bool true) _ _ _ _ (.bool true) ?_;refine wpAnyH_done kR ?_ _;go_upto_region 11 with fail
    refine wl ?_;refine zI2 (Hp.start _) _ _ ?_;refine aS' 4 rz H202.out ?_;intro w210 H211 _;refine aS' 5 rz H211.out ?_;intro w213 H214 _;refine zq (.int .i64 0) ?_;have HSN:=zH (show segN a b c d=0 from by unfold segN;rw[if_pos HNZ.out,if_neg (fun h_=>by have e_:=HXK.out;rcases HK2.out with k_|k_;rw[if_pos k_]at e_;exact h_.1.1 (e_▸C1.out);rw[if_neg (by omega)]at e_;exact h_.2.1 (e_▸C1.out))]);go_wp2_with fail
    refine bodyPost_ret (v:= .tuple #[.agg z4,.agg z4,.int .i64 0]) ?_ rfl ⟨.inr ⟨by rw[HSN.out];decide,by rw[HSN.out]⟩,H214.out.ext⟩;exact results_c1c1t1 rfl rfl rfl ((H214.out.blk (i:=4) rR).loadVar rfl rfl rR) ((H214.out.blk (i:=5) rR).loadVar rfl rfl rR) rfl
   rcases emH ((((1):Int):Rat)<xk)with C2|C2
   ·go_upto_region 10 with fail
    refine zy ?_;have H218:=zH (H190.out.step (Ext.refl w189).drew);have D218:=zH (Dig.of_ext (w:=w189) zb);refine zJ1 H190.out zb (bs 10 1) 0 _ ?_;refine mC 1 (bs 10 3) (pFrom 0 _ (by have ob3:=HLT.out;omega) (by have ob3:=HLT.out;omega)) ?_;rintro e w220 ⟨c_,rfl,hc_,hx⟩;have H222:=zH (H218.out.step hx);have D222:=zH (show Dig w189.drew w220 from Dig.of_ext hx);have S224:=zH (zb.trans hx);obtain⟨r221,rfl,hr_⟩:=hc_;have R221:=zH hr_;have B221:=zH (rl_i64 0 (by have ob3:=HLT.out;omega) (by have ob3:=HLT.out;omega));clear hr_ hx;refine zm S224.out ?_;have DD226:=tD (tD (tD D186 D190) D218) D222;refine mC 2 (bs 10 7) (pCmp (L:=60000) (RV.Is.nin (HRK.out.dig DD226.out) (Nat.le_trans HBK.out (by omega))) (RV.Is.nin R221.out (Nat.le_trans B221.out (by omega))) (by omega)) ?_;rintro e w225 ⟨rfl,hx⟩;have H227:=zH (H222.out.step hx);have D227:=zH (Dig.of_ext hx);have S229:=zH (S224.out.trans hx);clear hx;refine zm S229.out ?_;refine zu 3 (bs 10 15) (v:= .bool false) S229.out ?_ (hv:=by intro w hSw;exact ezl (e:=(dec_f (fun hh=>C1.out (rcmp_lt.1 hh)))));refine zJ2 H190.out S229.out (bs 10 63) 4 5 (.bool false) _ ?_;refine mC 6 (bs 10 127) (pFrom 1 _ (by have ob3:=HLT.out;omega) (by have ob3:=HLT.out;omega)) ?_;rintro e w232 ⟨c_,rfl,hc_,hx⟩;have H234:=zH (H227.out.step hx);have D234:=zH (Dig.of_ext hx);have S236:=zH (S229.out.trans hx);obtain⟨r233,rfl,hr_⟩:=hc_;have R233:=zH hr_;have B233:=zH (rl_i64 1 (by have ob3:=HLT.out;omega) (by have ob3:=HLT.out;omega));clear hr_ hx;refine zm S236.out ?_;have DD238:=tD (tD DD226 D227) D234;refine mC 7 (bs 10 255) (pCmp (L:=60000) (RV.Is.nin (HRK.out.dig DD238.out) (Nat.le_trans HBK.out (by omega))) (RV.Is.nin R233.out (Nat.le_trans B233.out (by omega))) (by omega)) ?_;rintro e w237 ⟨rfl,hx⟩;have H239:=zH (H234.out.step hx);have S241:=zH (S236.out.trans hx);clear hx;refine zm S241.out ?_;refine zu 8 (bs 10 511) (v:= .bool true) S241.out ?_ (hv:=by intro w hSw;exact ezg (e:=(dec_t (rcmp_gt.2 C2.out))));refine zx 9 (bs 10 1023) (.bool true) S241.out ?_;refine wpAnyH_done kR ?_ _;go_upto_region 11 with fail
    refine wl ?_;refine zI2 (Hp.start _) _ _ ?_;refine aS' 4 rz H239.out ?_;intro w246 H247 _;refine aS' 5 rz H247.out ?_;intro w249 H250 _;refine zq (.int .i64 0) ?_;have HSN:=zH (show segN a b c d=0 from by unfold segN;rw[if_pos HNZ.out,if_neg (fun h_=>by have e_:=HXK.out;rcases HK2.out with k_|k_;rw[if_pos k_]at e_;exact h_.1.2 (e_▸C2.out);rw[if_neg (by omega)]at e_;exact h_.2.2 (e_▸C2.out))]);go_wp2_with fail
    refine bodyPost_ret (v:= .tuple #[.agg z4,.agg z4,.int .i64 0]) ?_ rfl ⟨.inr ⟨by rw[HSN.out];decide,by rw[HSN.out]⟩,H250.out.ext⟩;exact results_c1c1t1 rfl rfl rfl ((H250.out.blk (i:=4) rR).loadVar rfl rfl rR) ((H250.out.blk (i:=5) rR).loadVar rfl rfl rR) rfl
   go_upto_region 10 with fail
   refine zy ?_;have H253:=zH (H190.out.step (Ext.refl w189).drew);have D253:=zH (Dig.of_ext (w:=w189) zb);refine zJ1 H190.out zb (bs 10 1) 0 _ ?_;refine mC 1 (bs 10 3) (pFrom 0 _ (by have ob3:=HLT.out;omega) (by have ob3:=HLT.out;omega)) ?_;rintro e w255 ⟨c_,rfl,hc_,hx⟩;have H257:=zH (H253.out.step hx);have D257:=zH (show Dig w189.drew w255 from Dig.of_ext hx);have S259:=zH (zb.trans hx);obtain⟨r256,rfl,hr_⟩:=hc_;have R256:=zH hr_;have B256:=zH (rl_i64 0 (by have ob3:=HLT.out;omega) (by have ob3:=HLT.out;omega));clear hr_ hx;refine zm S259.out ?_;have DD261:=tD (tD (tD D186 D190) D253) D257;refine mC 2 (bs 10 7) (pCmp (L:=60000) (RV.Is.nin (HRK.out.dig DD261.out) (Nat.le_trans HBK.out (by omega))) (RV.Is.nin R256.out (Nat.le_trans B256.out (by omega))) (by omega)) ?_;rintro e w260 ⟨rfl,hx⟩;have H262:=zH (H257.out.step hx);have D262:=zH (Dig.of_ext hx);have S264:=zH (S259.out.trans hx);clear hx;refine zm S264.out ?_;refine zu 3 (bs 10 15) (v:= .bool false) S264.out ?_ (hv:=by intro w hSw;exact ezl (e:=(dec_f (fun hh=>C1.out (rcmp_lt.1 hh)))));refine zJ2 H190.out S264.out (bs 10 63) 4 5 (.bool false) _ ?_;refine mC 6 (bs 10 127) (pFrom 1 _ (by have ob3:=HLT.out;omega) (by have ob3:=HLT.out;omega)) ?_;rintro e w267 ⟨c_,rfl,hc_,hx⟩;have H269:=zH (H262.out.step hx);have D269:=zH (Dig.of_ext hx);have S271:=zH (S264.out.trans hx);obtain⟨r268,rfl,hr_⟩:=hc_;have R268:=zH hr_;have B268:=zH (rl_i64 1 (by have ob3:=HLT.out;omega) (by have ob3:=HLT.out;omega));clear hr_ hx;refine zm S271.out ?_;have DD273:=tD (tD DD261 D262) D269;refine mC 7 (bs 10 255) (pCmp (L:=60000) (RV.Is.nin (HRK.out.dig DD273.out) (Nat.le_trans HBK.out (by omega))) (RV.Is.nin R268.out (Nat.le_trans B268.out (by omega))) (by omega)) ?_;rintro e w272 ⟨rfl,hx⟩;have H274:=zH (H269.out.step hx);have D274:=zH (Dig.of_ext hx);have S276:=zH (S271.out.trans hx);clear hx;refine zm S276.out ?_;refine zu 8 (bs 10 511) (v:= .bool false) S276.out ?_ (hv:=by intro w hSw;exact ezg (e:=(dec_f (fun hh=>C2.out (rcmp_gt.1 hh)))));refine zx 9 (bs 10 1023) (.bool false) S276.out ?_;refine wpAnyH_done kR ?_ _;go_upto_region 12 with fail
   refine wl ?_;refine zp (.int .i64 ((k+1:Nat):Int)) (by exact ez1 (by have ob3:=HLT.out;omega)) ?_;refine zq (.int .i64 ((k+1:Nat):Int)) ?_;have DD281:=tD (tD (tD (tD (tD (tD (tD D178 D186) D190) D253) D257) D262) D269) D274;go_wp2_with fail
   go_roundg (2-(k+1))
   case measure=>exact(by have ob3:=HLT.out;omega)
   case rel=>exact⟨k+1,rfl,(by go_num),(by have h_:=HLT.out;omega),(fun _=>by rcases HK2.out with k_|k_;have e_:=HXK.out;rw[if_pos k_]at e_;rw[<-e_];exact⟨C1.out,C2.out⟩;exact H0.out (by omega)),(fun h2_=>by have e_:=HXK.out;rw[if_neg (by omega)]at e_;rw[<-e_];exact⟨C1.out,C2.out⟩),H274.out.take 13,DD281.out⟩
  obtain rfl:k=2:=by have h_:=HLT.out;have h2_:=HK.out;omega
  have HSN:=zH (show segN a b c d=1 from by unfold segN;rw[if_pos HNZ.out,if_pos ⟨H0.out (by decide),H1.out (by decide)⟩]);go_upto_region 8 with fail
  refine wl ?_;refine zp (.bool false) (by exact ezl (e:=(dec_f dC))) ?_;go_upto_region 13 with fail
  refine wp_region_held_drew (S:=fun x=>Fr (fun kz=>kz=X69\/kz=X74) w176 x) kR (Fr.of_ext zb) (fun _=> ?_);have H283:=zH (H178.out.step (Ext.refl w176).drew);have D283:=zH (Dig.of_ext (w:=w176) zb);refine zx 0 (bs 15 1) (.pointer (some ⟨X49,0,none⟩)) (Fr.of_ext zb) ?_;refine md_ld1 (g:=X49) (o:=0) (v:= .int .i64 a.1) (i:=1) (listed':=(bs 15 3)) rR kR kR kR (by intro _ _ _ h;exact h) rR (fun x hx=>Fr.cell hx (show World.cell? w176 ⟨X49,0,none⟩=some (.int .i64 a.1)from cell_of_range (H178.out.range (i:=0) rR 0 1)) (fun hk=>hk.elim (H178.out.offBlk (i:=0) (j:=4) rR rR dC rR) (H178.out.offBlk (i:=0) (j:=5) rR rR dC rR))) (by intro x hq;go_simp<;>with_reducible rfl) (Fr.of_ext zb) kR ?_;try simp only[Act.put,zA,zB,zC]
  refine zx 2 (bs 15 7) (.pointer (some ⟨X54,0,none⟩)) (Fr.of_ext zb) ?_;refine md_ld1 (g:=X54) (o:=0) (v:= .int .i64 b.1) (i:=3) (listed':=(bs 15 15)) rR kR kR kR (by intro _ _ _ h;exact h) rR (fun x hx=>Fr.cell hx (show World.cell? w176 ⟨X54,0,none⟩=some (.int .i64 b.1)from cell_of_range (H178.out.range (i:=1) rR 0 1)) (fun hk=>hk.elim (H178.out.offBlk (i:=1) (j:=4) rR rR dC rR) (H178.out.offBlk (i:=1) (j:=5) rR rR dC rR))) (by intro x hq;go_simp<;>with_reducible rfl) (Fr.of_ext zb) kR ?_;refine zr 4 (bs 15 31) X153 (0) [.bool r140.n,.slice r140.p r140.l r140.c,.bool r140.m,.slice r140.p2 r140.l2 r140.c2] (fun x hx=>Fr.range hx (show World.rangeAt w176 X153 (0) [.bool r140.n,.slice r140.p r140.l r140.c,.bool r140.m,.slice r140.p2 r140.l2 r140.c2]from(H178.out.range (i:=10) rR 0 4)) (fun hk=>hk.elim (H178.out.offBlk (i:=10) (j:=4) rR rR dC rR) (H178.out.offBlk (i:=10) (j:=5) rR rR dC rR))) Tryz.underlying33 (Fr.of_ext zb) ?_;refine zx 6 (bs 15 95) (.pointer (some ⟨X49,1,none⟩)) (Fr.of_ext zb) ?_;refine md_ld1 (g:=X49) (o:=1) (v:= .int .i64 a.2) (i:=7) (listed':=(bs 15 223)) rR kR kR kR (by intro _ _ _ h;exact h) rR (fun x hx=>Fr.cell hx (show World.cell? w176 ⟨X49,1,none⟩=some (.int .i64 a.2)from cell_of_range (H178.out.range (i:=0) rR 1 1)) (fun hk=>hk.elim (H178.out.offBlk (i:=0) (j:=4) rR rR dC rR) (H178.out.offBlk (i:=0) (j:=5) rR rR dC rR))) (by intro x hq;go_simp<;>with_reducible rfl) (Fr.of_ext zb) kR ?_;try simp only[Act.put,zA,zB,zC]
  refine zx 8 (bs 15 479) (.pointer (some ⟨X54,1,none⟩)) (Fr.of_ext zb) ?_;refine md_ld1 (g:=X54) (o:=1) (v:= .int .i64 b.2) (i:=9) (listed':=(bs 15 991)) rR kR kR kR (by intro _ _ _ h;exact h) rR (fun x hx=>Fr.cell hx (show World.cell? w176 ⟨X54,1,none⟩=some (.int .i64 b.2)from cell_of_range (H178.out.range (i:=1) rR 1 1)) (fun hk=>hk.elim (H178.out.offBlk (i:=1) (j:=4) rR rR dC rR) (H178.out.offBlk (i:=1) (j:=5) rR rR dC rR))) (by intro x hq;go_simp<;>with_reducible rfl) (Fr.of_ext zb) kR ?_;refine zr 10 (bs 15 2015) X153 (0) [.bool r140.n,.slice r140.p r140.l r140.c,.bool r140.m,.slice r140.p2 r140.l2 r140.c2] (fun x hx=>Fr.range hx (show World.rangeAt w176 X153 (0) [.bool r140.n,.slice r140.p r140.l r140.c,.bool r140.m,.slice r140.p2 r140.l2 r140.c2]from(H178.out.range (i:=10) rR 0 4)) (fun hk=>hk.elim (H178.out.offBlk (i:=10) (j:=4) rR rR dC rR) (H178.out.offBlk (i:=10) (j:=5) rR rR dC rR))) Tryz.underlying33 (Fr.of_ext zb) ?_;have DD291:=tD (tD (tD (tD (tD (tD (tD D145 D150) D156) D162) D166) D171) D178) D283;refine mC 5 (bs 15 2047) (along_any 20 a.1 b.1 _ (((cr (dv a c) (dv c d):Int):Rat)/((cr (dv a b) (dv c d):Int):Rat)) _ (RV.Is.nin (R140.out.dig DD291.out) (Nat.le_trans B140.out (by omega))) dC dC ⟨(by omega),(by omega)⟩ ⟨(by omega),(by omega)⟩) ?_;rintro e w289 ⟨c_,rfl,hc_,hx⟩;have H292:=zH (H283.out.step hx);have D292:=zH (show Dig w176.drew w289 from Dig.of_ext hx);have S295:=zH (show Fr (fun kz=>kz=X69\/kz=X74) w176 w289 from(Fr.of_ext zb).trans (Fr.of_ext hx));obtain⟨r290,rfl,hr_⟩:=hc_;have R290:=zH hr_;clear hr_ hx;refine zm S295.out ?_;have DD298:=tD DD291 D292;refine mC 11 (bs 15 4095) (along_any 20 a.2 b.2 _ (((cr (dv a c) (dv c d):Int):Rat)/((cr (dv a b) (dv c d):Int):Rat)) _ (RV.Is.nin (R140.out.dig DD298.out) (Nat.le_trans B140.out (by omega))) dC dC ⟨(by omega),(by omega)⟩ ⟨(by omega),(by omega)⟩) ?_;rintro e w296 ⟨c_,rfl,hc_,hx⟩;have H299:=zH (H292.out.step hx);have D299:=zH (Dig.of_ext hx);have S302:=zH (S295.out.trans (Fr.of_ext hx));obtain⟨r297,rfl,hr_⟩:=hc_;have R297:=zH hr_;clear hr_ hx;refine zm S302.out ?_;refine md_st (i:=12) (listed':=(bs 15 8191)) rR kR rR kR _ _ _ rR H299.out (ix:=4) rR 0 [.bool r290.n,.slice r290.p r290.l r290.c,.bool r290.m,.slice r290.p2 r290.l2 r290.c2] rR rR (by simp) kR (by simp[Value.oneCell']) (by simp[NoUL]) ?_;intro w303 hh hd ho;have H304:=hN hh;have D304:=zH (hd);have S306:=zH (Fr.trans_new S302.out ho (fun j hj=> .inl (.inl (by injection hj with hj;exact hj.symm))));clear hh hd ho;refine⟨S306.out,?_⟩
  (try simp only[Act.put])
  refine md_st (i:=13) (listed':=(bs 15 16383)) rR kR rR kR _ _ _ rR H304.out (ix:=5) rR 0 [.bool r297.n,.slice r297.p r297.l r297.c,.bool r297.m,.slice r297.p2 r297.l2 r297.c2] rR rR (by simp) kR (by simp[Value.oneCell']) (by simp[NoUL]) ?_;intro w307 hh hd ho;have H308:=hN hh;have D308:=zH (hd);have S310:=zH (Fr.trans_new S306.out ho (fun j hj=> .inl (.inr (by injection hj with hj;exact hj.symm))));clear hh hd ho;refine⟨S310.out,?_⟩
  (try simp only[Act.put])
  refine zx 14 (bs 15 32767) (.int .i64 1) S310.out ?_;refine wpAnyH_done kR ?_ _;have DD312:=tD (tD D299 D304) D308;have DD313:=tD D304 D308;go_wp2_with fail
  refine bodyPost_ret (v:= .tuple #[.agg #[.bool r290.n,.slice r290.p r290.l r290.c,.bool r290.m,.slice r290.p2 r290.l2 r290.c2],.agg #[.bool r297.n,.slice r297.p r297.l r297.c,.bool r297.m,.slice r297.p2 r297.l2 r297.c2],.int .i64 1]) ?_ rfl ⟨.inl ⟨r290,r297,HSN.out,rfl,by unfold segX;rw[if_pos HNZ.out];exact(R290.out.dig DD312.out),by unfold segY;rw[if_pos HNZ.out];exact(R297.out.dig DD313.out)⟩,H308.out.ext⟩;exact results_c1c1t1 rfl rfl rfl ((H308.out.blk (i:=4) rR).loadVar rfl rfl rR) ((H308.out.blk (i:=5) rR).loadVar rfl rfl rR) rfl
 go_upto_region 5 with fail
 refine wl ?_;refine zq (.int .i64 (cr (dv a b) (dv c d))) ?_;refine zp (.bool false) (by exact ezn (e:=(dec_f HNZ.out))) ?_;go_upto_region 14 with fail
 refine wl ?_;refine zI1 H125.out _ ?_;refine aA' 28 [.int .i64 0,.int .i64 0] H125.out ?_;intro X316 w317 H318 _;refine aS' 10 [.int .i64 ((dv a b).1),.int .i64 ((dv a b).2)] H318.out ?_;intro w321 H322 _;go_upto_region 15 with fail
 refine wl ?_;refine zI2 H322.out _ _ ?_;refine zp (.bool ((dv a b).1==0&&(dv a b).2==0)) (by exact ev_eqlpt rR rR rR rfl) ?_;go_upto_if 91 with fail
 go_cut [] (fun wx=>Hp w wx [.blk X49 28 [.int .i64 a.1,.int .i64 a.2],.blk X54 28 [.int .i64 b.1,.int .i64 b.2],.blk X59 28 [.int .i64 c.1,.int .i64 c.2],.blk X64 28 [.int .i64 d.1,.int .i64 d.2],.blk X69 33 [.bool false,.slice none 0 0,.bool false,.slice none 0 0],.blk X74 33 [.bool false,.slice none 0 0,.bool false,.slice none 0 0],.blk X80 28 [.int .i64 a.1,.int .i64 a.2,.int .i64 b.1,.int .i64 b.2,.int .i64 c.1,.int .i64 c.2,.int .i64 d.1,.int .i64 d.2],.blk X102 28 [.int .i64 ((dv a b).1),.int .i64 ((dv a b).2)],.blk X103 28 [.int .i64 ((dv c d).1),.int .i64 ((dv c d).2)],.blk X104 28 [.int .i64 ((dv a c).1),.int .i64 ((dv a c).2)],.blk X316 28 [.int .i64 ((lineV a b c d).1),.int .i64 ((lineV a b c d).2)]]/\Dig w321 wx)
 case first=>
  by_cases cj:((dv a b).1==0&&(dv a b).2==0)=true
  ·rw[cj]
   go_upto_region 16 with fail
   refine wl ?_;refine zI1 H322.out _ ?_;refine aS' 10 [.int .i64 ((dv c d).1),.int .i64 ((dv c d).2)] H322.out ?_;intro w326 H327 D327;go_wp2_with fail
   go_meet
   exact⟨(by rw[show lineV a b c d=dv c d from if_pos ((pt_eq (a:=dv a b) (b:=(0,0))).1 cj)];exact H327.out),D327.out⟩
  rw[Bool.eq_false_iff.2 cj];go_wp2_with fail
  go_meet
  exact⟨(by rw[show lineV a b c d=dv a b from if_neg (fun h_=>cj ((pt_eq (a:=dv a b) (b:=(0,0))).2 h_))];exact H322.out),(Dig.refl _)⟩
 obtain⟨hh_,hd_⟩:=hcut;generalize wc=w329 at*
 have H331:=zH hh_;have D331:=zH hd_;clear hh_ hd_;have HL:=zH (show lineV a b c d=lineV a b c d from rfl);have hlb:(-2097152<=(lineV a b c d).1/\(lineV a b c d).1<=2097152)/\(-2097152<=(lineV a b c d).2/\(lineV a b c d).2<=2097152):=by unfold lineV;split;exact dv_bd hc hd;exact dv_bd ha hb
 have hn4:=cr_bd hlb (dv_bd ha hc);rcases emH (cr (lineV a b c d) (dv a c)≠0)with HX|HX
 ·go_upto_region 17 with fail
  refine wl ?_;refine zd X316 (0) [.int .i64 ((lineV a b c d).1),.int .i64 ((lineV a b c d).2)] (H331.out.range (i:=10) rR 0 2) Tryz.underlying28 ?_;refine zd X104 (0) [.int .i64 ((dv a c).1),.int .i64 ((dv a c).2)] (H331.out.range (i:=9) rR 0 2) Tryz.underlying28 ?_;refine aC H331.out (icross_any (lineV a b c d) (dv a c) _ hlb (dv_bd ha hc)) ?_;intro w333 H334 _;refine zp (.bool true) (by exact ezn (e:=(dec_t HX.out))) ?_;refine zI8 (Hp.start _) (.bool true) _ _ _ _ _ _ _ ?_;refine zk ?_;refine zq (.bool true) ?_;go_upto_region 18 with fail
  refine wl ?_;refine zI2 (Hp.start _) _ _ ?_;refine aS' 4 rz H334.out ?_;intro w341 H342 _;refine aS' 5 rz H342.out ?_;intro w344 H345 _;refine zq (.int .i64 0) ?_;have HSN:=zH (show segN a b c d=0 from by unfold segN;rw[if_neg HNZ.out,HL.out];exact if_pos (.inl HX.out));go_wp2_with fail
  refine bodyPost_ret (v:= .tuple #[.agg z4,.agg z4,.int .i64 0]) ?_ rfl ⟨.inr ⟨by rw[HSN.out];decide,by rw[HSN.out]⟩,H345.out.ext⟩;exact results_c1c1t1 rfl rfl rfl ((H345.out.blk (i:=4) rR).loadVar rfl rfl rR) ((H345.out.blk (i:=5) rR).loadVar rfl rfl rR) rfl
 rcases emH (lineV a b c d=(0,0))with HL0|HL0
 ·rcases emH (a≠c)with HAC|HAC
  ·go_upto_region 17 with fail
   refine wl ?_;refine zd X316 (0) [.int .i64 ((lineV a b c d).1),.int .i64 ((lineV a b c d).2)] (H331.out.range (i:=10) rR 0 2) Tryz.underlying28 ?_;refine zd X104 (0) [.int .i64 ((dv a c).1),.int .i64 ((dv a c).2)] (H331.out.range (i:=9) rR 0 2) Tryz.underlying28 ?_;refine aC H331.out (icross_any (lineV a b c d) (dv a c) _ hlb (dv_bd ha hc)) ?_;intro w350 H351 _;refine zp (.bool false) (by exact ezn (e:=(dec_f HX.out))) ?_;refine qV (.bool false) ?_;refine zd X316 (0) [.int .i64 ((lineV a b c d).1),.int .i64 ((lineV a b c d).2)] (H351.out.range (i:=10) rR 0 2) Tryz.underlying28 ?_;refine zI1 (Hp.start _) _ ?_;refine zp (.bool true) (by exact ev_eqlpt rR rR rR ((pt_eq (a:=lineV a b c d) (b:=(0,0))).2 HL0.out)) ?_;refine qV (.bool true) ?_;refine zd X49 (0) [.int .i64 a.1,.int .i64 a.2] (H351.out.range (i:=0) rR 0 2) Tryz.underlying28 ?_;refine zd X59 (0) [.int .i64 c.1,.int .i64 c.2] (H351.out.range (i:=2) rR 0 2) Tryz.underlying28 ?_;refine zp (.bool true) (by exact ev_neqpt rR rR rR (by rw[Bool.not_eq_true',Bool.eq_false_iff];exact fun h_=>HAC.out (pt_eq.1 h_))) ?_;refine zI2 (Hp.start _) (.bool true) (.bool true) ?_;go_upto_region 18 with fail
   refine wl ?_;refine zI2 (Hp.start _) _ _ ?_;refine aS' 4 rz H351.out ?_;intro w363 H364 _;refine aS' 5 rz H364.out ?_;intro w366 H367 _;refine zq (.int .i64 0) ?_;have HSN:=zH (show segN a b c d=0 from by unfold segN;rw[if_neg HNZ.out,HL.out];exact if_pos (.inr ⟨HL0.out,HAC.out⟩));go_wp2_with fail
   refine bodyPost_ret (v:= .tuple #[.agg z4,.agg z4,.int .i64 0]) ?_ rfl ⟨.inr ⟨by rw[HSN.out];decide,by rw[HSN.out]⟩,H367.out.ext⟩;exact results_c1c1t1 rfl rfl rfl ((H367.out.blk (i:=4) rR).loadVar rfl rfl rR) ((H367.out.blk (i:=5) rR).loadVar rfl rfl rR) rfl
  have HR:=zH (show¬(lineV a b c d=(0,0)/\a≠c)from fun h_=>HAC.out h_.2);go_upto_region 17 with fail
  refine wl ?_;refine zd X316 (0) [.int .i64 ((lineV a b c d).1),.int .i64 ((lineV a b c d).2)] (H331.out.range (i:=10) rR 0 2) Tryz.underlying28 ?_;refine zd X104 (0) [.int .i64 ((dv a c).1),.int .i64 ((dv a c).2)] (H331.out.range (i:=9) rR 0 2) Tryz.underlying28 ?_;refine aC H331.out (icross_any (lineV a b c d) (dv a c) _ hlb (dv_bd ha hc)) ?_;intro w370 H371 _;refine zp (.bool false) (by exact ezn (e:=(dec_f HX.out))) ?_;refine qV (.bool false) ?_;refine zd X316 (0) [.int .i64 ((lineV a b c d).1),.int .i64 ((lineV a b c d).2)] (H371.out.range (i:=10) rR 0 2) Tryz.underlying28 ?_;refine zI1 (Hp.start _) _ ?_;refine zp (.bool true) (by exact ev_eqlpt rR rR rR ((pt_eq (a:=lineV a b c d) (b:=(0,0))).2 HL0.out)) ?_;refine qV (.bool true) ?_;refine zd X49 (0) [.int .i64 a.1,.int .i64 a.2] (H371.out.range (i:=0) rR 0 2) Tryz.underlying28 ?_;refine zd X59 (0) [.int .i64 c.1,.int .i64 c.2] (H371.out.range (i:=2) rR 0 2) Tryz.underlying28 ?_;refine zp (.bool false) (by exact ev_neqpt rR rR rR (by rw[Bool.not_eq_false'];exact pt_eq.2 (Classical.not_not.1 HAC.out))) ?_;refine zI2 (Hp.start _) (.bool false) (.bool false) ?_;go_upto_region 19 with fail
  refine wl ?_;refine zd X49 (0) [.int .i64 a.1,.int .i64 a.2] (H371.out.range (i:=0) rR 0 2) Tryz.underlying28 ?_;refine zd X54 (0) [.int .i64 b.1,.int .i64 b.2] (H371.out.range (i:=1) rR 0 2) Tryz.underlying28 ?_;refine zd X59 (0) [.int .i64 c.1,.int .i64 c.2] (H371.out.range (i:=2) rR 0 2) Tryz.underlying28 ?_;refine zd X64 (0) [.int .i64 d.1,.int .i64 d.2] (H371.out.range (i:=3) rR 0 2) Tryz.underlying28 ?_;refine aC H371.out (shared_any a b c d _ ha hb hc hd) ?_;intro w381 H382 _;refine zI3 (Hp.start _) _ _ (.int .i64 ((sharedV a b c d).2)) ?_;refine aA' 28 [.int .i64 0,.int .i64 0] H382.out ?_;intro X387 w388 H389 _;refine aS' 11 [.int .i64 ((sharedV a b c d).1.1),.int .i64 ((sharedV a b c d).1.2)] H389.out ?_;intro w392 H393 _;refine zq (.int .i64 ((sharedV a b c d).2)) ?_;have HSN:=zH (show segN a b c d=(sharedV a b c d).2 from by unfold segN;rw[if_neg HNZ.out,HL.out];exact if_neg (fun h_=>h_.elim (fun h_=>HX.out h_) (fun h_=>HR.out h_)));have hk_:=shared_bd a b c d;rcases emH ((sharedV a b c d).2≠1)with HK1|HK1
  ·go_upto_region 20 with fail
   refine wl ?_;refine zq (.int .i64 ((sharedV a b c d).2)) ?_;refine zp (.bool true) (by exact ezn (e:=(dec_t HK1.out))) ?_;go_upto_region 21 with fail
   refine wl ?_;refine zI3 (Hp.start _) _ _ (.int .i64 ((sharedV a b c d).2)) ?_;refine aS' 4 rz H393.out ?_;intro w402 H403 _;refine aS' 5 rz H403.out ?_;intro w405 H406 _;refine zq (.int .i64 ((sharedV a b c d).2)) ?_;go_wp2_with fail
   refine bodyPost_ret (v:= .tuple #[.agg z4,.agg z4,.int .i64 (sharedV a b c d).2]) ?_ rfl ⟨.inr ⟨by rw[HSN.out];exact HK1.out,by rw[HSN.out]⟩,H406.out.ext⟩;exact results_c1c1t1 rfl rfl rfl ((H406.out.blk (i:=4) rR).loadVar rfl rfl rR) ((H406.out.blk (i:=5) rR).loadVar rfl rfl rR) rfl
  have hk1_:(sharedV a b c d).2=1:=by have h_:=HK1.out;omega
  have hp_:=shared_ok ha hb hc hd;have op_:=okP_out hp_;go_upto_region 20 with fail
  refine wl ?_;refine zq (.int .i64 ((sharedV a b c d).2)) ?_;refine zp (.bool false) (by exact ezn (e:=(dec_f HK1.out))) ?_;go_upto_region 22 with fail
  refine wp_region_held_drew (S:=fun x=>Fr (fun kz=>kz=X69\/kz=X74) w392 x) kR (Fr.of_ext zb) (fun _=> ?_);have H411:=zH (H393.out.step (Ext.refl w392).drew);refine zx 0 (bs 9 1) (.pointer (some ⟨X387,0,none⟩)) (Fr.of_ext zb) ?_;refine md_ld1 (g:=X387) (o:=0) (v:= .int .i64 ((sharedV a b c d).1.1)) (i:=1) (listed':=(bs 9 3)) rR kR kR kR (by intro _ _ _ h;exact h) rR (fun x hx=>Fr.cell hx (show World.cell? w392 ⟨X387,0,none⟩=some (.int .i64 ((sharedV a b c d).1.1))from cell_of_range (H393.out.range (i:=11) rR 0 1)) (fun hk=>hk.elim (H393.out.offBlk (i:=11) (j:=4) rR rR dC rR) (H393.out.offBlk (i:=11) (j:=5) rR rR dC rR))) (by intro x hq;go_simp<;>with_reducible rfl) (Fr.of_ext zb) kR ?_;try simp only[Act.put,zA,zB,zC]
  refine zx 3 (bs 9 11) (.pointer (some ⟨X387,1,none⟩)) (Fr.of_ext zb) ?_;refine md_ld1 (g:=X387) (o:=1) (v:= .int .i64 ((sharedV a b c d).1.2)) (i:=4) (listed':=(bs 9 27)) rR kR kR kR (by intro _ _ _ h;exact h) rR (fun x hx=>Fr.cell hx (show World.cell? w392 ⟨X387,1,none⟩=some (.int .i64 ((sharedV a b c d).1.2))from cell_of_range (H393.out.range (i:=11) rR 1 1)) (fun hk=>hk.elim (H393.out.offBlk (i:=11) (j:=4) rR rR dC rR) (H393.out.offBlk (i:=11) (j:=5) rR rR dC rR))) (by intro x hq;go_simp<;>with_reducible rfl) (Fr.of_ext zb) kR ?_;try simp only[Act.put,zA,zB,zC]
  refine mC 2 (bs 9 31) (pFrom ((sharedV a b c d).1.1) _ (by omega) (by omega)) ?_;rintro e w415 ⟨c_,rfl,hc_,hx⟩;have H417:=zH (H411.out.step hx);have S420:=zH (show Fr (fun kz=>kz=X69\/kz=X74) w392 w415 from(Fr.of_ext zb).trans (Fr.of_ext hx));obtain⟨r416,rfl,hr_⟩:=hc_;have R416:=zH hr_;clear hr_ hx;refine zm S420.out ?_;refine mC 5 (bs 9 63) (pFrom ((sharedV a b c d).1.2) _ (by omega) (by omega)) ?_;rintro e w421 ⟨c_,rfl,hc_,hx⟩;have H423:=zH (H417.out.step hx);have D423:=zH (Dig.of_ext hx);have S426:=zH (S420.out.trans (Fr.of_ext hx));obtain⟨r422,rfl,hr_⟩:=hc_;have R422:=zH hr_;clear hr_ hx;refine zm S426.out ?_;refine md_st (i:=6) (listed':=(bs 9 127)) rR kR rR kR _ _ _ rR H423.out (ix:=4) rR 0 [.bool r416.n,.slice r416.p r416.l r416.c,.bool r416.m,.slice r416.p2 r416.l2 r416.c2] rR rR (by simp) kR (by simp[Value.oneCell']) (by simp[NoUL]) ?_;intro w427 hh hd ho;have H428:=hN hh;have D428:=zH (hd);have S430:=zH (Fr.trans_new S426.out ho (fun j hj=> .inl (.inl (by injection hj with hj;exact hj.symm))));clear hh hd ho;refine⟨S430.out,?_⟩
  (try simp only[Act.put])
  refine md_st (i:=7) (listed':=(bs 9 255)) rR kR rR kR _ _ _ rR H428.out (ix:=5) rR 0 [.bool r422.n,.slice r422.p r422.l r422.c,.bool r422.m,.slice r422.p2 r422.l2 r422.c2] rR rR (by simp) kR (by simp[Value.oneCell']) (by simp[NoUL]) ?_;intro w431 hh hd ho;have H432:=hN hh;have D432:=zH (hd);have S434:=zH (Fr.trans_new S430.out ho (fun j hj=> .inl (.inr (by injection hj with hj;exact hj.symm))));clear hh hd ho;refine⟨S434.out,?_⟩
  (try simp only[Act.put])
  refine zx 8 (bs 9 511) (.int .i64 1) S434.out ?_;refine wpAnyH_done kR ?_ _;have DD436:=tD (tD D423 D428) D432;have DD437:=tD D428 D432;go_wp2_with fail
  refine bodyPost_ret (v:= .tuple #[.agg #[.bool r416.n,.slice r416.p r416.l r416.c,.bool r416.m,.slice r416.p2 r416.l2 r416.c2],.agg #[.bool r422.n,.slice r422.p r422.l r422.c,.bool r422.m,.slice r422.p2 r422.l2 r422.c2],.int .i64 1]) ?_ rfl ⟨.inl ⟨r416,r422,HSN.out.trans hk1_,rfl,by unfold segX;rw[if_neg HNZ.out];exact(R416.out.dig DD436.out),by unfold segY;rw[if_neg HNZ.out];exact(R422.out.dig DD437.out)⟩,H432.out.ext⟩;exact results_c1c1t1 rfl rfl rfl ((H432.out.blk (i:=4) rR).loadVar rfl rfl rR) ((H432.out.blk (i:=5) rR).loadVar rfl rfl rR) rfl
 have HR:=zH (show¬(lineV a b c d=(0,0)/\a≠c)from fun h_=>HL0.out h_.1);go_upto_region 17 with fail
 refine wl ?_;refine zd X316 (0) [.int .i64 ((lineV a b c d).1),.int .i64 ((lineV a b c d).2)] (H331.out.range (i:=10) rR 0 2) Tryz.underlying28 ?_;refine zd X104 (0) [.int .i64 ((dv a c).1),.int .i64 ((dv a c).2)] (H331.out.range (i:=9) rR 0 2) Tryz.underlying28 ?_;refine aC H331.out (icross_any (lineV a b c d) (dv a c) _ hlb (dv_bd ha hc)) ?_;intro w438 H439 _;refine zp (.bool false) (by exact ezn (e:=(dec_f HX.out))) ?_;refine qV (.bool false) ?_;refine zd X316 (0) [.int .i64 ((lineV a b c d).1),.int .i64 ((lineV a b c d).2)] (H439.out.range (i:=10) rR 0 2) Tryz.underlying28 ?_;refine zI1 (Hp.start _) _ ?_;refine zp (.bool false) (by exact ev_eqlpt rR rR rR (Bool.eq_false_iff.2 (fun h_=>HL0.out ((pt_eq (a:=lineV a b c d) (b:=(0,0))).1 h_)))) ?_;refine zI6 (Hp.start _) (.bool false) _ _ _ (.bool false) (.bool false) ?_;go_upto_region 19 with fail
 refine wl ?_;refine zd X49 (0) [.int .i64 a.1,.int .i64 a.2] (H439.out.range (i:=0) rR 0 2) Tryz.underlying28 ?_;refine zd X54 (0) [.int .i64 b.1,.int .i64 b.2] (H439.out.range (i:=1) rR 0 2) Tryz.underlying28 ?_;refine zd X59 (0) [.int .i64 c.1,.int .i64 c.2] (H439.out.range (i:=2) rR 0 2) Tryz.underlying28 ?_;refine zd X64 (0) [.int .i64 d.1,.int .i64 d.2] (H439.out.range (i:=3) rR 0 2) Tryz.underlying28 ?_;refine aC H439.out (shared_any a b c d _ ha hb hc hd) ?_;intro w448 H449 _;refine zI3 (Hp.start _) _ _ (.int .i64 ((sharedV a b c d).2)) ?_;refine aA' 28 [.int .i64 0,.int .i64 0] H449.out ?_;intro X454 w455 H456 _;refine aS' 11 [.int .i64 ((sharedV a b c d).1.1),.int .i64 ((sharedV a b c d).1.2)] H456.out ?_;intro w459 H460 _;refine zq (.int .i64 ((sharedV a b c d).2)) ?_;have HSN:=zH (show segN a b c d=(sharedV a b c d).2 from by unfold segN;rw[if_neg HNZ.out,HL.out];exact if_neg (fun h_=>h_.elim (fun h_=>HX.out h_) (fun h_=>HR.out h_)));have hk_:=shared_bd a b c d;rcases emH ((sharedV a b c d).2≠1)with HK1|HK1
 ·go_upto_region 20 with fail
  refine wl ?_;refine zq (.int .i64 ((sharedV a b c d).2)) ?_;refine zp (.bool true) (by exact ezn (e:=(dec_t HK1.out))) ?_;go_upto_region 21 with fail
  refine wl ?_;refine zI3 (Hp.start _) _ _ (.int .i64 ((sharedV a b c d).2)) ?_;refine aS' 4 rz H460.out ?_;intro w469 H470 _;refine aS' 5 rz H470.out ?_;intro w472 H473 _;refine zq (.int .i64 ((sharedV a b c d).2)) ?_;go_wp2_with fail
  refine bodyPost_ret (v:= .tuple #[.agg z4,.agg z4,.int .i64 (sharedV a b c d).2]) ?_ rfl ⟨.inr ⟨by rw[HSN.out];exact HK1.out,by rw[HSN.out]⟩,H473.out.ext⟩;exact results_c1c1t1 rfl rfl rfl ((H473.out.blk (i:=4) rR).loadVar rfl rfl rR) ((H473.out.blk (i:=5) rR).loadVar rfl rfl rR) rfl
 have hk1_:(sharedV a b c d).2=1:=by have h_:=HK1.out;omega
 have hp_:=shared_ok ha hb hc hd;have op_:=okP_out hp_;go_upto_region 20 with fail
 refine wl ?_;refine zq (.int .i64 ((sharedV a b c d).2)) ?_;refine zp (.bool false) (by exact ezn (e:=(dec_f HK1.out))) ?_;go_upto_region 22 with fail
 refine wp_region_held_drew (S:=fun x=>Fr (fun kz=>kz=X69\/kz=X74) w459 x) kR (Fr.of_ext zb) (fun _=> ?_);have H478:=zH (H460.out.step (Ext.refl w459).drew);refine zx 0 (bs 9 1) (.pointer (some ⟨X454,0,none⟩)) (Fr.of_ext zb) ?_;refine md_ld1 (g:=X454) (o:=0) (v:= .int .i64 ((sharedV a b c d).1.1)) (i:=1) (listed':=(bs 9 3)) rR kR kR kR (by intro _ _ _ h;exact h) rR (fun x hx=>Fr.cell hx (show World.cell? w459 ⟨X454,0,none⟩=some (.int .i64 ((sharedV a b c d).1.1))from cell_of_range (H460.out.range (i:=11) rR 0 1)) (fun hk=>hk.elim (H460.out.offBlk (i:=11) (j:=4) rR rR dC rR) (H460.out.offBlk (i:=11) (j:=5) rR rR dC rR))) (by intro x hq;go_simp<;>with_reducible rfl) (Fr.of_ext zb) kR ?_;try simp only[Act.put,zA,zB,zC]
 refine zx 3 (bs 9 11) (.pointer (some ⟨X454,1,none⟩)) (Fr.of_ext zb) ?_;refine md_ld1 (g:=X454) (o:=1) (v:= .int .i64 ((sharedV a b c d).1.2)) (i:=4) (listed':=(bs 9 27)) rR kR kR kR (by intro _ _ _ h;exact h) rR (fun x hx=>Fr.cell hx (show World.cell? w459 ⟨X454,1,none⟩=some (.int .i64 ((sharedV a b c d).1.2))from cell_of_range (H460.out.range (i:=11) rR 1 1)) (fun hk=>hk.elim (H460.out.offBlk (i:=11) (j:=4) rR rR dC rR) (H460.out.offBlk (i:=11) (j:=5) rR rR dC rR))) (by intro x hq;go_simp<;>with_reducible rfl) (Fr.of_ext zb) kR ?_;try simp only[Act.put,zA,zB,zC]
 refine mC 2 (bs 9 31) (pFrom ((sharedV a b c d).1.1) _ (by omega) (by omega)) ?_;rintro e w482 ⟨c_,rfl,hc_,hx⟩;have H484:=zH (H478.out.step hx);have S487:=zH (show Fr (fun kz=>kz=X69\/kz=X74) w459 w482 from(Fr.of_ext zb).trans (Fr.of_ext hx));obtain⟨r483,rfl,hr_⟩:=hc_;have R483:=zH hr_;clear hr_ hx;refine zm S487.out ?_;refine mC 5 (bs 9 63) (pFrom ((sharedV a b c d).1.2) _ (by omega) (by omega)) ?_;rintro e w488 ⟨c_,rfl,hc_,hx⟩;have H490:=zH (H484.out.step hx);have D490:=zH (Dig.of_ext hx);have S493:=zH (S487.out.trans (Fr.of_ext hx));obtain⟨r489,rfl,hr_⟩:=hc_;have R489:=zH hr_;clear hr_ hx;refine zm S493.out ?_;refine md_st (i:=6) (listed':=(bs 9 127)) rR kR rR kR _ _ _ rR H490.out (ix:=4) rR 0 [.bool r483.n,.slice r483.p r483.l r483.c,.bool r483.m,.slice r483.p2 r483.l2 r483.c2] rR rR (by simp) kR (by simp[Value.oneCell']) (by simp[NoUL]) ?_;intro w494 hh hd ho;have H495:=hN hh;have D495:=zH (hd);have S497:=zH (Fr.trans_new S493.out ho (fun j hj=> .inl (.inl (by injection hj with hj;exact hj.symm))));clear hh hd ho;refine⟨S497.out,?_⟩
 (try simp only[Act.put])
 refine md_st (i:=7) (listed':=(bs 9 255)) rR kR rR kR _ _ _ rR H495.out (ix:=5) rR 0 [.bool r489.n,.slice r489.p r489.l r489.c,.bool r489.m,.slice r489.p2 r489.l2 r489.c2] rR rR (by simp) kR (by simp[Value.oneCell']) (by simp[NoUL]) ?_;intro w498 hh hd ho;have H499:=hN hh;have D499:=zH (hd);have S501:=zH (Fr.trans_new S497.out ho (fun j hj=> .inl (.inr (by injection hj with hj;exact hj.symm))));clear hh hd ho;refine⟨S501.out,?_⟩
 (try simp only[Act.put])
 refine zx 8 (bs 9 511) (.int .i64 1) S501.out ?_;refine wpAnyH_done kR ?_ _;have DD503:=tD (tD D490 D495) D499;have DD504:=tD D495 D499;go_wp2_with fail
 refine bodyPost_ret (v:= .tuple #[.agg #[.bool r483.n,.slice r483.p r483.l r483.c,.bool r483.m,.slice r483.p2 r483.l2 r483.c2],.agg #[.bool r489.n,.slice r489.p r489.l r489.c,.bool r489.m,.slice r489.p2 r489.l2 r489.c2],.int .i64 1]) ?_ rfl ⟨.inl ⟨r483,r489,HSN.out.trans hk1_,rfl,by unfold segX;rw[if_neg HNZ.out];exact(R483.out.dig DD503.out),by unfold segY;rw[if_neg HNZ.out];exact(R489.out.dig DD504.out)⟩,H499.out.ext⟩;exact results_c1c1t1 rfl rfl rfl ((H499.out.blk (i:=4) rR).loadVar rfl rfl rR) ((H499.out.blk (i:=5) rR).loadVar rfl rfl rR) rfl
def AtRet (C:Prop)(q:Rat)(w:World)(e:Ending)(w':World):Prop:=
  ((∃r:RV,C/\e= .returned (.tuple #[.agg #[.bool r.n,.slice r.p r.l r.c,.bool r.m,.slice r.p2 r.l2 r.c2],.bool true])/\r.Is w' q)\/
    (¬C/\e= .returned (.tuple #[.agg z4,.bool false])))/\Ext w w'
def i64P (p:Int×Int):Prop:=(-9223372036854775808<=p.1/\p.1<=9223372036854775807)/\(-9223372036854775808<=p.2/\p.2<=9223372036854775807)
theorem okP.i64 {p:Int×Int}(h:okP p):i64P p:=by have h:=okP_out h;unfold i64P;omega
def yatC (a b:Int×Int)(x:Int):Prop:=okP a/\okP b/\a.1≠b.1/\min a.1 b.1<=x/\x<=max a.1 b.1
def yatQ (a b:Int×Int)(x:Int):Rat:=(a.2:Rat)+((x-a.1:Int):Rat)/((b.1-a.1:Int):Rat)*((b.2-a.2:Int):Rat)
theorem okAll2 {a b:Int×Int}:okAll [a,b]=true↔okP a/\okP b:=by simp[okAll,okP]
theorem yat_any (a b:Int×Int)(x:Int)(w:World)(hx0: -9223372036854775808<=x/\x<=9223372036854775807):
  Calls Tryz.prog 81 #[.agg #[.int .i64 a.1,.int .i64 a.2],.agg #[.int .i64 b.1,.int .i64 b.2],.int .i64 x] w (AtRet (yatC a b x) (yatQ a b x) w):=by
 go_enter Tryz.func81,Tryz.ntmps81
 have H0:=zH (Hp.start w);go_upto_region 0 with fail
 refine wl ?_;refine aA' 28 [.int .i64 a.1,.int .i64 a.2] H0.out ?_;intro X1 w2 H3 _;refine aA' 28 [.int .i64 b.1,.int .i64 b.2] H3.out ?_;intro X6 w7 H8 _;refine aA' 33 rz H8.out ?_;intro X11 w12 H13 _;refine zq (.bool false) ?_;rcases emH (okAll [a,b]=true)with HB|HB
 ·have HALL:=HB
  have hok:=okAll2.1 HB.out;have oa:=okP_out hok.1;have ob:=okP_out hok.2;have HOK:=zH hok;rcases emH (a.1=b.1)with C1|C1
  ·go_upto_region 1 with fail
   refine wl ?_;refine zI2 H13.out _ _ ?_;refine aL' 2 28 [.int .i64 a.1,.int .i64 a.2,.int .i64 b.1,.int .i64 b.2] H13.out ?_;intro X19 w20 H21 _;refine zc (may_any (.slice (some ⟨X19,0,none⟩) 2 2) [a,b] _ (ptsLit2 H21.out (i:=3) rR) (by simp)) ?_;rintro e w23 ⟨rfl,hx⟩;have H24:=zH (H21.out.step hx);clear hx;refine⟨.bool true,by rw[HALL.out],?_⟩;try simp only[Act.put,zA,zB,zC]
   refine zI6 H24.out (.bool false) (.bool false) _ _ _ _ ?_;refine zp (.bool true) (by exact ezq (e:=(dec_t C1.out))) ?_;refine zI8 (Hp.start _) (.bool true) (.bool true) _ _ _ _ _ _ ?_;refine zI8 (Hp.start _) _ (.bool true) (.bool true) _ _ _ _ _ ?_;refine zI3 (Hp.start _) _ _ (.bool true) ?_;go_upto_region 2 with fail
   refine wl ?_;refine zq (.agg z4) ?_;refine aS' 2 rz H24.out ?_;intro w37 H38 _;refine zq (.bool false) ?_;go_wp2_with fail
   refine bodyPost_ret (v:= .tuple #[.agg z4,.bool false]) ?_ rfl ⟨.inr ⟨fun h=>h.2.2.1 C1.out,rfl⟩,H38.out.ext⟩;exact results_c1t1 rfl rfl ((H38.out.blk (i:=2) rR).loadVar rfl rfl rR) rfl
  rcases emH (x<min a.1 b.1)with C2|C2
  ·go_upto_region 1 with fail
   refine wl ?_;refine zI2 H13.out _ _ ?_;refine aL' 2 28 [.int .i64 a.1,.int .i64 a.2,.int .i64 b.1,.int .i64 b.2] H13.out ?_;intro X42 w43 H44 _;refine zc (may_any (.slice (some ⟨X42,0,none⟩) 2 2) [a,b] _ (ptsLit2 H44.out (i:=3) rR) (by simp)) ?_;rintro e w46 ⟨rfl,hx⟩;have H47:=zH (H44.out.step hx);clear hx;refine⟨.bool true,by rw[HALL.out],?_⟩;try simp only[Act.put,zA,zB,zC]
   refine zI6 H47.out (.bool false) (.bool false) _ _ _ _ ?_;refine zp (.bool false) (by exact ezq (e:=(dec_f C1.out))) ?_;refine zI8 H47.out (.bool false) (.bool false) (.int .i64 x) _ _ _ _ (.int .i64 (min a.1 b.1)) ?_;refine zp (.bool true) (by exact ezl (e:=(dec_t C2.out))) ?_;refine zI8 (Hp.start _) (.bool true) (.bool true) _ _ _ _ _ _ ?_;refine zk ?_;refine zq (.bool true) ?_;go_upto_region 2 with fail
   refine wl ?_;refine zq (.agg z4) ?_;refine aS' 2 rz H47.out ?_;intro w65 H66 _;refine zq (.bool false) ?_;go_wp2_with fail
   refine bodyPost_ret (v:= .tuple #[.agg z4,.bool false]) ?_ rfl ⟨.inr ⟨fun h=>by have h1:=h.2.2.2.1;have h2:=C2.out;omega,rfl⟩,H66.out.ext⟩;exact results_c1t1 rfl rfl ((H66.out.blk (i:=2) rR).loadVar rfl rfl rR) rfl
  rcases emH (max a.1 b.1<x)with C3|C3
  ·go_upto_region 1 with fail
   refine wl ?_;refine zI2 H13.out _ _ ?_;refine aL' 2 28 [.int .i64 a.1,.int .i64 a.2,.int .i64 b.1,.int .i64 b.2] H13.out ?_;intro X70 w71 H72 _;refine zc (may_any (.slice (some ⟨X70,0,none⟩) 2 2) [a,b] _ (ptsLit2 H72.out (i:=3) rR) (by simp)) ?_;rintro e w74 ⟨rfl,hx⟩;have H75:=zH (H72.out.step hx);clear hx;refine⟨.bool true,by rw[HALL.out],?_⟩;try simp only[Act.put,zA,zB,zC]
   refine zI6 H75.out (.bool false) (.bool false) _ _ _ _ ?_;refine zp (.bool false) (by exact ezq (e:=(dec_f C1.out))) ?_;refine zI8 H75.out (.bool false) (.bool false) (.int .i64 x) _ _ _ _ (.int .i64 (min a.1 b.1)) ?_;refine zp (.bool false) (by exact ezl (e:=(dec_f C2.out))) ?_;refine zI8 H75.out (.bool false) (.bool false) (.int .i64 x) _ _ _ _ (.int .i64 (max a.1 b.1)) ?_;refine zp (.bool true) (by exact ezg (e:=(dec_t C3.out))) ?_;refine zq (.bool true) ?_;go_upto_region 2 with fail
   refine wl ?_;refine zq (.agg z4) ?_;refine aS' 2 rz H75.out ?_;intro w98 H99 _;refine zq (.bool false) ?_;go_wp2_with fail
   refine bodyPost_ret (v:= .tuple #[.agg z4,.bool false]) ?_ rfl ⟨.inr ⟨fun h=>by have h1:=h.2.2.2.2;have h2:=C3.out;omega,rfl⟩,H99.out.ext⟩;exact results_c1t1 rfl rfl ((H99.out.blk (i:=2) rR).loadVar rfl rfl rR) rfl
  go_upto_region 1 with fail
  refine wl ?_;refine zI2 H13.out _ _ ?_;refine aL' 2 28 [.int .i64 a.1,.int .i64 a.2,.int .i64 b.1,.int .i64 b.2] H13.out ?_;intro X102 w103 H104 _;refine zc (may_any (.slice (some ⟨X102,0,none⟩) 2 2) [a,b] _ (ptsLit2 H104.out (i:=3) rR) (by simp)) ?_;rintro e w106 ⟨rfl,hx⟩;have H107:=zH (H104.out.step hx);clear hx;refine⟨.bool true,by rw[HALL.out],?_⟩;try simp only[Act.put,zA,zB,zC]
  refine zI6 H107.out (.bool false) (.bool false) _ _ _ _ ?_;refine zp (.bool false) (by exact ezq (e:=(dec_f C1.out))) ?_;refine zI8 H107.out (.bool false) (.bool false) (.int .i64 x) _ _ _ _ (.int .i64 (min a.1 b.1)) ?_;refine zp (.bool false) (by exact ezl (e:=(dec_f C2.out))) ?_;refine zI8 H107.out (.bool false) (.bool false) (.int .i64 x) _ _ _ _ (.int .i64 (max a.1 b.1)) ?_;refine zp (.bool false) (by exact ezg (e:=(dec_f C3.out))) ?_;refine zq (.bool false) ?_;have HNZ:=zH (show b.1-a.1≠0 from fun h=>C1.out (by omega));have hxb: -1048576<=x/\x<=1048576:=by have h2:=C2.out;have h3:=C3.out;omega
  go_upto_region 3 with fail
  refine wp_region_held_drew (S:=fun x=>Fr (fun kz=>kz=X11) w106 x) kR (Fr.of_ext zb) (fun _=> ?_);have H129:=zH (H107.out.step (Ext.refl w106).drew);refine zx 0 (bs 17 1) (.pointer (some ⟨X1,1,none⟩)) (Fr.of_ext zb) ?_;refine md_ld1 (g:=X1) (o:=1) (v:= .int .i64 a.2) (i:=1) (listed':=(bs 17 3)) rR kR kR kR (by intro _ _ _ h;exact h) rR (fun x hx=>Fr.cell hx (show World.cell? w106 ⟨X1,1,none⟩=some (.int .i64 a.2)from cell_of_range (H107.out.range (i:=0) rR 1 1)) (H107.out.offBlk (i:=0) (j:=2) rR rR dC rR)) (by intro x hq;go_simp<;>with_reducible rfl) (Fr.of_ext zb) kR ?_;try simp only[Act.put,zA,zB,zC]
  refine zx 2 (bs 17 7) (.pointer (some ⟨X6,1,none⟩)) (Fr.of_ext zb) ?_;refine md_ld1 (g:=X6) (o:=1) (v:= .int .i64 b.2) (i:=3) (listed':=(bs 17 15)) rR kR kR kR (by intro _ _ _ h;exact h) rR (fun x hx=>Fr.cell hx (show World.cell? w106 ⟨X6,1,none⟩=some (.int .i64 b.2)from cell_of_range (H107.out.range (i:=1) rR 1 1)) (H107.out.offBlk (i:=1) (j:=2) rR rR dC rR)) (by intro x hq;go_simp<;>with_reducible rfl) (Fr.of_ext zb) kR ?_;try simp only[Act.put,zA,zB,zC]
  refine zx 4 (bs 17 31) (.int .i64 x) (Fr.of_ext zb) ?_;refine zx 5 (bs 17 63) (.pointer (some ⟨X1,0,none⟩)) (Fr.of_ext zb) ?_;refine md_ld1 (g:=X1) (o:=0) (v:= .int .i64 a.1) (i:=6) (listed':=(bs 17 127)) rR kR kR kR (by intro _ _ _ h;exact h) rR (fun x hx=>Fr.cell hx (show World.cell? w106 ⟨X1,0,none⟩=some (.int .i64 a.1)from cell_of_range (H107.out.range (i:=0) rR 0 1)) (H107.out.offBlk (i:=0) (j:=2) rR rR dC rR)) (by intro x hq;go_simp<;>with_reducible rfl) (Fr.of_ext zb) kR ?_;try simp only[Act.put,zA,zB,zC]
  refine zu 7 (bs 17 255) (v:= .int .i64 (x-a.1)) (Fr.of_ext zb) ?_ (hv:=by intro w hSw;exact ez2 (by omega));refine zx 8 (bs 17 511) (.pointer (some ⟨X6,0,none⟩)) (Fr.of_ext zb) ?_;refine md_ld1 (g:=X6) (o:=0) (v:= .int .i64 b.1) (i:=9) (listed':=(bs 17 1023)) rR kR kR kR (by intro _ _ _ h;exact h) rR (fun x hx=>Fr.cell hx (show World.cell? w106 ⟨X6,0,none⟩=some (.int .i64 b.1)from cell_of_range (H107.out.range (i:=1) rR 0 1)) (H107.out.offBlk (i:=1) (j:=2) rR rR dC rR)) (by intro x hq;go_simp<;>with_reducible rfl) (Fr.of_ext zb) kR ?_;try simp only[Act.put,zA,zB,zC]
  refine zx 10 (bs 17 2047) (.pointer (some ⟨X1,0,none⟩)) (Fr.of_ext zb) ?_;refine md_ld1 (g:=X1) (o:=0) (v:= .int .i64 a.1) (i:=11) (listed':=(bs 17 4095)) rR kR kR kR (by intro _ _ _ h;exact h) rR (fun x hx=>Fr.cell hx (show World.cell? w106 ⟨X1,0,none⟩=some (.int .i64 a.1)from cell_of_range (H107.out.range (i:=0) rR 0 1)) (H107.out.offBlk (i:=0) (j:=2) rR rR dC rR)) (by intro x hq;go_simp<;>with_reducible rfl) (Fr.of_ext zb) kR ?_;try simp only[Act.put,zA,zB,zC]
  refine zu 12 (bs 17 8191) (v:= .int .i64 (b.1-a.1)) (Fr.of_ext zb) ?_ (hv:=by intro w hSw;exact ez2 (by omega));refine mC 13 (bs 17 16383) (by_any (x-a.1) (b.1-a.1) _ (by omega) (by omega) (by omega) (by omega) HNZ.out) ?_;rintro e w139 ⟨c_,rfl,hc_,hx⟩;have H141:=zH (H129.out.step hx);have S144:=zH (show Fr (fun kz=>kz=X11) w106 w139 from(Fr.of_ext zb).trans (Fr.of_ext hx));obtain⟨r140,rfl,hr_⟩:=hc_;have R140:=zH hr_;have B140:=zH (rl_qq (x-a.1) (b.1-a.1) (by omega) (by omega));clear hr_ hx;refine zm S144.out ?_;refine mC 14 (bs 17 32767) (along_any 20 a.2 b.2 _ (((x-a.1:Int):Rat)/((b.1-a.1:Int):Rat)) _ (RV.Is.nin R140.out (Nat.le_trans B140.out (by omega))) dC dC ⟨(by omega),(by omega)⟩ ⟨(by omega),(by omega)⟩) ?_;rintro e w145 ⟨c_,rfl,hc_,hx⟩;have H147:=zH (H141.out.step hx);have S150:=zH (S144.out.trans (Fr.of_ext hx));obtain⟨r146,rfl,hr_⟩:=hc_;have R146:=zH hr_;clear hr_ hx;refine zm S150.out ?_;refine md_st (i:=15) (listed':=(bs 17 65535)) rR kR rR kR _ _ _ rR H147.out (ix:=2) rR 0 [.bool r146.n,.slice r146.p r146.l r146.c,.bool r146.m,.slice r146.p2 r146.l2 r146.c2] rR rR (by simp) kR (by simp[Value.oneCell']) (by simp[NoUL]) ?_;intro w151 hh hd ho;have H152:=hN hh;have D152:=zH (hd);have S154:=zH (Fr.trans_new S150.out ho (fun j hj=> .inl (by simpa using hj.symm)));clear hh hd ho;refine⟨S154.out,?_⟩
  (try simp only[Act.put])
  refine zx 16 (bs 17 131071) (.bool true) S154.out ?_;refine wpAnyH_done kR ?_ _;go_wp2_with fail
  refine bodyPost_ret (v:= .tuple #[.agg #[.bool r146.n,.slice r146.p r146.l r146.c,.bool r146.m,.slice r146.p2 r146.l2 r146.c2],.bool true]) ?_ rfl ⟨.inl ⟨r146,⟨HOK.out.1,HOK.out.2,C1.out,by have h2:=C2.out;omega,by have h3:=C3.out;omega⟩,rfl,(R146.out.dig D152.out)⟩,H152.out.ext⟩;exact results_c1t1 rfl rfl ((H152.out.blk (i:=2) rR).loadVar rfl rfl rR) rfl
 have HALL:=zH (Bool.eq_false_iff.2 HB.out);go_upto_region 1 with fail
 refine wl ?_;refine zI2 H13.out _ _ ?_;refine aL' 2 28 [.int .i64 a.1,.int .i64 a.2,.int .i64 b.1,.int .i64 b.2] H13.out ?_;intro X156 w157 H158 _;refine zc (may_any (.slice (some ⟨X156,0,none⟩) 2 2) [a,b] _ (ptsLit2 H158.out (i:=3) rR) (by simp)) ?_;rintro e w160 ⟨rfl,hx⟩;have H161:=zH (H158.out.step hx);clear hx;refine⟨.bool false,by rw[HALL.out],?_⟩;try simp only[Act.put,zA,zB,zC]
 refine zI8 (Hp.start _) (.bool true) (.bool true) _ _ _ _ _ (.bool true) ?_;refine zI8 (Hp.start _) (.bool true) _ _ _ _ _ _ _ ?_;refine zI8 (Hp.start _) (.bool true) (.bool true) _ _ _ _ _ _ ?_;refine zk ?_;refine zq (.bool true) ?_;go_upto_region 2 with fail
 refine wl ?_;refine zq (.agg z4) ?_;refine aS' 2 rz H161.out ?_;intro w171 H172 _;refine zq (.bool false) ?_;go_wp2_with fail
 refine bodyPost_ret (v:= .tuple #[.agg z4,.bool false]) ?_ rfl ⟨.inr ⟨fun h=>HB.out (okAll2.2 ⟨h.1,h.2.1⟩),rfl⟩,H172.out.ext⟩;exact results_c1t1 rfl rfl ((H172.out.blk (i:=2) rR).loadVar rfl rfl rR) rfl
end Go.Proofs.YtngikkggjidenabGreat
namespace Go.Proofs.YtngikkggjidenabGreat
def btw (lo hi:Rat)(q:Rat):List Rat:=if lo<q/\q<hi then[q]else[]
instance yatC_dec (a b:Int×Int) (x:Int):Decidable (yatC a b x):=inferInstanceAs (Decidable (_/\_))
def yatL (e:Edge)(x:Int):List Rat:=if yatC e.1 e.2 x then[yatQ e.1 e.2 x]else[]
def segL (o e:Edge):List Rat:=if segN o.1 o.2 e.1 e.2=1 then[segY o.1 o.2 e.1 e.2]else[]
def evStep (a b:Int×Int)(pre:List Edge)(x:Edge):List Rat:=
  (yatL x a.1).flatMap (btw a.2 b.2)++(yatL x b.1).flatMap (btw a.2 b.2)++pre.flatMap (fun o=>(segL o x).flatMap (btw a.2 b.2))
def evC (a b:Int×Int):List Edge->List Edge->List Rat
  |_,[]=>[]
  |pre,x::l=>evStep a b pre x++evC a b (pre++[x]) l
theorem evC_snoc (a b:Int×Int)(x:Edge):∀(l p:List Edge),evC a b p (l++[x])=evC a b p l++evStep a b (p++l) x
  | [],p=>by simp[evC]
  | y::l,p=>by
    have h:=evC_snoc a b x l (p++[y]);simp only[List.cons_append,evC];rw[h,List.append_assoc,List.append_assoc];rfl
def evP (a b:Int×Int)(rs:List Ring):List Rat:=rs.flatMap fun r=>r.flatMap fun p=>btw a.2 b.2 (p.2:Rat)
def evOk (a b:Int×Int)(rs:List Ring):Prop:=okR rs=true/\okP a/\okP b/\a.2<b.2
instance evOk_dec (a b:Int×Int) (rs:List Ring):Decidable (evOk a b rs):=inferInstanceAs (Decidable (_/\_))
def evL (a b:Int×Int)(rs:List Ring):List Rat:=if evOk a b rs then[(a.2:Rat),(b.2:Rat)]++evP a b rs++evC a b [] (edgesV rs)else[]
theorem ringP_snoc {r:Ring}{k:Nat}{p:Int×Int}(h:r[k]?=some p)(f:Int×Int->List Rat):(r.take (k+1)).flatMap f=(r.take k).flatMap f++f p:=by
  rw[List.take_add_one,h,List.flatMap_append];simp
theorem rl_yat {a b:Int×Int}{x:Int}(ha:okP a)(hb:okP b)(hx: -1048576<=x/\x<=1048576):Nm.rl (yatQ a b x)<=20:=by
  have h1:=okP_out ha;have h2:=okP_out hb;have h3:=rl_qq (x-a.1) (b.1-a.1) (by omega) (by omega);have h4:=rl_i64 (b.2-a.2) (by omega) (by omega);have h5:=rl_i64 a.2 (by omega) (by omega);have h6:=Nm.rl_mul (((x-a.1:Int):Rat)/((b.1-a.1:Int):Rat)) ((b.2-a.2:Int):Rat);have h7:=Nm.rl_add (a.2:Rat) (((x-a.1:Int):Rat)/((b.1-a.1:Int):Rat)*((b.2-a.2:Int):Rat));unfold yatQ;omega
theorem rl_segT {a b c d:Int×Int}(ha:okP a)(hb:okP b)(hc:okP c)(hd:okP d):Nm.rl (segT a b c d)<=8:=by
  have h1:=cr_bd (dv_bd ha hc) (dv_bd hc hd);have h2:=cr_bd (dv_bd ha hb) (dv_bd hc hd);exact rl_qq _ _ (by omega) (by omega)
theorem rl_segXY {a b c d:Int×Int}(ha:okP a)(hb:okP b)(hc:okP c)(hd:okP d):Nm.rl (segX a b c d)<=20/\Nm.rl (segY a b c d)<=20:=by
 have h1:=okP_out ha;have h2:=okP_out hb;have ht:=rl_segT ha hb hc hd;have hs:=okP_out (shared_ok ha hb hc hd);have k1:=rl_i64 (b.1-a.1) (by omega) (by omega);have k2:=rl_i64 (b.2-a.2) (by omega) (by omega);have k3:=rl_i64 a.1 (by omega) (by omega);have k4:=rl_i64 a.2 (by omega) (by omega);have k5:=rl_i64 (sharedV a b c d).1.1 (by omega) (by omega);have k6:=rl_i64 (sharedV a b c d).1.2 (by omega) (by omega);have m1:=Nm.rl_mul (segT a b c d) ((b.1-a.1:Int):Rat);have m2:=Nm.rl_mul (segT a b c d) ((b.2-a.2:Int):Rat);have a1:=Nm.rl_add (a.1:Rat) (segT a b c d*((b.1-a.1:Int):Rat));have a2:=Nm.rl_add (a.2:Rat) (segT a b c d*((b.2-a.2:Int):Rat));unfold segX segY;constructor
 ·split<;>omega
 split<;>omega
end Go.Proofs.YtngikkggjidenabGreat
namespace Go.Proofs.YtngikkggjidenabGreat
open Go.RowKit
theorem lessB_iff {a b:Int×Int}:lessB a b=true↔a.2<b.2\/(a.2=b.2/\a.1<b.1):=by
  unfold lessB;simp
theorem less_or {a b:Int×Int}(h:¬lessB a b=true)(k:¬lessB b a=true):a=b:=by
  rw[lessB_iff]at h k;exact Prod.ext (by omega) (by omega)
theorem less_asym {a b:Int×Int}(h:lessB a b=true):¬lessB b a=true:=by
  rw[lessB_iff]at h⊢;omega
theorem shL_swap (a b c d:Int×Int):shL c d a b=shL a b c d:=by
  unfold shL;by_cases h:lessB (endL a b) (endL c d)=true
  · rw[if_pos h,if_neg (less_asym h)]
  by_cases k:lessB (endL c d) (endL a b)=true
  · rw[if_neg h,if_pos k]
  rw[if_neg h,if_neg k,less_or h k]
theorem shH_swap (a b c d:Int×Int):shH c d a b=shH a b c d:=by
  unfold shH;by_cases h:lessB (endH a b) (endH c d)=true
  · rw[if_pos h,if_neg (less_asym h)]
  by_cases k:lessB (endH c d) (endH a b)=true
  · rw[if_neg h,if_pos k]
  rw[if_neg h,if_neg k,less_or h k]
theorem shared_swap (a b c d:Int×Int):sharedV c d a b=sharedV a b c d:=by unfold sharedV;rw[shL_swap,shH_swap]
theorem cr_neg {u v:Int×Int}:cr u v= -cr v u:=by unfold cr;grind
theorem cast_neg_div (x y:Int):(((-x:Int)):Rat)/(((-y:Int)):Rat)=(x:Rat)/(y:Rat):=by
  rw[Rat.intCast_neg,Rat.intCast_neg];by_cases h:(y:Rat)=0
  · rw[h];simp[Rat.div_def]
  grind
theorem segT_swap (a b c d:Int×Int):segT c d a b=segS a b c d:=by
  unfold segT segS;rw[show cr (dv c a) (dv a b)= -cr (dv a c) (dv a b)by unfold cr dv;grind,show cr (dv c d) (dv a b)= -cr (dv a b) (dv c d)from cr_neg,cast_neg_div]
theorem segS_swap (a b c d:Int×Int):segS c d a b=segT a b c d:=by
  unfold segT segS;rw[show cr (dv c a) (dv c d)= -cr (dv a c) (dv c d)by unfold cr dv;grind,show cr (dv c d) (dv a b)= -cr (dv a b) (dv c d)from cr_neg,cast_neg_div]
theorem dv_zero {a b:Int×Int}:dv a b=(0,0)↔a=b:=by
  unfold dv;constructor
  · intro h;injection h with h1 h2;exact Prod.ext (by omega) (by omega)
  intro h;subst h;simp
theorem line_zero {a b c d:Int×Int}:lineV a b c d=(0,0)↔a=b/\c=d:=by
  unfold lineV;split
  · rename_i h;rw[dv_zero]at h;rw[dv_zero];exact⟨fun k=>⟨h,k⟩,fun k=>k.2⟩
  rename_i h;exact⟨fun k=>absurd k h,fun k=>absurd (dv_zero.2 k.1) h⟩
def offL (a b c d:Int×Int):Prop:=cr (lineV a b c d) (dv a c)≠0\/(lineV a b c d=(0,0)/\a≠c)
theorem par_cr {u v z:Int×Int}(hu:u≠(0,0))(h:cr u v=0)(k:cr u z=0):cr v z=0:=by
  obtain⟨u1,u2⟩:=u;obtain⟨v1,v2⟩:=v;obtain⟨z1,z2⟩:=z;unfold cr at h k⊢;dsimp only at h k⊢
  have hu2:u1≠0\/u2≠0:=by
    by_cases e:u1=0
    · right;intro e2;exact hu (by rw[e,e2])
    exact .inl e
  rcases hu2 with e|e
  · have:u1*(v1*z2-v2*z1)=0:=by grind
    exact(Int.mul_eq_zero.1 this).resolve_left e
  have:u2*(v1*z2-v2*z1)=0:=by grind
  exact(Int.mul_eq_zero.1 this).resolve_left e
theorem offL_swap1 {a b c d:Int×Int}(h0:cr (dv a b) (dv c d)=0)(h:offL c d a b):offL a b c d:=by
 unfold offL at h⊢;rcases h with h|⟨h1,h2⟩
 ·left
  intro k;apply h;have hz:cr (lineV a b c d) (dv c a)=0:=by
   have:cr (lineV a b c d) (dv c a)= -cr (lineV a b c d) (dv a c):=by unfold cr dv;grind
   omega
  by_cases e1:dv a b=(0,0)
  ·have e3:lineV a b c d=dv c d:=if_pos e1
   rw[e3]at hz;by_cases e2:dv c d=(0,0)
   ·rw[show lineV c d a b=dv a b from if_pos e2,e1];unfold cr;simp
   rw[show lineV c d a b=dv c d from if_neg e2];exact hz
  have e3:lineV a b c d=dv a b:=if_neg e1;rw[e3]at hz;by_cases e2:dv c d=(0,0)
  ·rw[show lineV c d a b=dv a b from if_pos e2];exact hz
  rw[show lineV c d a b=dv c d from if_neg e2];exact par_cr e1 h0 hz
 rw[line_zero]at h1;exact .inr ⟨line_zero.2 ⟨h1.2,h1.1⟩,fun e=>h2 e.symm⟩
theorem offL_swap {a b c d:Int×Int}(h0:cr (dv a b) (dv c d)=0):offL c d a b↔offL a b c d:=
  ⟨offL_swap1 h0,offL_swap1 (by rw[cr_neg,h0];rfl)⟩
theorem segN_l {a b c d:Int×Int}(h:cr (dv a b) (dv c d)=0):segN a b c d=(open Classical in if offL a b c d then 0 else(sharedV a b c d).2):=by
  unfold segN;rw[if_neg (by simpa using h)];by_cases k:offL a b c d
  · rw[if_pos k];exact if_pos k
  rw[if_neg k];exact if_neg k
theorem segN_p {a b c d:Int×Int}(h:cr (dv a b) (dv c d)≠0):segN a b c d=if inU (segT a b c d)/\inU (segS a b c d)then 1 else 0:=if_pos h
theorem segN_swap (a b c d:Int×Int):segN c d a b=segN a b c d:=by
  by_cases h:cr (dv a b) (dv c d)=0
  · rw[segN_l h,segN_l (by rw[cr_neg,h];rfl),shared_swap]
    by_cases k:offL a b c d
    · rw[if_pos k,if_pos ((offL_swap h).2 k)]
    rw[if_neg k,if_neg (fun e=>k ((offL_swap h).1 e))]
  rw[segN_p h,segN_p (by rw[cr_neg];omega),segT_swap a b c d,segS_swap a b c d];by_cases k:inU (segT a b c d)/\inU (segS a b c d)
  · rw[if_pos k,if_pos k.symm]
  rw[if_neg k,if_neg (fun e=>k e.symm)]
theorem cr_rat {u v:Int×Int}:((cr u v:Int):Rat)=(u.1:Rat)*(v.2:Rat)-(u.2:Rat)*(v.1:Rat):=by unfold cr;rw[Rat.intCast_sub,Rat.intCast_mul,Rat.intCast_mul]
theorem dv1 (a b:Int×Int):(((dv a b).1:Int):Rat)=(b.1:Rat)-(a.1:Rat):=by unfold dv;rw[Rat.intCast_sub]
theorem dv2 (a b:Int×Int):(((dv a b).2:Int):Rat)=(b.2:Rat)-(a.2:Rat):=by unfold dv;rw[Rat.intCast_sub]
theorem pt_swap {a b c d:Int×Int}(h:cr (dv a b) (dv c d)≠0):
  (c.1:Rat)+segS a b c d*((d.1-c.1:Int):Rat)=(a.1:Rat)+segT a b c d*((b.1-a.1:Int):Rat)/\(c.2:Rat)+segS a b c d*((d.2-c.2:Int):Rat)=(a.2:Rat)+segT a b c d*((b.2-a.2:Int):Rat):=by
 have h2:((cr (dv a b) (dv c d):Int):Rat)≠0:=fun e=>h (by exact_mod_cast e)
 unfold segS segT;rw[Rat.intCast_sub,Rat.intCast_sub,Rat.intCast_sub,Rat.intCast_sub];simp only[cr_rat,dv1,dv2]at h2⊢;generalize (a.1:Rat)=a1 at*
 generalize (a.2:Rat)=a2 at*
 generalize (b.1:Rat)=b1 at*
 generalize (b.2:Rat)=b2 at*
 generalize (c.1:Rat)=c1 at*
 generalize (c.2:Rat)=c2 at*
 generalize (d.1:Rat)=d1 at*
 generalize (d.2:Rat)=d2 at*
 constructor<;>grind
theorem segY_swap {a b c d:Int×Int}:segY c d a b=segY a b c d:=by
  unfold segY;by_cases h:cr (dv a b) (dv c d)=0
  · rw[if_neg (by rw[cr_neg,h];decide),if_neg (by rw[h];decide),shared_swap]
  rw[if_pos (by rw[cr_neg];omega),if_pos h,segT_swap];exact(pt_swap h).2
theorem lerp_bd {p q:Int}{t:Rat}(h:inU t):((min p q:Int):Rat)<=(p:Rat)+t*((q-p:Int):Rat)/\(p:Rat)+t*((q-p:Int):Rat)<=((max p q:Int):Rat):=by
 unfold inU at h;have h1:(0:Rat)<=t:=by have:=Rat.not_lt.1 h.1;simpa using this
 have h2:t<=1:=by have:=Rat.not_lt.1 h.2;simpa using this
 rw[Rat.intCast_sub];rcases Int.le_total p q with k|k
 ·rw[Int.min_eq_left k,Int.max_eq_right k]
  have k2:(p:Rat)<=(q:Rat):=by exact_mod_cast k
  have m1:=Rat.mul_nonneg h1 (show(0:Rat)<=(q:Rat)-(p:Rat)by grind);have m2:=Rat.mul_nonneg (show(0:Rat)<=1-t by grind) (show(0:Rat)<=(q:Rat)-(p:Rat)by grind);constructor<;>grind
 rw[Int.min_eq_right k,Int.max_eq_left k];have k2:(q:Rat)<=(p:Rat):=by exact_mod_cast k
 have m1:=Rat.mul_nonneg h1 (show(0:Rat)<=(p:Rat)-(q:Rat)by grind);have m2:=Rat.mul_nonneg (show(0:Rat)<=1-t by grind) (show(0:Rat)<=(p:Rat)-(q:Rat)by grind);constructor<;>grind
end Go.Proofs.YtngikkggjidenabGreat
