/- IntersectSimple. -/
import Derived.Test.YtiokhlgdelipdaaGreatM7
set_option maxRecDepth 100000
set_option maxHeartbeats 4000000
namespace Go.Proofs.YtiokhlgdelipdaaGreat
open Go.RowKit
attribute [local go_sem ↓] Go.wp_at_zero Go.wp_at_succ run_max_ii run_min_ii
namespace simple
open Go.ChangeShapes Go.WideShapes Go.ChangeAt
theorem isx_none {rs:List Ring}{w w':World}{e:Ending}(h:IsxRet rs w e w'):∃(A:Option Addr) (n c:Nat) (B:Option Addr) (m d:Nat),e= .returned (.tuple #[.slice A n c,.slice B m d])/\(simB rs=true->n=0/\m=0)/\Ext w w':=by
 obtain⟨v1,v2,ps,os,rfl,hp,hs,hm,_,ho,hl,_,hx⟩:=h;obtain⟨A,c,rfl,_⟩:=hp.form;obtain⟨B,d,rfl,_⟩:=ho.form;refine⟨A,_,c,B,_,d,rfl,fun hb=> ?_,hx⟩;have h1:=simple_none hb;have h2:ps=[]:=by
  cases ps with
  |nil=>rfl
  |cons p ps=>have h3:=(hm p.vl).1 (by simp);rw[h1]at h3;cases h3
 subst h2;have h4:=congrArg List.length hl;simp at h4;exact⟨rfl,by rw[h4];rfl⟩
theorem walk (A:Option Addr)(rs:List Ring)(cap:Nat)(w:World)(hv:(RingsV w (.slice A rs.length cap) rs/\rs.length<=cap)/\∀r,r∈rs->r.length<=maxLen)(hm:rs.length<=maxLen):
  Calls Tryz.prog 4 #[.slice A rs.length cap] w fun e w'=>e= .returned (.bool true)/\Ext w w':=by
 have HU:=zH hv.1.1;have HC:=zH hv.1.2;have HR:=zH hv.2;have HM:=zH hm;clear hv;go_enter Tryz.func4,Tryz.ntmps4
 have H0:=zH (Hp.start w);go_upto_region 0 with fail
 refine wl ?_;refine zq (.bool false) ?_;rcases emH (fewB rs 16=true)with HFt|HFt
 ·have hfr:=few_rings HFt.out
  have HN:=zH (show rs.length<=1048576 from Nat.le_trans hfr.1 (by decide));have HRR:=zH (show∀r,r∈rs->r.length<=1048576 from fun r_ h_=>Nat.le_trans (hfr.2 r_ h_) (by decide));clear hfr;go_upto_region 1 with fail
  refine wl ?_;refine zI1 (Hp.start _) _ ?_;refine zc (few17_any _ rs 16 _ (HU.out.ext H0.out.ext) HM.out HR.out dC) ?_;rintro e w403 ⟨rfl,hx⟩;have H404:=zH (H0.out.step hx);clear hx;refine⟨.bool true,by rw[HFt.out],?_⟩;try simp only[Act.put,zA,zB,zC]
  refine zq (.bool false) ?_;rcases emH (simB rs=true)with HS|HS
  ·go_upto_region 3 with fail
   refine wl ?_;refine zI1 (Hp.start _) _ ?_;refine zc (isSimple_any A cap rs _ (HU.out.ext H404.out.ext) HC.out HN.out HRR.out) ?_;rintro e w409 ⟨rfl,hx⟩;have H410:=zH (H404.out.step hx);clear hx;refine⟨.bool true,by rw[HS.out],?_⟩;try simp only[Act.put,zA,zB,zC]
   refine zq (.bool true) ?_;go_upto_region 4 with fail
   refine wl ?_;refine zI1 (Hp.start _) _ ?_;refine zc (((intersections_any A cap rs _ (HU.out.ext H410.out.ext) HC.out HN.out HRR.out).mono (fun _ _ h_=>isx_none h_))) ?_;rintro e w414 ⟨A1,n1,c1,A2,n2,c2,rfl,hz_,hx⟩;have H415:=zH (H410.out.step hx);have HZ:=zH hz_;clear hz_ hx;refine zn ?_;refine zI5 (Hp.start _) _ _ _ _ _ ?_;have hz:=HZ.out HS.out;go_upto_region 5 with fail
   refine wl ?_;refine zI2 (Hp.start _) (.bool true) _ ?_;refine zc (rsimple_any A cap rs _ (HU.out.ext H415.out.ext) HC.out HN.out HRR.out) ?_;rintro e w424 ⟨rfl,hx⟩;have H425:=zH (H415.out.step hx);clear hx;refine⟨.bool true,by rw[HS.out],?_⟩;try simp only[Act.put,zA,zB,zC]
   refine zI7 (Hp.start _) (.bool true) (.bool true) (.bool true) (.bool false) (.bool false) _ (.int .i64 (n1:Int)) ?_;refine zp (.bool true) (by exact ezq (e:=(dec_t (by have h_:=hz.1;omega)))) ?_;refine zI3 (Hp.start _) (.bool true) _ (.int .i64 (n2:Int)) ?_;refine zp (.bool true) (by exact ezq (e:=(dec_t (by have h_:=hz.2;omega)))) ?_;refine zI4 (Hp.start _) (.bool true) (.bool true) (.bool true) (.bool true) ?_;refine aC H425.out (example17_any _) ?_;intro w443 H444 _;refine zI2 (Hp.start _) (.bool true) (.bool true) ?_;go_wp2_with fail
   go_ret
   exact⟨rfl,H444.out.ext⟩
  have HSF:=zH (Bool.eq_false_iff.2 HS.out);go_upto_region 3 with fail
  refine wl ?_;refine zI1 (Hp.start _) _ ?_;refine zc (isSimple_any A cap rs _ (HU.out.ext H404.out.ext) HC.out HN.out HRR.out) ?_;rintro e w449 ⟨rfl,hx⟩;have H450:=zH (H404.out.step hx);clear hx;refine⟨.bool false,by rw[HSF.out],?_⟩;try simp only[Act.put,zA,zB,zC]
  refine zq (.bool false) ?_;go_upto_region 4 with fail
  refine wl ?_;refine zI1 (Hp.start _) _ ?_;refine zc (((intersections_any A cap rs _ (HU.out.ext H450.out.ext) HC.out HN.out HRR.out).mono (fun _ _ h_=>isx_none h_))) ?_;rintro e w454 ⟨A1,n1,c1,A2,n2,c2,rfl,hz_,hx⟩;have H455:=zH (H450.out.step hx);have HZ:=zH hz_;clear hz_ hx;refine zn ?_;refine zI5 (Hp.start _) _ _ _ _ _ ?_;go_upto_region 5 with fail
  refine wl ?_;refine zI2 (Hp.start _) (.bool false) _ ?_;refine zc (rsimple_any A cap rs _ (HU.out.ext H455.out.ext) HC.out HN.out HRR.out) ?_;rintro e w464 ⟨rfl,hx⟩;have H465:=zH (H455.out.step hx);clear hx;refine⟨.bool false,by rw[HSF.out],?_⟩;try simp only[Act.put,zA,zB,zC]
  refine zI8 (Hp.start _) (.bool true) (.bool true) (.bool false) (.bool true) (.bool true) _ _ _ ?_;refine zI8 (Hp.start _) _ _ _ _ _ (.bool true) (.bool true) (.bool true) ?_;refine aC H465.out (example17_any _) ?_;intro w475 H476 _;refine zI2 (Hp.start _) (.bool true) (.bool true) ?_;go_wp2_with fail
  go_ret
  exact⟨rfl,H476.out.ext⟩
 have HFf:=zH (Bool.eq_false_iff.2 HFt.out);go_upto_region 1 with fail
 refine wl ?_;refine zI1 (Hp.start _) _ ?_;refine zc (few17_any _ rs 16 _ (HU.out.ext H0.out.ext) HM.out HR.out dC) ?_;rintro e w481 ⟨rfl,hx⟩;have H482:=zH (H0.out.step hx);clear hx;refine⟨.bool false,by rw[HFf.out],?_⟩;try simp only[Act.put,zA,zB,zC]
 refine zq (.bool true) ?_;go_upto_region 2 with fail
 refine wl ?_;refine aC H482.out (example17_any _) ?_;intro w485 H486 _;refine zq (.bool true) ?_;go_wp2_with fail
 go_ret
 exact⟨rfl,H486.out.ext⟩
theorem lifted (os:Os)(started:os.Started)(H:Type)(enc:TypeId×Value->H):
  ReturnsInHanded {} Tryz.checked os 4 .any (Rows.intersectSimpleSpec.pre6 enc Tryz.prog Tryz.f4 Rows.intersectSimpleRow.domain false) (Rows.intersectSimpleSpec.post enc Tryz.prog Tryz.f4 false true false false):=by
 refine returnsInHanded_of_change (C:=Tryz.checked) own started kR Tryz.func4
  (ChangeSpec.witness6 (enc:=enc) (C:=Tryz.checked) false ⟨#[],#[.slice none 0 0],[]⟩ 8 (by kernel_rfl) (by kernel_rfl) (by kernel_rfl) (by kernel_rfl)) ?_
 intro W base args ds gs before hval0 hW hcnd _;have hval:∀(j:Nat) t v,Tryz.f4.params[j]?=some t->args[j]?=some v->Value.okWide Tryz.prog W .any base t v:=hval0;have hW':=hW;obtain⟨p,q,hA0,hV,rfl,hfz,hnd⟩:=hW;have hA:DataW.TrodAll enc Tryz.prog W 0 (fun _=>true) true Tryz.f4.params.toList args.toList ds p:=hA0;rw[Tryz.params4]at hA hval;obtain⟨v0,vs0,d0,ds0,p0,q0,hargs,rfl,rfl,h0,r0⟩:=trodAll_cons hA;obtain⟨rfl,rfl,rfl⟩:=trodAll_nil r0;obtain rfl:args=#[v0]:=by cases args;simp_all
 obtain⟨rfl,rfl⟩:=trodVars_none hV;have k0:=h0;have lt0:∀x∈p0,x.block<W.heap.size:=by obtain⟨m,hm⟩:=k0;exact DataW.trod_lt m _ _ _ hm
 obtain⟨A,zl0,cap,rfl⟩:=okWide_slice Tryz.underlying43 (hval 0 43 v0 rfl rfl);obtain⟨zA0,rs,zc0,ze0,g0⟩:=(by obtain⟨m,hm⟩:=h0;exact rings_openC hm:∃zB zl zc,[Value.slice A zl0 cap]=[.slice zB (List.length zl) zc]/\zl.length<=maxLen/\(RingsV W (.slice zB zl.length zc) zl/\zl.length<=zc)/\∀r,r∈zl->r.length<=maxLen);obtain⟨rfl,rfl,rfl⟩:A=zA0/\zl0=rs.length/\cap=zc0:=by simpa using ze0
 clear hA0 hval0;refine(walk A rs cap W g0.2 g0.1).mono fun e W' ⟨he,hx⟩=> ?_
 subst he;have bel:=hx.below;exact⟨_,rfl,_,_,_,[],_,[],hW',trodAll_mk1 (shut_bool Tryz.underlying4 _),(trodAll_cons_mk (Below.trod laidOut (by kernel_rfl) (of_decide_eq_true (by kernel_rfl)) k0 bel lt0) trodAll_mk0),rfl,bel.frame _,fun h=>by cases h⟩
theorem proved:Rows.IntersectSimpleSaid:=
  OpenClaim.holds_of_wide 4 Tryz.f4 rfl rfl rfl rfl rfl rfl rfl ⟨rfl,rfl,rfl,rfl,rfl⟩ rfl rfl rfl rfl rfl (by kernel_rfl) Tryz.func4 (by kernel_rfl)
    (of_decide_eq_true (by kernel_rfl)) (by unfold Func.isWrapper;first|(rw[if_pos (by decide+kernel)];kernel_rfl)|(rw[if_neg (by decide+kernel)];exact⟨rfl,rfl⟩))
    (fun os started H enc _=>lifted os started H enc)
#print axioms proved
end simple
end Go.Proofs.YtiokhlgdelipdaaGreat
