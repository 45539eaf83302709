import Derived.Test.YthlfilomhgeheaaGreatM10
set_option maxRecDepth 100000
set_option maxHeartbeats 4000000
namespace Go.Proofs.YthlfilomhgeheaaGreat
open Go.RowKit
open Go.Proofs.Tryz
section
attribute [local go_sem ↓] Go.wp_at_zero Go.wp_at_succ Aw Av
namespace inboxlaw
open Go.ChangeShapes Go.WideShapes Go.ChangeAt
theorem walk (A:Option Addr)(rs:List Ba)(cap:Nat)(rule:Int)(a b:Int×Int)(w:World)(hv:Cn w (.slice A rs.length cap) rs/\∀r,r∈rs->r.length<=maxLen)(hm:rs.length<=maxLen)(hru: -9223372036854775808<=rule/\rule<=9223372036854775807):
  Calls prog 3 #[.slice A rs.length cap,iV rule,.agg #[iV a.1,iV a.2],.agg #[iV b.1,iV b.2]] w fun e w'=>e= .returned τ/\Aa w w':=by
 have HU:=zH hv.1;have HR:=zH hv.2;have HM:=zH hm;have B6:=zH hru;clear hv hm hru;go_enter func3,ntmps3
 have H0:=zH (Hp.start w);go_upto_region 0 with fail;apply wl;apply Cl 24 [iV a.1,iV a.2] H0.1;intro X1 w2 H3 _;apply Cl 24 [iV b.1,iV b.2] H3.1;intro X6 w7 H8 _;apply zq φ;rcases Cm (Fy rs=true)with HLG|HLG
 ·have A0:=zH (Pe HLG.1).2.1
  have HN:=zH (show rs.length<=1048576 from Ar (Pe HLG.1).1 (by decide));have A5:=zH (show∀r,r∈rs->r.length<=1048576 from fun r_ h_=>Ar ((Pe HLG.1).2.2 r_ h_) (by decide));go_upto_region 1 with fail
  apply wl;refine Ds Ai _ ?_;refine aC H8.1 (Ut A cap rs true _ (HU.1.ext H8.1.ext) HM.1 HR.1 HLG.1) ?_;intro F5 A1 _;apply zq φ;rcases Cm (Er rule a b rs=0)with HE|HE
  ·go_upto_region 3 with fail
   apply wl;refine Fp A1.1 _ (iV rule) _ _ ?_;refine zc ((Id A cap rs rule a b _ (HU.1.ext A1.1.ext) HN.1 A5.1 A0.1 B6.1).mono (fun _ _ h_=>Ks.ok h_ HE.1)) ?_;rintro e F4 ⟨B5,rfl,A3,A2,hx⟩;have D7:=zH (A1.1.step hx);have C6:=zH A3;have E1:=zH A2;clear A3 A2 hx;refine zn ?_;refine Dh Ai _ _ _ ?_;refine Cl 31 rz D7.1 ?_;intro F9 F3 D6 E0;apply Ck 2 (rc B5) D6.1;intro F2 A7 D9;apply zq (iV 0);go_upto_region 4 with fail
   apply wl;refine Fp A7.1 _ (iV rule) _ _ ?_;refine zc ((Rm A cap rs rule a b _ (HU.1.ext A7.1.ext) HN.1 A5.1 A0.1).mono (fun _ _ h_=>Ks.ok h_ HE.1)) ?_;rintro e F1 ⟨B4,rfl,A3,A2,hx⟩;have D5:=zH (A7.1.step hx);have D8:=zH (Af.of_ext hx);have C5:=zH A3;have G0:=zH A2;clear A3 A2 hx;refine zn ?_;refine Dh Ai _ _ _ ?_;refine Cl 31 rz D5.1 ?_;intro F8 F0 D4 B9;apply Ck 3 (rc B4) D4.1;intro E9 B7 B8;apply zq (iV 0);go_upto_region 5 with fail
   apply wl;refine Bw B7.1 _ _ ?_;have B3:=tD (tD (tD (tD E0 D9) D8) B9) B8;have B2:=tD B9 B8;refine aC B7.1 (Mp B5 B4 (Gj rule a b rs) 50000 _ (C6.1.dig B3.1) (C5.1.dig B2.1) E1.1 dC) ?_;intro E8 D3 _;refine Dh Ai τ _ _ ?_;apply zp τ (by exact Li (e:=(Ay rfl)));refine Bw Ai τ τ ?_;refine aC D3.1 (Jk _) ?_;intro E7 D2 _;refine Bw Ai τ τ ?_;go_wp2_with fail
   go_ret;exact⟨rfl,D2.1.ext⟩
  go_upto_region 3 with fail;apply wl;refine Fp A1.1 _ (iV rule) _ _ ?_;refine aC A1.1 ((Id A cap rs rule a b _ (HU.1.ext A1.1.ext) HN.1 A5.1 A0.1 B6.1).mono (fun _ _ h_=>Ks.bad h_ HE.1)) ?_;intro E6 D1 _;refine Dh Ai _ _ (iV (Er rule a b rs)) ?_;refine Cl 31 rz D1.1 ?_;intro F7 E5 D0 _;refine Ck 2 rz D0.1 ?_;intro E4 A6 _;apply zq (iV (Er rule a b rs));go_upto_region 4 with fail;apply wl;refine Fp A6.1 _ (iV rule) _ _ ?_;refine aC A6.1 ((Rm A cap rs rule a b _ (HU.1.ext A6.1.ext) HN.1 A5.1 A0.1).mono (fun _ _ h_=>Ks.bad h_ HE.1)) ?_;intro E3 C9 _;refine Dh Ai _ _ (iV (Er rule a b rs)) ?_;refine Cl 31 rz C9.1 ?_;intro F6 E2 C8 _;refine Ck 3 rz C8.1 ?_;intro C4 A4 _;apply zq (iV (Er rule a b rs));go_upto_region 5 with fail;apply wl;refine Bw A4.1 _ _ ?_;refine aC A4.1 (Xu _) ?_;intro C3 B1 _;refine Dh Ai τ (iV (Er rule a b rs)) (iV (Er rule a b rs)) ?_;apply zp τ (by exact Li (e:=(Ay rfl)));refine Bw Ai τ τ ?_;refine aC B1.1 (Jk _) ?_;intro C2 B0 _;refine Bw Ai τ τ ?_;go_wp2_with fail;go_ret;exact⟨rfl,B0.1.ext⟩
 have C7:=zH (Bool.eq_false_iff.2 HLG.1);go_upto_region 1 with fail;apply wl;refine Ds Ai _ ?_;refine aC H8.1 (Ut A cap rs false _ (HU.1.ext H8.1.ext) HM.1 HR.1 C7.1) ?_;intro C1 A9 _;apply zq τ;go_upto_region 2 with fail;apply wl;refine aC A9.1 (Jk _) ?_;intro C0 A8 _;apply zq τ;go_wp2_with fail;go_ret;exact⟨rfl,A8.1.ext⟩
theorem lifted (os:Os)(started:os.Started)(H:Type)(enc:TypeId×Value->H):
  ReturnsInHanded {} Tryz.checked os 3 .any (Rows.areaInBoxSpec.pre6 enc prog Tryz.f3 Rows.areaInBoxRow.domain false) (Rows.areaInBoxSpec.post enc prog Tryz.f3 false true false false):=by
 refine returnsInHanded_of_change (C:=Tryz.checked) own started kR func3
  (ChangeSpec.witness6 (enc:=enc) (C:=Tryz.checked) false ⟨#[],#[.slice none 0 0,.int .i64 0,.agg #[.int .i64 0,.int .i64 0],.agg #[.int .i64 0,.int .i64 0]],[]⟩ 8 (by kernel_rfl) (by kernel_rfl) (by kernel_rfl) (by kernel_rfl)) ?_
 intro W base args ds gs A4 A1 hW B4 _;have A0:∀(j:Nat) t v,Tryz.f3.params[j]?=some t->args[j]?=some v->Value.okWide prog W .any base t v:=A1;have B5:=hW;obtain⟨p,q,A7,hV,rfl,C1,C0⟩:=hW;have hA:DataW.TrodAll enc prog W 0 (fun _=>true) true Tryz.f3.params.toList args.toList ds p:=A7;rw[Tryz.params3]at hA A0;obtain⟨v0,B9,d0,C5,p0,q0,A6,rfl,rfl,h0,r0⟩:=trodAll_cons hA;obtain⟨v1,B8,d1,C4,p1,q1,rfl,rfl,rfl,h1,r1⟩:=trodAll_cons r0;obtain⟨v2,B7,d2,C3,p2,q2,rfl,rfl,rfl,h2,r2⟩:=trodAll_cons r1;obtain⟨v3,B6,d3,C2,p3,q3,rfl,rfl,rfl,h3,r3⟩:=trodAll_cons r2;obtain⟨rfl,rfl,rfl⟩:=trodAll_nil r3;obtain rfl:args=#[v0,v1,v2,v3]:=by cases args;simp_all
 obtain⟨rfl,rfl⟩:=trodVars_none hV;have k0:=h0;have B3:∀x∈p0,x.block<W.heap.size:=by obtain⟨m,hm⟩:=k0;exact DataW.trod_lt m _ _ _ hm
 obtain⟨A,A5,A3,rfl⟩:=okWide_slice underlying22 (A0 0 22 v0 rfl rfl);obtain⟨B0,rs,A9,A8,g0⟩:=(by obtain⟨m,hm⟩:=h0;exact Yc hm:∃zB zl zc,[Value.slice A A5 A3]=[.slice zB (List.length zl) zc]/\zl.length<=maxLen/\Cn W (.slice zB zl.length zc) zl/\∀r,r∈zl->r.length<=maxLen);obtain⟨rfl,rfl,rfl⟩:A=B0/\A5=rs.length/\A3=A9:=by simpa using A8
 obtain⟨rule,rfl,rfl,rfl,w1⟩:=open_int underlying3 (A0 1 3 v1 rfl rfl) h1;have k2:=h2;have B2:∀x∈p2,x.block<W.heap.size:=by obtain⟨m,hm⟩:=k2;exact DataW.trod_lt m _ _ _ hm
 obtain⟨⟨l2⟩,rfl,_⟩:=Lb underlying24 (A0 2 24 v2 rfl rfl);obtain⟨a,rfl⟩:∃a:Int×Int,l2=[.int .i64 a.1,.int .i64 a.2]:=by
  obtain⟨m,hm⟩:=h2;exact Vz hm
 have k3:=h3;have B1:∀x∈p3,x.block<W.heap.size:=by obtain⟨m,hm⟩:=k3;exact DataW.trod_lt m _ _ _ hm
 obtain⟨⟨l3⟩,rfl,_⟩:=Lb underlying24 (A0 3 24 v3 rfl rfl);obtain⟨b,rfl⟩:∃b:Int×Int,l3=[.int .i64 b.1,.int .i64 b.2]:=by
  obtain⟨m,hm⟩:=h3;exact Vz hm
 clear A7 A1;refine(walk A rs A3 rule a b W g0.2 g0.1 (bounds_i64 w1)).mono fun e W' ⟨he,hx⟩=> ?_
 subst he;have A2:=hx.below;exact⟨_,rfl,_,_,_,[],_,[],B5,trodAll_mk1 (shut_bool underlying4 _),(trodAll_cons_mk (Below.trod Wl (by kernel_rfl) (of_decide_eq_true (by kernel_rfl)) k0 A2 B3) (trodAll_cons_mk (shut_int underlying3 w1) (trodAll_cons_mk (Below.trod Wl (by kernel_rfl) (of_decide_eq_true (by kernel_rfl)) k2 A2 B2) (trodAll_cons_mk (Below.trod Wl (by kernel_rfl) (of_decide_eq_true (by kernel_rfl)) k3 A2 B1) trodAll_mk0)))),rfl,A2.frame _,fun h=>by cases h⟩
theorem proved:Rows.AreaInBoxSaid:=
  OpenClaim.holds_of_wide 3 Tryz.f3 rfl rfl rfl rfl rfl rfl rfl ⟨rfl,rfl,rfl,rfl,rfl⟩ rfl rfl rfl rfl rfl (by kernel_rfl) func3 (by kernel_rfl)
    (of_decide_eq_true (by kernel_rfl)) (by unfold Func.isWrapper;first|(rw[if_pos (by decide+kernel)];kernel_rfl)|(rw[if_neg (by decide+kernel)];exact⟨rfl,rfl⟩))
    (fun os started H enc _=>lifted os started H enc)
#print axioms proved
end inboxlaw
end
end Go.Proofs.YthlfilomhgeheaaGreat
