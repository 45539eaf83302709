import Derived.Test.YtlipfipniibpoaaGreatM9
set_option maxRecDepth 100000
set_option maxHeartbeats 4000000
namespace Go.Proofs.YtlipfipniibpoaaGreat
open Go.RowKit
section
attribute [local go_sem ↓] Go.wp_at_zero Go.wp_at_succ Aj Ai
namespace fromlaw
open Go.ChangeShapes Go.WideShapes Go.ChangeAt
theorem walk (f g:RV)(w:World)(hf:f.Raw w)(hg:g.Raw w):
  Calls Tryz.prog 3 #[.agg #[.bool f.n,.slice f.p f.l f.c,.bool f.m,.slice f.p2 f.l2 f.c2],.agg #[.bool g.n,.slice g.p g.l g.c,.bool g.m,.slice g.p2 g.l2 g.c2]] w fun e w'=>e= .returned (.bool true)/\Aa w w':=by
 have HF:=zH hf;have HG:=zH hg;clear hf hg;go_enter Tryz.func3,Tryz.ntmps3
 have H0:=zH (Hp.start w);go_upto_region 0 with fail
 refine wl ?_;refine Cm 26 (rc f) H0.1 ?_;intro X1 w2 H3 _;refine Cm 26 (rc g) H3.1 ?_;intro X6 w7 H8 _;refine zq (.bool false) ?_;rcases Co ((30:Int)<(f.l:Int))with C1|C1
 ·go_upto_region 1 with fail
  refine wl ?_;refine Ej H8.1 _ _ _ (iV ((f.l:Nat):Int)) ?_;refine zp (.bool true) (by exact Tw (e:=(Ae C1.1))) ?_;refine Hf Ac (.bool true) _ _ _ _ _ (.bool true) (.bool true) ?_;refine Hf Ac _ _ _ _ _ (.bool true) (.bool true) _ ?_;refine Kf Ac _ _ _ _ (.bool true) ?_;go_upto_region 2 with fail
  refine wl ?_;refine aC H8.1 (Fe _) ?_;intro D6 D2 _;refine zq (.bool true) ?_;go_wp2_with fail
  go_ret
  exact⟨rfl,D2.1.ext⟩
 rcases Co ((30:Int)<(f.l2:Int))with C2|C2
 ·go_upto_region 1 with fail
  refine wl ?_;refine Ej H8.1 _ _ _ (iV ((f.l:Nat):Int)) ?_;refine zp (.bool false) (by exact Tw (e:=(Ah C1.1))) ?_;refine Kf H8.1 (.bool false) _ _ _ (iV ((f.l2:Nat):Int)) ?_;refine zp (.bool true) (by exact Tw (e:=(Ae C2.1))) ?_;refine Hf Ac (.bool true) (.bool true) _ _ _ _ _ (.bool true) ?_;refine fF Ac (.bool true) _ _ _ _ _ (.bool true) ?_;go_upto_region 2 with fail
  refine wl ?_;refine aC H8.1 (Fe _) ?_;intro D5 D1 _;refine zq (.bool true) ?_;go_wp2_with fail
  go_ret
  exact⟨rfl,D1.1.ext⟩
 rcases Co ((30:Int)<(g.l:Int))with C3|C3
 ·go_upto_region 1 with fail
  refine wl ?_;refine Ej H8.1 _ _ _ (iV ((f.l:Nat):Int)) ?_;refine zp (.bool false) (by exact Tw (e:=(Ah C1.1))) ?_;refine Kf H8.1 (.bool false) _ _ _ (iV ((f.l2:Nat):Int)) ?_;refine zp (.bool false) (by exact Tw (e:=(Ah C2.1))) ?_;refine Pc H8.1 (.bool false) (.bool false) _ _ _ (iV ((g.l:Nat):Int)) ?_;refine zp (.bool true) (by exact Tw (e:=(Ae C3.1))) ?_;refine Hf Ac (.bool true) (.bool true) _ _ _ _ _ (.bool true) ?_;go_upto_region 2 with fail
  refine wl ?_;refine aC H8.1 (Fe _) ?_;intro D4 D0 _;refine zq (.bool true) ?_;go_wp2_with fail
  go_ret
  exact⟨rfl,D0.1.ext⟩
 rcases Co ((30:Int)<(g.l2:Int))with C4|C4
 ·go_upto_region 1 with fail
  refine wl ?_;refine Ej H8.1 _ _ _ (iV ((f.l:Nat):Int)) ?_;refine zp (.bool false) (by exact Tw (e:=(Ah C1.1))) ?_;refine Kf H8.1 (.bool false) _ _ _ (iV ((f.l2:Nat):Int)) ?_;refine zp (.bool false) (by exact Tw (e:=(Ah C2.1))) ?_;refine Pc H8.1 (.bool false) (.bool false) _ _ _ (iV ((g.l:Nat):Int)) ?_;refine zp (.bool false) (by exact Tw (e:=(Ah C3.1))) ?_;refine Pc H8.1 (.bool false) (.bool false) _ _ _ (iV ((g.l2:Nat):Int)) ?_;refine zp (.bool true) (by exact Tw (e:=(Ae C4.1))) ?_;refine zq (.bool true) ?_;go_upto_region 2 with fail
  refine wl ?_;refine aC H8.1 (Fe _) ?_;intro D3 C9 _;refine zq (.bool true) ?_;go_wp2_with fail
  go_ret
  exact⟨rfl,C9.1.ext⟩
 go_upto_region 1 with fail
 refine wl ?_;refine Ej H8.1 _ _ _ (iV ((f.l:Nat):Int)) ?_;refine zp (.bool false) (by exact Tw (e:=(Ah C1.1))) ?_;refine Kf H8.1 (.bool false) _ _ _ (iV ((f.l2:Nat):Int)) ?_;refine zp (.bool false) (by exact Tw (e:=(Ah C2.1))) ?_;refine Pc H8.1 (.bool false) (.bool false) _ _ _ (iV ((g.l:Nat):Int)) ?_;refine zp (.bool false) (by exact Tw (e:=(Ah C3.1))) ?_;refine Pc H8.1 (.bool false) (.bool false) _ _ _ (iV ((g.l2:Nat):Int)) ?_;refine zp (.bool false) (by exact Tw (e:=(Ah C4.1))) ?_;refine zq (.bool false) ?_;obtain⟨p,B4⟩:=HF.1.val;have HP:=zH (B4 30 (by have h1:=C1.1;omega) (by have h1:=C2.1;omega));obtain⟨q,B3⟩:=HG.1.val;have HQ:=zH (B3 30 (by have h1:=C3.1;omega) (by have h1:=C4.1;omega));clear B4 B3;go_upto_region 3 with fail
 refine zy ?_;have A8:=zH (H8.1.step (Aa.refl w7).drew);refine Ra H8.1 zb (bs 6 5) 0 2 _ _ ?_;refine mC 1 (bs 6 7) (Kp f p _ (RV.In.mono (HP.1.dig A8.1.dig0) dC)) ?_;rintro e C8 ⟨rfl,hx⟩;have A7:=zH (A8.1.step hx);have A6:=zH (zb.trans hx);clear hx;refine zm A6.1 ?_;refine mC 3 (bs 6 15) (Kp g q _ (RV.In.mono (HQ.1.dig A7.1.dig0) dC)) ?_;rintro e C7 ⟨rfl,hx⟩;have A0:=zH (A7.1.step hx);have A5:=zH (A6.1.trans hx);clear hx;refine zm A5.1 ?_;refine Ra Ac A5.1 (bs 6 63) 4 5 (.int .u8 (Ls p)) (.int .u8 (Ls q)) ?_;refine wpAnyH_done kR ?_ _;rcases Co (q<p)with CG|CG
 ·go_upto_region 4 with fail
  refine wl ?_;refine Bq A0.1 (.int .u8 (Ls p)) _ ?_;refine aC A0.1 (Cg f p _ (HP.1.dig A0.1.dig0)) ?_;intro C6 A4 _;refine zp (.bool true) (by exact gU rR rR rR (Ae rfl)) ?_;refine Dh A4.1 (.bool true) (.int .u8 (Ls q)) _ ?_;refine aC A4.1 (Cg g q _ (HQ.1.dig A4.1.dig0)) ?_;intro C5 A2 _;refine zp (.bool true) (by exact gU rR rR rR (Ae rfl)) ?_;refine Ej A2.1 (.bool true) (.bool true) _ _ ?_;refine aC A2.1 (vH (L:=60000) (RV.In.nin (RV.In.mono (HP.1.dig A2.1.dig0) (by omega))) (RV.In.nin (RV.In.mono (HQ.1.dig A2.1.dig0) (by omega))) (by omega)) ?_;intro C0 B2 _;refine zp (.bool true) (by exact Tw (e:=(Ae (Hg.2 CG.1)))) ?_;refine fF Ac (.bool true) _ _ _ (.bool true) (.bool true) (.bool true) ?_;refine aC B2.1 (Fe _) ?_;intro B9 B1 _;refine Bq Ac (.bool true) (.bool true) ?_;go_wp2_with fail
  go_ret
  exact⟨rfl,B1.1.ext⟩
 go_upto_region 4 with fail
 refine wl ?_;refine Bq A0.1 (.int .u8 (Ls p)) _ ?_;refine aC A0.1 (Cg f p _ (HP.1.dig A0.1.dig0)) ?_;intro B8 A3 _;refine zp (.bool true) (by exact gU rR rR rR (Ae rfl)) ?_;refine Dh A3.1 (.bool true) (.int .u8 (Ls q)) _ ?_;refine aC A3.1 (Cg g q _ (HQ.1.dig A3.1.dig0)) ?_;intro B7 A1 _;refine zp (.bool true) (by exact gU rR rR rR (Ae rfl)) ?_;refine Ej A1.1 (.bool true) (.bool true) _ _ ?_;refine aC A1.1 (vH (L:=60000) (RV.In.nin (RV.In.mono (HP.1.dig A1.1.dig0) (by omega))) (RV.In.nin (RV.In.mono (HQ.1.dig A1.1.dig0) (by omega))) (by omega)) ?_;intro B6 B0 _;refine zp (.bool false) (by exact Tw (e:=(Ah (fun hh=>CG.1 (Hg.1 hh))))) ?_;refine Dh Ac (.bool false) (.int .u8 (Ls p)) (.int .u8 (Ls q)) ?_;refine zp (.bool true) (by exact oW rR rR rR (Xv (by have h_:=CG.1;grind))) ?_;refine Dh Ac (.bool true) (.bool true) (.bool true) ?_;refine aC B0.1 (Fe _) ?_;intro B5 A9 _;refine qV (.bool true) ?_;refine zq (.bool true) ?_;go_wp2_with fail
 go_ret
 exact⟨rfl,A9.1.ext⟩
theorem lifted (os:Os)(started:os.Started)(H:Type)(enc:TypeId×Value->H):
  ReturnsInHanded {} Tryz.checked os 3 .any (Rows.coverageFromAreaSpec.pre6 enc Tryz.prog Tryz.f3 Rows.coverageFromAreaRow.domain false) (Rows.coverageFromAreaSpec.post enc Tryz.prog Tryz.f3 false true false false):=by
 refine returnsInHanded_of_change (C:=Tryz.checked) own started kR Tryz.func3
  (ChangeSpec.witness6 (enc:=enc) (C:=Tryz.checked) false ⟨#[],#[.agg z4,.agg z4],[]⟩ 8 (by kernel_rfl) (by kernel_rfl) (by kernel_rfl) (by kernel_rfl)) ?_
 intro W base args ds gs A3 A0 hW A8 _;have A1:∀(j:Nat) t v,Tryz.f3.params[j]?=some t->args[j]?=some v->Value.okWide Tryz.prog W .any base t v:=A0;have A9:=hW;obtain⟨p,q,A5,hV,rfl,B3,B2⟩:=hW;have hA:DataW.TrodAll enc Tryz.prog W 0 (fun _=>true) true Tryz.f3.params.toList args.toList ds p:=A5;rw[Tryz.params3]at hA A1;obtain⟨v0,B1,d0,B5,p0,q0,A4,rfl,rfl,h0,r0⟩:=trodAll_cons hA;obtain⟨v1,B0,d1,B4,p1,q1,rfl,rfl,rfl,h1,r1⟩:=trodAll_cons r0;obtain⟨rfl,rfl,rfl⟩:=trodAll_nil r1;obtain rfl:args=#[v0,v1]:=by cases args;simp_all
 obtain⟨rfl,rfl⟩:=trodVars_none hV;have k0:=h0;have A7:∀x∈p0,x.block<W.heap.size:=by obtain⟨m,hm⟩:=k0;exact DataW.trod_lt m _ _ _ hm
 obtain⟨⟨l0⟩,rfl,_⟩:=Ee Tryz.underlying26 (A1 0 26 v0 rfl rfl);obtain⟨f,rfl,g0⟩:∃a:RV,l0=[.bool a.n,.slice a.p a.l a.c,.bool a.m,.slice a.p2 a.l2 a.c2]/\a.Raw W:=by
  obtain⟨m,hm⟩:=h0;exact Iu hm
 have k1:=h1;have A6:∀x∈p1,x.block<W.heap.size:=by obtain⟨m,hm⟩:=k1;exact DataW.trod_lt m _ _ _ hm
 obtain⟨⟨l1⟩,rfl,_⟩:=Ee Tryz.underlying26 (A1 1 26 v1 rfl rfl);obtain⟨g,rfl,g1⟩:∃a:RV,l1=[.bool a.n,.slice a.p a.l a.c,.bool a.m,.slice a.p2 a.l2 a.c2]/\a.Raw W:=by
  obtain⟨m,hm⟩:=h1;exact Iu hm
 clear A5 A0;refine(walk f g W g0 g1).mono fun e W' ⟨he,hx⟩=> ?_
 subst he;have A2:=hx.below;exact⟨_,rfl,_,_,_,[],_,[],A9,trodAll_mk1 (shut_bool Tryz.underlying4 _),(trodAll_cons_mk (Below.trod gO (by kernel_rfl) (of_decide_eq_true (by kernel_rfl)) k0 A2 A7) (trodAll_cons_mk (Below.trod gO (by kernel_rfl) (of_decide_eq_true (by kernel_rfl)) k1 A2 A6) trodAll_mk0)),rfl,A2.frame _,fun h=>by cases h⟩
theorem proved:Rows.CoverageFromAreaSaid:=
  OpenClaim.holds_of_wide 3 Tryz.f3 rfl rfl rfl rfl rfl rfl rfl ⟨rfl,rfl,rfl,rfl,rfl⟩ rfl rfl rfl rfl rfl (by kernel_rfl) Tryz.func3 (by kernel_rfl)
    (of_decide_eq_true (by kernel_rfl)) (by unfold Func.isWrapper;first|(rw[if_pos (by decide+kernel)];kernel_rfl)|(rw[if_neg (by decide+kernel)];exact⟨rfl,rfl⟩))
    (fun os started H enc _=>lifted os started H enc)
#print axioms proved
end fromlaw
end
end Go.Proofs.YtlipfipniibpoaaGreat
