/- AreaTranslation: pixels move with the rings. -/
import Derived.Test.YtngikkggjidenabGreatM8
set_option maxRecDepth 100000
set_option maxHeartbeats 4000000
namespace Go.Proofs.YtngikkggjidenabGreat
open Go.RowKit
attribute [local go_sem ↓] Go.wp_at_zero Go.wp_at_succ run_max_ii run_min_ii
namespace transl
open Go.ChangeShapes Go.WideShapes Go.ChangeAt
theorem tot_tr (t:Int×Int):∀rs:List Ring,tot (trR t rs)=tot rs:=fun rs=>by
  rw[<-flat_tot,<-flat_tot,List.length_flatten,List.length_flatten];unfold trR;rw[List.map_map];congr 1;refine List.map_congr_left fun r _=> ?_
  simp
theorem corn_in {x y:Int}(hx: -4096<=x/\x<=4096)(hy: -4096<=y/\y<=4096):cornV x y=(x*256,y*256):=by
  unfold cornV farI;rw[if_neg (by simp;omega)]
theorem pixB_in {x y:Int}(hx: -4096<=x/\x<4096)(hy: -4096<=y/\y<4096):pixB x y=((x+1)*256,(y+1)*256):=by
  unfold pixB;rw[corn_in (by omega) (by omega),if_pos (by simp[okPt];omega),corn_in (by omega) (by omega)]
theorem inbE_in {rule x y:Int}{rs:List Ring}(hok:okR rs=true)(hx: -4096<=x/\x<4096)(hy: -4096<=y/\y<4096):inbE rule (cornV x y) (pixB x y) rs=if rule=1\/rule=2 then 0 else 2:=by
  unfold inbE;rw[corn_in (by omega) (by omega),pixB_in hx hy,if_pos hok];by_cases c:rule=1\/rule=2
  · rw[if_pos c,if_pos c,if_pos (by simp[okPt];omega)]
  rw[if_neg c,if_neg c]
theorem pix_tr {rule x y dx dy:Int}{rs:List Ring}(h1:okR rs=true)(h2:okR (trR (256*dx,256*dy) rs)=true)(hx: -128<=x/\x<=127)(hy: -128<=y/\y<=127)(hdx: -128<=dx/\dx<=127)(hdy: -128<=dy/\dy<=127):
  areaV rule (cornV (x+dx) (y+dy)) (pixB (x+dx) (y+dy)) (trR (256*dx,256*dy) rs)=areaV rule (cornV x y) (pixB x y) rs:=by
 have ha:okP (cornV x y):=by rw[corn_in (by omega) (by omega)];simp[okP,okPt];omega
 have hb:okP (pixB x y):=by rw[pixB_in (by omega) (by omega)];simp[okP,okPt];omega
 have e1:cornV (x+dx) (y+dy)=trP (256*dx,256*dy) (cornV x y):=by
  rw[corn_in (by omega) (by omega),corn_in (by omega) (by omega)];unfold trP;exact Prod.ext (by simp only;omega) (by simp only;omega)
 have e2:pixB (x+dx) (y+dy)=trP (256*dx,256*dy) (pixB x y):=by
  rw[pixB_in (by omega) (by omega),pixB_in (by omega) (by omega)];unfold trP;exact Prod.ext (by simp only;omega) (by simp only;omega)
 have ha2:okP (trP (256*dx,256*dy) (cornV x y)):=by rw[<-e1,corn_in (by omega) (by omega)];simp[okP,okPt];omega
 have hb2:okP (trP (256*dx,256*dy) (pixB x y)):=by rw[<-e2,pixB_in (by omega) (by omega)];simp[okP,okPt];omega
 rw[e1,e2];exact area_tr rule h1 h2 ha hb ha2 hb2
theorem walk (A:Option Addr)(rs:List Ring)(cap:Nat)(rule px py dx dy:Int)(w:World)(hv:RingsV w (.slice A rs.length cap) rs/\∀r,r∈rs->r.length<=maxLen)(hm:rs.length<=maxLen)(hru: -9223372036854775808<=rule/\rule<=9223372036854775807)(hpx: -128<=px/\px<=127)(hpy: -128<=py/\py<=127)(hdx: -128<=dx/\dx<=127)(hdy: -128<=dy/\dy<=127):
  Calls Tryz.prog 3 #[.slice A rs.length cap,.int .i64 rule,.int .i8 px,.int .i8 py,.int .i8 dx,.int .i8 dy] w fun e w'=>e= .returned (.bool true)/\Ext w w':=by
 have hwpx:IntKind.i64.wrap px=px:=by rw[IntKind.wrap_i64];omega
 have hwpy:IntKind.i64.wrap py=py:=by rw[IntKind.wrap_i64];omega
 have hwdx:IntKind.i64.wrap dx=dx:=by rw[IntKind.wrap_i64];omega
 have hwdy:IntKind.i64.wrap dy=dy:=by rw[IntKind.wrap_i64];omega
 have HU:=zH hv.1;have HR:=zH hv.2;have HM:=zH hm;have HRU:=zH hru;clear hv hm hru;go_enter Tryz.func3,Tryz.ntmps3
 have H0:=zH (Hp.start w);go_upto_region 0 with fail
 refine wl ?_;refine zq (.bool false) ?_;rcases emH (lightB rs=true)with HLG|HLG
 ·have HTOT:=zH (light_few HLG.out).2.1
  have HN:=zH (show rs.length<=1048576 from Nat.le_trans (light_few HLG.out).1 (by decide));have HRR:=zH (show∀r,r∈rs->r.length<=1048576 from fun r_ h_=>Nat.le_trans ((light_few HLG.out).2.2 r_ h_) (by decide));rcases emH (okR rs=true)with HV|HV
  ·go_upto_region 1 with fail
   refine wl ?_;refine zI1 (Hp.start _) _ ?_;refine aC H0.out (light_any A cap rs true _ (HU.out.ext H0.out.ext) HM.out HR.out HLG.out) ?_;intro w5 H6 _;refine zI3 (Hp.start _) (.bool false) (.bool false) _ ?_;refine zc (r16Valid_any _ rs _ (HU.out.ext H6.out.ext) HN.out HRR.out) ?_;rintro e w11 ⟨rfl,hx⟩;have H12:=zH (H6.out.step hx);clear hx;refine⟨.bool true,by rw[HV.out],?_⟩;try simp only[Act.put,zA,zB,zC]
   refine zI2 (Hp.start _) (.bool false) (.bool false) ?_;go_upto_region 3 with fail
   refine wl ?_;refine zI3 (Hp.start _) _ (.int .i8 dx) (.int .i64 dx) ?_;refine zp (.int .i64 (256*dx)) (by exact ez3 (by omega)) ?_;refine zI2 (Hp.start _) (.int .i8 dy) (.int .i64 dy) ?_;refine zp (.int .i64 (256*dy)) (by exact ez3 (by omega)) ?_;refine zI1 (Hp.start _) _ ?_;refine zc (translate16_any A cap rs (256*dx,256*dy) _ (HU.out.ext H12.out.ext) HN.out HRR.out HV.out (by simp[okP,okPt];omega)) ?_;rintro e w24 ⟨Bm,cm,rfl,hrm_,hx⟩;have H25:=zH (H12.out.step hx);have HRM0:=zH hrm_;clear hrm_ hx;refine zn ?_;refine zI1 (Hp.start _) _ ?_;have HX29:=zH (show Ext w w24 from H25.out.ext);have H928:=zH (Hp.start w24);have HU2:=zH (HU.out.ext HX29.out);have HNM:=zH (show(trR (256*dx,256*dy) rs).length<=1048576 from by unfold trR;rw[List.length_map];exact HN.out);have HRM:=zH (show∀r,r∈trR (256*dx,256*dy) rs->r.length<=1048576 from fun r_ h_=>by unfold trR at h_;obtain⟨q_,hq_,rfl⟩:=List.mem_map.1 h_;rw[List.length_map];exact HRR.out q_ hq_);have HTM:=zH (show tot (trR (256*dx,256*dy) rs)<=24 from by rw[tot_tr];exact HTOT.out);rcases emH (okR (trR (256*dx,256*dy) rs)=true)with HV2|HV2
   ·go_upto_region 4 with fail
    refine wl ?_;refine zI1 (Hp.start _) _ ?_;refine zc (r16Valid_any _ (trR (256*dx,256*dy) rs) _ (HRM0.out.ext H928.out.ext) HNM.out HRM.out) ?_;rintro e w32 ⟨rfl,hx⟩;have H33:=zH (H928.out.step hx);clear hx;refine⟨.bool true,by rw[HV2.out],?_⟩;try simp only[Act.put,zA,zB,zC]
    refine zq (.bool false) ?_;rcases emH (rule=1\/rule=2)with HRL|HRL
    ·have HE1:=zH (show inbE rule (cornV px py) (pixB px py) rs=0 from(inbE_in HV.out (by omega) (by omega)).trans (if_pos HRL.out))
     have HE2:=zH (show inbE rule (cornV (px+dx) (py+dy)) (pixB (px+dx) (py+dy)) (trR (256*dx,256*dy) rs)=0 from(inbE_in HV2.out (by omega) (by omega)).trans (if_pos HRL.out));go_upto_region 6 with fail
     refine wl ?_;refine zI6 (Hp.start _) _ (.int .i64 rule) (.int .i8 px) (.int .i64 px) (.int .i8 py) (.int .i64 py) ?_;refine zc ((pixel_any A cap rs rule px py _ (HU2.out.ext H33.out.ext) HN.out HRR.out HTOT.out HRU.out).mono (fun _ _ h_=>RetZ.ok h_ HE1.out)) ?_;rintro e w43 ⟨r44,rfl,h1_,h2_,hx⟩;have H45:=zH (H33.out.step hx);have R44:=zH (h1_);clear h1_ h2_ hx;refine zn ?_;refine zI3 (Hp.start _) _ _ _ ?_;refine aA' 33 rz H45.out ?_;intro X50 w51 H52 D52;refine aS' 0 (rc r44) H52.out ?_;intro w55 H56 D56;refine zq (.int .i64 0) ?_;have HPT:=zH (pix_tr (rule:=rule) HV.out HV2.out hpx hpy hdx hdy);go_upto_region 7 with fail
     refine wl ?_;refine zI6 (Hp.start _) _ (.int .i64 rule) (.int .i8 px) (.int .i64 px) (.int .i8 dx) (.int .i64 dx) ?_;refine zp (.int .i64 (px+dx)) (by exact ez1 (by omega)) ?_;refine zI4 (Hp.start _) (.int .i8 py) (.int .i64 py) (.int .i8 dy) (.int .i64 dy) ?_;refine zp (.int .i64 (py+dy)) (by exact ez1 (by omega)) ?_;refine zc ((pixel_any Bm cm (trR (256*dx,256*dy) rs) rule (px+dx) (py+dy) _ (HRM0.out.ext H56.out.ext) HNM.out HRM.out HTM.out HRU.out).mono (fun _ _ h_=>RetZ.ok h_ HE2.out)) ?_;rintro e w71 ⟨r72,rfl,h1_,h2_,hx⟩;have H73:=zH (H56.out.step hx);have D73:=zH (Dig.of_ext hx);have R72:=zH (HPT.out▸h1_);have B72:=zH (HPT.out▸h2_);clear h1_ h2_ hx;refine zn ?_;refine zI3 (Hp.start _) _ _ _ ?_;refine aA' 33 rz H73.out ?_;intro X78 w79 H80 D80;refine aS' 1 (rc r72) H80.out ?_;intro w83 H84 D84;refine zq (.int .i64 0) ?_;go_upto_region 8 with fail
     refine wl ?_;refine zI2 (Hp.start _) _ _ ?_;refine zp (.bool true) (by exact ezq (e:=(dec_t (by omega)))) ?_;refine zI3 H84.out (.bool true) _ _ ?_;have DD92:=tD (tD (tD (tD D52 D56) D73) D80) D84;have DD93:=tD D80 D84;refine aC H84.out (same04_any r44 r72 (areaV rule (cornV px py) (pixB px py) rs/((65536:Int):Rat)) 60000 _ (R44.out.dig DD92.out) (R72.out.dig DD93.out) (Nat.le_trans B72.out (by omega)) dC) ?_;intro w91 H94 _;refine zI2 (Hp.start _) (.bool true) (.bool true) ?_;refine aC H94.out (example19_any _) ?_;intro w98 H99 _;refine zI2 (Hp.start _) (.bool true) (.bool true) ?_;go_wp2_with fail
     go_ret
     exact⟨rfl,HX29.out.trans H99.out.ext⟩
    have HE1:=zH (show inbE rule (cornV px py) (pixB px py) rs=2 from(inbE_in HV.out (by omega) (by omega)).trans (if_neg HRL.out));have HE2:=zH (show inbE rule (cornV (px+dx) (py+dy)) (pixB (px+dx) (py+dy)) (trR (256*dx,256*dy) rs)=2 from(inbE_in HV2.out (by omega) (by omega)).trans (if_neg HRL.out));go_upto_region 6 with fail
    refine wl ?_;refine zI6 (Hp.start _) _ (.int .i64 rule) (.int .i8 px) (.int .i64 px) (.int .i8 py) (.int .i64 py) ?_;refine zc ((pixel_any A cap rs rule px py _ (HU2.out.ext H33.out.ext) HN.out HRR.out HTOT.out HRU.out).mono (fun _ _ h_=>RetZ.bad h_ (by rw[HE1.out];decide))) ?_;rintro e w109 ⟨rfl,hx⟩;have H111:=zH (H33.out.step hx);clear hx;refine⟨.tuple #[.agg z4,.int .i64 2],by rw[HE1.out],?_⟩;try simp only[Act.put,zA,zB,zC]
    refine zI3 (Hp.start _) _ _ _ ?_;refine aA' 33 rz H111.out ?_;intro X116 w117 H118 _;refine aS' 0 rz H118.out ?_;intro w121 H122 _;refine zq (.int .i64 2) ?_;go_upto_region 7 with fail
    refine wl ?_;refine zI6 (Hp.start _) _ (.int .i64 rule) (.int .i8 px) (.int .i64 px) (.int .i8 dx) (.int .i64 dx) ?_;refine zp (.int .i64 (px+dx)) (by exact ez1 (by omega)) ?_;refine zI4 (Hp.start _) (.int .i8 py) (.int .i64 py) (.int .i8 dy) (.int .i64 dy) ?_;refine zp (.int .i64 (py+dy)) (by exact ez1 (by omega)) ?_;refine zc ((pixel_any Bm cm (trR (256*dx,256*dy) rs) rule (px+dx) (py+dy) _ (HRM0.out.ext H122.out.ext) HNM.out HRM.out HTM.out HRU.out).mono (fun _ _ h_=>RetZ.bad h_ (by rw[HE2.out];decide))) ?_;rintro e w137 ⟨rfl,hx⟩;have H139:=zH (H122.out.step hx);clear hx;refine⟨.tuple #[.agg z4,.int .i64 2],by rw[HE2.out],?_⟩;try simp only[Act.put,zA,zB,zC]
    refine zI3 (Hp.start _) _ _ _ ?_;refine aA' 33 rz H139.out ?_;intro X144 w145 H146 _;refine aS' 1 rz H146.out ?_;intro w149 H150 _;refine zq (.int .i64 2) ?_;go_upto_region 8 with fail
    refine wl ?_;refine zI2 (Hp.start _) _ _ ?_;refine zp (.bool true) (by exact ezq (e:=(dec_t (by omega)))) ?_;refine zI3 H150.out (.bool true) _ _ ?_;refine aC H150.out (same04Z_any _) ?_;intro w157 H158 _;refine zI2 (Hp.start _) (.bool true) (.bool true) ?_;refine aC H158.out (example19_any _) ?_;intro w162 H163 _;refine zI2 (Hp.start _) (.bool true) (.bool true) ?_;go_wp2_with fail
    go_ret
    exact⟨rfl,HX29.out.trans H163.out.ext⟩
   have HVF:=zH (Bool.eq_false_iff.2 HV2.out);go_upto_region 4 with fail
   refine wl ?_;refine zI1 (Hp.start _) _ ?_;refine zc (r16Valid_any _ (trR (256*dx,256*dy) rs) _ (HRM0.out.ext H928.out.ext) HNM.out HRM.out) ?_;rintro e w168 ⟨rfl,hx⟩;have H169:=zH (H928.out.step hx);clear hx;refine⟨.bool false,by rw[HVF.out],?_⟩;try simp only[Act.put,zA,zB,zC]
   refine zq (.bool true) ?_;go_upto_region 5 with fail
   refine wl ?_;refine aC H169.out (example19_any _) ?_;intro w172 H173 _;refine zq (.bool true) ?_;go_wp2_with fail
   go_ret
   exact⟨rfl,HX29.out.trans H173.out.ext⟩
  have HVF:=zH (Bool.eq_false_iff.2 HV.out);go_upto_region 1 with fail
  refine wl ?_;refine zI1 (Hp.start _) _ ?_;refine aC H0.out (light_any A cap rs true _ (HU.out.ext H0.out.ext) HM.out HR.out HLG.out) ?_;intro w177 H178 _;refine zI3 (Hp.start _) (.bool false) (.bool false) _ ?_;refine zc (r16Valid_any _ rs _ (HU.out.ext H178.out.ext) HN.out HRR.out) ?_;rintro e w183 ⟨rfl,hx⟩;have H184:=zH (H178.out.step hx);clear hx;refine⟨.bool false,by rw[HVF.out],?_⟩;try simp only[Act.put,zA,zB,zC]
  refine zI2 (Hp.start _) (.bool true) (.bool true) ?_;go_upto_region 2 with fail
  refine wl ?_;refine aC H184.out (example19_any _) ?_;intro w188 H189 _;refine zq (.bool true) ?_;go_wp2_with fail
  go_ret
  exact⟨rfl,H189.out.ext⟩
 have HLF:=zH (Bool.eq_false_iff.2 HLG.out);go_upto_region 1 with fail
 refine wl ?_;refine zI1 (Hp.start _) _ ?_;refine aC H0.out (light_any A cap rs false _ (HU.out.ext H0.out.ext) HM.out HR.out HLF.out) ?_;intro w193 H194 _;refine zI6 (Hp.start _) (.bool true) (.bool true) _ _ _ (.bool true) ?_;go_upto_region 2 with fail
 refine wl ?_;refine aC H194.out (example19_any _) ?_;intro w199 H200 _;refine zq (.bool true) ?_;go_wp2_with fail
 go_ret
 exact⟨rfl,H200.out.ext⟩
theorem lifted (os:Os)(started:os.Started)(H:Type)(enc:TypeId×Value->H):
  ReturnsInHanded {} Tryz.checked os 3 .any (Rows.areaTranslationSpec.pre6 enc Tryz.prog Tryz.f3 Rows.areaTranslationRow.domain false) (Rows.areaTranslationSpec.post enc Tryz.prog Tryz.f3 false true false false):=by
 refine returnsInHanded_of_change (C:=Tryz.checked) own started kR Tryz.func3
  (ChangeSpec.witness6 (enc:=enc) (C:=Tryz.checked) false ⟨#[],#[.slice none 0 0,.int .i64 0,.int .i8 0,.int .i8 0,.int .i8 0,.int .i8 0],[]⟩ 8 (by kernel_rfl) (by kernel_rfl) (by kernel_rfl) (by kernel_rfl)) ?_
 intro W base args ds gs before hval0 hW hcnd _;have hval:∀(j:Nat) t v,Tryz.f3.params[j]?=some t->args[j]?=some v->Value.okWide Tryz.prog W .any base t v:=hval0;have hW':=hW;obtain⟨p,q,hA0,hV,rfl,hfz,hnd⟩:=hW;have hA:DataW.TrodAll enc Tryz.prog W 0 (fun _=>true) true Tryz.f3.params.toList args.toList ds p:=hA0;rw[Tryz.params3]at hA hval;obtain⟨v0,vs0,d0,ds0,p0,q0,hargs,rfl,rfl,h0,r0⟩:=trodAll_cons hA;obtain⟨v1,vs1,d1,ds1,p1,q1,rfl,rfl,rfl,h1,r1⟩:=trodAll_cons r0;obtain⟨v2,vs2,d2,ds2,p2,q2,rfl,rfl,rfl,h2,r2⟩:=trodAll_cons r1;obtain⟨v3,vs3,d3,ds3,p3,q3,rfl,rfl,rfl,h3,r3⟩:=trodAll_cons r2;obtain⟨v4,vs4,d4,ds4,p4,q4,rfl,rfl,rfl,h4,r4⟩:=trodAll_cons r3;obtain⟨v5,vs5,d5,ds5,p5,q5,rfl,rfl,rfl,h5,r5⟩:=trodAll_cons r4;obtain⟨rfl,rfl,rfl⟩:=trodAll_nil r5;obtain rfl:args=#[v0,v1,v2,v3,v4,v5]:=by cases args;simp_all
 obtain⟨rfl,rfl⟩:=trodVars_none hV;have k0:=h0;have lt0:∀x∈p0,x.block<W.heap.size:=by obtain⟨m,hm⟩:=k0;exact DataW.trod_lt m _ _ _ hm
 obtain⟨A,zl0,cap,rfl⟩:=okWide_slice Tryz.underlying22 (hval 0 22 v0 rfl rfl);obtain⟨zA0,rs,zc0,ze0,g0⟩:=(by obtain⟨m,hm⟩:=h0;exact rings_openQ hm:∃zB zl zc,[Value.slice A zl0 cap]=[.slice zB (List.length zl) zc]/\zl.length<=maxLen/\RingsV W (.slice zB zl.length zc) zl/\∀r,r∈zl->r.length<=maxLen);obtain⟨rfl,rfl,rfl⟩:A=zA0/\zl0=rs.length/\cap=zc0:=by simpa using ze0
 obtain⟨rule,rfl,rfl,rfl,w1⟩:=open_int Tryz.underlying3 (hval 1 3 v1 rfl rfl) h1;obtain⟨px,rfl,rfl,rfl,w2⟩:=open_int Tryz.underlying23 (hval 2 23 v2 rfl rfl) h2;obtain⟨py,rfl,rfl,rfl,w3⟩:=open_int Tryz.underlying23 (hval 3 23 v3 rfl rfl) h3;obtain⟨dx,rfl,rfl,rfl,w4⟩:=open_int Tryz.underlying23 (hval 4 23 v4 rfl rfl) h4;obtain⟨dy,rfl,rfl,rfl,w5⟩:=open_int Tryz.underlying23 (hval 5 23 v5 rfl rfl) h5;clear hA0 hval0;refine(walk A rs cap rule px py dx dy W g0.2 g0.1 (bounds_i64 w1) (bounds_i8 w2) (bounds_i8 w3) (bounds_i8 w4) (bounds_i8 w5)).mono fun e W' ⟨he,hx⟩=> ?_
 subst he;have bel:=hx.below;exact⟨_,rfl,_,_,_,[],_,[],hW',trodAll_mk1 (shut_bool Tryz.underlying4 _),(trodAll_cons_mk (Below.trod laidOut (by kernel_rfl) (of_decide_eq_true (by kernel_rfl)) k0 bel lt0) (trodAll_cons_mk (shut_int Tryz.underlying3 w1) (trodAll_cons_mk (shut_int Tryz.underlying23 w2) (trodAll_cons_mk (shut_int Tryz.underlying23 w3) (trodAll_cons_mk (shut_int Tryz.underlying23 w4) (trodAll_cons_mk (shut_int Tryz.underlying23 w5) trodAll_mk0)))))),rfl,bel.frame _,fun h=>by cases h⟩
theorem proved:Rows.AreaTranslationSaid:=
  OpenClaim.holds_of_wide 3 Tryz.f3 rfl rfl rfl rfl rfl rfl rfl ⟨rfl,rfl,rfl,rfl,rfl⟩ rfl rfl rfl rfl rfl (by kernel_rfl) Tryz.func3 (by kernel_rfl)
    (of_decide_eq_true (by kernel_rfl)) (by unfold Func.isWrapper;first|(rw[if_pos (by decide+kernel)];kernel_rfl)|(rw[if_neg (by decide+kernel)];exact⟨rfl,rfl⟩))
    (fun os started H enc _=>lifted os started H enc)
#print axioms proved
end transl
end Go.Proofs.YtngikkggjidenabGreat
