/- IntersectIntersections. -/
import Derived.Deep.LoopGhost
import Derived.Deep.DeepCutAuto
import Derived.Test.YtiokhlgdelipdabGreatM8
set_option maxRecDepth 100000
set_option maxHeartbeats 4000000
namespace Go.Proofs.YtiokhlgdelipdabGreat
open Go.RowKit
attribute [local go_sem ↓] Go.wp_at_zero Go.wp_at_succ run_max_ii run_min_ii
namespace inters
open Go.ChangeShapes Go.WideShapes Go.ChangeAt
theorem int_eq {rs:List Ring}{l:List (Rat×Rat)}(h:l.Pairwise (fun x y=>cmp2 x y<0))(hm:∀q,q∈l↔q∈crAll (edsV rs)):l=putAll (candA rs (edgesOf rs) (edgesOf rs).length):=by
  by_cases hok:okR rs=true
  · exact int_same hok h hm
  have e1:edgesOf rs=[]:=edgesOf_f hok;have e2:edsV rs=[]:=if_neg hok;have e3:l=[]:=by
    cases l with
    |nil=>rfl
    |cons q l=>have h3:=(hm q).1 (by simp);rw[e2]at h3;simp[crAll]at h3
  rw[e1,e3];rfl
theorem vl_at {ps qs:List R2E}{i:Nat}{x y:R2E}(h:ps.map R2E.vl=qs.map R2E.vl)(hx:ps[i]?=some x)(hy:qs[i]?=some y):y.vl=x.vl:=by
  have h1:=congrArg (fun l=>l[i]?) h;simp only[List.getElem?_map,hx,hy,Option.map_some]at h1;exact(Option.some.inj h1).symm
theorem walk (A:Option Addr)(rs:List Ring)(cap:Nat)(w:World)(hv:(RingsV w (.slice A rs.length cap) rs/\rs.length<=cap)/\∀r,r∈rs->r.length<=maxLen)(hm:rs.length<=maxLen):
  Calls Tryz.prog 4 #[.slice A rs.length cap] w fun e w'=>e= .returned (.bool true)/\Ext w w':=by
 have HU:=zH hv.1.1;have HC:=zH hv.1.2;have HR:=zH hv.2;have HM:=zH hm;clear hv;go_enter Tryz.func4,Tryz.ntmps4
 have H0:=zH (Hp.start w);go_upto_region 0 with fail
 refine wl ?_;refine zq (.bool false) ?_;rcases emH (fewB rs 16=true)with HFt|HFt
 ·have hfr:=few_rings HFt.out
  have HN:=zH (show rs.length<=1048576 from Nat.le_trans hfr.1 (by decide));have HRR:=zH (show∀r,r∈rs->r.length<=1048576 from fun r_ h_=>Nat.le_trans (hfr.2 r_ h_) (by decide));clear hfr;go_upto_region 1 with fail
  refine wl ?_;refine zI1 (Hp.start _) _ ?_;refine zc (few17_any _ rs 16 _ (HU.out.ext H0.out.ext) HM.out HR.out dC) ?_;rintro e w693 ⟨rfl,hx⟩;have H694:=zH (H0.out.step hx);clear hx;refine⟨.bool true,by rw[HFt.out],?_⟩;try simp only[Act.put,zA,zB,zC]
  refine zq (.bool false) ?_;go_upto_region 3 with fail
  refine wl ?_;refine zI1 (Hp.start _) _ ?_;refine zc (intersections_any A cap rs _ (HU.out.ext H694.out.ext) HC.out HN.out HRR.out) ?_;rintro e w698 ⟨vp_,vo_,ps,os,rfl,hp_,hs_,hm_,hk_,hr_,hl_,hn_,hx⟩;have H699:=zH (H694.out.step hx);obtain⟨Ap,cp,rfl,fp_⟩:=hp_.form;obtain⟨Ao,co,rfl,fo_⟩:=hr_.form;have HRP:=zH hp_;have HSP:=zH hs_;have HMP:=zH hm_;have HKP:=zH hk_;have HRO:=zH hr_;have HLO:=zH hl_;have HOO:=zH hn_;have HFP:=zH fp_;have HFO:=zH fo_;have HLN:=zH (isx_len hl_);have HPM:=zH (RowN.capMaxI hp_);clear hp_ hs_ hm_ hk_ hr_ hl_ hn_ fp_ fo_ hx;refine zn ?_;refine zI5 (Hp.start _) _ _ _ _ _ ?_;have HU9:=zH (HU.out.ext H699.out.ext);have HX707:=zH (show Ext w w698 from H699.out.ext);have H9706:=zH (Hp.start w698);go_upto_region 4 with fail
  refine wl ?_;refine zI1 (Hp.start _) _ ?_;refine zc (rintersections_any A cap rs _ (HU9.out.ext H9706.out.ext) HC.out HN.out HRR.out) ?_;rintro e w709 ⟨vp_,vo_,psb,osb,rfl,hp_,hs_,hk_,hr_,hl_,hn_,hx⟩;have H710:=zH (H9706.out.step hx);obtain⟨Apb,cpb,rfl,fp_⟩:=hp_.form;obtain⟨Aob,cob,rfl,fo_⟩:=hr_.form;have HRPb:=zH hp_;have HSPb:=zH hs_;have HKPb:=zH hk_;have HROb:=zH hr_;have HLOb:=zH hl_;have HOOb:=zH hn_;have HFPb:=zH fp_;have HFOb:=zH fo_;have HLNb:=zH (isx_len hl_);clear hp_ hs_ hk_ hr_ hl_ hn_ fp_ fo_ hx;refine zn ?_;refine zI5 (Hp.start _) _ _ _ _ _ ?_;have HRP:=zH (HRP.out.ext H710.out.ext);have HKP:=zH (fun e_ he_=>(HKP.out e_ he_).dig (Dig.of_ext H710.out.ext));have HRO:=zH (HRO.out.ext H710.out.ext);have HOO:=zH (fun o_ ho_=>OnE.Ok.ext (HOO.out o_ ho_) H710.out.ext);have HVV:=zH (show ps.map R2E.vl=psb.map R2E.vl from(int_eq HSP.out HMP.out).trans HSPb.out.symm);have hpl:psb.length<=ps.length/\ps.length<=psb.length:=by have h_:=congrArg List.length HVV.out;simp only[List.length_map]at h_;omega
  have hpm:=HPM.out;have hol:=And.intro (Nat.le_of_eq (HLN.out)) (Nat.le_of_eq (HLN.out).symm);have holb:=And.intro (Nat.le_of_eq (HLNb.out)) (Nat.le_of_eq (HLNb.out).symm);have HX718:=zH (show Ext w698 w709 from H710.out.ext);have H9717:=zH (Hp.start w709);go_upto_region 5 with fail
  refine wl ?_;refine zI4 (Hp.start _) _ (.int .i64 ((ps.length:Nat):Int)) _ (.int .i64 ((psb.length:Nat):Int)) ?_;refine zp (.bool false) (by exact ezn (e:=(dec_f (by omega)))) ?_;refine zI5 (Hp.start _) (.bool false) _ (.int .i64 ((os.length:Nat):Int)) _ (.int .i64 ((osb.length:Nat):Int)) ?_;refine zp (.bool false) (by exact ezn (e:=(dec_f (by omega)))) ?_;refine zI6 (Hp.start _) (.bool false) (.bool false) _ (.int .i64 ((ps.length:Nat):Int)) _ (.int .i64 ((os.length:Nat):Int)) ?_;refine zp (.bool false) (by exact ezn (e:=(dec_f (by omega)))) ?_;refine zq (.bool false) ?_;go_upto_region 7 with fail
  refine wl ?_;refine zI3 (Hp.start _) _ (.int .i64 ((ps.length:Nat):Int)) _ ?_;go_wp2_with fail
  go_loopg [44] (ps.length) (fun cq v741 wr=>∃(i:Nat),cq=ps.length-i/\v741= .int .i64 (i:Int)/\(i<=ps.length)/\Hp w709 wr []/\Dig w709 wr)
  case atStart=>exact⟨0,rfl,rfl,Nat.zero_le _,H9717.out,Dig.refl _⟩
  obtain⟨i,rfl,rfl,q_HKI,hh_,hd_⟩:=hrel;generalize wr=w742 at*
  have HKI:=zH q_HKI;clear q_HKI;have H744:=zH hh_;have D744:=zH hd_;clear hh_ hd_ H9717;rcases emH (i<ps.length)with HLT|HLT
  ·have hlt:=HLT.out
   have hlb:i<psb.length:=by omega
   have hlo:i<os.length:=by omega
   have hlob:i<osb.length:=by omega
   obtain⟨gp,rfl⟩:=HFP.out (by omega);obtain⟨go,rfl⟩:=HFO.out (by omega);obtain⟨gpb,rfl⟩:=HFPb.out (by omega);obtain⟨gob,rfl⟩:=HFOb.out (by omega);obtain⟨xe,hx_⟩:∃x,ps[i]?=some x:=⟨_,List.getElem?_eq_getElem hlt⟩;have HX:=zH hx_;have hk_:=HKP.out xe (List.mem_of_getElem? hx_);have HX1:=zH hk_.1;have HX2:=zH hk_.2.1;have HX3:=zH hk_.2.2.1;have HX4:=zH hk_.2.2.2;clear hk_ hx_;obtain⟨ye,hx_⟩:∃x,psb[i]?=some x:=⟨_,List.getElem?_eq_getElem hlb⟩;have HY:=zH hx_;have hk_:=HKPb.out ye (List.mem_of_getElem? hx_);have HY1:=zH hk_.1;have HY2:=zH hk_.2.1;have HY3:=zH hk_.2.2.1;have HY4:=zH hk_.2.2.2;clear hk_ hx_;have HV2:=zH (vl_at HVV.out HX.out HY.out);have hv2:=HV2.out;unfold R2E.vl at hv2;have hvp:ye.p=xe.p:=congrArg Prod.fst hv2;have hvq:ye.q=xe.q:=congrArg Prod.snd hv2;have HY1:=zH (hvp▸HY1.out);have HY2:=zH (hvq▸HY2.out);clear hv2 hvp hvq;obtain⟨lA,lc,ll,ho_,hl_⟩:=isx_at HLO.out HX.out;have HOl:=zH ho_;have HLl:=zH hl_;have HIl:=zH (show RowN _ _ 3 1 (.slice lA ll.length lc) ll.length (ll.flatMap iC)from HOO.out _ (List.mem_of_getElem? ho_));have HMl:=zH (RowN.capMaxI HIl.out);clear ho_ hl_;obtain⟨mA,mc,ml,ho_,hl_⟩:=isx_at HLOb.out HY.out;have HOm:=zH ho_;have HLm:=zH hl_;have HIm:=zH (show RowN _ _ 3 1 (.slice mA ml.length mc) ml.length (ml.flatMap iC)from HOOb.out _ (List.mem_of_getElem? ho_));clear ho_ hl_;have HLM:=zH (show ml=ll from by rw[HLm.out,HLl.out,HV2.out]);have hlm:=And.intro (Nat.le_of_eq (congrArg List.length HLM.out)) (Nat.le_of_eq (congrArg List.length HLM.out).symm);have hml:=HMl.out;go_upto_region 8 with fail
   refine wl ?_;refine zp (.bool true) (by exact ezl (e:=(dec_t (by omega)))) ?_;go_upto_region 9 with fail
   refine wl ?_;refine zI2 (Hp.start _) (.int .i64 (i:Int)) (.int .i64 (i:Int)) ?_;go_upto_region 10 with fail
   refine zy ?_;have H749:=zH (H744.out.step (Ext.refl w742).drew);refine zJ2 (Hp.start _) zb (bs 39 3) 0 1 _ (.int .i64 (i:Int)) ?_;refine zu 2 (bs 39 7) (v:= .pointer (some ⟨gp,i*8,none⟩)) zb ?_ (hv:=by intro w hSw;exact ezi (k:=i) Tryz.underlying27 (l:=hlt) (f:=(Nat.zero_add _).symm));refine zJ1 (Hp.start _) zb (bs 39 15) 3 _ ?_;refine zg 4 (bs 39 31) gp (i*8) (rc xe.a) (range_part (RowN.elemG R2E.len (RowN.ext HRP.out H744.out.ext) HX.out) 0 4) Tryz.underlying36 zb ?_;refine zJ2 (Hp.start _) zb (bs 39 127) 5 6 _ (.int .i64 (i:Int)) ?_;refine zu 7 (bs 39 255) (v:= .pointer (some ⟨gpb,i*8,none⟩)) zb ?_ (hv:=by intro w hSw;exact ezi (k:=i) Tryz.underlying27 (l:=hlb) (f:=(Nat.zero_add _).symm));refine zJ1 (Hp.start _) zb (bs 39 511) 8 _ ?_;refine zg 9 (bs 39 1023) gpb (i*8) (rc ye.a) (range_part (RowN.elemG R2E.len (RowN.ext HRPb.out H744.out.ext) HY.out) 0 4) Tryz.underlying36 zb ?_;refine mC 10 (bs 39 2047) (same17_any xe.a ye.a xe.p 60000 _ (HX1.out.dig H749.out.dig0) (HY1.out.dig H749.out.dig0) (Nat.le_trans HX3.out (by omega)) dC) ?_;rintro e w759 ⟨rfl,hx⟩;have H760:=zH (H749.out.step hx);have S762:=zH (zb.trans hx);clear hx;refine zm S762.out ?_;refine zJ4 (Hp.start _) S762.out (bs 39 32767) 11 12 13 14 (.bool false) (.bool false) _ (.int .i64 (i:Int)) ?_;refine zu 15 (bs 39 65535) (v:= .pointer (some ⟨gp,i*8,none⟩)) S762.out ?_ (hv:=by intro w hSw;exact ezi (k:=i) Tryz.underlying27 (l:=hlt) (f:=(Nat.zero_add _).symm));refine mX 16 (bs 39 131071) (.pointer (some ⟨gp,i*8+4,none⟩)) S762.out ?_;refine zg 17 (bs 39 262143) gp (i*8+4) (rc xe.b) (range_part (RowN.elemG R2E.len (RowN.ext HRP.out H744.out.ext) HX.out) 4 4) Tryz.underlying36 S762.out ?_;refine zJ2 (Hp.start _) S762.out (bs 39 1048575) 18 19 _ (.int .i64 (i:Int)) ?_;refine zu 20 (bs 39 2097151) (v:= .pointer (some ⟨gpb,i*8,none⟩)) S762.out ?_ (hv:=by intro w hSw;exact ezi (k:=i) Tryz.underlying27 (l:=hlb) (f:=(Nat.zero_add _).symm));refine mX 21 (bs 39 4194303) (.pointer (some ⟨gpb,i*8+4,none⟩)) S762.out ?_;refine zg 22 (bs 39 8388607) gpb (i*8+4) (rc ye.b) (range_part (RowN.elemG R2E.len (RowN.ext HRPb.out H744.out.ext) HY.out) 4 4) Tryz.underlying36 S762.out ?_;refine mC 23 (bs 39 16777215) (same17_any xe.b ye.b xe.q 60000 _ (HX2.out.dig H760.out.dig0) (HY2.out.dig H760.out.dig0) (Nat.le_trans HX4.out (by omega)) dC) ?_;rintro e w773 ⟨rfl,hx⟩;have H774:=zH (H760.out.step hx);have S776:=zH (S762.out.trans hx);clear hx;refine zm S776.out ?_;refine zJ5 (Hp.start _) S776.out (bs 39 536870911) 24 25 26 27 28 (.bool false) (.bool false) (.bool false) _ (.int .i64 (i:Int)) ?_;refine zu 29 (bs 39 1073741823) (v:= .pointer (some ⟨go,i*1,none⟩)) S776.out ?_ (hv:=by intro w hSw;exact ezi (k:=i) Tryz.underlying28 (l:=hlo) (f:=(Nat.zero_add _).symm));refine zf 30 (bs 39 2147483647) go (i*1) (.slice lA ll.length lc) (RowN.elemG OnE.len (RowN.ext HRO.out H744.out.ext) HOl.out) S776.out ?_;refine zJ3 (Hp.start _) S776.out (bs 39 17179869183) 31 32 33 (.int .i64 ((ll.length:Nat):Int)) _ (.int .i64 (i:Int)) ?_;refine zu 34 (bs 39 34359738367) (v:= .pointer (some ⟨gob,i*1,none⟩)) S776.out ?_ (hv:=by intro w hSw;exact ezi (k:=i) Tryz.underlying28 (l:=hlob) (f:=(Nat.zero_add _).symm));refine zf 35 (bs 39 68719476735) gob (i*1) (.slice mA ml.length mc) (RowN.elemG OnE.len (RowN.ext HROb.out H744.out.ext) HOm.out) S776.out ?_;refine zx 36 (bs 39 137438953471) (.int .i64 ((ml.length:Nat):Int)) S776.out ?_;refine zu 37 (bs 39 274877906943) (v:= .bool false) S776.out ?_ (hv:=by intro w hSw;exact ezn (e:=(dec_f (by omega))));refine zx 38 (bs 39 549755813887) (.bool false) S776.out ?_;refine wpAnyH_done kR ?_ _;go_upto_region 12 with fail
   refine wl ?_;refine zI2 (Hp.start _) _ (.int .i64 (i:Int)) ?_;refine zp (.pointer (some ⟨go,i*1,none⟩)) (by exact ezi (k:=i) Tryz.underlying28 (l:=hlo) (f:=(Nat.zero_add _).symm)) ?_;refine ze go (i*1) (.slice lA ll.length lc) (RowN.elemG OnE.len (RowN.ext HRO.out H774.out.ext) HOl.out) ?_;refine zI2 (Hp.start _) (.int .i64 ((ll.length:Nat):Int)) _ ?_;go_wp2_with fail
   go_loopg [91] (ll.length) (fun cq v795 wr=>∃(k:Nat),cq=ll.length-k/\v795= .int .i64 (k:Int)/\(k<=ll.length)/\Hp w709 wr []/\Dig w773 wr)
   case atStart=>exact⟨0,rfl,rfl,Nat.zero_le _,H774.out,Dig.refl _⟩
   obtain⟨k,rfl,rfl,q_HKU,hh_,hd_⟩:=hrel;generalize wr=w796 at*
   have HKU:=zH q_HKU;clear q_HKU;have H798:=zH hh_;have D798:=zH hd_;clear hh_ hd_ H774;rcases emH (k<ll.length)with HLU|HLU
   ·have hlu:=HLU.out
    have hlum:k<ml.length:=by omega
    obtain⟨gl,rfl⟩:∃g,lA=some ⟨g,0,none⟩:=by obtain⟨A_,c_,h1_,h2_⟩:=RowN.form HIl.out;injection h1_ with h3_ _ h4_;subst h3_;exact h2_ (by omega)
    obtain⟨gm,rfl⟩:∃g,mA=some ⟨g,0,none⟩:=by obtain⟨A_,c_,h1_,h2_⟩:=RowN.form HIm.out;injection h1_ with h3_ _ h4_;subst h3_;exact h2_ (by omega)
    obtain⟨u,hu_⟩:∃u,ll[k]?=some u:=⟨_,List.getElem?_eq_getElem hlu⟩;have HUK:=zH hu_;clear hu_;obtain⟨v,hu_⟩:∃u,ml[k]?=some u:=⟨_,List.getElem?_eq_getElem hlum⟩;have HVK:=zH hu_;clear hu_;have huv:v<=u/\u<=v:=by have h_:=HVK.out;rw[HLM.out,HUK.out]at h_;have h2_:=Option.some.inj h_;omega
    go_upto_region 13 with fail
    refine wl ?_;refine zp (.bool true) (by exact ezl (e:=(dec_t (by omega)))) ?_;go_upto_region 14 with fail
    refine wl ?_;refine zI2 (Hp.start _) (.int .i64 (k:Int)) (.int .i64 (k:Int)) ?_;go_upto_region 15 with fail
    refine zy ?_;have H803:=zH (H798.out.step (Ext.refl w796).drew);have D803:=zH (Dig.of_ext (w:=w796) zb);refine zJ2 (Hp.start _) zb (bs 15 3) 0 1 _ (.int .i64 (i:Int)) ?_;refine zu 2 (bs 15 7) (v:= .pointer (some ⟨go,i*1,none⟩)) zb ?_ (hv:=by intro w hSw;exact ezi (k:=i) Tryz.underlying28 (l:=hlo) (f:=(Nat.zero_add _).symm));refine zf 3 (bs 15 15) go (i*1) (.slice (some ⟨gl,0,none⟩) ll.length lc) (RowN.elemG OnE.len (RowN.ext HRO.out H798.out.ext) HOl.out) zb ?_;refine zx 4 (bs 15 31) (.int .i64 (k:Int)) zb ?_;refine zu 5 (bs 15 63) (v:= .pointer (some ⟨gl,k*1,none⟩)) zb ?_ (hv:=by intro w hSw;exact ezi (k:=k) Tryz.underlying38 (l:=hlu) (f:=(Nat.zero_add _).symm));refine zf 6 (bs 15 127) gl (k*1) (.int .i64 (u:Int)) (RowN.elemG iC_len (RowN.ext HIl.out H798.out.ext) HUK.out) zb ?_;refine zJ2 (Hp.start _) zb (bs 15 511) 7 8 _ (.int .i64 (i:Int)) ?_;refine zu 9 (bs 15 1023) (v:= .pointer (some ⟨gob,i*1,none⟩)) zb ?_ (hv:=by intro w hSw;exact ezi (k:=i) Tryz.underlying28 (l:=hlob) (f:=(Nat.zero_add _).symm));refine zf 10 (bs 15 2047) gob (i*1) (.slice (some ⟨gm,0,none⟩) ml.length mc) (RowN.elemG OnE.len (RowN.ext HROb.out H798.out.ext) HOm.out) zb ?_;refine zx 11 (bs 15 4095) (.int .i64 (k:Int)) zb ?_;refine zu 12 (bs 15 8191) (v:= .pointer (some ⟨gm,k*1,none⟩)) zb ?_ (hv:=by intro w hSw;exact ezi (k:=k) Tryz.underlying38 (l:=hlum) (f:=(Nat.zero_add _).symm));refine zf 13 (bs 15 16383) gm (k*1) (.int .i64 (v:Int)) (RowN.elemG iC_len (RowN.ext HIm.out H798.out.ext) HVK.out) zb ?_;refine zu 14 (bs 15 32767) (v:= .bool false) zb ?_ (hv:=by intro w hSw;exact ezn (e:=(dec_f (by omega))));refine wpAnyH_done kR ?_ _;go_upto_region 17 with fail
    refine wl ?_;refine zp (w':=w796.drew) (.int .i64 ((k+1:Nat):Int)) (by exact ez1 (by omega)) ?_;refine zp (w':=w796.drew) (.int .i64 ((k+1:Nat):Int)) (by go_simp<;>with_reducible rfl) ?_;have DD818:=tD D798 D803;go_wp2_with fail
    go_roundg (ll.length-(k+1))
    case measure=>exact(by omega)
    case rel=>exact⟨k+1,rfl,(by go_num),hlu,H803.out,DD818.out⟩
   have hlu:=HLU.out;have hku:=HKU.out;obtain rfl:k=ll.length:=by omega
   go_upto_region 13 with fail
   refine wl ?_;refine zp (.bool false) (by exact ezl (e:=(dec_f (Int.lt_irrefl _)))) ?_;go_upto_region 18 with fail
   refine wl ?_;refine zp (.int .i64 ((i+1:Nat):Int)) (by exact ez1 (by omega)) ?_;refine zq (.int .i64 ((i+1:Nat):Int)) ?_;go_wp2_with fail
   go_roundg (ps.length-(i+1))
   case measure=>exact(by omega)
   case rel=>exact⟨i+1,rfl,(by go_num),hlt,H798.out,H798.out.dig0⟩
  have hlt:=HLT.out;have hki:=HKI.out;obtain rfl:i=ps.length:=by omega
  go_upto_region 8 with fail
  refine wl ?_;refine zp (.bool false) (by exact ezl (e:=(dec_f (Int.lt_irrefl _)))) ?_;go_upto_region 19 with fail
  refine wl ?_;refine aC H744.out (example17_any _) ?_;intro w823 H824 _;refine zq (.bool true) ?_;go_wp2_with fail
  go_ret
  exact⟨rfl,HX707.out.trans (HX718.out.trans H824.out.ext)⟩
 have HFf:=zH (Bool.eq_false_iff.2 HFt.out);go_upto_region 1 with fail
 refine wl ?_;refine zI1 (Hp.start _) _ ?_;refine zc (few17_any _ rs 16 _ (HU.out.ext H0.out.ext) HM.out HR.out dC) ?_;rintro e w828 ⟨rfl,hx⟩;have H829:=zH (H0.out.step hx);clear hx;refine⟨.bool false,by rw[HFf.out],?_⟩;try simp only[Act.put,zA,zB,zC]
 refine zq (.bool true) ?_;go_upto_region 2 with fail
 refine wl ?_;refine aC H829.out (example17_any _) ?_;intro w832 H833 _;refine zq (.bool true) ?_;go_wp2_with fail
 go_ret
 exact⟨rfl,H833.out.ext⟩
theorem lifted (os:Os)(started:os.Started)(H:Type)(enc:TypeId×Value->H):
  ReturnsInHanded {} Tryz.checked os 4 .any (Rows.intersectIntersectionsSpec.pre6 enc Tryz.prog Tryz.f4 Rows.intersectIntersectionsRow.domain false) (Rows.intersectIntersectionsSpec.post enc Tryz.prog Tryz.f4 false true false false):=by
 refine returnsInHanded_of_change (C:=Tryz.checked) own started kR Tryz.func4
  (ChangeSpec.witness6 (enc:=enc) (C:=Tryz.checked) false ⟨#[],#[.slice none 0 0],[]⟩ 8 (by kernel_rfl) (by kernel_rfl) (by kernel_rfl) (by kernel_rfl)) ?_
 intro W base args ds gs before hval0 hW hcnd _;have hval:∀(j:Nat) t v,Tryz.f4.params[j]?=some t->args[j]?=some v->Value.okWide Tryz.prog W .any base t v:=hval0;have hW':=hW;obtain⟨p,q,hA0,hV,rfl,hfz,hnd⟩:=hW;have hA:DataW.TrodAll enc Tryz.prog W 0 (fun _=>true) true Tryz.f4.params.toList args.toList ds p:=hA0;rw[Tryz.params4]at hA hval;obtain⟨v0,vs0,d0,ds0,p0,q0,hargs,rfl,rfl,h0,r0⟩:=trodAll_cons hA;obtain⟨rfl,rfl,rfl⟩:=trodAll_nil r0;obtain rfl:args=#[v0]:=by cases args;simp_all
 obtain⟨rfl,rfl⟩:=trodVars_none hV;have k0:=h0;have lt0:∀x∈p0,x.block<W.heap.size:=by obtain⟨m,hm⟩:=k0;exact DataW.trod_lt m _ _ _ hm
 obtain⟨A,zl0,cap,rfl⟩:=okWide_slice Tryz.underlying22 (hval 0 22 v0 rfl rfl);obtain⟨zA0,rs,zc0,ze0,g0⟩:=(by obtain⟨m,hm⟩:=h0;exact rings_openC hm:∃zB zl zc,[Value.slice A zl0 cap]=[.slice zB (List.length zl) zc]/\zl.length<=maxLen/\(RingsV W (.slice zB zl.length zc) zl/\zl.length<=zc)/\∀r,r∈zl->r.length<=maxLen);obtain⟨rfl,rfl,rfl⟩:A=zA0/\zl0=rs.length/\cap=zc0:=by simpa using ze0
 clear hA0 hval0;refine(walk A rs cap W g0.2 g0.1).mono fun e W' ⟨he,hx⟩=> ?_
 subst he;have bel:=hx.below;exact⟨_,rfl,_,_,_,[],_,[],hW',trodAll_mk1 (shut_bool Tryz.underlying4 _),(trodAll_cons_mk (Below.trod laidOut (by kernel_rfl) (of_decide_eq_true (by kernel_rfl)) k0 bel lt0) trodAll_mk0),rfl,bel.frame _,fun h=>by cases h⟩
theorem proved:Rows.IntersectIntersectionsSaid:=
  OpenClaim.holds_of_wide 4 Tryz.f4 rfl rfl rfl rfl rfl rfl rfl ⟨rfl,rfl,rfl,rfl,rfl⟩ rfl rfl rfl rfl rfl (by kernel_rfl) Tryz.func4 (by kernel_rfl)
    (of_decide_eq_true (by kernel_rfl)) (by unfold Func.isWrapper;first|(rw[if_pos (by decide+kernel)];kernel_rfl)|(rw[if_neg (by decide+kernel)];exact⟨rfl,rfl⟩))
    (fun os started H enc _=>lifted os started H enc)
#print axioms proved
end inters
end Go.Proofs.YtiokhlgdelipdabGreat
