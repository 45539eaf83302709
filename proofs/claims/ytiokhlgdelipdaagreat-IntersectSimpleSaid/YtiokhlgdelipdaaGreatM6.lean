/- Contracts that the claim stands on: XCpt2 to XRSim17. -/
import Derived.Deep.LoopGhost
import Derived.Deep.DeepCutAuto
import Derived.Test.YtiokhlgdelipdaaGreatM5
set_option maxRecDepth 100000
set_option maxHeartbeats 4000000
namespace Go.Proofs.YtiokhlgdelipdaaGreat
open Go.RowKit
attribute [local go_sem ↓] Go.wp_at_zero Go.wp_at_succ run_max_ii run_min_ii
theorem cptR2_any (L:Nat)(hL:L<=60000)(v:Value)(es:List R2E)(base:Nat)(w:World)(h:RowN w base 68 8 v es.length (es.flatMap R2E.cells))(hbase:base<=w.heap.size)(hok:∀e,e∈es->e.Ok L w)(hn:es.length<=100000000):
  Calls Tryz.prog 50 #[v,.func (.func 51) #[] #[]] w fun x w'=>∃v',x= .returned v'/\RowN w' base 68 8 v' (compactV (fun x y:R2E=>decide (x.vl=y.vl)) es).length ((compactV (fun x y:R2E=>decide (x.vl=y.vl)) es).flatMap R2E.cells)/\w.grownBy w' v.ownBlock/\Dig w w'/\v'.ownBlock=v.ownBlock:=by
 obtain⟨w0,hx0,rfl⟩:=trunc w base hbase;have HOK:=zH hok;clear hok;rcases h.2 with⟨rfl,h0⟩|⟨g,cap,rest,rfl,hb,hg,hc1,hc2,hc3,hc4⟩
 ·have he:es=[]:=List.eq_nil_of_length_eq_zero h0
  subst he;go_enter Tryz.func50,Tryz.ntmps50
  go_wp2_with fail
  go_ret
  exact⟨_,rfl,h,World.grownBy.refl _ _,Dig.refl _,rfl⟩
 have H0:=zH (Hp.one hx0 h);have HCN:=zH hc1;clear h hx0 hb hg hc2 hc3 hc4;have HFR:=zH (show Fr (fun kz=>Value.ownBlock (.slice (some ⟨g,0,none⟩) es.length cap)=some kz) w w from Fr.of_ext (Ext.refl w));go_enter Tryz.func50,Tryz.ntmps50
 go_upto_region 0 with fail
 refine wl ?_;refine zI1 (Hp.start _) _ ?_;rcases emH (es.length<2)with HS|HS
 ·go_upto_region 1 with fail
  refine wl ?_;refine zI2 (Hp.start _) _ (.int .i64 ((es.length:Nat):Int)) ?_;refine zp (.bool true) (by exact ezl (e:=(dec_t (by have ob0:=HS.out;omega)))) ?_;go_upto_region 2 with fail
  refine wl ?_;refine zI2 (Hp.start _) _ _ ?_;have hcv:compactV (fun x y:R2E=>decide (x.vl=y.vl)) es=es:=by have hs:=HS.out;match es,hs with| [],_=>rfl| [x],_=>rfl|x::y::l,hs=>exact absurd hs (by simp)
  go_wp2_with fail
  go_ret
  exact⟨_,rfl,by rw[hcv];exact H0.out.row (i:=0) (by rfl),World.grownBy.refl _ _,Dig.refl _,rfl⟩
 go_upto_region 1 with fail
 refine wl ?_;refine zI2 (Hp.start _) _ (.int .i64 ((es.length:Nat):Int)) ?_;refine zp (.bool false) (by exact ezl (e:=(dec_f (by have ob0:=HS.out;omega)))) ?_;go_upto_region 3 with fail
 refine wl ?_;refine zq (.int .i64 1) ?_;go_wp2_with fail
 go_loopg [5] (es.length) (fun cq v166 wr=>∃(j:Nat),cq=es.length-j/\v166= .int .i64 ((j+1:Nat):Int)/\(j+1<=es.length)/\(compactV (fun x y:R2E=>decide (x.vl=y.vl)) (es.take (j+1))=es.take (j+1))/\(Fr (fun kz=>Value.ownBlock (.slice (some ⟨g,0,none⟩) es.length cap)=some kz) w wr)/\Hp w0 wr [.row 68 8 (.slice (some ⟨g,0,none⟩) es.length cap) (es.length) (List.flatMap R2E.cells es)]/\Dig w wr)
 case atStart=>exact⟨0,rfl,rfl,(by have h_:=HS.out;omega),(by have hs:=HS.out;match es,hs with| [],hs=>exact absurd hs (by decide)|x::l,_=>rfl),HFR.out,H0.out,Dig.refl _⟩
 obtain⟨j,rfl,rfl,q_HK,q_HCV,q_HFR,hh_,hd_⟩:=hrel;generalize wr=w167 at*
 have HK:=zH q_HK;clear q_HK;have HCV:=zH q_HCV;clear q_HCV;have HFR:=zH q_HFR;clear q_HFR;have H169:=zH hh_;have D169:=zH hd_;clear hh_ hd_;rcases emH (j+1<es.length)with HLT|HLT
 ·go_upto_region 4 with fail
  refine wl ?_;refine zI3 (Hp.start _) (.int .i64 ((j+1:Nat):Int)) _ (.int .i64 ((es.length:Nat):Int)) ?_;refine zp (.bool true) (by exact ezl (e:=(dec_t (by have ob0:=HK.out;have ob1:=HLT.out;omega)))) ?_;obtain⟨e,he⟩:∃e,es[j+1]?=some e:=⟨_,List.getElem?_eq_getElem HLT.out⟩;obtain⟨f,hf⟩:∃f,es[j]?=some f:=⟨_,List.getElem?_eq_getElem (by have h_:=HLT.out;omega)⟩;have HQe:=zH he;have ho_:=HOK.out e (List.mem_of_getElem? he);have HAe:=zH ho_.1;have HZe:=zH ho_.2.1;have BAe:=zH ho_.2.2.1;have BZe:=zH ho_.2.2.2;clear he ho_;have HQf:=zH hf;have ho_:=HOK.out f (List.mem_of_getElem? hf);have HAf:=zH ho_.1;have HZf:=zH ho_.2.1;have BAf:=zH ho_.2.2.1;have BZf:=zH ho_.2.2.2;clear hf ho_;have HST:=zH (compact_step (eqv:=(fun x y:R2E=>decide (x.vl=y.vl))) HQe.out HQf.out);rcases emH (e.vl=f.vl)with HEQ|HEQ
  ·go_upto_region 6 with fail
   refine zy ?_;have H176:=zH (H169.out.step (Ext.refl w167).drew);have D176:=zH (Dig.of_ext (w:=w167) zb);have K178:=zH (HFR.out.trans (Fr.of_ext (Ext.refl w167).drew));refine zJ3 (Hp.start _) zb (bs 11 7) 0 1 2 _ _ (.int .i64 ((j+1:Nat):Int)) ?_;refine zo 3 (bs 11 15) (v:= .pointer (some ⟨g,(j+1)*8,none⟩)) zb ?_ (hv:=by intro w hSw;exact ezi (k:=j+1) Tryz.underlying46 (l:=(by have h_:=HLT.out;omega)) (f:=(Nat.zero_add _).symm));refine zg 4 (bs 11 31) g ((j+1)*8) [.bool e.a.n,.slice e.a.p e.a.l e.a.c,.bool e.a.m,.slice e.a.p2 e.a.l2 e.a.c2,.bool e.b.n,.slice e.b.p e.b.l e.b.c,.bool e.b.m,.slice e.b.p2 e.b.l2 e.b.c2] (H169.out.elem (f:=R2E.cells) (i:=0) rR R2E.len HQe.out) Tryz.underlying68 zb ?_;refine zJ2 (Hp.start _) zb (bs 11 127) 5 6 _ (.int .i64 ((j+1:Nat):Int)) ?_;refine zu 7 (bs 11 255) (v:= .int .i64 (j:Int)) zb ?_ (hv:=by intro w hSw;exact ez2 (by have ob0:=HK.out;have ob1:=HLT.out;omega));refine zo 8 (bs 11 511) (v:= .pointer (some ⟨g,j*8,none⟩)) zb ?_ (hv:=by intro w hSw;exact ezi (k:=j) Tryz.underlying46 (l:=(by have h_:=HLT.out;omega)) (f:=(Nat.zero_add _).symm));refine zg 9 (bs 11 1023) g (j*8) [.bool f.a.n,.slice f.a.p f.a.l f.a.c,.bool f.a.m,.slice f.a.p2 f.a.l2 f.a.c2,.bool f.b.n,.slice f.b.p f.b.l f.b.c,.bool f.b.m,.slice f.b.p2 f.b.l2 f.b.c2] (H169.out.elem (f:=R2E.cells) (i:=0) rR R2E.len HQf.out) Tryz.underlying68 zb ?_;have DD188:=tD D169 D176;refine mC 10 (bs 11 2047) (intEq_any L hL _ e f ⟨(HAe.out.dig DD188.out),(HZe.out.dig DD188.out),BAe.out,BZe.out⟩ ⟨(HAf.out.dig DD188.out),(HZf.out.dig DD188.out),BAf.out,BZf.out⟩) ?_;rintro e w187 ⟨rfl,hx⟩;have H189:=zH (H176.out.step hx);have D189:=zH (show Dig w167.drew w187 from Dig.of_ext hx);have K191:=zH (K178.out.trans (Fr.of_ext hx));have S192:=zH (zb.trans hx);clear hx;refine⟨.bool true,by rw[decide_eq_true HEQ.out],S192.out,?_⟩;try simp only[Act.put,zA,zB,zC]
   refine wpAnyH_done kR ?_ _;obtain⟨d,hd⟩:∃d,es.length=j+1+d:=⟨es.length-(j+1),by have h_:=HLT.out;omega⟩;obtain⟨c2,hc2⟩:∃c2,cap=j+1+c2:=⟨cap-(j+1),by have h_:=HLT.out;have h2_:=HCN.out;omega⟩;have HD:=zH hd;have HC2:=zH hc2;clear hd hc2;go_upto_region 7 with fail
   refine wl ?_;refine zI2 (Hp.start _) _ (.int .i64 ((j+1:Nat):Int)) ?_;refine zp (.slice (some ⟨g,(j+1)*8,none⟩) d c2) (by exact ev_drop rR Tryz.underlying46 kR rR rR (by first|rfl|omega) HD.out (by have ob0:=HK.out;have ob1:=HLT.out;have ob2:=HD.out;have ob3:=HC2.out;have ob4:=HCN.out;omega) HC2.out (by have ob0:=HK.out;have ob1:=HLT.out;have ob2:=HD.out;have ob3:=HC2.out;have ob4:=HCN.out;omega)) ?_;refine zq (.slice (some ⟨g,(j+1)*8,none⟩) d c2) ?_;go_upto_region 8 with fail
   refine wl ?_;refine zq (.int .i64 1) ?_;go_wp2_with fail
   go_loopg [5,7] (d) (fun cq v198 v199 wr=>∃(i:Nat) (k:Nat) (ds:List R2E),cq=d-i/\v198= .int .i64 (k:Int)/\v199= .int .i64 ((i+1:Nat):Int)/\(i+1<=d)/\(k<j+1+(i+1))/\(ds.length=es.length)/\(ds.take k=compactV (fun x y:R2E=>decide (x.vl=y.vl)) (es.take (j+1+(i+1))))/\(ds.drop (j+1+i)=es.drop (j+1+i))/\(Fr (fun kz=>Value.ownBlock (.slice (some ⟨g,0,none⟩) es.length cap)=some kz) w wr)/\Hp w0 wr [.row 68 8 (.slice (some ⟨g,0,none⟩) es.length cap) (es.length) (List.flatMap R2E.cells ds)]/\Dig w187 wr)
   case atStart=>exact⟨0,j+1,es,rfl,rfl,rfl,(by have h_:=HLT.out;have h2_:=HD.out;omega),(by omega),rfl,(by rw[show j+1+(0+1)=j+1+1 by omega,HST.out,if_pos (decide_eq_true HEQ.out),List.append_nil];exact HCV.out.symm),rfl,K191.out,H189.out,Dig.refl _⟩
   obtain⟨i,k,ds,rfl,rfl,rfl,q_HI,q_HKI,q_HDL,q_HD2,q_HD3,q_HFR,hh_,hd_⟩:=hrel;generalize wr=w200 at*
   have HI:=zH q_HI;clear q_HI;have HKI:=zH q_HKI;clear q_HKI;have HDL:=zH q_HDL;clear q_HDL;have HD2:=zH q_HD2;clear q_HD2;have HD3:=zH q_HD3;clear q_HD3;have HFR:=zH q_HFR;clear q_HFR;have H202:=zH hh_;have D202:=zH hd_;clear hh_ hd_ H189;rcases emH (i+1<d)with HLT2|HLT2
   ·go_upto_region 9 with fail
    refine wl ?_;refine zI3 (Hp.start _) (.int .i64 ((i+1:Nat):Int)) (.slice (some ⟨g,(j+1)*8,none⟩) d c2) (.int .i64 (d:Int)) ?_;refine zp (.bool true) (by exact ezl (e:=(dec_t (by have ob0:=HI.out;have ob1:=HKI.out;have ob2:=HD.out;have ob3:=HC2.out;have ob4:=HCN.out;have ob5:=HDL.out;have ob6:=HLT2.out;omega)))) ?_;obtain⟨e2,he2⟩:∃e2,es[j+1+i+1]?=some e2:=⟨_,List.getElem?_eq_getElem (by have h_:=HLT2.out;have h2_:=HD.out;omega)⟩;obtain⟨f2,hf2⟩:∃f2,es[j+1+i]?=some f2:=⟨_,List.getElem?_eq_getElem (by have h_:=HLT2.out;have h2_:=HD.out;omega)⟩;have HQe2:=zH he2;have ho_:=HOK.out e2 (List.mem_of_getElem? he2);have HAe2:=zH ho_.1;have HZe2:=zH ho_.2.1;have BAe2:=zH ho_.2.2.1;have BZe2:=zH ho_.2.2.2;clear he2 ho_;have HQf2:=zH hf2;have ho_:=HOK.out f2 (List.mem_of_getElem? hf2);have HAf2:=zH ho_.1;have HZf2:=zH ho_.2.1;have BAf2:=zH ho_.2.2.1;have BZf2:=zH ho_.2.2.2;clear hf2 ho_;have HRe2:=zH (show ds[j+1+(i+1)]?=some e2 from(get_of_drop HD3.out (by omega)).trans HQe2.out);have HRf2:=zH (show ds[j+1+i]?=some f2 from(get_of_drop HD3.out (by omega)).trans HQf2.out);have HST2:=zH (compact_step (eqv:=(fun x y:R2E=>decide (x.vl=y.vl))) HQe2.out HQf2.out);rcases emH (e2.vl=f2.vl)with HEQ2|HEQ2
    ·go_upto_region 11 with fail
     refine zy ?_;have H209:=zH (H202.out.step (Ext.refl w200).drew);have D209:=zH (Dig.of_ext (w:=w200) zb);have K211:=zH (HFR.out.trans (Fr.of_ext (Ext.refl w200).drew));refine zJ3 (Hp.start _) zb (bs 12 7) 0 1 2 _ (.slice (some ⟨g,(j+1)*8,none⟩) d c2) (.int .i64 ((i+1:Nat):Int)) ?_;refine zo 3 (bs 12 15) (v:= .pointer (some ⟨g,(j+1)*8+(i+1)*8,none⟩)) zb ?_ (hv:=by intro w hSw;exact ezi (k:=i+1) Tryz.underlying46 (l:=(by have h_:=HLT2.out;omega)) (f:=rfl));refine zg 4 (bs 12 31) g ((j+1)*8+(i+1)*8) [.bool e2.a.n,.slice e2.a.p e2.a.l e2.a.c,.bool e2.a.m,.slice e2.a.p2 e2.a.l2 e2.a.c2,.bool e2.b.n,.slice e2.b.p e2.b.l e2.b.c,.bool e2.b.m,.slice e2.b.p2 e2.b.l2 e2.b.c2] (elem_off (H202.out.elem (f:=R2E.cells) (i:=0) rR R2E.len HRe2.out)) Tryz.underlying68 zb ?_;refine zJ2 (Hp.start _) zb (bs 12 127) 5 6 (.slice (some ⟨g,(j+1)*8,none⟩) d c2) (.int .i64 ((i+1:Nat):Int)) ?_;refine zu 7 (bs 12 255) (v:= .int .i64 (i:Int)) zb ?_ (hv:=by intro w hSw;exact ez2 (by have ob0:=HI.out;have ob1:=HKI.out;have ob2:=HD.out;have ob3:=HC2.out;have ob4:=HCN.out;have ob5:=HDL.out;have ob6:=HLT2.out;omega));refine zo 8 (bs 12 511) (v:= .pointer (some ⟨g,(j+1)*8+i*8,none⟩)) zb ?_ (hv:=by intro w hSw;exact ezi (k:=i) Tryz.underlying46 (l:=(by have h_:=HLT2.out;omega)) (f:=rfl));refine zg 9 (bs 12 1023) g ((j+1)*8+i*8) [.bool f2.a.n,.slice f2.a.p f2.a.l f2.a.c,.bool f2.a.m,.slice f2.a.p2 f2.a.l2 f2.a.c2,.bool f2.b.n,.slice f2.b.p f2.b.l f2.b.c,.bool f2.b.m,.slice f2.b.p2 f2.b.l2 f2.b.c2] (elem_off (H202.out.elem (f:=R2E.cells) (i:=0) rR R2E.len HRf2.out)) Tryz.underlying68 zb ?_;have DD221:=tD (tD (tD DD188 D189) D202) D209;refine mC 10 (bs 12 2047) (intEq_any L hL _ e2 f2 ⟨(HAe2.out.dig DD221.out),(HZe2.out.dig DD221.out),BAe2.out,BZe2.out⟩ ⟨(HAf2.out.dig DD221.out),(HZf2.out.dig DD221.out),BAf2.out,BZf2.out⟩) ?_;rintro e w220 ⟨rfl,hx⟩;have H222:=zH (H209.out.step hx);have D222:=zH (show Dig w200.drew w220 from Dig.of_ext hx);have K224:=zH (K211.out.trans (Fr.of_ext hx));have S225:=zH (zb.trans hx);clear hx;refine⟨.bool true,by rw[decide_eq_true HEQ2.out],S225.out,?_⟩;try simp only[Act.put,zA,zB,zC]
     refine zx 11 (bs 12 4095) (.bool false) S225.out ?_;refine wpAnyH_done kR ?_ _;go_upto_region 10 with fail
     refine wl ?_;refine zq (.int .i64 ((i+1:Nat):Int)) ?_;refine zp (.int .i64 ((i+2:Nat):Int)) (by exact ez1 (by have ob0:=HI.out;have ob1:=HKI.out;have ob2:=HD.out;have ob3:=HC2.out;have ob4:=HCN.out;have ob5:=HDL.out;have ob6:=HLT2.out;omega)) ?_;refine zq (.int .i64 ((i+2:Nat):Int)) ?_;have DD230:=tD (tD D202 D209) D222;go_wp2_with fail
     go_roundg (d-(i+1))
     case measure=>exact(by have ob0:=HI.out;have ob1:=HKI.out;have ob2:=HD.out;have ob3:=HC2.out;have ob4:=HCN.out;have ob5:=HDL.out;have ob6:=HLT2.out;have ob8:=(show i<d from by have h_:=HLT2.out;omega);omega)
     case rel=>exact⟨i+1,k,ds,rfl,rfl,(by go_num),HLT2.out,(by have h_:=HKI.out;omega),HDL.out,(by rw[show j+1+(i+1+1)=j+1+i+1+1 by omega,HST2.out,if_pos (decide_eq_true HEQ2.out),List.append_nil];exact HD2.out),(by rw[show j+1+(i+1)=(j+1+i)+1 by omega,<-List.drop_drop,HD3.out,List.drop_drop]),K224.out,H222.out,DD230.out⟩
    go_upto_region 11 with fail
    refine zy ?_;have H231:=zH (H202.out.step (Ext.refl w200).drew);have D231:=zH (Dig.of_ext (w:=w200) zb);have K233:=zH (HFR.out.trans (Fr.of_ext (Ext.refl w200).drew));refine zJ3 (Hp.start _) zb (bs 12 7) 0 1 2 _ (.slice (some ⟨g,(j+1)*8,none⟩) d c2) (.int .i64 ((i+1:Nat):Int)) ?_;refine zo 3 (bs 12 15) (v:= .pointer (some ⟨g,(j+1)*8+(i+1)*8,none⟩)) zb ?_ (hv:=by intro w hSw;exact ezi (k:=i+1) Tryz.underlying46 (l:=(by have h_:=HLT2.out;omega)) (f:=rfl));refine zg 4 (bs 12 31) g ((j+1)*8+(i+1)*8) [.bool e2.a.n,.slice e2.a.p e2.a.l e2.a.c,.bool e2.a.m,.slice e2.a.p2 e2.a.l2 e2.a.c2,.bool e2.b.n,.slice e2.b.p e2.b.l e2.b.c,.bool e2.b.m,.slice e2.b.p2 e2.b.l2 e2.b.c2] (elem_off (H202.out.elem (f:=R2E.cells) (i:=0) rR R2E.len HRe2.out)) Tryz.underlying68 zb ?_;refine zJ2 (Hp.start _) zb (bs 12 127) 5 6 (.slice (some ⟨g,(j+1)*8,none⟩) d c2) (.int .i64 ((i+1:Nat):Int)) ?_;refine zu 7 (bs 12 255) (v:= .int .i64 (i:Int)) zb ?_ (hv:=by intro w hSw;exact ez2 (by have ob0:=HI.out;have ob1:=HKI.out;have ob2:=HD.out;have ob3:=HC2.out;have ob4:=HCN.out;have ob5:=HDL.out;have ob6:=HLT2.out;omega));refine zo 8 (bs 12 511) (v:= .pointer (some ⟨g,(j+1)*8+i*8,none⟩)) zb ?_ (hv:=by intro w hSw;exact ezi (k:=i) Tryz.underlying46 (l:=(by have h_:=HLT2.out;omega)) (f:=rfl));refine zg 9 (bs 12 1023) g ((j+1)*8+i*8) [.bool f2.a.n,.slice f2.a.p f2.a.l f2.a.c,.bool f2.a.m,.slice f2.a.p2 f2.a.l2 f2.a.c2,.bool f2.b.n,.slice f2.b.p f2.b.l f2.b.c,.bool f2.b.m,.slice f2.b.p2 f2.b.l2 f2.b.c2] (elem_off (H202.out.elem (f:=R2E.cells) (i:=0) rR R2E.len HRf2.out)) Tryz.underlying68 zb ?_;have DD243:=tD (tD (tD DD188 D189) D202) D231;refine mC 10 (bs 12 2047) (intEq_any L hL _ e2 f2 ⟨(HAe2.out.dig DD243.out),(HZe2.out.dig DD243.out),BAe2.out,BZe2.out⟩ ⟨(HAf2.out.dig DD243.out),(HZf2.out.dig DD243.out),BAf2.out,BZf2.out⟩) ?_;rintro e w242 ⟨rfl,hx⟩;have H244:=zH (H231.out.step hx);have D244:=zH (show Dig w200.drew w242 from Dig.of_ext hx);have K246:=zH (K233.out.trans (Fr.of_ext hx));have S247:=zH (zb.trans hx);clear hx;refine⟨.bool false,by rw[decide_eq_false HEQ2.out],S247.out,?_⟩;try simp only[Act.put,zA,zB,zC]
    refine zx 11 (bs 12 4095) (.bool true) S247.out ?_;refine wpAnyH_done kR ?_ _;go_upto_region 12 with fail
    refine wl ?_;refine zI4 (Hp.start _) _ (.int .i64 (k:Int)) (.slice (some ⟨g,(j+1)*8,none⟩) d c2) (.int .i64 ((i+1:Nat):Int)) ?_;refine zp (.pointer (some ⟨g,(j+1)*8+(i+1)*8,none⟩)) (by exact ezi (k:=i+1) Tryz.underlying46 (l:=(by have h_:=HLT2.out;omega)) (f:=rfl)) ?_;refine zd g ((j+1)*8+(i+1)*8) [.bool e2.a.n,.slice e2.a.p e2.a.l e2.a.c,.bool e2.a.m,.slice e2.a.p2 e2.a.l2 e2.a.c2,.bool e2.b.n,.slice e2.b.p e2.b.l e2.b.c,.bool e2.b.m,.slice e2.b.p2 e2.b.l2 e2.b.c2] (elem_off (H244.out.elem (f:=R2E.cells) (i:=0) rR R2E.len HRe2.out)) Tryz.underlying68 ?_;refine zp (.pointer (some ⟨g,k*8,none⟩)) (by exact ezi (k:=k) Tryz.underlying46 (l:=(by have h_:=HKI.out;have h1_:=HLT2.out;have h2_:=HD.out;omega)) (f:=(Nat.zero_add _).symm)) ?_;refine mv_stElem (f:=R2E.cells) rR _ _ _ rR H244.out (ix:=0) rR R2E.len k e2 (by have h_:=HKI.out;have h1_:=HLT2.out;have h2_:=HD.out;have h3_:=HDL.out;omega) [.bool e2.a.n,.slice e2.a.p e2.a.l e2.a.c,.bool e2.a.m,.slice e2.a.p2 e2.a.l2 e2.a.c2,.bool e2.b.n,.slice e2.b.p e2.b.l e2.b.c,.bool e2.b.m,.slice e2.b.p2 e2.b.l2 e2.b.c2] rR (k*8) rR rR rR kR (by simp[Value.oneCell']) (by simp[NoUL]) ?_;intro w256 hh hd ho;have H257:=hN hh;have D257:=zH (hd);have K259:=zH (K246.out.trans_new ho (fun j hj=> .inl hj));clear hh hd ho
    (try simp only[Act.put])
    go_upto_region 13 with fail
    refine wl ?_;refine zq (.int .i64 (k:Int)) ?_;refine zp (.int .i64 ((k+1:Nat):Int)) (by exact ez1 (by have ob0:=HI.out;have ob1:=HKI.out;have ob2:=HD.out;have ob3:=HC2.out;have ob4:=HCN.out;have ob5:=HDL.out;have ob6:=HLT2.out;omega)) ?_;refine zq (.int .i64 ((k+1:Nat):Int)) ?_;go_upto_region 10 with fail
    refine wl ?_;refine zq (.int .i64 ((i+1:Nat):Int)) ?_;refine zp (.int .i64 ((i+2:Nat):Int)) (by exact ez1 (by have ob0:=HI.out;have ob1:=HKI.out;have ob2:=HD.out;have ob3:=HC2.out;have ob4:=HCN.out;have ob5:=HDL.out;have ob6:=HLT2.out;omega)) ?_;refine zq (.int .i64 ((i+2:Nat):Int)) ?_;have DD266:=tD (tD (tD D202 D231) D244) D257;go_wp2_with fail
    go_roundg (d-(i+1))
    case measure=>exact(by have ob0:=HI.out;have ob1:=HKI.out;have ob2:=HD.out;have ob3:=HC2.out;have ob4:=HCN.out;have ob5:=HDL.out;have ob6:=HLT2.out;have ob8:=(show i<d from by have h_:=HLT2.out;omega);omega)
    case rel=>exact⟨i+1,k+1,(ds.set k e2),rfl,(by go_num),(by go_num),HLT2.out,(by have h_:=HKI.out;omega),(by rw[List.length_set];exact HDL.out),(by rw[show j+1+(i+1+1)=j+1+i+1+1 by omega,HST2.out,if_neg (by rw[decide_eq_false HEQ2.out];decide),take_set_snoc (by have h_:=HKI.out;have h1_:=HLT2.out;have h2_:=HD.out;have h3_:=HDL.out;omega)];exact congrArg (· ++[e2]) HD2.out),(by rw[List.drop_set_of_lt (by have h_:=HKI.out;omega),show j+1+(i+1)=(j+1+i)+1 by omega,<-List.drop_drop,HD3.out,List.drop_drop]),K259.out,H257.out,DD266.out⟩
   go_upto_region 9 with fail
   refine wl ?_;refine zI3 (Hp.start _) (.int .i64 ((i+1:Nat):Int)) (.slice (some ⟨g,(j+1)*8,none⟩) d c2) (.int .i64 (d:Int)) ?_;refine zp (.bool false) (by exact ezl (e:=(dec_f (by have ob0:=HI.out;have ob1:=HKI.out;have ob2:=HD.out;have ob3:=HC2.out;have ob4:=HCN.out;have ob5:=HDL.out;have ob6:=HLT2.out;omega)))) ?_;have hid_:i+1=d:=by have h_:=HLT2.out;have h2_:=HI.out;omega
   have HTK:=zH (show ds.take k=compactV (fun x y:R2E=>decide (x.vl=y.vl)) es from by rw[HD2.out,show j+1+(i+1)=es.length by rw[HD.out];omega,List.take_of_length_le (Nat.le_refl _)]);obtain⟨d3,hd3⟩:∃d3,es.length=k+d3:=⟨es.length-k,by have h_:=HKI.out;have h2_:=HD.out;omega⟩;obtain⟨c3,hc3⟩:∃c3,cap=k+c3:=⟨cap-k,by have h_:=HKI.out;have h2_:=HD.out;have h3_:=HCN.out;omega⟩;have HD4:=zH hd3;have HC3:=zH hc3;have hd0:0<d3:=by have h_:=HKI.out;have h2_:=HD.out;omega
   have HD0:=zH hd0;clear hd3 hc3 hid_ hd0;go_upto_region 14 with fail
   refine wl ?_;refine zI2 (Hp.start _) _ (.int .i64 (k:Int)) ?_;refine zp (.slice (some ⟨g,k*8,none⟩) d3 c3) (by exact ev_drop rR Tryz.underlying46 kR rR rR (by first|rfl|omega) HD4.out HD0.out HC3.out (by have ob0:=HI.out;have ob1:=HKI.out;have ob2:=HD.out;have ob3:=HC2.out;have ob4:=HCN.out;have ob5:=HDL.out;have ob6:=HLT2.out;have ob7:=HD4.out;have ob8:=HC3.out;have ob9:=HD0.out;omega)) ?_;refine mv_clear (f:=R2E.cells) rR _ 46 rR H202.out (ix:=0) rR R2E.len HDL.out k c3 (by have h_:=HD4.out;have h2_:=HD0.out;omega) (by rw[show es.length-k=d3 by have h_:=HD4.out;omega];rfl) Tryz.underlying46 (.agg z8) Tryz.zeroValue68 rfl (by simp[Value.cells,Value.oneCell']) (by simp[Value.cells,NoUL]) dC ?_;intro w274 hh hd ho;have H275:=hN hh;have D275:=zH (hd);have K277:=zH (HFR.out.trans_new ho (fun j hj=> .inl hj));clear hh hd ho;try simp only[Act.put,zA,zB,zC]
   go_upto_region 15 with fail
   refine wl ?_;refine zI2 (Hp.start _) _ (.int .i64 (k:Int)) ?_;refine zp (.slice (some ⟨g,0,none⟩) k cap) (by exact ev_head (size:=8) rR Tryz.underlying46 kR rR rR (by first|rfl|omega) (by have h_:=HD4.out;omega) HCN.out (by have h_:=HC3.out;have h2_:=HD4.out;have h3_:=HCN.out;have h4_:=HD0.out;omega)) ?_;refine zI1 (Hp.start _) _ ?_;have HRW:=zH (H275.out.row (i:=0) (by rfl));have hlen:(ds.take k).length=k:=by rw[List.length_take,HDL.out,HD4.out];omega
   rw[HTK.out]at hlen HRW;go_wp2_with fail
   go_ret
   exact⟨_,rfl,by rw[hlen];exact HRW.out,K277.out.grownBy,((((D169.out.trans D176.out).trans D189.out).trans D202.out).trans D275.out),rfl⟩
  go_upto_region 6 with fail
  refine zy ?_;have H282:=zH (H169.out.step (Ext.refl w167).drew);have D282:=zH (Dig.of_ext (w:=w167) zb);have K284:=zH (HFR.out.trans (Fr.of_ext (Ext.refl w167).drew));refine zJ3 (Hp.start _) zb (bs 11 7) 0 1 2 _ _ (.int .i64 ((j+1:Nat):Int)) ?_;refine zo 3 (bs 11 15) (v:= .pointer (some ⟨g,(j+1)*8,none⟩)) zb ?_ (hv:=by intro w hSw;exact ezi (k:=j+1) Tryz.underlying46 (l:=(by have h_:=HLT.out;omega)) (f:=(Nat.zero_add _).symm));refine zg 4 (bs 11 31) g ((j+1)*8) [.bool e.a.n,.slice e.a.p e.a.l e.a.c,.bool e.a.m,.slice e.a.p2 e.a.l2 e.a.c2,.bool e.b.n,.slice e.b.p e.b.l e.b.c,.bool e.b.m,.slice e.b.p2 e.b.l2 e.b.c2] (H169.out.elem (f:=R2E.cells) (i:=0) rR R2E.len HQe.out) Tryz.underlying68 zb ?_;refine zJ2 (Hp.start _) zb (bs 11 127) 5 6 _ (.int .i64 ((j+1:Nat):Int)) ?_;refine zu 7 (bs 11 255) (v:= .int .i64 (j:Int)) zb ?_ (hv:=by intro w hSw;exact ez2 (by have ob0:=HK.out;have ob1:=HLT.out;omega));refine zo 8 (bs 11 511) (v:= .pointer (some ⟨g,j*8,none⟩)) zb ?_ (hv:=by intro w hSw;exact ezi (k:=j) Tryz.underlying46 (l:=(by have h_:=HLT.out;omega)) (f:=(Nat.zero_add _).symm));refine zg 9 (bs 11 1023) g (j*8) [.bool f.a.n,.slice f.a.p f.a.l f.a.c,.bool f.a.m,.slice f.a.p2 f.a.l2 f.a.c2,.bool f.b.n,.slice f.b.p f.b.l f.b.c,.bool f.b.m,.slice f.b.p2 f.b.l2 f.b.c2] (H169.out.elem (f:=R2E.cells) (i:=0) rR R2E.len HQf.out) Tryz.underlying68 zb ?_;have DD294:=tD D169 D282;refine mC 10 (bs 11 2047) (intEq_any L hL _ e f ⟨(HAe.out.dig DD294.out),(HZe.out.dig DD294.out),BAe.out,BZe.out⟩ ⟨(HAf.out.dig DD294.out),(HZf.out.dig DD294.out),BAf.out,BZf.out⟩) ?_;rintro e w293 ⟨rfl,hx⟩;have H295:=zH (H282.out.step hx);have D295:=zH (show Dig w167.drew w293 from Dig.of_ext hx);have K297:=zH (K284.out.trans (Fr.of_ext hx));have S298:=zH (zb.trans hx);clear hx;refine⟨.bool false,by rw[decide_eq_false HEQ.out],S298.out,?_⟩;try simp only[Act.put,zA,zB,zC]
  refine wpAnyH_done kR ?_ _;go_upto_region 5 with fail
  refine wl ?_;refine zq (.int .i64 ((j+1:Nat):Int)) ?_;refine zp (.int .i64 ((j+2:Nat):Int)) (by exact ez1 (by have ob0:=HK.out;have ob1:=HLT.out;omega)) ?_;refine zq (.int .i64 ((j+2:Nat):Int)) ?_;have DD302:=tD DD294 D295;go_wp2_with fail
  go_roundg (es.length-(j+1))
  case measure=>exact(by have ob0:=HK.out;have ob1:=HLT.out;have ob3:=(show j<es.length from by have h_:=HLT.out;omega);omega)
  case rel=>exact⟨j+1,rfl,(by go_num),HLT.out,(by rw[HST.out,if_neg (by rw[decide_eq_false HEQ.out];decide),HCV.out,List.take_add_one (i:=j+1),HQe.out];rfl),K297.out,H295.out,DD302.out⟩
 go_upto_region 4 with fail
 refine wl ?_;refine zI3 (Hp.start _) (.int .i64 ((j+1:Nat):Int)) _ (.int .i64 ((es.length:Nat):Int)) ?_;refine zp (.bool false) (by exact ezl (e:=(dec_f (by have ob0:=HK.out;have ob1:=HLT.out;omega)))) ?_;go_upto_region 16 with fail
 refine wl ?_;refine zI2 (Hp.start _) _ _ ?_;have hcv:compactV (fun x y:R2E=>decide (x.vl=y.vl)) es=es:=by have h_:=HCV.out;rwa[show j+1=es.length by have h2_:=HLT.out;have h3_:=HK.out;omega,List.take_of_length_le (Nat.le_refl _)]at h_
 go_wp2_with fail
 go_ret
 exact⟨_,rfl,by rw[hcv];exact H169.out.row (i:=0) (by rfl),HFR.out.grownBy,D169.out,rfl⟩
end Go.Proofs.YtiokhlgdelipdaaGreat
namespace Go.Proofs.YtiokhlgdelipdaaGreat
open Go.RowKit
attribute [local go_sem ↓] Go.wp_at_zero Go.wp_at_succ run_max_ii run_min_ii
open Go.RowKit
theorem elRR:ElT Tryz.prog 46 68 8 128:=ElT.of (z:= .agg z8) Tryz.underlying46 (by kernel_rfl) rfl (by simp[NoUL,Value.cells]) (by decide)
theorem elInts:ElT Tryz.prog 47 67 1 24:=ElT.of (z:= .slice none 0 0) Tryz.underlying47 (by kernel_rfl) rfl (by simp[NoUL,Value.cells]) (by decide)
def crP (x y:EdE):List (Rat×Rat):=if adjB x y=true\/djB x y=true then[]else if segN x.a x.b y.a y.b=1 then[(segX x.a x.b y.a y.b,segY x.a x.b y.a y.b)]else[]
def crRow (es:List EdE)(k:Nat):List (Rat×Rat):=match es[k]?with|some y=>(es.take k).flatMap (fun x=>crP x y)|none=>[]
def crAll (es:List EdE):List (Rat×Rat):=(List.range es.length).flatMap (crRow es)
def onAt (es:List EdE)(p:Rat×Rat)(i:Nat):Bool:=match es[i]?with|some e=>decide (conC e p)|none=>false
def onV (es:List EdE)(p:Rat×Rat):List Nat:=(List.range es.length).filter (onAt es p)
theorem onV_succ {es:List EdE}{p:Rat×Rat}{i:Nat}{e:EdE}(h:es[i]?=some e):(List.range (i+1)).filter (onAt es p)=(List.range i).filter (onAt es p)++(if conC e p then[i]else[]):=by
  rw[List.range_succ,List.filter_append];congr 1;by_cases hc:conC e p
  · rw[if_pos hc];simp[onAt,h,hc]
  rw[if_neg hc];simp[onAt,h,hc]
theorem crTake_succ {es:List EdE}{i:Nat}{x y:EdE}(h:es[i]?=some x):(es.take (i+1)).flatMap (fun x=>crP x y)=(es.take i).flatMap (fun x=>crP x y)++crP x y:=by
  rw[List.take_add_one,h,List.flatMap_append];simp
theorem crRange_succ {es:List EdE}{k:Nat}{y:EdE}(h:es[k]?=some y):(List.range (k+1)).flatMap (crRow es)=(List.range k).flatMap (crRow es)++(es.take k).flatMap (fun x=>crP x y):=by
  rw[List.range_succ,List.flatMap_append];simp[crRow,h]
def iC (i:Nat):List Value:=[.int .i64 (i:Int)]
structure OnE where
  A:Option Addr
  c:Nat
  l:List Nat
def OnE.cells (o:OnE):List Value:=[.slice o.A o.l.length o.c]
def OnE.Ok (b:Nat)(w:World)(o:OnE):Prop:=RowN w b 3 1 (.slice o.A o.l.length o.c) o.l.length (o.l.flatMap iC)
theorem OnE.Ok.fr {b:Nat}{w0 W W':World}{m:List Ent}{ix n:Nat}{v:Value}{xs:List Value}{o:OnE}(h:o.Ok b W)(H:Hp w0 W m)(hi:m[ix]?=some (.row 67 1 v n xs))(x:Fr (fun k=>v.ownBlock=some k) W W'):o.Ok b W':=by
  obtain⟨h1,h2|⟨g,cap,rest,h3,h4,h5,h6⟩⟩:=h
  · exact⟨h1,.inl h2⟩
  refine⟨h1,.inr ⟨g,cap,rest,h3,h4,?_,h6⟩⟩;have h7:Blk W g 3 _:=h5;refine(x.block g h7.lt (fun hk=> ?_)).trans h7;have h8:=H.typ hi h7 (by exact hk);exact absurd (show(67:TypeId)=3 from h8) (by decide)
theorem OnE.Ok.ext {b:Nat}{W W':World}{o:OnE}(h:o.Ok b W)(x:Ext W W'):o.Ok b W':=RowN.ext h x
theorem RowN.low {w:World}{b b':Nat}{t:TypeId}{size:Nat}{v:Value}{n:Nat}{xs:List Value}(h:RowN w b t size v n xs)(hb:b'<=b):RowN w b' t size v n xs:=by
  obtain⟨h1,h2|⟨g,cap,rest,h3,h4,h5⟩⟩:=h
  · exact⟨h1,.inl h2⟩
  exact⟨h1,.inr ⟨g,cap,rest,h3,Nat.le_trans hb h4,h5⟩⟩
theorem cmp2_tr {a b c:Rat×Rat}(h1:¬cmp2 b a<0)(h2:cmp2 b c<0):cmp2 a c<0:=by
  rw[cmp2_lt]at h1 h2⊢;obtain⟨a1,a2⟩:=a;obtain⟨b1,b2⟩:=b;obtain⟨c1,c2⟩:=c;simp only at h1 h2⊢;grind
theorem cmp2_st {x y:Rat×Rat}(h1:¬cmp2 x y<0)(h2:x≠y):cmp2 y x<0:=by
  rw[cmp2_lt]at h1⊢;obtain⟨a1,a2⟩:=x;obtain⟨b1,b2⟩:=y;have h3:¬(a1=b1/\a2=b2):=fun h=>h2 (Prod.ext h.1 h.2)
  simp only at h1⊢;grind
def le2 (x y:R2E):Prop:=¬cmp2 y.vl x.vl<0
def lt2 (x y:R2E):Prop:=cmp2 x.vl y.vl<0
theorem sorted2 {es1:List R2E}(hs:es1.Pairwise le2):(compactV (fun x y:R2E=>decide (x.vl=y.vl)) es1).Pairwise lt2:=
  compactV_sorted (α:=R2E) (eqv:=fun x y:R2E=>decide (x.vl=y.vl)) (le:=le2) (lt:=lt2)
    (fun a b c h1 h2=>by unfold le2 at h1;unfold lt2 at h2⊢;exact cmp2_tr h1 h2)
    (fun x y h1 h2=>by unfold le2 at h1;unfold lt2;exact cmp2_st h1 (of_decide_eq_false h2))
    (fun x y h1 z h2=>by unfold lt2 at h2⊢;have h3:=of_decide_eq_true h1;rw[<-h3];exact h2) hs
theorem sort_cpt {es es1:List R2E}(hp:es1.Perm es)(hs:es1.Pairwise (fun x y=>¬cmp2 y.vl x.vl<0)):
  ((compactV (fun x y:R2E=>decide (x.vl=y.vl)) es1).map R2E.vl).Pairwise (fun x y=>cmp2 x y<0)/\(∀q,q∈(compactV (fun x y:R2E=>decide (x.vl=y.vl)) es1).map R2E.vl↔q∈es.map R2E.vl)/\(∀e,e∈compactV (fun x y:R2E=>decide (x.vl=y.vl)) es1->e∈es):=by
 have hst:=sorted2 hs;refine⟨by rw[List.pairwise_map];exact hst,fun q=>⟨fun hx=> ?_,fun hx=> ?_⟩,fun e he=>hp.mem_iff.1 (compactV_sub _ he)⟩
 ·obtain⟨e,he,rfl⟩:=List.mem_map.1 hx
  exact List.mem_map_of_mem (hp.mem_iff.1 (compactV_sub _ he))
 obtain⟨e,he,rfl⟩:=List.mem_map.1 hx;obtain⟨f,hf,h2⟩:=compactV_mem (eqv:=(fun x y:R2E=>decide (x.vl=y.vl))) (key:=R2E.vl) (fun x y h=>of_decide_eq_true h) (hp.mem_iff.2 he);exact List.mem_map.2 ⟨f,hf,h2⟩
def IsxRet (rs:List Ring)(w:World)(e:Ending)(w':World):Prop:=
  ∃ (v1 v2:Value) (ps:List R2E) (os:List OnE),e= .returned (.tuple #[v1,v2])/\RowN w' w.heap.size 68 8 v1 ps.length (ps.flatMap R2E.cells)/\(ps.map R2E.vl).Pairwise (fun x y=>cmp2 x y<0)/\(∀q,q∈ps.map R2E.vl↔q∈crAll (edsV rs))/\(∀e,e∈ps->e.Ok 24 w')/\
    RowN w' w.heap.size 67 1 v2 os.length (os.flatMap OnE.cells)/\os.map OnE.l=ps.map (fun e=>onV (edsV rs) e.vl)/\(∀o,o∈os->o.Ok w.heap.size w')/\Ext w w'
theorem take_map_succ {α β:Type}{l:List α}{k:Nat}{x:α}{f:α->β}(h:l[k]?=some x):(l.take (k+1)).map f=(l.take k).map f++[f x]:=by
  rw[List.take_add_one,h];simp
theorem intersections_any (A:Option Addr)(cu:Nat)(rs:List Ring)(w:World)(hu:RingsV w (.slice A rs.length cu) rs)(hc:rs.length<=cu)(hn:rs.length<=1048576)(hr:∀r,r∈rs->r.length<=1048576):
  Calls Tryz.prog 17 #[.slice A rs.length cu] w (IsxRet rs w):=by
 have HU:=zH hu;have HN:=zH hn;have HR:=zH hr;have HC:=zH hc;have hel:=edsV_len rs;clear hu hr hc hn;go_enter Tryz.func17,Tryz.ntmps17
 have H0:=zH (Hp.start w);go_upto_region 0 with fail
 refine wl ?_;refine zI2 (Hp.start _) _ _ ?_;go_upto_region 1 with fail
 refine wl ?_;refine zI1 (Hp.start _) _ ?_;refine zc (iedges_any A cu rs _ (HU.out.ext H0.out.ext) HC.out HN.out HR.out) ?_;rintro e w4 ⟨v_,rfl,hrow_,hx⟩;obtain⟨Ae,ce,rfl,hfe_⟩:=hrow_.form;have HFE:=zH hfe_;clear hfe_;have H5:=zH (show Hp w w4 [ro 81 7 Ae ((edsV rs).length) ce EdE.cells (edsV rs)]from H0.out.addRow hx hrow_);clear hrow_ hx;refine zn ?_;refine zI1 (Hp.start _) _ ?_;go_upto_region 2 with fail
 refine wl ?_;refine zI1 (Hp.start _) _ ?_;have H9:=zH (show Hp w w4 [ro 81 7 Ae ((edsV rs).length) ce EdE.cells (edsV rs),ro 68 8 none 0 0 R2E.cells ([])]from H5.out.addNil 68 8);go_upto_region 3 with fail
 refine wl ?_;refine zI3 (Hp.start _) _ (.int .i64 (((edsV rs).length:Nat):Int)) _ ?_;go_wp2_with fail
 go_loopg [5,21] ((edsV rs).length) (fun cq v13 v14 wr=>∃(k:Nat) (A1:Option Addr) (m:Nat) (c1:Nat) (es:List R2E),cq=((edsV rs).length)-k/\v13= .slice A1 m c1/\v14= .int .i64 (k:Int)/\(k<=(edsV rs).length)/\(m=es.length/\m<=4096*k)/\(es.map R2E.vl=(List.range k).flatMap (crRow (edsV rs)))/\(∀e,e∈es->e.Ok 24 wr)/\Hp w wr [.row 81 7 (.slice Ae ((edsV rs).length) ce) ((edsV rs).length) (List.flatMap EdE.cells (edsV rs)),.row 68 8 (.slice A1 m c1) (m) (List.flatMap R2E.cells es)]/\Dig w4 wr)
 case atStart=>exact⟨0,none,0,0,[],rfl,rfl,rfl,Nat.zero_le _,⟨rfl,Nat.zero_le _⟩,rfl,(fun e_ he_=>by cases he_),H9.out,Dig.refl _⟩
 obtain⟨k,A1,m,c1,es,rfl,rfl,rfl,q_HKN,q_HM,q_HES,q_HOE,hh_,hd_⟩:=hrel;generalize wr=w15 at*
 have HKN:=zH q_HKN;clear q_HKN;have HM:=zH q_HM;clear q_HM;have HES:=zH q_HES;clear q_HES;have HOE:=zH q_HOE;clear q_HOE;have H17:=zH hh_;have D17:=zH hd_;clear hh_ hd_ H9;rcases emH (k<(edsV rs).length)with HLT|HLT
 ·have hlt:=HLT.out
  go_upto_region 4 with fail
  refine wl ?_;refine zp (.bool true) (by exact ezl (e:=(dec_t (by have ob0:=HM.out;omega)))) ?_;go_upto_region 5 with fail
  refine wl ?_;refine zI2 (Hp.start _) (.int .i64 (k:Int)) (.int .i64 (k:Int)) ?_;go_upto_region 6 with fail
  refine wl ?_;refine zI2 (Hp.start _) (.int .i64 (k:Int)) _ ?_;go_wp2_with fail
  go_loopg [5,25] (k) (fun cq v24 v25 wr=>∃(i:Nat) (A2:Option Addr) (m2:Nat) (c2:Nat) (es2:List R2E),cq=k-i/\v24= .slice A2 m2 c2/\v25= .int .i64 (i:Int)/\(i<=k)/\(m2=es2.length/\m2<=4096*k+i)/\(∀ey:EdE,(edsV rs)[k]?=some ey->es2.map R2E.vl=(List.range k).flatMap (crRow (edsV rs))++((edsV rs).take i).flatMap (fun x=>crP x ey))/\(∀e,e∈es2->e.Ok 24 wr)/\Hp w wr [.row 81 7 (.slice Ae ((edsV rs).length) ce) ((edsV rs).length) (List.flatMap EdE.cells (edsV rs)),.row 68 8 (.slice A2 m2 c2) (m2) (List.flatMap R2E.cells es2)]/\Dig w15 wr)
  case atStart=>exact⟨0,A1,m,c1,es,rfl,rfl,rfl,Nat.zero_le _,⟨HM.out.1,HM.out.2⟩,(fun _ _=>by rw[HES.out];simp),(fun g_ hg_=>(HOE.out g_ hg_)),H17.out,Dig.refl _⟩
  obtain⟨i,A2,m2,c2,es2,rfl,rfl,rfl,q_HKI,q_HM2,q_HES2,q_HOE2,hh_,hd_⟩:=hrel;generalize wr=w26 at*
  have HKI:=zH q_HKI;clear q_HKI;have HM2:=zH q_HM2;clear q_HM2;have HES2:=zH q_HES2;clear q_HES2;have HOE2:=zH q_HOE2;clear q_HOE2;have H28:=zH hh_;have D28:=zH hd_;clear hh_ hd_ H17;rcases emH (i<k)with HIK|HIK
  ·have HIK2:=HIK
   have hik:=HIK2.out;obtain⟨ge,rfl⟩:=HFE.out (by omega);obtain⟨ex,hex_⟩:∃x,(edsV rs)[i]?=some x:=⟨_,List.getElem?_eq_getElem (by omega)⟩;obtain⟨ey,hey_⟩:∃x,(edsV rs)[k]?=some x:=⟨_,List.getElem?_eq_getElem (by omega)⟩;have HEX:=zH hex_;have HEY:=zH hey_;have HBX:=zH (edsV_bd HN.out ex (List.mem_of_getElem? hex_));have HBY:=zH (edsV_bd HN.out ey (List.mem_of_getElem? hey_));clear hex_ hey_;go_upto_region 7 with fail
   refine wl ?_;refine zp (.bool true) (by exact ezl (e:=(dec_t (by have ob0:=HM.out;have ob1:=HM2.out;omega)))) ?_;go_upto_region 8 with fail
   refine wl ?_;refine zI2 (Hp.start _) (.int .i64 (i:Int)) (.int .i64 (i:Int)) ?_;rcases emH (adjB ex ey=true)with HAD|HAD
   ·go_upto_region 9 with fail
    refine zy ?_;have H34:=zH (H28.out.step (Ext.refl w26).drew);have D34:=zH (Dig.of_ext (w:=w26) zb);refine zJ2 (Hp.start _) zb (bs 20 3) 0 1 _ (.int .i64 (i:Int)) ?_;refine zo 2 (bs 20 7) (v:= .pointer (some ⟨ge,i*7,none⟩)) zb ?_ (hv:=by intro w hSw;exact ezi (k:=i) Tryz.underlying77 (l:=(show i<(edsV rs).length by omega)) (f:=(Nat.zero_add _).symm));refine zg 3 (bs 20 15) ge (i*7) [.int .i64 ex.a.1,.int .i64 ex.a.2,.int .i64 ex.b.1,.int .i64 ex.b.2,.int .i64 ((ex.r:Nat):Int),.int .i64 ((ex.i:Nat):Int),.int .i64 ((ex.n:Nat):Int)] (H28.out.elem (f:=EdE.cells) (i:=0) rR EdE.len HEX.out) Tryz.underlying81 zb ?_;refine zJ2 (Hp.start _) zb (bs 20 63) 4 5 _ (.int .i64 (k:Int)) ?_;refine zo 6 (bs 20 127) (v:= .pointer (some ⟨ge,k*7,none⟩)) zb ?_ (hv:=by intro w hSw;exact ezi (k:=k) Tryz.underlying77 (l:=(show k<(edsV rs).length by omega)) (f:=(Nat.zero_add _).symm));refine zg 7 (bs 20 255) ge (k*7) [.int .i64 ey.a.1,.int .i64 ey.a.2,.int .i64 ey.b.1,.int .i64 ey.b.2,.int .i64 ((ey.r:Nat):Int),.int .i64 ((ey.i:Nat):Int),.int .i64 ((ey.n:Nat):Int)] (H28.out.elem (f:=EdE.cells) (i:=0) rR EdE.len HEY.out) Tryz.underlying81 zb ?_;refine mC 8 (bs 20 511) (adjacent_any ex ey _ HBX.out HBY.out) ?_;rintro e w42 ⟨rfl,hx⟩;have H43:=zH (H34.out.step hx);have D43:=zH (show Dig w26.drew w42 from Dig.of_ext hx);have S45:=zH (zb.trans hx);clear hx;refine⟨.bool true,by rw[HAD.out],S45.out,?_⟩;try simp only[Act.put,zA,zB,zC]
    refine zJ8 (Hp.start _) S45.out (bs 20 131071) 9 10 11 12 13 14 15 16 (.bool true) _ _ _ _ _ _ _ ?_;refine zJ3 (Hp.start _) S45.out (bs 20 1048575) 17 18 19 _ _ (.bool true) ?_;refine wpAnyH_done kR ?_ _;go_upto_region 13 with fail
    refine wl ?_;refine zp (.int .i64 ((i+1:Nat):Int)) (by exact ez1 (by have ob0:=HM.out;have ob1:=HM2.out;omega)) ?_;refine zq (.int .i64 ((i+1:Nat):Int)) ?_;have DD50:=tD D34 D43;have DD51:=tD (tD D28 D34) D43;go_wp2_with fail
    go_roundg (k-(i+1))
    case measure=>exact(by have ob0:=HM.out;have ob1:=HM2.out;omega)
    case rel=>exact⟨i+1,A2,m2,c2,es2,rfl,rfl,(by go_num),hik,⟨HM2.out.1,by have h_:=HM2.out.2;omega⟩,(fun ey_ hey2_=>by obtain rfl:ey=ey_:=Option.some.inj (HEY.out.symm.trans hey2_);rw[HES2.out _ hey2_,crTake_succ HEX.out,show crP ex ey=[]from if_pos (.inl HAD.out),List.append_nil]),(fun g_ hg_=>(HOE2.out g_ hg_).dig DD50.out),H43.out,DD51.out⟩
   have HADF:=zH (Bool.eq_false_iff.2 HAD.out);rcases emH (djB ex ey=true)with HDJ|HDJ
   ·go_upto_region 9 with fail
    refine zy ?_;have H53:=zH (H28.out.step (Ext.refl w26).drew);have D53:=zH (Dig.of_ext (w:=w26) zb);refine zJ2 (Hp.start _) zb (bs 20 3) 0 1 _ (.int .i64 (i:Int)) ?_;refine zo 2 (bs 20 7) (v:= .pointer (some ⟨ge,i*7,none⟩)) zb ?_ (hv:=by intro w hSw;exact ezi (k:=i) Tryz.underlying77 (l:=(show i<(edsV rs).length by omega)) (f:=(Nat.zero_add _).symm));refine zg 3 (bs 20 15) ge (i*7) [.int .i64 ex.a.1,.int .i64 ex.a.2,.int .i64 ex.b.1,.int .i64 ex.b.2,.int .i64 ((ex.r:Nat):Int),.int .i64 ((ex.i:Nat):Int),.int .i64 ((ex.n:Nat):Int)] (H28.out.elem (f:=EdE.cells) (i:=0) rR EdE.len HEX.out) Tryz.underlying81 zb ?_;refine zJ2 (Hp.start _) zb (bs 20 63) 4 5 _ (.int .i64 (k:Int)) ?_;refine zo 6 (bs 20 127) (v:= .pointer (some ⟨ge,k*7,none⟩)) zb ?_ (hv:=by intro w hSw;exact ezi (k:=k) Tryz.underlying77 (l:=(show k<(edsV rs).length by omega)) (f:=(Nat.zero_add _).symm));refine zg 7 (bs 20 255) ge (k*7) [.int .i64 ey.a.1,.int .i64 ey.a.2,.int .i64 ey.b.1,.int .i64 ey.b.2,.int .i64 ((ey.r:Nat):Int),.int .i64 ((ey.i:Nat):Int),.int .i64 ((ey.n:Nat):Int)] (H28.out.elem (f:=EdE.cells) (i:=0) rR EdE.len HEY.out) Tryz.underlying81 zb ?_;refine mC 8 (bs 20 511) (adjacent_any ex ey _ HBX.out HBY.out) ?_;rintro e w61 ⟨rfl,hx⟩;have H62:=zH (H53.out.step hx);have D62:=zH (show Dig w26.drew w61 from Dig.of_ext hx);have S64:=zH (zb.trans hx);clear hx;refine⟨.bool false,by rw[HADF.out],S64.out,?_⟩;try simp only[Act.put,zA,zB,zC]
    refine zJ3 (Hp.start _) S64.out (bs 20 4095) 9 10 11 (.bool false) _ (.int .i64 (i:Int)) ?_;refine zo 12 (bs 20 8191) (v:= .pointer (some ⟨ge,i*7,none⟩)) S64.out ?_ (hv:=by intro w hSw;exact ezi (k:=i) Tryz.underlying77 (l:=(show i<(edsV rs).length by omega)) (f:=(Nat.zero_add _).symm));refine zg 13 (bs 20 16383) ge (i*7) [.int .i64 ex.a.1,.int .i64 ex.a.2,.int .i64 ex.b.1,.int .i64 ex.b.2,.int .i64 ((ex.r:Nat):Int),.int .i64 ((ex.i:Nat):Int),.int .i64 ((ex.n:Nat):Int)] (H28.out.elem (f:=EdE.cells) (i:=0) rR EdE.len HEX.out) Tryz.underlying81 S64.out ?_;refine zJ2 (Hp.start _) S64.out (bs 20 65535) 14 15 _ (.int .i64 (k:Int)) ?_;refine zo 16 (bs 20 131071) (v:= .pointer (some ⟨ge,k*7,none⟩)) S64.out ?_ (hv:=by intro w hSw;exact ezi (k:=k) Tryz.underlying77 (l:=(show k<(edsV rs).length by omega)) (f:=(Nat.zero_add _).symm));refine zg 17 (bs 20 262143) ge (k*7) [.int .i64 ey.a.1,.int .i64 ey.a.2,.int .i64 ey.b.1,.int .i64 ey.b.2,.int .i64 ((ey.r:Nat):Int),.int .i64 ((ey.i:Nat):Int),.int .i64 ((ey.n:Nat):Int)] (H28.out.elem (f:=EdE.cells) (i:=0) rR EdE.len HEY.out) Tryz.underlying81 S64.out ?_;refine mC 18 (bs 20 524287) (disjoint_any ex ey _) ?_;rintro e w72 ⟨rfl,hx⟩;have H73:=zH (H62.out.step hx);have D73:=zH (Dig.of_ext hx);have S75:=zH (S64.out.trans hx);clear hx;refine⟨.bool true,by rw[HDJ.out],S75.out,?_⟩;try simp only[Act.put,zA,zB,zC]
    refine zx 19 (bs 20 1048575) (.bool true) S75.out ?_;refine wpAnyH_done kR ?_ _;go_upto_region 13 with fail
    refine wl ?_;refine zp (.int .i64 ((i+1:Nat):Int)) (by exact ez1 (by have ob0:=HM.out;have ob1:=HM2.out;omega)) ?_;refine zq (.int .i64 ((i+1:Nat):Int)) ?_;have DD79:=tD (tD D53 D62) D73;have DD80:=tD (tD (tD D28 D53) D62) D73;go_wp2_with fail
    go_roundg (k-(i+1))
    case measure=>exact(by have ob0:=HM.out;have ob1:=HM2.out;omega)
    case rel=>exact⟨i+1,A2,m2,c2,es2,rfl,rfl,(by go_num),hik,⟨HM2.out.1,by have h_:=HM2.out.2;omega⟩,(fun ey_ hey2_=>by obtain rfl:ey=ey_:=Option.some.inj (HEY.out.symm.trans hey2_);rw[HES2.out _ hey2_,crTake_succ HEX.out,show crP ex ey=[]from if_pos (.inr HDJ.out),List.append_nil]),(fun g_ hg_=>(HOE2.out g_ hg_).dig DD79.out),H73.out,DD80.out⟩
   have HDJF:=zH (Bool.eq_false_iff.2 HDJ.out);have HNO:=zH (show¬(adjB ex ey=true\/djB ex ey=true)from fun h_=>h_.elim HAD.out HDJ.out);go_upto_region 9 with fail
   refine zy ?_;have H81:=zH (H28.out.step (Ext.refl w26).drew);have D81:=zH (Dig.of_ext (w:=w26) zb);refine zJ2 (Hp.start _) zb (bs 20 3) 0 1 _ (.int .i64 (i:Int)) ?_;refine zo 2 (bs 20 7) (v:= .pointer (some ⟨ge,i*7,none⟩)) zb ?_ (hv:=by intro w hSw;exact ezi (k:=i) Tryz.underlying77 (l:=(show i<(edsV rs).length by omega)) (f:=(Nat.zero_add _).symm));refine zg 3 (bs 20 15) ge (i*7) [.int .i64 ex.a.1,.int .i64 ex.a.2,.int .i64 ex.b.1,.int .i64 ex.b.2,.int .i64 ((ex.r:Nat):Int),.int .i64 ((ex.i:Nat):Int),.int .i64 ((ex.n:Nat):Int)] (H28.out.elem (f:=EdE.cells) (i:=0) rR EdE.len HEX.out) Tryz.underlying81 zb ?_;refine zJ2 (Hp.start _) zb (bs 20 63) 4 5 _ (.int .i64 (k:Int)) ?_;refine zo 6 (bs 20 127) (v:= .pointer (some ⟨ge,k*7,none⟩)) zb ?_ (hv:=by intro w hSw;exact ezi (k:=k) Tryz.underlying77 (l:=(show k<(edsV rs).length by omega)) (f:=(Nat.zero_add _).symm));refine zg 7 (bs 20 255) ge (k*7) [.int .i64 ey.a.1,.int .i64 ey.a.2,.int .i64 ey.b.1,.int .i64 ey.b.2,.int .i64 ((ey.r:Nat):Int),.int .i64 ((ey.i:Nat):Int),.int .i64 ((ey.n:Nat):Int)] (H28.out.elem (f:=EdE.cells) (i:=0) rR EdE.len HEY.out) Tryz.underlying81 zb ?_;refine mC 8 (bs 20 511) (adjacent_any ex ey _ HBX.out HBY.out) ?_;rintro e w89 ⟨rfl,hx⟩;have H90:=zH (H81.out.step hx);have D90:=zH (show Dig w26.drew w89 from Dig.of_ext hx);have S92:=zH (zb.trans hx);clear hx;refine⟨.bool false,by rw[HADF.out],S92.out,?_⟩;try simp only[Act.put,zA,zB,zC]
   refine zJ3 (Hp.start _) S92.out (bs 20 4095) 9 10 11 (.bool false) _ (.int .i64 (i:Int)) ?_;refine zo 12 (bs 20 8191) (v:= .pointer (some ⟨ge,i*7,none⟩)) S92.out ?_ (hv:=by intro w hSw;exact ezi (k:=i) Tryz.underlying77 (l:=(show i<(edsV rs).length by omega)) (f:=(Nat.zero_add _).symm));refine zg 13 (bs 20 16383) ge (i*7) [.int .i64 ex.a.1,.int .i64 ex.a.2,.int .i64 ex.b.1,.int .i64 ex.b.2,.int .i64 ((ex.r:Nat):Int),.int .i64 ((ex.i:Nat):Int),.int .i64 ((ex.n:Nat):Int)] (H28.out.elem (f:=EdE.cells) (i:=0) rR EdE.len HEX.out) Tryz.underlying81 S92.out ?_;refine zJ2 (Hp.start _) S92.out (bs 20 65535) 14 15 _ (.int .i64 (k:Int)) ?_;refine zo 16 (bs 20 131071) (v:= .pointer (some ⟨ge,k*7,none⟩)) S92.out ?_ (hv:=by intro w hSw;exact ezi (k:=k) Tryz.underlying77 (l:=(show k<(edsV rs).length by omega)) (f:=(Nat.zero_add _).symm));refine zg 17 (bs 20 262143) ge (k*7) [.int .i64 ey.a.1,.int .i64 ey.a.2,.int .i64 ey.b.1,.int .i64 ey.b.2,.int .i64 ((ey.r:Nat):Int),.int .i64 ((ey.i:Nat):Int),.int .i64 ((ey.n:Nat):Int)] (H28.out.elem (f:=EdE.cells) (i:=0) rR EdE.len HEY.out) Tryz.underlying81 S92.out ?_;refine mC 18 (bs 20 524287) (disjoint_any ex ey _) ?_;rintro e w100 ⟨rfl,hx⟩;have H101:=zH (H90.out.step hx);have D101:=zH (Dig.of_ext hx);have S103:=zH (S92.out.trans hx);clear hx;refine⟨.bool false,by rw[HDJF.out],S103.out,?_⟩;try simp only[Act.put,zA,zB,zC]
   refine zx 19 (bs 20 1048575) (.bool false) S103.out ?_;refine wpAnyH_done kR ?_ _;rcases emH (segN ex.a ex.b ey.a ey.b=1)with HSG|HSG
   ·go_upto_region 10 with fail
    refine zy ?_;have H106:=zH (H101.out.step (Ext.refl w100).drew);have D106:=zH (Dig.of_ext (w:=w100) zb);refine zJ2 (Hp.start _) zb (bs 30 3) 0 1 _ (.int .i64 (i:Int)) ?_;refine zu 2 (bs 30 7) (v:= .pointer (some ⟨ge,i*7,none⟩)) zb ?_ (hv:=by intro w hSw;exact ezi (k:=i) Tryz.underlying77 (l:=(show i<(edsV rs).length by omega)) (f:=(Nat.zero_add _).symm));refine zJ1 (Hp.start _) zb (bs 30 15) 3 _ ?_;refine zg 4 (bs 30 31) ge (i*7) [.int .i64 ex.a.1,.int .i64 ex.a.2] (range_part (H101.out.elem (f:=EdE.cells) (i:=0) rR EdE.len HEX.out) 0 2) Tryz.underlying23 zb ?_;refine zJ2 (Hp.start _) zb (bs 30 127) 5 6 _ (.int .i64 (i:Int)) ?_;refine zu 7 (bs 30 255) (v:= .pointer (some ⟨ge,i*7,none⟩)) zb ?_ (hv:=by intro w hSw;exact ezi (k:=i) Tryz.underlying77 (l:=(show i<(edsV rs).length by omega)) (f:=(Nat.zero_add _).symm));refine mX 8 (bs 30 511) (.pointer (some ⟨ge,i*7+2,none⟩)) zb ?_;refine zg 9 (bs 30 1023) ge (i*7+2) [.int .i64 ex.b.1,.int .i64 ex.b.2] (range_part (H101.out.elem (f:=EdE.cells) (i:=0) rR EdE.len HEX.out) 2 2) Tryz.underlying23 zb ?_;refine zJ2 (Hp.start _) zb (bs 30 4095) 10 11 _ (.int .i64 (k:Int)) ?_;refine zu 12 (bs 30 8191) (v:= .pointer (some ⟨ge,k*7,none⟩)) zb ?_ (hv:=by intro w hSw;exact ezi (k:=k) Tryz.underlying77 (l:=(show k<(edsV rs).length by omega)) (f:=(Nat.zero_add _).symm));refine zJ1 (Hp.start _) zb (bs 30 16383) 13 _ ?_;refine zg 14 (bs 30 32767) ge (k*7) [.int .i64 ey.a.1,.int .i64 ey.a.2] (range_part (H101.out.elem (f:=EdE.cells) (i:=0) rR EdE.len HEY.out) 0 2) Tryz.underlying23 zb ?_;refine zJ2 (Hp.start _) zb (bs 30 131071) 15 16 _ (.int .i64 (k:Int)) ?_;refine zu 17 (bs 30 262143) (v:= .pointer (some ⟨ge,k*7,none⟩)) zb ?_ (hv:=by intro w hSw;exact ezi (k:=k) Tryz.underlying77 (l:=(show k<(edsV rs).length by omega)) (f:=(Nat.zero_add _).symm));refine mX 18 (bs 30 524287) (.pointer (some ⟨ge,k*7+2,none⟩)) zb ?_;refine zg 19 (bs 30 1048575) ge (k*7+2) [.int .i64 ey.b.1,.int .i64 ey.b.2] (range_part (H101.out.elem (f:=EdE.cells) (i:=0) rR EdE.len HEY.out) 2 2) Tryz.underlying23 zb ?_;refine FN.go2 (j1:=⟨25,some 8,30,[.bool false,.slice none 0 0,.bool false,.slice none 0 0]⟩) (j2:=⟨26,some 9,30,[.bool false,.slice none 0 0,.bool false,.slice none 0 0]⟩) (b:=w100) ?_ zb;refine gN 20 (bs 30 2097151) (fk (fk trivial)) zb.size (fun xq hxq=>((segments_any ex.a ex.b ey.a ey.b _ HBX.out.1 HBX.out.2.1 HBY.out.1 HBY.out.2.1).mono (fun _ _ h_=>SegRet.yes h_ HSG.out))) (by rintro x_ e x2_ ⟨r125,s125,rfl,hr_,hs_,hx⟩;exact hx) ?_;rintro xq e w124 hxq ⟨r125,s125,rfl,hr_,hs_,hx⟩;replace hx:=hxq.trans hx;clear hxq;have H126:=zH (H106.out.step hx);have D126:=zH (show Dig w100.drew w124 from Dig.of_ext hx);have S128:=zH (zb.trans hx);have R125:=zH hr_;have S125:=zH hs_;have B125:=zH (rl_segXY HBX.out.1 HBX.out.2.1 HBY.out.1 HBY.out.2.1).1;have C125:=zH (rl_segXY HBX.out.1 HBX.out.2.1 HBY.out.1 HBY.out.2.1).2;clear hr_ hs_ hx;refine⟨_,rfl,?_⟩;try simp only[Act.put,zA,zB,zC]
    refine gT 21 (bs 30 4194303) _ ?_;refine gT 22 (bs 30 8388607) _ ?_;refine gT 23 (bs 30 16777215) _ ?_;refine gT 24 (bs 30 33554431) (.int .i64 1) ?_;refine gE2 (bs 30 134217727) (fk (fk trivial)) S128.out.size H101.out H126.out ?_;intro X133 X134 w135 hx hh hg0 hg1 hs;have H136:=hN hh;have D136:=zH (Dig.of_ext hx);have S138:=zH (show Ext w100 w135 from hs);have G139:=zH (show w100.heap.size<=X133 from hg0);have G140:=zH (show w100.heap.size<=X134 from hg1);clear hh hx hs hg0 hg1;try simp only[Act.put,zA,zB,zC]
    refine bS 2 27 (bs 30 268435455) (rc r125) H136.out S138.out G139.out ?_;intro w141 H142 D142 S144;refine bS 3 28 (bs 30 536870911) (rc s125) H142.out S144.out G140.out ?_;intro w145 H146 D146 S148;refine zx 29 (bs 30 1073741823) (.int .i64 1) S148.out ?_;refine wpAnyH_done kR ?_ _;go_upto_region 11 with fail
    refine wl ?_;refine zq (.int .i64 1) ?_;refine zp (.bool true) (by exact ezq (e:=(dec_t rfl))) ?_;go_upto_region 12 with fail
    refine wl ?_;refine zI4 H146.out _ _ _ _ ?_;refine zp (w':=(w145.alloc (.cells ([.bool r125.n,.slice r125.p r125.l r125.c,.bool r125.m,.slice r125.p2 r125.l2 r125.c2,.bool s125.n,.slice s125.p s125.l s125.c,.bool s125.m,.slice s125.p2 s125.l2 s125.c2]:List Value).toArray 68))) (.slice (some ⟨w145.heap.size,0,none⟩) 1 1) (by go_simp) ?_;refine mv_app rR _ _ _ rR elRR rR H146.out (ix:=1) rR 1 1 [.bool r125.n,.slice r125.p r125.l r125.c,.bool r125.m,.slice r125.p2 r125.l2 r125.c2,.bool s125.n,.slice s125.p s125.l s125.c,.bool s125.m,.slice s125.p2 s125.l2 s125.c2] rR rfl (by simp[Value.oneCell']) (by simp[NoUL]) dC (by unfold maxLen;exact(by have ob0:=HM.out;have ob1:=HM2.out;omega)) (by have ob0:=HM.out;have ob1:=HM2.out;omega) ?_;intro g155 cp156 w154 hf hh hd hg;have Fg155:=zH hf;clear hf;rw[show List.flatMap R2E.cells es2++[.bool r125.n,.slice r125.p r125.l r125.c,.bool r125.m,.slice r125.p2 r125.l2 r125.c2,.bool s125.n,.slice s125.p s125.l s125.c,.bool s125.m,.slice s125.p2 s125.l2 s125.c2]=_ from flat_snoc R2E.cells _ (⟨r125,s125,(segX ex.a ex.b ey.a ey.b),(segY ex.a ex.b ey.a ey.b)⟩:R2E)]at hh;have H157:=hN hh;have D157:=zH (hd);clear hh hd hg;try simp only[Act.put,zA,zB,zC]
    refine zq (.slice (some ⟨g155,0,none⟩) (m2+1) cp156) ?_;have DD160:=tD (tD (tD (tD (tD (tD (tD (tD D81 D90) D101) D106) D126) D136) D142) D146) D157;have DD161:=tD (tD (tD D136 D142) D146) D157;go_upto_region 13 with fail
    refine wl ?_;refine zp (.int .i64 ((i+1:Nat):Int)) (by exact ez1 (by have ob0:=HM.out;have ob1:=HM2.out;omega)) ?_;refine zq (.int .i64 ((i+1:Nat):Int)) ?_;have DD164:=tD (tD (tD (tD (tD (tD (tD (tD (tD D28 D81) D90) D101) D106) D126) D136) D142) D146) D157;go_wp2_with fail
    go_roundg (k-(i+1))
    case measure=>exact(by have ob0:=HM.out;have ob1:=HM2.out;omega)
    case rel=>exact⟨i+1,some ⟨g155,0,none⟩,(m2+1),cp156,es2++[(⟨r125,s125,(segX ex.a ex.b ey.a ey.b),(segY ex.a ex.b ey.a ey.b)⟩:R2E)],rfl,rfl,(by go_num),hik,⟨by rw[HM2.out.1];simp,by have h_:=HM2.out.2;omega⟩,(fun ey_ hey2_=>by obtain rfl:ey=ey_:=Option.some.inj (HEY.out.symm.trans hey2_);rw[List.map_append,HES2.out _ hey2_,crTake_succ HEX.out,show crP ex ey=[(segX ex.a ex.b ey.a ey.b,segY ex.a ex.b ey.a ey.b)]from(if_neg HNO.out).trans (if_pos HSG.out),List.append_assoc];rfl),(fun g_ hg_=>(List.mem_append.1 hg_).elim (fun h_=>(HOE2.out g_ h_).dig DD160.out) (fun h_=>by rw[List.mem_singleton.1 h_];exact⟨(R125.out.dig DD161.out),(S125.out.dig DD161.out),Nat.le_trans B125.out (by decide),Nat.le_trans C125.out (by decide)⟩)),H157.out.take 2,DD164.out⟩
   go_upto_region 10 with fail
   refine zy ?_;have H165:=zH (H101.out.step (Ext.refl w100).drew);have D165:=zH (Dig.of_ext (w:=w100) zb);refine zJ2 (Hp.start _) zb (bs 30 3) 0 1 _ (.int .i64 (i:Int)) ?_;refine zu 2 (bs 30 7) (v:= .pointer (some ⟨ge,i*7,none⟩)) zb ?_ (hv:=by intro w hSw;exact ezi (k:=i) Tryz.underlying77 (l:=(show i<(edsV rs).length by omega)) (f:=(Nat.zero_add _).symm));refine zJ1 (Hp.start _) zb (bs 30 15) 3 _ ?_;refine zg 4 (bs 30 31) ge (i*7) [.int .i64 ex.a.1,.int .i64 ex.a.2] (range_part (H101.out.elem (f:=EdE.cells) (i:=0) rR EdE.len HEX.out) 0 2) Tryz.underlying23 zb ?_;refine zJ2 (Hp.start _) zb (bs 30 127) 5 6 _ (.int .i64 (i:Int)) ?_;refine zu 7 (bs 30 255) (v:= .pointer (some ⟨ge,i*7,none⟩)) zb ?_ (hv:=by intro w hSw;exact ezi (k:=i) Tryz.underlying77 (l:=(show i<(edsV rs).length by omega)) (f:=(Nat.zero_add _).symm));refine mX 8 (bs 30 511) (.pointer (some ⟨ge,i*7+2,none⟩)) zb ?_;refine zg 9 (bs 30 1023) ge (i*7+2) [.int .i64 ex.b.1,.int .i64 ex.b.2] (range_part (H101.out.elem (f:=EdE.cells) (i:=0) rR EdE.len HEX.out) 2 2) Tryz.underlying23 zb ?_;refine zJ2 (Hp.start _) zb (bs 30 4095) 10 11 _ (.int .i64 (k:Int)) ?_;refine zu 12 (bs 30 8191) (v:= .pointer (some ⟨ge,k*7,none⟩)) zb ?_ (hv:=by intro w hSw;exact ezi (k:=k) Tryz.underlying77 (l:=(show k<(edsV rs).length by omega)) (f:=(Nat.zero_add _).symm));refine zJ1 (Hp.start _) zb (bs 30 16383) 13 _ ?_;refine zg 14 (bs 30 32767) ge (k*7) [.int .i64 ey.a.1,.int .i64 ey.a.2] (range_part (H101.out.elem (f:=EdE.cells) (i:=0) rR EdE.len HEY.out) 0 2) Tryz.underlying23 zb ?_;refine zJ2 (Hp.start _) zb (bs 30 131071) 15 16 _ (.int .i64 (k:Int)) ?_;refine zu 17 (bs 30 262143) (v:= .pointer (some ⟨ge,k*7,none⟩)) zb ?_ (hv:=by intro w hSw;exact ezi (k:=k) Tryz.underlying77 (l:=(show k<(edsV rs).length by omega)) (f:=(Nat.zero_add _).symm));refine mX 18 (bs 30 524287) (.pointer (some ⟨ge,k*7+2,none⟩)) zb ?_;refine zg 19 (bs 30 1048575) ge (k*7+2) [.int .i64 ey.b.1,.int .i64 ey.b.2] (range_part (H101.out.elem (f:=EdE.cells) (i:=0) rR EdE.len HEY.out) 2 2) Tryz.underlying23 zb ?_;refine FN.go2 (j1:=⟨25,some 8,30,[.bool false,.slice none 0 0,.bool false,.slice none 0 0]⟩) (j2:=⟨26,some 9,30,[.bool false,.slice none 0 0,.bool false,.slice none 0 0]⟩) (b:=w100) ?_ zb;refine gN 20 (bs 30 2097151) (fk (fk trivial)) zb.size (fun xq hxq=>((segments_any ex.a ex.b ey.a ey.b _ HBX.out.1 HBX.out.2.1 HBY.out.1 HBY.out.2.1).mono (fun _ _ h_=>SegRet.no h_ HSG.out))) (by rintro x_ e x2_ ⟨rfl,hx⟩;exact hx) ?_;rintro xq e w183 hxq ⟨rfl,hx⟩;replace hx:=hxq.trans hx;clear hxq;have H184:=zH (H165.out.step hx);have D184:=zH (show Dig w100.drew w183 from Dig.of_ext hx);have S186:=zH (zb.trans hx);clear hx;refine⟨_,rfl,?_⟩;try simp only[Act.put,zA,zB,zC]
   refine gT 21 (bs 30 4194303) _ ?_;refine gT 22 (bs 30 8388607) _ ?_;refine gT 23 (bs 30 16777215) _ ?_;refine gT 24 (bs 30 33554431) (.int .i64 (segN ex.a ex.b ey.a ey.b)) ?_;refine gE2 (bs 30 134217727) (fk (fk trivial)) S186.out.size H101.out H184.out ?_;intro X191 X192 w193 hx hh hg0 hg1 hs;have H194:=hN hh;have D194:=zH (Dig.of_ext hx);have S196:=zH (show Ext w100 w193 from hs);have G197:=zH (show w100.heap.size<=X191 from hg0);have G198:=zH (show w100.heap.size<=X192 from hg1);clear hh hx hs hg0 hg1;try simp only[Act.put,zA,zB,zC]
   refine bS 2 27 (bs 30 268435455) rz H194.out S196.out G197.out ?_;intro w199 H200 D200 S202;refine bS 3 28 (bs 30 536870911) rz H200.out S202.out G198.out ?_;intro w203 H204 D204 S206;refine zx 29 (bs 30 1073741823) (.int .i64 (segN ex.a ex.b ey.a ey.b)) S206.out ?_;refine wpAnyH_done kR ?_ _;go_upto_region 11 with fail
   refine wl ?_;refine zq (.int .i64 (segN ex.a ex.b ey.a ey.b)) ?_;refine zp (.bool false) (by exact ezq (e:=(dec_f HSG.out))) ?_;go_upto_region 13 with fail
   refine wl ?_;refine zp (.int .i64 ((i+1:Nat):Int)) (by exact ez1 (by have ob0:=HM.out;have ob1:=HM2.out;omega)) ?_;refine zq (.int .i64 ((i+1:Nat):Int)) ?_;have DD212:=tD (tD (tD (tD (tD (tD (tD D81 D90) D101) D165) D184) D194) D200) D204;have DD213:=tD (tD (tD (tD (tD (tD (tD (tD D28 D81) D90) D101) D165) D184) D194) D200) D204;go_wp2_with fail
   go_roundg (k-(i+1))
   case measure=>exact(by have ob0:=HM.out;have ob1:=HM2.out;omega)
   case rel=>exact⟨i+1,A2,m2,c2,es2,rfl,rfl,(by go_num),hik,⟨HM2.out.1,by have h_:=HM2.out.2;omega⟩,(fun ey_ hey2_=>by obtain rfl:ey=ey_:=Option.some.inj (HEY.out.symm.trans hey2_);rw[HES2.out _ hey2_,crTake_succ HEX.out,show crP ex ey=[]from(if_neg HNO.out).trans (if_neg HSG.out),List.append_nil]),(fun g_ hg_=>(HOE2.out g_ hg_).dig DD212.out),H204.out.take 2,DD213.out⟩
  have hik:=HIK.out;have hki:=HKI.out;obtain rfl:i=k:=by omega
  go_upto_region 7 with fail
  refine wl ?_;refine zp (.bool false) (by exact ezl (e:=(dec_f (Int.lt_irrefl _)))) ?_;go_upto_region 14 with fail
  refine wl ?_;refine zp (.int .i64 ((i+1:Nat):Int)) (by exact ez1 (by have ob0:=HM.out;omega)) ?_;refine zq (.int .i64 ((i+1:Nat):Int)) ?_;have DD217:=tD D17 D28;go_wp2_with fail
  go_roundg ((edsV rs).length-(i+1))
  case measure=>exact(by have ob0:=HM.out;omega)
  case rel=>exact⟨i+1,A2,m2,c2,es2,rfl,rfl,(by go_num),hlt,⟨HM2.out.1,by have h_:=HM2.out.2;omega⟩,(by rw[HES2.out _ (List.getElem?_eq_getElem hlt),crRange_succ (List.getElem?_eq_getElem hlt)]),(fun g_ hg_=>(HOE2.out g_ hg_)),H28.out,DD217.out⟩
 have hlt:=HLT.out;have hkn:=HKN.out;obtain rfl:k=(edsV rs).length:=by omega
 go_upto_region 4 with fail
 refine wl ?_;refine zp (.bool false) (by exact ezl (e:=(dec_f (Int.lt_irrefl _)))) ?_;have hmm:m<=16777216:=by have h_:=HM.out.2;omega
 go_upto_region 15 with fail
 refine wl ?_;refine zI1 (Hp.start _) _ ?_;refine zc (sortR2_any 24 dC (fun w_ e_ f_ h1_ h2_=>compare2_any 24 dC w_ e_ f_ h1_ h2_) (.slice A1 m c1) es _ _ (by have h_:=H17.out.row (i:=1) rR;rw[HM.out.1]at h_⊢;exact h_) (fun g_ hg_=>(HOE.out g_ hg_)) (by have h_:=HM.out.1;omega)) ?_;rintro e w220 ⟨rfl,es1,hp_,hs_,hr_,hg_,hd_⟩;have HPS:=zH (And.intro hp_ hs_);rw[hp_.length_eq,<-HM.out.1]at hr_;have H221:=zH (show Hp w w220 [ro 81 7 Ae ((edsV rs).length) ce EdE.cells (edsV rs),ro 68 8 A1 m c1 R2E.cells es1]from H17.out.turn (i:=1) (e:= .row 68 8 (.slice A1 m c1) (m) (List.flatMap R2E.cells es)) (e':= .row 68 8 (.slice A1 m c1) (m) (List.flatMap R2E.cells es1)) (by rfl) (fun k h=>h) hg_ hr_ (fun k hk=> .inl hk));have HOS1:=zH (show∀e,e∈es1->e.Ok 24 w220 from fun e he=>((HOE.out e (hp_.mem_iff.1 he))).dig hd_);have HL1:=zH (show es1.length=m from hp_.length_eq.trans HM.out.1.symm);clear hp_ hs_ hr_ hg_ hd_;have hx:=True.intro;clear hx;refine zn ?_;go_upto_region 16 with fail
 refine wl ?_;refine zI1 (Hp.start _) _ ?_;refine zc (cptR2_any 24 dC (.slice A1 m c1) es1 _ _ (by have h_:=H221.out.row (i:=1) rR;exact(congrArg (fun n_=>RowN _ _ 68 8 (.slice A1 m c1) n_ (List.flatMap R2E.cells es1)) HL1.out).mpr h_) H221.out.ext.size HOS1.out (by have h_:=HL1.out;omega)) ?_;rintro e w224 ⟨v_,rfl,hr_,hg_,hd_,ho_⟩;obtain⟨ps,hps_⟩:∃ps,ps=compactV (fun x y:R2E=>decide (x.vl=y.vl)) es1:=⟨_,rfl⟩;rw[<-hps_]at hr_;obtain⟨A3,c3,rfl,hf_⟩:=hr_.form;have HF3:=zH hf_;have HPS2:=zH (sort_cpt HPS.out.1 HPS.out.2);rw[<-hps_]at HPS2;have HOP:=zH (show∀e,e∈ps->e.Ok 24 w224 from fun e he=>(HOS1.out e (compactV_sub _ (by rw[<-hps_];exact he))).dig hd_);have hpl:ps.length<=16777216:=by have h_:=compactV_le (fun x y:R2E=>decide (x.vl=y.vl)) es1;rw[<-hps_,HL1.out]at h_;omega
 have H225:=zH (show Hp w w224 [ro 81 7 Ae ((edsV rs).length) ce EdE.cells (edsV rs),ro 68 8 A3 ps.length c3 R2E.cells ps]from H221.out.turn (i:=1) (e:= .row 68 8 (.slice A1 m c1) (m) (List.flatMap R2E.cells es1)) (e':= .row 68 8 (.slice A3 ps.length c3) (ps.length) (List.flatMap R2E.cells ps)) (by rfl) (fun k h=>h) hg_ hr_ (fun k hk=> .inl (by have h_:Value.ownBlock (.slice A3 ps.length c3)=some k:=hk;rw[ho_]at h_;exact h_)));clear hr_ hg_ hd_ ho_ hf_ hps_;have hx:=True.intro;clear hx;refine zn ?_;refine zI1 (Hp.start _) _ ?_;go_upto_region 17 with fail
 refine wl ?_;refine zI1 (Hp.start _) _ ?_;have H229:=zH (show Hp w w224 [ro 81 7 Ae ((edsV rs).length) ce EdE.cells (edsV rs),ro 68 8 A3 ps.length c3 R2E.cells ps,ro 67 1 none 0 0 OnE.cells ([])]from H225.out.addNil 67 1);go_upto_region 18 with fail
 refine wl ?_;refine zI3 (Hp.start _) _ (.int .i64 ((ps.length:Nat):Int)) _ ?_;go_wp2_with fail
 go_loopg [11,89] (ps.length) (fun cq v233 v234 wr=>∃(k:Nat) (A4:Option Addr) (c4:Nat) (os:List OnE),cq=ps.length-k/\v233= .slice A4 k c4/\v234= .int .i64 (k:Int)/\(k<=ps.length)/\(os.map OnE.l=(ps.take k).map (fun e=>onV (edsV rs) e.vl))/\(os.length=k)/\(∀o,o∈os->o.Ok w.heap.size wr)/\Hp w wr [.row 81 7 (.slice Ae ((edsV rs).length) ce) ((edsV rs).length) (List.flatMap EdE.cells (edsV rs)),.row 68 8 (.slice A3 ps.length c3) (ps.length) (List.flatMap R2E.cells ps),.row 67 1 (.slice A4 k c4) (k) (List.flatMap OnE.cells os)]/\Dig w224 wr)
 case atStart=>exact⟨0,none,0,[],rfl,rfl,rfl,Nat.zero_le _,rfl,rfl,(fun o_ ho_=>by cases ho_),H229.out,Dig.refl _⟩
 obtain⟨k,A4,c4,os,rfl,rfl,rfl,q_HKP,q_HOS,q_HOL,q_HOK4,hh_,hd_⟩:=hrel;generalize wr=w235 at*
 have HKP:=zH q_HKP;clear q_HKP;have HOS:=zH q_HOS;clear q_HOS;have HOL:=zH q_HOL;clear q_HOL;have HOK4:=zH q_HOK4;clear q_HOK4;have H237:=zH hh_;have D237:=zH hd_;clear hh_ hd_ H229;rcases emH (k<ps.length)with HLT|HLT
 ·have hlt:=HLT.out
  obtain⟨pe,hpe_⟩:∃x,ps[k]?=some x:=⟨_,List.getElem?_eq_getElem hlt⟩;have HPE:=zH hpe_;have HOE_:=zH (HOP.out pe (List.mem_of_getElem? hpe_));clear hpe_;obtain⟨gp,rfl⟩:=HF3.out (by omega);go_upto_region 19 with fail
  refine wl ?_;refine zp (.bool true) (by exact ezl (e:=(dec_t (by omega)))) ?_;have HB:=H237;have HEP:=zH (H237.out.elem (f:=R2E.cells) (i:=1) (by rfl) R2E.len HPE.out);have HK0:=zH (Hp.start w235);have OKP:=zH (HOE_.out.dig D237.out);have RPa:=zH OKP.out.1;have RPb:=zH OKP.out.2.1;have BRPa:=zH OKP.out.2.2.1;have BRPb:=zH OKP.out.2.2.2;go_upto_region 20 with fail
  refine wl ?_;refine zp (.pointer (some ⟨gp,k*8,none⟩)) (by exact ezi (k:=k) Tryz.underlying46 (l:=hlt) (f:=(Nat.zero_add _).symm)) ?_;refine zd gp (k*8) [.bool pe.a.n,.slice pe.a.p pe.a.l pe.a.c,.bool pe.a.m,.slice pe.a.p2 pe.a.l2 pe.a.c2,.bool pe.b.n,.slice pe.b.p pe.b.l pe.b.c,.bool pe.b.m,.slice pe.b.p2 pe.b.l2 pe.b.c2] (range_ext HEP.out HK0.out.ext) Tryz.underlying68 ?_;refine aA' 68 [.bool false,.slice none 0 0,.bool false,.slice none 0 0,.bool false,.slice none 0 0,.bool false,.slice none 0 0] HK0.out ?_;intro X242 w243 H244 D244;refine aS' 0 [.bool pe.a.n,.slice pe.a.p pe.a.l pe.a.c,.bool pe.a.m,.slice pe.a.p2 pe.a.l2 pe.a.c2,.bool pe.b.n,.slice pe.b.p pe.b.l pe.b.c,.bool pe.b.m,.slice pe.b.p2 pe.b.l2 pe.b.c2] H244.out ?_;intro w247 H248 D248;go_upto_region 21 with fail
  refine wl ?_;refine zI1 (Hp.start _) _ ?_;have H251:=zH (show Hp w235 w247 [.blk X242 68 [.bool pe.a.n,.slice pe.a.p pe.a.l pe.a.c,.bool pe.a.m,.slice pe.a.p2 pe.a.l2 pe.a.c2,.bool pe.b.n,.slice pe.b.p pe.b.l pe.b.c,.bool pe.b.m,.slice pe.b.p2 pe.b.l2 pe.b.c2],ro 3 1 none 0 0 iC ([])]from H248.out.addNil 3 1);go_upto_region 22 with fail
  refine wl ?_;refine zI3 (Hp.start _) _ (.int .i64 (((edsV rs).length:Nat):Int)) _ ?_;go_wp2_with fail
  go_loopg [14,95] ((edsV rs).length) (fun cq v255 v256 wr=>∃(i:Nat) (A5:Option Addr) (n5:Nat) (c5:Nat) (is:List Nat),cq=((edsV rs).length)-i/\v255= .slice A5 n5 c5/\v256= .int .i64 (i:Int)/\(i<=(edsV rs).length)/\(n5=is.length/\n5<=i)/\(is=(List.range i).filter (onAt (edsV rs) pe.vl))/\Hp w235 wr [.blk X242 68 [.bool pe.a.n,.slice pe.a.p pe.a.l pe.a.c,.bool pe.a.m,.slice pe.a.p2 pe.a.l2 pe.a.c2,.bool pe.b.n,.slice pe.b.p pe.b.l pe.b.c,.bool pe.b.m,.slice pe.b.p2 pe.b.l2 pe.b.c2],.row 3 1 (.slice A5 n5 c5) (n5) (List.flatMap iC is)]/\Dig w247 wr)
  case atStart=>exact⟨0,none,0,0,[],rfl,rfl,rfl,Nat.zero_le _,⟨rfl,Nat.zero_le _⟩,rfl,H251.out,Dig.refl _⟩
  obtain⟨i,A5,n5,c5,is,rfl,rfl,rfl,q_HIN,q_HI5,q_HIS,hh_,hd_⟩:=hrel;generalize wr=w257 at*
  have HIN:=zH q_HIN;clear q_HIN;have HI5:=zH q_HI5;clear q_HI5;have HIS:=zH q_HIS;clear q_HIS;have H259:=zH hh_;have D259:=zH hd_;clear hh_ hd_ H251;rcases emH (i<(edsV rs).length)with HIU|HIU
  ·have hiu:=HIU.out
   obtain⟨ge,rfl⟩:=HFE.out (by omega);obtain⟨ex,hex_⟩:∃x,(edsV rs)[i]?=some x:=⟨_,List.getElem?_eq_getElem hiu⟩;have HEX:=zH hex_;have HBX:=zH (edsV_bd HN.out ex (List.mem_of_getElem? hex_));have HEL:=zH (HB.out.elem (f:=EdE.cells) (i:=0) (by rfl) EdE.len hex_);clear hex_;go_upto_region 23 with fail
   refine wl ?_;refine zp (.bool true) (by exact ezl (e:=(dec_t (by have ob0:=HI5.out;omega)))) ?_;go_upto_region 24 with fail
   refine wl ?_;refine zq (.int .i64 (i:Int)) ?_;refine zp (.pointer (some ⟨ge,i*7,none⟩)) (by exact ezi (k:=i) Tryz.underlying77 (l:=hiu) (f:=(Nat.zero_add _).symm)) ?_;refine zd ge (i*7) [.int .i64 ex.a.1,.int .i64 ex.a.2,.int .i64 ex.b.1,.int .i64 ex.b.2,.int .i64 ((ex.r:Nat):Int),.int .i64 ((ex.i:Nat):Int),.int .i64 ((ex.n:Nat):Int)] (range_ext HEL.out H259.out.ext) Tryz.underlying81 ?_;refine aA' 81 [.int .i64 0,.int .i64 0,.int .i64 0,.int .i64 0,.int .i64 0,.int .i64 0,.int .i64 0] H259.out ?_;intro X264 w265 H266 D266;refine zq (.int .i64 (i:Int)) ?_;refine aS' 2 [.int .i64 ex.a.1,.int .i64 ex.a.2,.int .i64 ex.b.1,.int .i64 ex.b.2,.int .i64 ((ex.r:Nat):Int),.int .i64 ((ex.i:Nat):Int),.int .i64 ((ex.n:Nat):Int)] H266.out ?_;intro w270 H271 D271;rcases emH (conC ex pe.vl)with HCN|HCN
   ·go_upto_region 25 with fail
    refine wl ?_;refine zI2 H271.out _ _ ?_;have DD275:=tD (tD (tD (tD D244 D248) D259) D266) D271;refine zc (contains17_any 24 dC ex pe _ HBX.out (OKP.out.dig DD275.out)) ?_;rintro e w274 ⟨rfl,hx⟩;have H276:=zH (H271.out.step hx);have D276:=zH (Dig.of_ext hx);clear hx;refine⟨.bool true,by rw[decide_eq_true HCN.out],?_⟩;try simp only[Act.put,zA,zB,zC]
    go_upto_region 26 with fail
    refine wl ?_;refine zI2 (Hp.start _) _ (.int .i64 (i:Int)) ?_;refine zp (w':=(w274.alloc (.cells ([.int .i64 (i:Int)]:List Value).toArray 3))) (.slice (some ⟨w274.heap.size,0,none⟩) 1 1) (by go_simp) ?_;refine mv_app rR _ _ _ rR elInt rR H276.out (ix:=1) rR 1 1 [.int .i64 (i:Int)] rR rfl (by simp[Value.oneCell']) (by simp[NoUL]) dC (by unfold maxLen;exact(by have ob0:=HI5.out;omega)) (by have ob0:=HI5.out;omega) ?_;intro g281 cp282 w280 hf hh hd hg;have Fg281:=zH hf;clear hf;rw[show List.flatMap iC is++[.int .i64 (i:Int)]=_ from flat_snoc iC _ i]at hh;have H283:=hN hh;have D283:=zH (hd);clear hh hd hg;try simp only[Act.put,zA,zB,zC]
    refine zq (.slice (some ⟨g281,0,none⟩) (n5+1) cp282) ?_;go_upto_region 27 with fail
    refine wl ?_;refine zp (.int .i64 ((i+1:Nat):Int)) (by exact ez1 (by have ob0:=HI5.out;omega)) ?_;refine zq (.int .i64 ((i+1:Nat):Int)) ?_;have DD288:=tD (tD (tD (tD D259 D266) D271) D276) D283;go_wp2_with fail
    go_roundg ((edsV rs).length-(i+1))
    case measure=>exact(by have ob0:=HI5.out;omega)
    case rel=>exact⟨i+1,some ⟨g281,0,none⟩,(n5+1),cp282,is++[i],rfl,rfl,(by go_num),hiu,⟨by rw[HI5.out.1];simp,by have h_:=HI5.out.2;omega⟩,(by rw[HIS.out,onV_succ HEX.out,if_pos HCN.out]),H283.out.take 2,DD288.out⟩
   go_upto_region 25 with fail
   refine wl ?_;refine zI2 H271.out _ _ ?_;have DD290:=tD (tD (tD (tD D244 D248) D259) D266) D271;refine zc (contains17_any 24 dC ex pe _ HBX.out (OKP.out.dig DD290.out)) ?_;rintro e w289 ⟨rfl,hx⟩;have H291:=zH (H271.out.step hx);have D291:=zH (Dig.of_ext hx);clear hx;refine⟨.bool false,by rw[decide_eq_false HCN.out],?_⟩;try simp only[Act.put,zA,zB,zC]
   go_upto_region 27 with fail
   refine wl ?_;refine zp (.int .i64 ((i+1:Nat):Int)) (by exact ez1 (by have ob0:=HI5.out;omega)) ?_;refine zq (.int .i64 ((i+1:Nat):Int)) ?_;have DD295:=tD (tD (tD D259 D266) D271) D291;go_wp2_with fail
   go_roundg ((edsV rs).length-(i+1))
   case measure=>exact(by have ob0:=HI5.out;omega)
   case rel=>exact⟨i+1,A5,n5,c5,is,rfl,rfl,(by go_num),hiu,⟨HI5.out.1,by have h_:=HI5.out.2;omega⟩,(by rw[HIS.out,onV_succ HEX.out,if_neg HCN.out,List.append_nil]),H291.out.take 2,DD295.out⟩
  have hiu:=HIU.out;have hiN:=HIN.out;obtain rfl:i=(edsV rs).length:=by omega
  go_upto_region 23 with fail
  refine wl ?_;refine zp (.bool false) (by exact ezl (e:=(dec_f (Int.lt_irrefl _)))) ?_;have hn5:=HI5.out.1;subst hn5;have HRI:=zH (show(⟨A5,c5,is⟩:OnE).Ok w.heap.size w257 from(H259.out.row (i:=1) (by rfl)).low HB.out.ext.size);have HXX:=zH (HB.out.step H259.out.ext);have HFZ:=zH (fun o_ ho_=>(HOK4.out o_ ho_).ext H259.out.ext);have HDX:=zH (Dig.of_ext H259.out.ext);go_upto_region 28 with fail
  refine wl ?_;refine zI2 (Hp.start _) _ _ ?_;refine zp (w':=(w257.alloc (.cells ([.slice A5 is.length c5]:List Value).toArray 67))) (.slice (some ⟨w257.heap.size,0,none⟩) 1 1) (by go_simp) ?_;refine mv_app rR _ _ _ rR elInts rR HXX.out (ix:=2) rR 1 1 [.slice A5 is.length c5] rR rfl (by simp[Value.oneCell']) (by simp[NoUL]) dC (by unfold maxLen;exact(by omega)) (by omega) ?_;intro g301 cp302 w300 hf hh hd hg;have Fg301:=zH hf;clear hf;rw[show List.flatMap OnE.cells os++[.slice A5 is.length c5]=_ from flat_snoc OnE.cells _ (⟨A5,c5,is⟩:OnE)]at hh;have H303:=hN hh;have D303:=zH (hd);have K305:=zH (show Fr (fun kz=>Value.ownBlock (.slice A4 k c4)=some kz) w257 w300 from((Fr.of_ext (G:=fun kz=>Value.ownBlock (.slice A4 k c4)=some kz) (Ext.refl w257)).trans (Fr.of_ext ((Ext.refl _).alloc _))).trans_new hg (fun j hj=> .inl hj));clear hh hd hg;try simp only[Act.put,zA,zB,zC]
  refine zq (.slice (some ⟨g301,0,none⟩) (k+1) cp302) ?_;go_upto_region 29 with fail
  refine wl ?_;refine zp (.int .i64 ((k+1:Nat):Int)) (by exact ez1 (by omega)) ?_;refine zq (.int .i64 ((k+1:Nat):Int)) ?_;go_wp2_with fail
  go_roundg (ps.length-(k+1))
  case measure=>exact(by omega)
  case rel=>exact⟨k+1,some ⟨g301,0,none⟩,cp302,os++[(⟨A5,c5,is⟩:OnE)],rfl,rfl,(by go_num),hlt,(by rw[List.map_append,HOS.out,take_map_succ HPE.out];rw[show is=onV (edsV rs) pe.vl from HIS.out];rfl),(by rw[List.length_append,HOL.out];rfl),(fun o_ ho_=>(List.mem_append.1 ho_).elim (fun h_=>(HFZ.out o_ h_).fr HXX.out (ix:=2) (by rfl) K305.out) (fun h_=>by rw[List.mem_singleton.1 h_];exact HRI.out.fr HXX.out (ix:=2) (by rfl) K305.out)),H303.out,((D237.out).trans (HDX.out.trans D303.out))⟩
 have hlt:=HLT.out;have hkp:=HKP.out;obtain rfl:k=ps.length:=by omega
 go_upto_region 19 with fail
 refine wl ?_;refine zp (.bool false) (by exact ezl (e:=(dec_f (Int.lt_irrefl _)))) ?_;go_upto_region 30 with fail
 refine wl ?_;refine zI4 (Hp.start _) _ _ _ _ ?_;have hol:=HOL.out;go_wp2_with fail
 go_ret2
 exact⟨_,_,ps,os,rfl,H237.out.row (i:=1) (by rfl),HPS2.out.1,fun q_=>(HPS2.out.2.1 q_).trans (by rw[HES.out];exact Iff.rfl),(fun g_ hg_=>(HOP.out g_ hg_).dig D237.out),(by have h_:=H237.out.row (i:=2) (by rfl);rw[<-hol]at h_⊢;exact h_),(by rw[HOS.out,List.take_length]),HOK4.out,H237.out.ext⟩
end Go.Proofs.YtiokhlgdelipdaaGreat
namespace Go.Proofs.YtiokhlgdelipdaaGreat
open Go.RowKit
theorem lessB_iff {a b:Int×Int}:lessB a b=true↔a.2<b.2\/(a.2=b.2/\a.1<b.1):=by
  unfold lessB;simp
theorem less_or {a b:Int×Int}(h:¬lessB a b=true)(k:¬lessB b a=true):a=b:=by
  rw[lessB_iff]at h k;exact Prod.ext (by omega) (by omega)
theorem less_asym {a b:Int×Int}(h:lessB a b=true):¬lessB b a=true:=by
  rw[lessB_iff]at h⊢;omega
theorem shL_swap (a b c d:Int×Int):shL c d a b=shL a b c d:=by
  unfold shL;by_cases h:lessB (endL a b) (endL c d)=true
  · rw[if_pos h,if_neg (less_asym h)]
  by_cases k:lessB (endL c d) (endL a b)=true
  · rw[if_neg h,if_pos k]
  rw[if_neg h,if_neg k,less_or h k]
theorem shH_swap (a b c d:Int×Int):shH c d a b=shH a b c d:=by
  unfold shH;by_cases h:lessB (endH a b) (endH c d)=true
  · rw[if_pos h,if_neg (less_asym h)]
  by_cases k:lessB (endH c d) (endH a b)=true
  · rw[if_neg h,if_pos k]
  rw[if_neg h,if_neg k,less_or h k]
theorem shared_swap (a b c d:Int×Int):sharedV c d a b=sharedV a b c d:=by unfold sharedV;rw[shL_swap,shH_swap]
theorem cr_neg {u v:Int×Int}:cr u v= -cr v u:=by unfold cr;grind
theorem cast_neg_div (x y:Int):(((-x:Int)):Rat)/(((-y:Int)):Rat)=(x:Rat)/(y:Rat):=by
  rw[Rat.intCast_neg,Rat.intCast_neg];by_cases h:(y:Rat)=0
  · rw[h];simp[Rat.div_def]
  grind
theorem segT_swap (a b c d:Int×Int):segT c d a b=segS a b c d:=by
  unfold segT segS;rw[show cr (dv c a) (dv a b)= -cr (dv a c) (dv a b)by unfold cr dv;grind,show cr (dv c d) (dv a b)= -cr (dv a b) (dv c d)from cr_neg,cast_neg_div]
theorem segS_swap (a b c d:Int×Int):segS c d a b=segT a b c d:=by
  unfold segT segS;rw[show cr (dv c a) (dv c d)= -cr (dv a c) (dv c d)by unfold cr dv;grind,show cr (dv c d) (dv a b)= -cr (dv a b) (dv c d)from cr_neg,cast_neg_div]
theorem dv_zero {a b:Int×Int}:dv a b=(0,0)↔a=b:=by
  unfold dv;constructor
  · intro h;injection h with h1 h2;exact Prod.ext (by omega) (by omega)
  intro h;subst h;simp
theorem line_zero {a b c d:Int×Int}:lineV a b c d=(0,0)↔a=b/\c=d:=by
  unfold lineV;split
  · rename_i h;rw[dv_zero]at h;rw[dv_zero];exact⟨fun k=>⟨h,k⟩,fun k=>k.2⟩
  rename_i h;exact⟨fun k=>absurd k h,fun k=>absurd (dv_zero.2 k.1) h⟩
def offL (a b c d:Int×Int):Prop:=cr (lineV a b c d) (dv a c)≠0\/(lineV a b c d=(0,0)/\a≠c)
theorem par_cr {u v z:Int×Int}(hu:u≠(0,0))(h:cr u v=0)(k:cr u z=0):cr v z=0:=by
  obtain⟨u1,u2⟩:=u;obtain⟨v1,v2⟩:=v;obtain⟨z1,z2⟩:=z;unfold cr at h k⊢;dsimp only at h k⊢
  have hu2:u1≠0\/u2≠0:=by
    by_cases e:u1=0
    · right;intro e2;exact hu (by rw[e,e2])
    exact .inl e
  rcases hu2 with e|e
  · have:u1*(v1*z2-v2*z1)=0:=by grind
    exact(Int.mul_eq_zero.1 this).resolve_left e
  have:u2*(v1*z2-v2*z1)=0:=by grind
  exact(Int.mul_eq_zero.1 this).resolve_left e
theorem offL_swap1 {a b c d:Int×Int}(h0:cr (dv a b) (dv c d)=0)(h:offL c d a b):offL a b c d:=by
 unfold offL at h⊢;rcases h with h|⟨h1,h2⟩
 ·left
  intro k;apply h;have hz:cr (lineV a b c d) (dv c a)=0:=by
   have:cr (lineV a b c d) (dv c a)= -cr (lineV a b c d) (dv a c):=by unfold cr dv;grind
   omega
  by_cases e1:dv a b=(0,0)
  ·have e3:lineV a b c d=dv c d:=if_pos e1
   rw[e3]at hz;by_cases e2:dv c d=(0,0)
   ·rw[show lineV c d a b=dv a b from if_pos e2,e1];unfold cr;simp
   rw[show lineV c d a b=dv c d from if_neg e2];exact hz
  have e3:lineV a b c d=dv a b:=if_neg e1;rw[e3]at hz;by_cases e2:dv c d=(0,0)
  ·rw[show lineV c d a b=dv a b from if_pos e2];exact hz
  rw[show lineV c d a b=dv c d from if_neg e2];exact par_cr e1 h0 hz
 rw[line_zero]at h1;exact .inr ⟨line_zero.2 ⟨h1.2,h1.1⟩,fun e=>h2 e.symm⟩
theorem offL_swap {a b c d:Int×Int}(h0:cr (dv a b) (dv c d)=0):offL c d a b↔offL a b c d:=
  ⟨offL_swap1 h0,offL_swap1 (by rw[cr_neg,h0];rfl)⟩
theorem segN_l {a b c d:Int×Int}(h:cr (dv a b) (dv c d)=0):segN a b c d=(open Classical in if offL a b c d then 0 else(sharedV a b c d).2):=by
  unfold segN;rw[if_neg (by simpa using h)];by_cases k:offL a b c d
  · rw[if_pos k];exact if_pos k
  rw[if_neg k];exact if_neg k
theorem segN_p {a b c d:Int×Int}(h:cr (dv a b) (dv c d)≠0):segN a b c d=if inU (segT a b c d)/\inU (segS a b c d)then 1 else 0:=if_pos h
theorem segN_swap (a b c d:Int×Int):segN c d a b=segN a b c d:=by
  by_cases h:cr (dv a b) (dv c d)=0
  · rw[segN_l h,segN_l (by rw[cr_neg,h];rfl),shared_swap]
    by_cases k:offL a b c d
    · rw[if_pos k,if_pos ((offL_swap h).2 k)]
    rw[if_neg k,if_neg (fun e=>k ((offL_swap h).1 e))]
  rw[segN_p h,segN_p (by rw[cr_neg];omega),segT_swap a b c d,segS_swap a b c d];by_cases k:inU (segT a b c d)/\inU (segS a b c d)
  · rw[if_pos k,if_pos k.symm]
  rw[if_neg k,if_neg (fun e=>k e.symm)]
theorem cr_rat {u v:Int×Int}:((cr u v:Int):Rat)=(u.1:Rat)*(v.2:Rat)-(u.2:Rat)*(v.1:Rat):=by unfold cr;rw[Rat.intCast_sub,Rat.intCast_mul,Rat.intCast_mul]
theorem dv1 (a b:Int×Int):(((dv a b).1:Int):Rat)=(b.1:Rat)-(a.1:Rat):=by unfold dv;rw[Rat.intCast_sub]
theorem dv2 (a b:Int×Int):(((dv a b).2:Int):Rat)=(b.2:Rat)-(a.2:Rat):=by unfold dv;rw[Rat.intCast_sub]
theorem pt_swap {a b c d:Int×Int}(h:cr (dv a b) (dv c d)≠0):
  (c.1:Rat)+segS a b c d*((d.1-c.1:Int):Rat)=(a.1:Rat)+segT a b c d*((b.1-a.1:Int):Rat)/\(c.2:Rat)+segS a b c d*((d.2-c.2:Int):Rat)=(a.2:Rat)+segT a b c d*((b.2-a.2:Int):Rat):=by
 have h2:((cr (dv a b) (dv c d):Int):Rat)≠0:=fun e=>h (by exact_mod_cast e)
 unfold segS segT;rw[Rat.intCast_sub,Rat.intCast_sub,Rat.intCast_sub,Rat.intCast_sub];simp only[cr_rat,dv1,dv2]at h2⊢;generalize (a.1:Rat)=a1 at*
 generalize (a.2:Rat)=a2 at*
 generalize (b.1:Rat)=b1 at*
 generalize (b.2:Rat)=b2 at*
 generalize (c.1:Rat)=c1 at*
 generalize (c.2:Rat)=c2 at*
 generalize (d.1:Rat)=d1 at*
 generalize (d.2:Rat)=d2 at*
 constructor<;>grind
theorem segX_swap {a b c d:Int×Int}:segX c d a b=segX a b c d:=by
  unfold segX;by_cases h:cr (dv a b) (dv c d)=0
  · rw[if_neg (by rw[cr_neg,h];decide),if_neg (by rw[h];decide),shared_swap]
  rw[if_pos (by rw[cr_neg];omega),if_pos h,segT_swap];exact(pt_swap h).1
theorem segY_swap {a b c d:Int×Int}:segY c d a b=segY a b c d:=by
  unfold segY;by_cases h:cr (dv a b) (dv c d)=0
  · rw[if_neg (by rw[cr_neg,h];decide),if_neg (by rw[h];decide),shared_swap]
  rw[if_pos (by rw[cr_neg];omega),if_pos h,segT_swap];exact(pt_swap h).2
def onC (a b:Int×Int)(x y:Rat):Prop:=
  (x-(a.1:Rat))*((b.2-a.2:Int):Rat)=(y-(a.2:Rat))*((b.1-a.1:Int):Rat)/\(((min a.1 b.1:Int):Rat)<=x/\x<=((max a.1 b.1:Int):Rat))/\(((min a.2 b.2:Int):Rat)<=y/\y<=((max a.2 b.2:Int):Rat))
theorem lerp_bd {p q:Int}{t:Rat}(h:inU t):((min p q:Int):Rat)<=(p:Rat)+t*((q-p:Int):Rat)/\(p:Rat)+t*((q-p:Int):Rat)<=((max p q:Int):Rat):=by
 unfold inU at h;have h1:(0:Rat)<=t:=by have:=Rat.not_lt.1 h.1;simpa using this
 have h2:t<=1:=by have:=Rat.not_lt.1 h.2;simpa using this
 rw[Rat.intCast_sub];rcases Int.le_total p q with k|k
 ·rw[Int.min_eq_left k,Int.max_eq_right k]
  have k2:(p:Rat)<=(q:Rat):=by exact_mod_cast k
  have m1:=Rat.mul_nonneg h1 (show(0:Rat)<=(q:Rat)-(p:Rat)by grind);have m2:=Rat.mul_nonneg (show(0:Rat)<=1-t by grind) (show(0:Rat)<=(q:Rat)-(p:Rat)by grind);constructor<;>grind
 rw[Int.min_eq_right k,Int.max_eq_left k];have k2:(q:Rat)<=(p:Rat):=by exact_mod_cast k
 have m1:=Rat.mul_nonneg h1 (show(0:Rat)<=(p:Rat)-(q:Rat)by grind);have m2:=Rat.mul_nonneg (show(0:Rat)<=1-t by grind) (show(0:Rat)<=(p:Rat)-(q:Rat)by grind);constructor<;>grind
theorem onC_lerp {a b:Int×Int}{t:Rat}(h:inU t):onC a b ((a.1:Rat)+t*((b.1-a.1:Int):Rat)) ((a.2:Rat)+t*((b.2-a.2:Int):Rat)):=
  ⟨by grind,lerp_bd h,lerp_bd h⟩
def onI (a b p:Int×Int):Prop:=cr (dv a b) (dv a p)=0/\(min a.1 b.1<=p.1/\p.1<=max a.1 b.1)/\(min a.2 b.2<=p.2/\p.2<=max a.2 b.2)
theorem onI_onC {a b p:Int×Int}(h:onI a b p):onC a b (p.1:Rat) (p.2:Rat):=by
  obtain⟨h1,⟨h2,h3⟩,h4,h5⟩:=h;refine⟨?_,⟨by exact_mod_cast h2,by exact_mod_cast h3⟩,by exact_mod_cast h4,by exact_mod_cast h5⟩;have h6:(p.1-a.1)*(b.2-a.2)=(p.2-a.2)*(b.1-a.1):=by unfold cr dv at h1;grind
  have h7:(((p.1-a.1)*(b.2-a.2):Int):Rat)=(((p.2-a.2)*(b.1-a.1):Int):Rat):=by rw[h6]
  rw[Rat.intCast_mul,Rat.intCast_mul,Rat.intCast_sub p.1,Rat.intCast_sub p.2]at h7;exact h7
def leL (a b:Int×Int):Prop:=a.2<b.2\/(a.2=b.2/\a.1<=b.1)
theorem leL_iff {a b:Int×Int}:leL a b↔¬lessB b a=true:=by rw[lessB_iff];unfold leL;omega
theorem leL_trans {a b c:Int×Int}(h:leL a b)(k:leL b c):leL a c:=by unfold leL at*;omega
theorem endL_or (a b:Int×Int):(leL a b/\endL a b=a/\endH a b=b)\/(leL b a/\endL a b=b/\endH a b=a):=by
  unfold endL endH;by_cases h:lessB b a=true
  · rw[if_pos h,if_pos h];right;refine⟨?_,rfl,rfl⟩;rw[lessB_iff]at h;unfold leL;omega
  rw[if_neg h,if_neg h];left;exact⟨leL_iff.2 h,rfl,rfl⟩
theorem shL_or (a b c d:Int×Int):leL (endL a b) (shL a b c d)/\leL (endL c d) (shL a b c d)/\(shL a b c d=endL a b\/shL a b c d=endL c d):=by
  have r:∀x:Int×Int,leL x x:=fun x=> .inr ⟨rfl,Int.le_refl _⟩
  unfold shL;by_cases h:lessB (endL a b) (endL c d)=true
  · rw[if_pos h];exact⟨leL_iff.2 (less_asym h),r _,.inr rfl⟩
  rw[if_neg h];exact⟨r _,leL_iff.2 h,.inl rfl⟩
theorem shH_or (a b c d:Int×Int):leL (shH a b c d) (endH a b)/\leL (shH a b c d) (endH c d)/\(shH a b c d=endH a b\/shH a b c d=endH c d):=by
  have r:∀x:Int×Int,leL x x:=fun x=> .inr ⟨rfl,Int.le_refl _⟩
  unfold shH;by_cases h:lessB (endH c d) (endH a b)=true
  · rw[if_pos h];exact⟨leL_iff.2 (less_asym h),r _,.inr rfl⟩
  rw[if_neg h];exact⟨r _,leL_iff.2 h,.inl rfl⟩
theorem nn_of {x k y z:Int}(hk:0<k)(h:x*k=y*z)(hy:0<=y)(hz:0<=z):0<=x:=by
  have h1:=Int.mul_nonneg hy hz;rcases Int.lt_or_le x 0 with hx|hx
  · have h2:=Int.mul_neg_of_neg_of_pos hx hk
    omega
  exact hx
theorem mid_box {a b p:Int×Int}(h:cr (dv a b) (dv a p)=0)(h1:leL a p)(h2:leL p b):onI a b p:=by
 refine⟨h,?_,by unfold leL at*;omega⟩;unfold leL at h1 h2;have e:(p.1-a.1)*(b.2-a.2)=(p.2-a.2)*(b.1-a.1):=by unfold cr dv at h;grind
 by_cases hy:a.2=b.2
 ·omega
 have hk:0<b.2-a.2:=by omega
 rcases Int.le_total a.1 b.1 with hx|hx
 ·have k1:=nn_of hk e (by omega) (by omega)
  have k2:=nn_of (x:=b.1-p.1) (y:=b.2-p.2) (z:=b.1-a.1) hk (by grind) (by omega) (by omega);omega
 have k1:=nn_of (x:=a.1-p.1) (y:=p.2-a.2) (z:=a.1-b.1) hk (by grind) (by omega) (by omega);have k2:=nn_of (x:=p.1-b.1) (y:=b.2-p.2) (z:=a.1-b.1) hk (by grind) (by omega) (by omega);omega
theorem onI_rev {a b p:Int×Int}(h:onI b a p):onI a b p:=by
  obtain⟨h1,h2,h3⟩:=h;refine⟨?_,by omega,by omega⟩;have:cr (dv a b) (dv a p)= -cr (dv b a) (dv b p):=by unfold cr dv;grind
  omega
theorem mid_on {a b p:Int×Int}(h:cr (dv a b) (dv a p)=0)(h1:leL (endL a b) p)(h2:leL p (endH a b)):onI a b p:=by
  rcases endL_or a b with⟨_,e1,e2⟩|⟨_,e1,e2⟩
  · rw[e1]at h1;rw[e2]at h2
    exact mid_box h h1 h2
  rw[e1]at h1;rw[e2]at h2;refine onI_rev (mid_box ?_ h1 h2);have:cr (dv b a) (dv b p)= -cr (dv a b) (dv a p):=by unfold cr dv;grind
  omega
theorem line_on {a b c d:Int×Int}(h0:cr (dv a b) (dv c d)=0)(h:¬offL a b c d)(h1:(sharedV a b c d).2=1):onI a b (sharedV a b c d).1:=by
 have hs:¬lessB (shH a b c d) (shL a b c d)=true/\shL a b c d=shH a b c d/\(sharedV a b c d).1=shL a b c d:=by
  unfold sharedV at h1⊢;by_cases k:lessB (shH a b c d) (shL a b c d)=true
  ·rw[if_pos k]at h1;cases h1
  rw[if_neg k]at h1⊢;by_cases e:shL a b c d=shH a b c d
  ·rw[if_pos e];exact⟨k,e,rfl⟩
  rw[if_neg e]at h1;cases h1
 obtain⟨_,e,e3⟩:=hs;rw[e3];obtain⟨l1,l2,l3⟩:=shL_or a b c d;obtain⟨u1,u2,u3⟩:=shH_or a b c d;rw[<-e]at u1 u2 u3;refine mid_on ?_ l1 u1;by_cases q:a=b
 ·subst q;unfold cr dv;simp
 have hl:lineV a b c d=dv a b:=if_neg (fun k=>q (dv_zero.1 k));have hc:cr (dv a b) (dv a c)=0:=by
  rcases Int.lt_trichotomy (cr (dv a b) (dv a c)) 0 with k|k|k
  ·exact absurd (.inl (by rw[hl];omega)) h
  ·exact k
  exact absurd (.inl (by rw[hl];omega)) h
 have hd:cr (dv a b) (dv a d)=0:=by
  have:cr (dv a b) (dv a d)=cr (dv a b) (dv a c)+cr (dv a b) (dv c d):=by unfold cr dv;grind
  omega
 have ha:cr (dv a b) (dv a a)=0:=by unfold cr dv;simp
 have hb:cr (dv a b) (dv a b)=0:=by unfold cr;grind
 rcases l3 with k|k<;>rw[k]
 ·rcases endL_or a b with⟨_,e1,_⟩|⟨_,e1,_⟩<;>rw[e1]<;>assumption
 rcases endL_or c d with⟨_,e1,_⟩|⟨_,e1,_⟩<;>rw[e1]<;>assumption
theorem seg_on {a b c d:Int×Int}(h:segN a b c d=1):onC a b (segX a b c d) (segY a b c d):=by
  by_cases h0:cr (dv a b) (dv c d)=0
  · rw[segN_l h0]at h
    by_cases k:offL a b c d
    · rw[if_pos k]at h;cases h
    rw[if_neg k]at h;have:=onI_onC (line_on h0 k h);unfold segX segY;rw[if_neg (by simpa using h0),if_neg (by simpa using h0)];exact this
  rw[segN_p h0]at h;by_cases k:inU (segT a b c d)/\inU (segS a b c d)
  · unfold segX segY
    rw[if_pos h0,if_pos h0];exact onC_lerp k.1
  rw[if_neg k]at h;cases h
theorem seg_on2 {a b c d:Int×Int}(h:segN a b c d=1):onC c d (segX a b c d) (segY a b c d):=by
  rw[<-segX_swap,<-segY_swap];exact seg_on (by rw[segN_swap];exact h)
theorem seg_bd (a b c d:Int×Int):0<=segN a b c d/\segN a b c d<=2:=by
  unfold segN;have:=shared_bd a b c d;split
  · split<;>decide
  split
  · decide
  exact this
theorem line_mid {a b c d:Int×Int}(h0:cr (dv a b) (dv c d)=0)(h:¬offL a b c d)(k:¬lessB (shH a b c d) (shL a b c d)=true):onI a b (shL a b c d):=by
 obtain⟨l1,l2,l3⟩:=shL_or a b c d;obtain⟨u1,u2,u3⟩:=shH_or a b c d;have k:=leL_iff.2 k;refine mid_on ?_ l1 (leL_trans k u1);by_cases q:a=b
 ·subst q;unfold cr dv;simp
 have hl:lineV a b c d=dv a b:=if_neg (fun k=>q (dv_zero.1 k));have hc:cr (dv a b) (dv a c)=0:=by
  rcases Int.lt_trichotomy (cr (dv a b) (dv a c)) 0 with k|k|k
  ·exact absurd (.inl (by rw[hl];omega)) h
  ·exact k
  exact absurd (.inl (by rw[hl];omega)) h
 have hd:cr (dv a b) (dv a d)=0:=by
  have:cr (dv a b) (dv a d)=cr (dv a b) (dv a c)+cr (dv a b) (dv c d):=by unfold cr dv;grind
  omega
 have ha:cr (dv a b) (dv a a)=0:=by unfold cr dv;simp
 have hb:cr (dv a b) (dv a b)=0:=by unfold cr;grind
 rcases l3 with k|k<;>rw[k]
 ·rcases endL_or a b with⟨_,e1,_⟩|⟨_,e1,_⟩<;>rw[e1]<;>assumption
 rcases endL_or c d with⟨_,e1,_⟩|⟨_,e1,_⟩<;>rw[e1]<;>assumption
theorem seg_meet {a b c d:Int×Int}(h:segN a b c d≠0):∃x y:Rat,onC a b x y/\onC c d x y:=by
 by_cases h1:segN a b c d=1
 ·exact⟨_,_,seg_on h1,seg_on2 h1⟩
 by_cases h0:cr (dv a b) (dv c d)=0
 ·rw[segN_l h0]at h
  by_cases k:offL a b c d
  ·rw[if_pos k]at h;exact absurd rfl h
  rw[if_neg k]at h;have hk:¬lessB (shH a b c d) (shL a b c d)=true:=by
   intro e;unfold sharedV at h;rw[if_pos e]at h;exact h rfl
  refine⟨_,_,onI_onC (line_mid h0 k hk),?_⟩;rw[<-shL_swap];exact onI_onC (line_mid (by rw[cr_neg,h0];rfl) (fun e=>k ((offL_swap h0).1 e)) (by rw[shL_swap,shH_swap];exact hk))
 rw[segN_p h0]at h h1;by_cases k:inU (segT a b c d)/\inU (segS a b c d)
 ·rw[if_pos k]at h1;exact absurd rfl h1
 rw[if_neg k]at h;exact absurd rfl h
theorem dj_seg {x y:EdE}(h:djB x y=true):segN x.a x.b y.a y.b=0:=by
 rcases Int.lt_trichotomy (segN x.a x.b y.a y.b) 0 with k|k|k
 ·have:=seg_bd x.a x.b y.a y.b;omega
 ·exact k
 exfalso;obtain⟨p,q,⟨_,⟨a1,a2⟩,a3,a4⟩,_,⟨b1,b2⟩,b3,b4⟩:=seg_meet (a:=x.a) (b:=x.b) (c:=y.a) (d:=y.b) (by omega);have key:∀{m n:Int} {z:Rat},z<=(m:Rat)->(n:Rat)<=z->¬m<n:=by
  intro m n z h1 h2 h3;have h4:(m:Rat)<(n:Rat):=by exact_mod_cast h3
  exact absurd (Rat.le_trans h2 h1) (Rat.not_le.2 h4)
 unfold djB at h;simp only[Bool.or_eq_true,decide_eq_true_eq]at h;rcases h with h|h|h|h
 ·exact key a2 b1 h
 ·exact key b2 a1 h
 ·exact key a4 b3 h
 exact key b4 a3 h
theorem simP_eq (x y:EdE):simP x y=if adjB x y=true then decide (segN x.a x.b y.a y.b=1)else decide (segN x.a x.b y.a y.b=0):=by
  unfold simP;split
  · rfl
  cases h:djB x y with
  |false=>simp
  |true=>simp[dj_seg h]
def allQ:Nat->List Ring->List EdE
  |_,[]=>[]
  |q,r::rs=>edR q (edgesV [r]) (edgesV [r]).length++allQ (q+1) rs
theorem allQ_eq:∀(rs:List Ring) (q:Nat),(rs.mapIdx fun k r=>edR (q+k) (edgesV [r]) (edgesV [r]).length).flatten=allQ q rs
  | [],q=>rfl
  | r::rs,q=>by
    rw[List.mapIdx_cons,List.flatten_cons,Nat.add_zero];unfold allQ;rw[<-allQ_eq rs (q+1)];congr 3;funext i x;rw[show q+(i+1)=q+1+i by omega]
theorem allV_eq (rs:List Ring):allV rs=allQ 0 rs:=by
  rw[<-allQ_eq rs 0];unfold allV;congr 2;funext i x;rw[Nat.zero_add]
theorem edR_mem {q n:Nat}{es:List Edge}{i:Nat}{x:EdE}(h:(edR q es n)[i]?=some x):x.r=q/\x.i=i/\x.n=n/\es[i]?=some (x.a,x.b):=by
  unfold edR at h;rw[List.getElem?_mapIdx]at h;cases he:es[i]?with
  |none=>rw[he]at h;simp at h
  | some e=>
    rw[he]at h;simp at h;subst h;exact⟨rfl,rfl,rfl,rfl⟩
theorem allQ_r:∀{rs:List Ring} {q i:Nat} {x:EdE},(allQ q rs)[i]?=some x->q<=x.r
  | [],q,i,x,h=>by simp[allQ]at h
  | r::rs,q,i,x,h=>by
    unfold allQ at h;by_cases hi:i<(edR q (edgesV [r]) (edgesV [r]).length).length
    · rw[List.getElem?_append_left hi]at h
      rw[(edR_mem h).1];exact Nat.le_refl _
    rw[List.getElem?_append_right (by omega)]at h;have:=allQ_r h;omega
def adjF:List Ring->Nat->Nat->Nat->Bool
  | [],_,_,_=>false
  |r::rs,f,i,k=>if f<=i/\i<f+(edgesV [r]).length/\f<=k/\k<f+(edgesV [r]).length then decide (i≠k)&&(decide ((i-f+1)%(edgesV [r]).length=k-f)||decide ((k-f+1)%(edgesV [r]).length=i-f))else adjF rs (f+(edgesV [r]).length) i k
theorem adjF_off:∀{rs:List Ring} {f i k:Nat},i<f\/k<f->adjF rs f i k=false
  | [],f,i,k,_=>rfl
  | r::rs,f,i,k,h=>by
    unfold adjF;rw[if_neg (by omega)];exact adjF_off (by omega)
theorem adjF_ok:∀{rs:List Ring} {q f i k:Nat} {x y:EdE},(allQ q rs)[i]?=some x->(allQ q rs)[k]?=some y->i≠k->adjF rs f (f+i) (f+k)=adjB x y
  | [],q,f,i,k,x,y,hx,_,_=>by simp[allQ]at hx
  | r::rs,q,f,i,k,x,y,hx,hy,hne=>by
    unfold allQ at hx hy;have hl:(edR q (edgesV [r]) (edgesV [r]).length).length=(edgesV [r]).length:=edR_len _ _ _;unfold adjF;by_cases hi:i<(edgesV [r]).length<;>by_cases hk:k<(edgesV [r]).length
    · rw[List.getElem?_append_left (by omega)]at hx hy
      obtain⟨a1,a2,a3,_⟩:=edR_mem hx;obtain⟨b1,b2,b3,_⟩:=edR_mem hy;rw[if_pos (by omega)];unfold adjB;rw[a1,a2,a3,b1,b2,b3,show f+i-f=i by omega,show f+k-f=k by omega,decide_eq_true (show f+i≠f+k by omega)];simp
    · rw[List.getElem?_append_left (by omega)]at hx
      rw[List.getElem?_append_right (by omega)]at hy;rw[if_neg (by omega),adjF_off (by omega)];have h1:=(edR_mem hx).1;have h2:=allQ_r hy;unfold adjB;rw[decide_eq_false (show¬x.r=y.r by omega)];rfl
    · rw[List.getElem?_append_right (by omega)]at hx
      rw[List.getElem?_append_left (by omega)]at hy;rw[if_neg (by omega),adjF_off (by omega)];have h1:=(edR_mem hy).1;have h2:=allQ_r hx;unfold adjB;rw[decide_eq_false (show¬x.r=y.r by omega)];rfl
    rw[List.getElem?_append_right (by omega),hl]at hx hy;rw[if_neg (by omega)];have ih:=adjF_ok (f:=f+(edgesV [r]).length) hx hy (by omega);rw[show f+(edgesV [r]).length+(i-(edgesV [r]).length)=f+i by omega,show f+(edgesV [r]).length+(k-(edgesV [r]).length)=f+k by omega]at ih;exact ih
theorem adjB_swap (x y:EdE):adjB x y=adjB y x:=by
  unfold adjB;rw[show decide (x.r=y.r)=decide (y.r=x.r)from decide_eq_decide.2 ⟨Eq.symm,Eq.symm⟩,Bool.or_comm]
theorem edges_allQ:∀(rs:List Ring) (q:Nat),(allQ q rs).map (fun e=>(e.a,e.b))=edgesV rs
  | [],q=>rfl
  | r::rs,q=>by
    unfold allQ;rw[List.map_append,edges_allQ rs (q+1)];have h:(edR q (edgesV [r]) (edgesV [r]).length).map (fun e=>(e.a,e.b))=edgesV [r]:=by
      unfold edR;apply List.ext_getElem?;intro i;rw[List.getElem?_map,List.getElem?_mapIdx];cases (edgesV [r])[i]?<;>rfl
    rw[h];unfold edgesV;simp
theorem edges_eds (rs:List Ring):(edsV rs).map (fun e=>(e.a,e.b))=edgesOf rs:=by
  unfold edsV edgesOf;split
  · rw[allV_eq];exact edges_allQ rs 0
  rfl
def pairR (rs:List Ring)(x y:Edge)(i k:Nat):Bool:=if adjF rs 0 i k=true then decide (segN x.1 x.2 y.1 y.2=1)else decide (segN x.1 x.2 y.1 y.2=0)
theorem pairR_ok {rs:List Ring}(hok:okR rs=true){i k:Nat}{x y:EdE}(hi:(edsV rs)[i]?=some x)(hk:(edsV rs)[k]?=some y)(h:k<i):pairR rs (x.a,x.b) (y.a,y.b) i k=simP y x:=by
  have e:edsV rs=allQ 0 rs:=by unfold edsV;rw[if_pos hok,allV_eq]
  rw[e]at hi hk;have ha:=adjF_ok (f:=0) hi hk (by omega);rw[Nat.zero_add,Nat.zero_add]at ha;rw[simP_eq,adjB_swap y x,<-ha];unfold pairR;rw[segN_swap y.a y.b x.a x.b]
theorem simAll_iff {es:List EdE}:simAll es=true↔∀(i k:Nat) (x y:EdE),es[i]?=some x->es[k]?=some y->k<i->simP y x=true:=by
 unfold simAll;rw[List.all_eq_true];constructor
 ·intro h i k x y hi hk hlt
  have h1:=h i (List.mem_range.2 (List.getElem?_eq_some_iff.1 hi).1);unfold simRow at h1;rw[hi]at h1;exact List.all_eq_true.1 h1 y (List.mem_take_iff_getElem.2 ⟨k,by have:=(List.getElem?_eq_some_iff.1 hk).1;omega,(List.getElem?_eq_some_iff.1 hk).2⟩)
 intro h i hi;obtain⟨x,hx⟩:∃x,es[i]?=some x:=⟨_,List.getElem?_eq_getElem (List.mem_range.1 hi)⟩;unfold simRow;rw[hx];refine List.all_eq_true.2 (fun y hy=> ?_);obtain⟨k,hk,rfl⟩:=List.mem_take_iff_getElem.1 hy;exact h i k x _ hx (List.getElem?_eq_getElem (by omega)) (by omega)
theorem simple_none {rs:List Ring}(h:simB rs=true):crAll (edsV rs)=[]:=by
 unfold simB at h;rw[Bool.and_eq_true]at h;have hs:=simAll_iff.1 h.2;unfold crAll;rw[List.flatMap_eq_nil_iff];intro i hi;obtain⟨x,hx⟩:∃x,(edsV rs)[i]?=some x:=⟨_,List.getElem?_eq_getElem (List.mem_range.1 hi)⟩;unfold crRow;rw[hx];refine List.flatMap_eq_nil_iff.2 (fun y hy=> ?_);obtain⟨k,hk,rfl⟩:=List.mem_take_iff_getElem.1 hy;have h1:=hs i k x _ hx (List.getElem?_eq_getElem (by omega)) (by omega);rw[simP_eq]at h1;unfold crP;split
 ·rfl
 rename_i h2;have h3:¬adjB (edsV rs)[k] x=true:=fun e=>h2 (.inl e)
 rw[if_neg h3]at h1;have h4:=of_decide_eq_true h1;rw[if_neg (by rw[h4];decide)]
end Go.Proofs.YtiokhlgdelipdaaGreat
namespace Go.Proofs.YtiokhlgdelipdaaGreat
open Go.RowKit
attribute [local go_sem ↓] Go.wp_at_zero Go.wp_at_succ run_max_ii run_min_ii
theorem clamp8_any (n lo hi:Int)(w:World)(h1:lo<=n)(h2:n<=hi):Calls Tryz.prog 77 #[.int .i64 n,.int .i64 lo,.int .i64 hi] w fun e w'=>e= .returned (.int .i64 n)/\Ext w w':=by
 go_enter Tryz.func77,Tryz.ntmps77
 have H0:=zH (Hp.start w);go_upto_region 0 with fail
 refine wl ?_;refine zq (.int .i64 0) ?_;go_upto_region 1 with fail
 refine wl ?_;refine qV (.int .i64 n) ?_;refine zq (.int .i64 lo) ?_;refine zp (.bool false) (by exact ezl (e:=(dec_f (by omega)))) ?_;go_upto_region 3 with fail
 refine wl ?_;refine qV (.int .i64 n) ?_;refine zq (.int .i64 hi) ?_;refine zp (.bool false) (by exact ezg (e:=(dec_f (by omega)))) ?_;go_upto_region 5 with fail
 refine wl ?_;refine qV (.int .i64 n) ?_;refine zq (.int .i64 n) ?_;go_wp2_with fail
 go_ret
 exact⟨rfl,H0.out.ext⟩
theorem hold11_any (p:Int×Int)(w:World)(h:okP p):Calls Tryz.prog 39 #[.agg #[.int .i64 p.1,.int .i64 p.2]] w fun e w'=>e= .returned (.agg #[.int .i64 p.1,.int .i64 p.2])/\Ext w w':=by
 have op:=okP_out h;go_enter Tryz.func39,Tryz.ntmps39
 have H0:=zH (Hp.start w);go_upto_region 0 with fail
 refine wl ?_;refine aA' 23 [.int .i64 p.1,.int .i64 p.2] H0.out ?_;intro X10 w11 H12 _;refine aA' 23 [.int .i64 0,.int .i64 0] H12.out ?_;intro X15 w16 H17 _;go_upto_region 1 with fail
 refine wp_region_held_drew (S:=fun x=>Fr (fun kz=>kz=X15) w16 x) kR (Fr.of_ext zb) (fun _=> ?_);have H20:=zH (H17.out.step (Ext.refl w16).drew);refine zx 0 (bs 8 1) (.pointer (some ⟨X10,0,none⟩)) (Fr.of_ext zb) ?_;refine md_ld1 (g:=X10) (o:=0) (v:= .int .i64 p.1) (i:=1) (listed':=(bs 8 3)) rR kR kR kR (by intro _ _ _ h;exact h) rR (fun x hx=>Fr.cell hx (show World.cell? w16 ⟨X10,0,none⟩=some (.int .i64 p.1)from cell_of_range (H17.out.range (i:=0) rR 0 1)) (H17.out.offBlk (i:=0) (j:=1) rR rR dC rR)) (by intro x hq;go_simp<;>with_reducible rfl) (Fr.of_ext zb) kR ?_;try simp only[Act.put,zA,zB,zC]
 refine zx 3 (bs 8 11) (.pointer (some ⟨X10,1,none⟩)) (Fr.of_ext zb) ?_;refine md_ld1 (g:=X10) (o:=1) (v:= .int .i64 p.2) (i:=4) (listed':=(bs 8 27)) rR kR kR kR (by intro _ _ _ h;exact h) rR (fun x hx=>Fr.cell hx (show World.cell? w16 ⟨X10,1,none⟩=some (.int .i64 p.2)from cell_of_range (H17.out.range (i:=0) rR 1 1)) (H17.out.offBlk (i:=0) (j:=1) rR rR dC rR)) (by intro x hq;go_simp<;>with_reducible rfl) (Fr.of_ext zb) kR ?_;try simp only[Act.put,zA,zB,zC]
 refine mC 2 (bs 8 31) (clamp8_any p.1 (-1048576) 1048576 _ (by omega) (by omega)) ?_;rintro e w24 ⟨rfl,hx⟩;have H25:=zH (H20.out.step hx);have S28:=zH (show Fr (fun kz=>kz=X15) w16 w24 from(Fr.of_ext zb).trans (Fr.of_ext hx));clear hx;refine zm S28.out ?_;refine mC 5 (bs 8 63) (clamp8_any p.2 (-1048576) 1048576 _ (by omega) (by omega)) ?_;rintro e w29 ⟨rfl,hx⟩;have H30:=zH (H25.out.step hx);have S33:=zH (S28.out.trans (Fr.of_ext hx));clear hx;refine zm S33.out ?_;refine zx 6 (bs 8 127) (.agg #[.int .i64 p.1,.int .i64 p.2]) S33.out ?_;refine md_st (i:=7) (listed':=(bs 8 255)) rR kR rR kR _ _ _ rR H30.out (ix:=1) rR 0 [.int .i64 p.1,.int .i64 p.2] rR rR (by simp) kR (by simp[Value.oneCell']) (by simp[NoUL]) ?_;intro w35 hh hd ho;have H36:=hN hh;have S38:=zH (Fr.trans_new S33.out ho (fun j hj=> .inl (by simpa using hj.symm)));clear hh hd ho;refine⟨S38.out,?_⟩
 (try simp only[Act.put])
 refine wpAnyH_done kR ?_ _;go_wp2_with fail
 refine bodyPost_ret (v:= .agg #[.int .i64 p.1,.int .i64 p.2]) ?_ rfl ⟨rfl,H36.out.ext⟩;exact results_cell1 rfl rfl ((H36.out.blk (i:=1) rR).loadVar rfl rfl rR)
theorem sub11_any (p q:Int×Int)(w:World)(hp:okP p)(hq:okP q):
  Calls Tryz.prog 36 #[.agg #[.int .i64 p.1,.int .i64 p.2],.agg #[.int .i64 q.1,.int .i64 q.2]] w fun e w'=>e= .returned (.agg #[.int .i64 (dv q p).1,.int .i64 (dv q p).2])/\Ext w w':=by
 have op:=okP_out hp;have oq:=okP_out hq;go_enter Tryz.func36,Tryz.ntmps36
 have H0:=zH (Hp.start w);go_upto_region 0 with fail
 refine wl ?_;refine aA' 23 [.int .i64 p.1,.int .i64 p.2] H0.out ?_;intro X39 w40 H41 _;refine aA' 23 [.int .i64 q.1,.int .i64 q.2] H41.out ?_;intro X44 w45 H46 _;refine aA' 23 [.int .i64 0,.int .i64 0] H46.out ?_;intro X49 w50 H51 _;go_upto_region 1 with fail
 refine zy ?_;have H54:=zH (H51.out.step (Ext.refl w50).drew);refine zJ2 H51.out zb (bs 8 5) 0 2 _ _ ?_;refine FN.go2 (j1:=⟨4,some 5,23,[.int .i64 0,.int .i64 0]⟩) (j2:=⟨5,some 6,23,[.int .i64 0,.int .i64 0]⟩) (b:=w50) ?_ zb;refine gN 1 (bs 8 7) (fk (fk trivial)) zb.size (fun xq hxq=>hold11_any p _ hp) (by rintro x_ e x2_ ⟨rfl,hx⟩;exact hx) ?_;rintro xq e w56 hxq ⟨rfl,hx⟩;replace hx:=hxq.trans hx;clear hxq;have H57:=zH (H54.out.step hx);have S59:=zH (zb.trans hx);clear hx;refine⟨_,rfl,?_⟩;try simp only[Act.put,zA,zB,zC]
 refine gN 3 (bs 8 15) (fk (fk trivial)) S59.out.size (fun xq hxq=>hold11_any q _ hq) (by rintro x_ e x2_ ⟨rfl,hx⟩;exact hx) ?_;rintro xq e w60 hxq ⟨rfl,hx⟩;replace hx:=hxq.trans hx;clear hxq;have H61:=zH (H57.out.step hx);have S63:=zH (S59.out.trans hx);clear hx;refine⟨_,rfl,?_⟩;try simp only[Act.put,zA,zB,zC]
 refine gE2 (bs 8 63) (fk (fk trivial)) S63.out.size H51.out H61.out ?_;intro X64 X65 w66 hx hh hg0 hg1 hs;have H67:=hN hh;have S69:=zH (show Ext w50 w66 from hs);have G70:=zH (show w50.heap.size<=X64 from hg0);have G71:=zH (show w50.heap.size<=X65 from hg1);clear hh hx hs hg0 hg1;try simp only[Act.put,zA,zB,zC]
 refine bS 3 6 (bs 8 127) [.int .i64 p.1,.int .i64 p.2] H67.out S69.out G70.out ?_;intro w72 H73 _ S75;refine bS 4 7 (bs 8 255) [.int .i64 q.1,.int .i64 q.2] H73.out S75.out G71.out ?_;intro w76 H77 _ S79;refine wpAnyH_done kR ?_ _;go_upto_region 2 with fail
 refine wl ?_;refine zI4 H77.out _ _ _ _ ?_;refine zp (.int .i64 (p.1-q.1)) (by exact ez2 (by omega)) ?_;refine zI4 H77.out _ _ _ _ ?_;refine zp (.int .i64 (p.2-q.2)) (by exact ez2 (by omega)) ?_;refine zq (.agg #[.int .i64 (p.1-q.1),.int .i64 (p.2-q.2)]) ?_;refine aS' 2 [.int .i64 (p.1-q.1),.int .i64 (p.2-q.2)] H77.out ?_;intro w87 H88 _;go_wp2_with fail
 refine bodyPost_ret (v:= .agg #[.int .i64 (dv q p).1,.int .i64 (dv q p).2]) ?_ rfl ⟨rfl,H88.out.ext⟩;exact results_cell1 rfl rfl ((H88.out.blk (i:=2) rR).loadVar rfl rfl rR)
theorem less11_any (p q:Int×Int)(w:World)(hp:okP p)(hq:okP q):
  Calls Tryz.prog 124 #[.agg #[.int .i64 p.1,.int .i64 p.2],.agg #[.int .i64 q.1,.int .i64 q.2]] w fun e w'=>e= .returned (.bool (lessB p q))/\Ext w w':=by
 have op:=okP_out hp;have oq:=okP_out hq;go_enter Tryz.func124,Tryz.ntmps124
 have H0:=zH (Hp.start w);go_upto_region 0 with fail
 refine wl ?_;refine aA' 23 [.int .i64 p.1,.int .i64 p.2] H0.out ?_;intro X90 w91 H92 _;refine aA' 23 [.int .i64 q.1,.int .i64 q.2] H92.out ?_;intro X95 w96 H97 _;refine zq (.bool false) ?_;go_upto_region 1 with fail
 refine zy ?_;have H101:=zH (H97.out.step (Ext.refl w96).drew);refine zJ2 H97.out zb (bs 8 5) 0 2 _ _ ?_;refine FN.go2 (j1:=⟨4,some 5,23,[.int .i64 0,.int .i64 0]⟩) (j2:=⟨5,some 6,23,[.int .i64 0,.int .i64 0]⟩) (b:=w96) ?_ zb;refine gN 1 (bs 8 7) (fk (fk trivial)) zb.size (fun xq hxq=>hold11_any p _ hp) (by rintro x_ e x2_ ⟨rfl,hx⟩;exact hx) ?_;rintro xq e w103 hxq ⟨rfl,hx⟩;replace hx:=hxq.trans hx;clear hxq;have H104:=zH (H101.out.step hx);have S106:=zH (zb.trans hx);clear hx;refine⟨_,rfl,?_⟩;try simp only[Act.put,zA,zB,zC]
 refine gN 3 (bs 8 15) (fk (fk trivial)) S106.out.size (fun xq hxq=>hold11_any q _ hq) (by rintro x_ e x2_ ⟨rfl,hx⟩;exact hx) ?_;rintro xq e w107 hxq ⟨rfl,hx⟩;replace hx:=hxq.trans hx;clear hxq;have H108:=zH (H104.out.step hx);have S110:=zH (S106.out.trans hx);clear hx;refine⟨_,rfl,?_⟩;try simp only[Act.put,zA,zB,zC]
 refine gE2 (bs 8 63) (fk (fk trivial)) S110.out.size H97.out H108.out ?_;intro X111 X112 w113 hx hh hg0 hg1 hs;have H114:=hN hh;have S116:=zH (show Ext w96 w113 from hs);have G117:=zH (show w96.heap.size<=X111 from hg0);have G118:=zH (show w96.heap.size<=X112 from hg1);clear hh hx hs hg0 hg1;try simp only[Act.put,zA,zB,zC]
 refine bS 2 6 (bs 8 127) [.int .i64 p.1,.int .i64 p.2] H114.out S116.out G117.out ?_;intro w119 H120 _ S122;refine bS 3 7 (bs 8 255) [.int .i64 q.1,.int .i64 q.2] H120.out S122.out G118.out ?_;intro w123 H124 _ S126;refine wpAnyH_done kR ?_ _;rcases emH (p.2<q.2)with C1|C1
 ·go_upto_region 2 with fail
  refine wl ?_;refine zI4 H124.out _ _ _ _ ?_;refine zp (.bool true) (by exact ezl (e:=(dec_t C1.out))) ?_;refine zI8 (Hp.start _) (.bool true) _ _ _ _ _ _ _ ?_;refine zI7 (Hp.start _) _ _ _ _ _ (.bool true) (.bool true) ?_;go_wp2_with fail
  go_ret
  exact⟨by rw[show lessB p q=true from by unfold lessB;simp[C1.out]];rfl,H124.out.ext⟩
 rcases emH (p.2=q.2)with C2|C2
 ·rcases emH (p.1<q.1)with C3|C3
  ·go_upto_region 2 with fail
   refine wl ?_;refine zI4 H124.out _ _ _ _ ?_;refine zp (.bool false) (by exact ezl (e:=(dec_f C1.out))) ?_;refine zI5 H124.out (.bool false) _ _ _ _ ?_;refine zp (.bool true) (by exact ezq (e:=(dec_t C2.out))) ?_;refine zI5 H124.out (.bool true) _ _ _ _ ?_;refine zp (.bool true) (by exact ezl (e:=(dec_t C3.out))) ?_;refine zI3 (Hp.start _) (.bool true) (.bool true) (.bool true) ?_;go_wp2_with fail
   go_ret
   exact⟨by rw[show lessB p q=true from by unfold lessB;simp[C2.out,C3.out]];rfl,H124.out.ext⟩
  go_upto_region 2 with fail
  refine wl ?_;refine zI4 H124.out _ _ _ _ ?_;refine zp (.bool false) (by exact ezl (e:=(dec_f C1.out))) ?_;refine zI5 H124.out (.bool false) _ _ _ _ ?_;refine zp (.bool true) (by exact ezq (e:=(dec_t C2.out))) ?_;refine zI5 H124.out (.bool true) _ _ _ _ ?_;refine zp (.bool false) (by exact ezl (e:=(dec_f C3.out))) ?_;refine zI3 (Hp.start _) (.bool false) (.bool false) (.bool false) ?_;go_wp2_with fail
  go_ret
  exact⟨by rw[show lessB p q=false from by unfold lessB;simp[C2.out,C3.out]];rfl,H124.out.ext⟩
 go_upto_region 2 with fail
 refine wl ?_;refine zI4 H124.out _ _ _ _ ?_;refine zp (.bool false) (by exact ezl (e:=(dec_f C1.out))) ?_;refine zI5 H124.out (.bool false) _ _ _ _ ?_;refine zp (.bool false) (by exact ezq (e:=(dec_f C2.out))) ?_;refine zI8 (Hp.start _) (.bool false) _ _ _ _ _ (.bool false) (.bool false) ?_;refine zq (.bool false) ?_;go_wp2_with fail
 go_ret
 exact⟨by rw[show lessB p q=false from by unfold lessB;simp[C1.out,C2.out]];rfl,H124.out.ext⟩
theorem wedge11_any (u v:Int×Int)(w:World)(hu:(-2097152<=u.1/\u.1<=2097152)/\(-2097152<=u.2/\u.2<=2097152))(hv:(-2097152<=v.1/\v.1<=2097152)/\(-2097152<=v.2/\v.2<=2097152)):
  Calls Tryz.prog 79 #[.agg #[.int .i64 u.1,.int .i64 u.2],.agg #[.int .i64 v.1,.int .i64 v.2]] w fun e w'=>e= .returned (.int .i64 (cr u v))/\Ext w w':=by
 have m1:=mul_bd hu.1 hv.2;have m2:=mul_bd hu.2 hv.1;go_enter Tryz.func79,Tryz.ntmps79
 have H0:=zH (Hp.start w);go_upto_region 0 with fail
 refine wl ?_;refine aA' 23 [.int .i64 u.1,.int .i64 u.2] H0.out ?_;intro X175 w176 H177 _;refine aA' 23 [.int .i64 v.1,.int .i64 v.2] H177.out ?_;intro X180 w181 H182 _;refine zq (.int .i64 0) ?_;go_upto_region 1 with fail
 refine wl ?_;refine zI4 H182.out _ _ _ _ ?_;refine zp (.int .i64 (u.1*v.2)) (by exact ez3 (by omega)) ?_;refine zI4 H182.out _ _ _ _ ?_;refine zp (.int .i64 (u.2*v.1)) (by exact ez3 (by omega)) ?_;refine zp (.int .i64 ((u.1*v.2)-(u.2*v.1))) (by exact ez2 (by omega)) ?_;refine zq (.int .i64 ((u.1*v.2)-(u.2*v.1))) ?_;go_wp2_with fail
 go_ret
 exact⟨rfl,H182.out.ext⟩
def LineRet (q:(Int×Int)×Int)(w:World)(e:Ending)(w':World):Prop:=
  ((∃r s:RV,q.2=1/\e= .returned (.tuple #[.agg #[.bool r.n,.slice r.p r.l r.c,.bool r.m,.slice r.p2 r.l2 r.c2],.agg #[.bool s.n,.slice s.p s.l s.c,.bool s.m,.slice s.p2 s.l2 s.c2],.int .i64 1])/\r.Is w' (((q.1.1:Int)):Rat)/\s.Is w' (((q.1.2:Int)):Rat))\/
    (q.2≠1/\e= .returned (.tuple #[.agg z4,.agg z4,.int .i64 q.2])))/\Ext w w'
theorem LineRet.yes {q:(Int×Int)×Int}{w w':World}{e:Ending}(h:LineRet q w e w')(hc:q.2=1):∃r s:RV,e= .returned (.tuple #[.agg #[.bool r.n,.slice r.p r.l r.c,.bool r.m,.slice r.p2 r.l2 r.c2],.agg #[.bool s.n,.slice s.p s.l s.c,.bool s.m,.slice s.p2 s.l2 s.c2],.int .i64 1])/\r.Is w' (((q.1.1:Int)):Rat)/\s.Is w' (((q.1.2:Int)):Rat)/\Ext w w':=by
  obtain⟨⟨r,s,_,h1,h2,h3⟩|⟨h1,_⟩,hx⟩:=h
  · exact⟨r,s,h1,h2,h3,hx⟩
  exact absurd hc h1
theorem LineRet.no {q:(Int×Int)×Int}{w w':World}{e:Ending}(h:LineRet q w e w')(hc:¬q.2=1):e= .returned (.tuple #[.agg z4,.agg z4,.int .i64 q.2])/\Ext w w':=by
  obtain⟨⟨r,s,h0,h1,h2,h3⟩|⟨_,h1⟩,hx⟩:=h
  · exact absurd h0 hc
  exact⟨h1,hx⟩
theorem one17_any (p:Int×Int)(w:World)(h:okP p):Calls Tryz.prog 125 #[.agg #[.int .i64 p.1,.int .i64 p.2]] w fun e w'=>∃r s:RV,e= .returned (.tuple #[.agg #[.bool r.n,.slice r.p r.l r.c,.bool r.m,.slice r.p2 r.l2 r.c2],.agg #[.bool s.n,.slice s.p s.l s.c,.bool s.m,.slice s.p2 s.l2 s.c2],.int .i64 1])/\r.Is w' (((p.1:Int)):Rat)/\s.Is w' (((p.2:Int)):Rat)/\Ext w w':=by
 have op:=okP_out h;go_enter Tryz.func125,Tryz.ntmps125
 have H0:=zH (Hp.start w);go_upto_region 0 with fail
 refine wl ?_;refine aA' 23 [.int .i64 p.1,.int .i64 p.2] H0.out ?_;intro X1 w2 H3 _;refine aA' 30 rz H3.out ?_;intro X6 w7 H8 _;refine aA' 30 rz H8.out ?_;intro X11 w12 H13 _;refine zq (.int .i64 0) ?_;go_upto_region 1 with fail
 refine wp_region_held_drew (S:=fun x=>Fr (fun kz=>kz=X6\/kz=X11) w12 x) kR (Fr.of_ext zb) (fun _=> ?_);have H17:=zH (H13.out.step (Ext.refl w12).drew);refine zx 0 (bs 9 1) (.pointer (some ⟨X1,0,none⟩)) (Fr.of_ext zb) ?_;refine md_ld1 (g:=X1) (o:=0) (v:= .int .i64 p.1) (i:=1) (listed':=(bs 9 3)) rR kR kR kR (by intro _ _ _ h;exact h) rR (fun x hx=>Fr.cell hx (show World.cell? w12 ⟨X1,0,none⟩=some (.int .i64 p.1)from cell_of_range (H13.out.range (i:=0) rR 0 1)) (fun hk=>hk.elim (H13.out.offBlk (i:=0) (j:=1) rR rR dC rR) (H13.out.offBlk (i:=0) (j:=2) rR rR dC rR))) (by intro x hq;go_simp<;>with_reducible rfl) (Fr.of_ext zb) kR ?_;try simp only[Act.put,zA,zB,zC]
 refine zx 3 (bs 9 11) (.pointer (some ⟨X1,1,none⟩)) (Fr.of_ext zb) ?_;refine md_ld1 (g:=X1) (o:=1) (v:= .int .i64 p.2) (i:=4) (listed':=(bs 9 27)) rR kR kR kR (by intro _ _ _ h;exact h) rR (fun x hx=>Fr.cell hx (show World.cell? w12 ⟨X1,1,none⟩=some (.int .i64 p.2)from cell_of_range (H13.out.range (i:=0) rR 1 1)) (fun hk=>hk.elim (H13.out.offBlk (i:=0) (j:=1) rR rR dC rR) (H13.out.offBlk (i:=0) (j:=2) rR rR dC rR))) (by intro x hq;go_simp<;>with_reducible rfl) (Fr.of_ext zb) kR ?_;try simp only[Act.put,zA,zB,zC]
 refine mC 2 (bs 9 31) (q03From p.1 _ (by omega) (by omega)) ?_;rintro e w21 ⟨c_,rfl,hc_,hx⟩;have H23:=zH (H17.out.step hx);have S26:=zH (show Fr (fun kz=>kz=X6\/kz=X11) w12 w21 from(Fr.of_ext zb).trans (Fr.of_ext hx));obtain⟨r22,rfl,hr_⟩:=hc_;have R22:=zH hr_;clear hr_ hx;refine zm S26.out ?_;refine mC 5 (bs 9 63) (q03From p.2 _ (by omega) (by omega)) ?_;rintro e w27 ⟨c_,rfl,hc_,hx⟩;have H29:=zH (H23.out.step hx);have D29:=zH (Dig.of_ext hx);have S32:=zH (S26.out.trans (Fr.of_ext hx));obtain⟨r28,rfl,hr_⟩:=hc_;have R28:=zH hr_;clear hr_ hx;refine zm S32.out ?_;refine md_st (i:=6) (listed':=(bs 9 127)) rR kR rR kR _ _ _ rR H29.out (ix:=1) rR 0 [.bool r22.n,.slice r22.p r22.l r22.c,.bool r22.m,.slice r22.p2 r22.l2 r22.c2] rR rR (by simp) kR (by simp[Value.oneCell']) (by simp[NoUL]) ?_;intro w33 hh hd ho;have H34:=hN hh;have D34:=zH (hd);have S36:=zH (Fr.trans_new S32.out ho (fun j hj=> .inl (.inl (by injection hj with hj;exact hj.symm))));clear hh hd ho;refine⟨S36.out,?_⟩
 (try simp only[Act.put])
 refine md_st (i:=7) (listed':=(bs 9 255)) rR kR rR kR _ _ _ rR H34.out (ix:=2) rR 0 [.bool r28.n,.slice r28.p r28.l r28.c,.bool r28.m,.slice r28.p2 r28.l2 r28.c2] rR rR (by simp) kR (by simp[Value.oneCell']) (by simp[NoUL]) ?_;intro w37 hh hd ho;have H38:=hN hh;have D38:=zH (hd);have S40:=zH (Fr.trans_new S36.out ho (fun j hj=> .inl (.inr (by injection hj with hj;exact hj.symm))));clear hh hd ho;refine⟨S40.out,?_⟩
 (try simp only[Act.put])
 refine zx 8 (bs 9 511) (.int .i64 1) S40.out ?_;refine wpAnyH_done kR ?_ _;have DD42:=tD (tD D29 D34) D38;have DD43:=tD D34 D38;go_wp2_with fail
 refine bodyPost_ret (v:= .tuple #[.agg #[.bool r22.n,.slice r22.p r22.l r22.c,.bool r22.m,.slice r22.p2 r22.l2 r22.c2],.agg #[.bool r28.n,.slice r28.p r28.l r28.c,.bool r28.m,.slice r28.p2 r28.l2 r28.c2],.int .i64 1]) ?_ rfl ⟨_,_,rfl,(R22.out.dig DD42.out),(R28.out.dig DD43.out),H38.out.ext⟩;exact results_c1c1t1 rfl rfl rfl ((H38.out.blk (i:=1) rR).loadVar rfl rfl rR) ((H38.out.blk (i:=2) rR).loadVar rfl rfl rR) rfl
theorem ralong17_any (a b c d:Int×Int)(w:World)(ha:okP a)(hb:okP b)(hc:okP c)(hd:okP d):
  Calls Tryz.prog 88 #[.agg #[.int .i64 a.1,.int .i64 a.2],.agg #[.int .i64 b.1,.int .i64 b.2],.agg #[.int .i64 c.1,.int .i64 c.2],.agg #[.int .i64 d.1,.int .i64 d.2]] w (LineRet (sharedV a b c d) w):=by
 go_enter Tryz.func88,Tryz.ntmps88
 have H0:=zH (Hp.start w);go_upto_region 0 with fail
 refine wl ?_;refine aA' 23 [.int .i64 a.1,.int .i64 a.2] H0.out ?_;intro X44 w45 H46 _;refine aA' 23 [.int .i64 b.1,.int .i64 b.2] H46.out ?_;intro X49 w50 H51 _;refine aA' 23 [.int .i64 c.1,.int .i64 c.2] H51.out ?_;intro X54 w55 H56 _;refine aA' 23 [.int .i64 d.1,.int .i64 d.2] H56.out ?_;intro X59 w60 H61 _;refine aA' 30 rz H61.out ?_;intro X64 w65 H66 _;refine aA' 30 rz H66.out ?_;intro X69 w70 H71 _;refine zq (.int .i64 0) ?_;go_upto_region 1 with fail
 refine wl ?_;refine zI2 H71.out _ _ ?_;refine aC H71.out (less11_any b a _ hb ha) ?_;intro w75 H76 _;go_upto_if 15 with fail
 go_cut [] (fun wx=>Hp w wx [.blk X44 23 [.int .i64 ((endL a b).1),.int .i64 ((endL a b).2)],.blk X49 23 [.int .i64 ((endH a b).1),.int .i64 ((endH a b).2)],.blk X54 23 [.int .i64 c.1,.int .i64 c.2],.blk X59 23 [.int .i64 d.1,.int .i64 d.2],.blk X64 30 [.bool false,.slice none 0 0,.bool false,.slice none 0 0],.blk X69 30 [.bool false,.slice none 0 0,.bool false,.slice none 0 0]]/\Dig w75 wx)
 case first=>
  by_cases cj:lessB b a=true
  ·rw[cj]
   go_upto_region 2 with fail
   refine wl ?_;refine zI2 H76.out _ _ ?_;refine aS' 0 [.int .i64 b.1,.int .i64 b.2] H76.out ?_;intro w78 H79 D79;refine aS' 1 [.int .i64 a.1,.int .i64 a.2] H79.out ?_;intro w81 H82 D82;have DD84:=tD D79 D82;go_wp2_with fail
   go_meet
   exact⟨(by rw[show endL a b=b from(if_pos cj),show endH a b=a from(if_pos cj)];exact H82.out),DD84.out⟩
  rw[Bool.eq_false_iff.2 cj];go_wp2_with fail
  go_meet
  exact⟨(by rw[show endL a b=a from(if_neg cj),show endH a b=b from(if_neg cj)];exact H76.out),(Dig.refl _)⟩
 obtain⟨hh_,hd_⟩:=hcut;generalize wc=w85 at*
 have H87:=zH hh_;have D87:=zH hd_;clear hh_ hd_;go_upto_region 3 with fail
 refine wl ?_;refine zd X59 (0) [.int .i64 d.1,.int .i64 d.2] (H87.out.range (i:=3) rR 0 2) Tryz.underlying23 ?_;refine zd X54 (0) [.int .i64 c.1,.int .i64 c.2] (H87.out.range (i:=2) rR 0 2) Tryz.underlying23 ?_;refine aC H87.out (less11_any d c _ hd hc) ?_;intro w88 H89 _;go_upto_if 20 with fail
 go_cut [] (fun wx=>Hp w wx [.blk X44 23 [.int .i64 ((endL a b).1),.int .i64 ((endL a b).2)],.blk X49 23 [.int .i64 ((endH a b).1),.int .i64 ((endH a b).2)],.blk X54 23 [.int .i64 ((endL c d).1),.int .i64 ((endL c d).2)],.blk X59 23 [.int .i64 ((endH c d).1),.int .i64 ((endH c d).2)],.blk X64 30 [.bool false,.slice none 0 0,.bool false,.slice none 0 0],.blk X69 30 [.bool false,.slice none 0 0,.bool false,.slice none 0 0]]/\Dig w88 wx)
 case first=>
  by_cases cj:lessB d c=true
  ·rw[cj]
   go_upto_region 4 with fail
   refine wl ?_;refine zd X59 (0) [.int .i64 d.1,.int .i64 d.2] (H89.out.range (i:=3) rR 0 2) Tryz.underlying23 ?_;refine zd X54 (0) [.int .i64 c.1,.int .i64 c.2] (H89.out.range (i:=2) rR 0 2) Tryz.underlying23 ?_;refine aS' 2 [.int .i64 d.1,.int .i64 d.2] H89.out ?_;intro w91 H92 D92;refine aS' 3 [.int .i64 c.1,.int .i64 c.2] H92.out ?_;intro w94 H95 D95;have DD97:=tD D92 D95;go_wp2_with fail
   go_meet
   exact⟨(by rw[show endL c d=d from(if_pos cj),show endH c d=c from(if_pos cj)];exact H95.out),DD97.out⟩
  rw[Bool.eq_false_iff.2 cj];go_wp2_with fail
  go_meet
  exact⟨(by rw[show endL c d=c from(if_neg cj),show endH c d=d from(if_neg cj)];exact H89.out),(Dig.refl _)⟩
 obtain⟨hh_,hd_⟩:=hcut;generalize wc=w98 at*
 have H100:=zH hh_;have D100:=zH hd_;clear hh_ hd_;go_upto_region 5 with fail
 refine zy ?_;have H101:=zH (H100.out.step (Ext.refl w98).drew);refine zg 0 (bs 6 1) X44 (0) [.int .i64 ((endL a b).1),.int .i64 ((endL a b).2)] (H100.out.range (i:=0) rR 0 2) Tryz.underlying23 zb ?_;refine zg 1 (bs 6 3) X49 (0) [.int .i64 ((endH a b).1),.int .i64 ((endH a b).2)] (H100.out.range (i:=1) rR 0 2) Tryz.underlying23 zb ?_;refine md_alloc2 (i:=2) (j:=3) (T:=23) (U:=23) (zs:=[.int .i64 0,.int .i64 0]) (us:=[.int .i64 0,.int .i64 0]) (li:=(bs 6 7)) (lj:=(bs 6 11)) (lij:=(bs 6 15)) rR rR kR kR kR kR kR kR kR rR rR dC (by intro r_ x_;go_simp) (by intro r_ x_;go_simp) (fun x y h1 h2=>h1.trans h2) zb H101.out (by simp[NoUL]) (by simp[NoUL]) ?_;intro X103 Y104 w105 hh hx hg1 hg2 hs;have H106:=hN hh;have S108:=zH (show Ext w98 w105 from hs);have G109:=zH (Nat.le_trans zb.size hg1);have G110:=zH (Nat.le_trans zb.size hg2);clear hh hx hg1 hg2 hs;try simp only[Act.put,zA,zB,zC]
 refine bS 6 4 (bs 6 31) [.int .i64 ((endL a b).1),.int .i64 ((endL a b).2)] H106.out S108.out G109.out ?_;intro w111 H112 _ S114;refine bS 7 5 (bs 6 63) [.int .i64 ((endH a b).1),.int .i64 ((endH a b).2)] H112.out S114.out G110.out ?_;intro w115 H116 _ S118;refine wpAnyH_done kR ?_ _;go_upto_region 6 with fail
 refine wl ?_;refine zI2 H116.out _ _ ?_;refine aC H116.out (less11_any (endL a b) (endL c d) _ (okL ha hb) (okL hc hd)) ?_;intro w119 H120 _;go_upto_if 27 with fail
 go_cut [] (fun wx=>Hp w wx [.blk X44 23 [.int .i64 ((endL a b).1),.int .i64 ((endL a b).2)],.blk X49 23 [.int .i64 ((endH a b).1),.int .i64 ((endH a b).2)],.blk X54 23 [.int .i64 ((endL c d).1),.int .i64 ((endL c d).2)],.blk X59 23 [.int .i64 ((endH c d).1),.int .i64 ((endH c d).2)],.blk X64 30 [.bool false,.slice none 0 0,.bool false,.slice none 0 0],.blk X69 30 [.bool false,.slice none 0 0,.bool false,.slice none 0 0],.blk X103 23 [.int .i64 ((shL a b c d).1),.int .i64 ((shL a b c d).2)],.blk Y104 23 [.int .i64 ((endH a b).1),.int .i64 ((endH a b).2)]]/\Dig w119 wx)
 case first=>
  by_cases cj:lessB (endL a b) (endL c d)=true
  ·rw[cj]
   go_upto_region 7 with fail
   refine wl ?_;refine zI1 H120.out _ ?_;refine aS' 6 [.int .i64 ((endL c d).1),.int .i64 ((endL c d).2)] H120.out ?_;intro w122 H123 D123;go_wp2_with fail
   go_meet
   exact⟨(by rw[show shL a b c d=endL c d from(if_pos cj)];exact H123.out),D123.out⟩
  rw[Bool.eq_false_iff.2 cj];go_wp2_with fail
  go_meet
  exact⟨(by rw[show shL a b c d=endL a b from(if_neg cj)];exact H120.out),(Dig.refl _)⟩
 obtain⟨hh_,hd_⟩:=hcut;generalize wc=w125 at*
 have H127:=zH hh_;have D127:=zH hd_;clear hh_ hd_;go_upto_region 8 with fail
 refine wl ?_;refine zd X59 (0) [.int .i64 ((endH c d).1),.int .i64 ((endH c d).2)] (H127.out.range (i:=3) rR 0 2) Tryz.underlying23 ?_;refine zd X49 (0) [.int .i64 ((endH a b).1),.int .i64 ((endH a b).2)] (H127.out.range (i:=1) rR 0 2) Tryz.underlying23 ?_;refine aC H127.out (less11_any (endH c d) (endH a b) _ (okH hc hd) (okH ha hb)) ?_;intro w128 H129 _;go_upto_if 31 with fail
 go_cut [] (fun wx=>Hp w wx [.blk X44 23 [.int .i64 ((endL a b).1),.int .i64 ((endL a b).2)],.blk X49 23 [.int .i64 ((endH a b).1),.int .i64 ((endH a b).2)],.blk X54 23 [.int .i64 ((endL c d).1),.int .i64 ((endL c d).2)],.blk X59 23 [.int .i64 ((endH c d).1),.int .i64 ((endH c d).2)],.blk X64 30 [.bool false,.slice none 0 0,.bool false,.slice none 0 0],.blk X69 30 [.bool false,.slice none 0 0,.bool false,.slice none 0 0],.blk X103 23 [.int .i64 ((shL a b c d).1),.int .i64 ((shL a b c d).2)],.blk Y104 23 [.int .i64 ((shH a b c d).1),.int .i64 ((shH a b c d).2)]]/\Dig w128 wx)
 case first=>
  by_cases cj:lessB (endH c d) (endH a b)=true
  ·rw[cj]
   go_upto_region 9 with fail
   refine wl ?_;refine zd X59 (0) [.int .i64 ((endH c d).1),.int .i64 ((endH c d).2)] (H129.out.range (i:=3) rR 0 2) Tryz.underlying23 ?_;refine aS' 7 [.int .i64 ((endH c d).1),.int .i64 ((endH c d).2)] H129.out ?_;intro w131 H132 D132;go_wp2_with fail
   go_meet
   exact⟨(by rw[show shH a b c d=endH c d from(if_pos cj)];exact H132.out),D132.out⟩
  rw[Bool.eq_false_iff.2 cj];go_wp2_with fail
  go_meet
  exact⟨(by rw[show shH a b c d=endH a b from(if_neg cj)];exact H129.out),(Dig.refl _)⟩
 obtain⟨hh_,hd_⟩:=hcut;generalize wc=w134 at*
 have H136:=zH hh_;have D136:=zH hd_;clear hh_ hd_;have HL:=zH (show shL a b c d=shL a b c d from rfl);have HH:=zH (show shH a b c d=shH a b c d from rfl);rcases emH (lessB (shH a b c d) (shL a b c d)=true)with C5|C5
 ·go_upto_region 10 with fail
  refine wl ?_;refine zd Y104 (0) [.int .i64 ((shH a b c d).1),.int .i64 ((shH a b c d).2)] (H136.out.range (i:=7) rR 0 2) Tryz.underlying23 ?_;refine zd X103 (0) [.int .i64 ((shL a b c d).1),.int .i64 ((shL a b c d).2)] (H136.out.range (i:=6) rR 0 2) Tryz.underlying23 ?_;refine zc (less11_any (shH a b c d) (shL a b c d) _ (okSH ha hb hc hd) (okSL ha hb hc hd)) ?_;rintro e w138 ⟨rfl,hx⟩;have H139:=zH (H136.out.step hx);clear hx;refine⟨.bool true,by rw[C5.out],?_⟩;try simp only[Act.put,zA,zB,zC]
  go_upto_region 11 with fail
  refine wl ?_;refine zI2 (Hp.start _) _ _ ?_;refine aS' 4 rz H139.out ?_;intro w143 H144 _;refine aS' 5 rz H144.out ?_;intro w146 H147 _;refine zq (.int .i64 0) ?_;have HS:=zH (show sharedV a b c d=((0,0),0)from by unfold sharedV;rw[HL.out,HH.out];exact if_pos C5.out);go_wp2_with fail
  refine bodyPost_ret (v:= .tuple #[.agg z4,.agg z4,.int .i64 0]) ?_ rfl ⟨.inr ⟨by rw[HS.out];decide,by rw[HS.out]⟩,H147.out.ext⟩;exact results_c1c1t1 rfl rfl rfl ((H147.out.blk (i:=4) rR).loadVar rfl rfl rR) ((H147.out.blk (i:=5) rR).loadVar rfl rfl rR) rfl
 go_upto_region 10 with fail
 refine wl ?_;refine zd Y104 (0) [.int .i64 ((shH a b c d).1),.int .i64 ((shH a b c d).2)] (H136.out.range (i:=7) rR 0 2) Tryz.underlying23 ?_;refine zd X103 (0) [.int .i64 ((shL a b c d).1),.int .i64 ((shL a b c d).2)] (H136.out.range (i:=6) rR 0 2) Tryz.underlying23 ?_;refine zc (less11_any (shH a b c d) (shL a b c d) _ (okSH ha hb hc hd) (okSL ha hb hc hd)) ?_;rintro e w150 ⟨rfl,hx⟩;have H151:=zH (H136.out.step hx);clear hx;refine⟨.bool false,by rw[Bool.eq_false_iff.2 C5.out],?_⟩;try simp only[Act.put,zA,zB,zC]
 rcases emH ((shL a b c d)=(shH a b c d))with C6|C6
 ·go_upto_region 12 with fail
  refine wl ?_;refine zd X103 (0) [.int .i64 ((shL a b c d).1),.int .i64 ((shL a b c d).2)] (H151.out.range (i:=6) rR 0 2) Tryz.underlying23 ?_;refine zd Y104 (0) [.int .i64 ((shH a b c d).1),.int .i64 ((shH a b c d).2)] (H151.out.range (i:=7) rR 0 2) Tryz.underlying23 ?_;refine zp (.bool true) (by exact ev_eqlpt rR rR rR (pt_eq.2 C6.out)) ?_;go_upto_region 13 with fail
  refine wl ?_;refine zd X103 (0) [.int .i64 ((shL a b c d).1),.int .i64 ((shL a b c d).2)] (H151.out.range (i:=6) rR 0 2) Tryz.underlying23 ?_;refine zc (one17_any (shL a b c d) _ (okSL ha hb hc hd)) ?_;rintro e w156 ⟨r155,s155,rfl,hr_,hs_,hx⟩;have H157:=zH (H151.out.step hx);have R155:=zH hr_;have S155:=zH hs_;clear hr_ hs_ hx;refine zn ?_;refine zI3 (Hp.start _) _ _ _ ?_;refine aS' 4 (rc r155) H157.out ?_;intro w162 H163 D163;refine aS' 5 (rc s155) H163.out ?_;intro w165 H166 D166;refine zq (.int .i64 1) ?_;have HS:=zH (show sharedV a b c d=((shL a b c d),1)from by unfold sharedV;rw[HL.out,HH.out,if_neg C5.out];exact if_pos C6.out);have DD169:=tD D163 D166;go_wp2_with fail
  refine bodyPost_ret (v:= .tuple #[.agg #[.bool r155.n,.slice r155.p r155.l r155.c,.bool r155.m,.slice r155.p2 r155.l2 r155.c2],.agg #[.bool s155.n,.slice s155.p s155.l s155.c,.bool s155.m,.slice s155.p2 s155.l2 s155.c2],.int .i64 1]) ?_ rfl ⟨.inl ⟨_,_,by rw[HS.out],rfl,by rw[HS.out];exact(R155.out.dig DD169.out),by rw[HS.out];exact(S155.out.dig DD169.out)⟩,H166.out.ext⟩;exact results_c1c1t1 rfl rfl rfl ((H166.out.blk (i:=4) rR).loadVar rfl rfl rR) ((H166.out.blk (i:=5) rR).loadVar rfl rfl rR) rfl
 go_upto_region 12 with fail
 refine wl ?_;refine zd X103 (0) [.int .i64 ((shL a b c d).1),.int .i64 ((shL a b c d).2)] (H151.out.range (i:=6) rR 0 2) Tryz.underlying23 ?_;refine zd Y104 (0) [.int .i64 ((shH a b c d).1),.int .i64 ((shH a b c d).2)] (H151.out.range (i:=7) rR 0 2) Tryz.underlying23 ?_;refine zp (.bool false) (by exact ev_eqlpt rR rR rR (Bool.eq_false_iff.2 (fun h_=>C6.out (pt_eq.1 h_)))) ?_;go_upto_region 14 with fail
 refine wl ?_;refine zI2 (Hp.start _) _ _ ?_;refine aS' 4 rz H151.out ?_;intro w173 H174 _;refine aS' 5 rz H174.out ?_;intro w176 H177 _;refine zq (.int .i64 2) ?_;have HS:=zH (show sharedV a b c d=((0,0),2)from by unfold sharedV;rw[HL.out,HH.out,if_neg C5.out];exact if_neg C6.out);go_wp2_with fail
 refine bodyPost_ret (v:= .tuple #[.agg z4,.agg z4,.int .i64 2]) ?_ rfl ⟨.inr ⟨by rw[HS.out];decide,by rw[HS.out]⟩,H177.out.ext⟩;exact results_c1c1t1 rfl rfl rfl ((H177.out.blk (i:=4) rR).loadVar rfl rfl rR) ((H177.out.blk (i:=5) rR).loadVar rfl rfl rR) rfl
theorem inU_pos (t d:Int)(hd:0<d):(¬(t:Rat)/(d:Rat)<(((0):Int):Rat)/\¬(((1):Int):Rat)<(t:Rat)/(d:Rat))↔0<=t/\t<=d:=by
  have h:(0:Rat)<(d:Rat):=by exact_mod_cast hd
  rw[Rat.div_lt_iff h,Rat.lt_div_iff h,<-Rat.intCast_mul,<-Rat.intCast_mul,Rat.intCast_lt_intCast,Rat.intCast_lt_intCast];omega
theorem neg_div_neg17 (t d:Int):((-t:Int):Rat)/((-d:Int):Rat)=(t:Rat)/(d:Rat):=by
  rw[Rat.intCast_neg,Rat.intCast_neg,Rat.div_def,Rat.div_def];by_cases hd:(d:Rat)=0
  · rw[hd];simp
  have h1:=Rat.mul_inv_cancel (d:Rat) hd;have h2:=Rat.mul_inv_cancel (-(d:Rat)) (by grind);grind
theorem cr_par {r s w:Int×Int}(h:r.1*s.2-r.2*s.1=0)(hr:¬(r=(0,0)))(hw:r.1*w.2-r.2*w.1=0):s.1*w.2-s.2*w.1=0:=by
 obtain⟨r1,r2⟩:=r;obtain⟨s1,s2⟩:=s;obtain⟨w1,w2⟩:=w;simp only at*;by_cases h1:r1=0
 ·have h2:r2≠0:=fun h2=>hr (by rw[h1,h2])
  have h3:r2*(s1*w2-s2*w1)=0:=by subst h1;grind
  rcases Int.mul_eq_zero.1 h3 with h4|h4
  ·exact absurd h4 h2
  exact h4
 have h3:r1*(s1*w2-s2*w1)=0:=by grind
 rcases Int.mul_eq_zero.1 h3 with h4|h4
 ·exact absurd h4 h1
 exact h4
theorem segN_line {a b c d:Int×Int}(h:cr (dv a b) (dv c d)=0):segN a b c d=if (cr (dv a b) (dv a c)≠0\/cr (dv c d) (dv a c)≠0)\/(a=b/\c=d/\a≠c)then 0 else(sharedV a b c d).2:=by
 have e0:∀p q:Int×Int,dv p q=(0,0)↔p=q:=fun p q=>by
  unfold dv;constructor
  ·intro h
   have h1:=congrArg Prod.fst h;have h2:=congrArg Prod.snd h;simp only at h1 h2;exact Prod.ext (by omega) (by omega)
  intro h;subst h;simp
 have z:∀u:Int×Int,cr (0,0) u=0:=fun u=>by simp[cr]
 unfold segN;rw[if_neg (fun h2=>h2 h)];by_cases h1:dv a b=(0,0)
 ·have hl:lineV a b c d=dv c d:=if_pos h1
  rw[hl];by_cases h2:dv c d=(0,0)
  ·rw[h1,h2]
   simp only[z,ne_eq,not_true_eq_false,false_or,true_and];have e1:=(e0 a b).1 h1;have e2:=(e0 c d).1 h2;simp only[e1,e2,true_and]
  rw[h1];have e2:¬c=d:=fun h=>h2 ((e0 c d).2 h)
  simp[z,h2,e2]
 have hl:lineV a b c d=dv a b:=if_neg h1;rw[hl];have e1:¬a=b:=fun h=>h1 ((e0 a b).2 h)
 have h3:cr (dv a b) (dv a c)=0->cr (dv c d) (dv a c)=0:=fun h4=>cr_par h h1 h4
 by_cases h4:cr (dv a b) (dv a c)=0
 ·simp[h1,e1,h4,h3 h4]
 simp[h4]
theorem rsegments_any (a b c d:Int×Int)(w:World)(ha:okP a)(hb:okP b)(hc:okP c)(hd:okP d):
  Calls Tryz.prog 53 #[.agg #[.int .i64 a.1,.int .i64 a.2],.agg #[.int .i64 b.1,.int .i64 b.2],.agg #[.int .i64 c.1,.int .i64 c.2],.agg #[.int .i64 d.1,.int .i64 d.2]] w (SegRet a b c d w):=by
 have hn1:=cr_bd (dv_bd ha hb) (dv_bd hc hd);have hn2:=cr_bd (dv_bd ha hc) (dv_bd hc hd);have hn3:=cr_bd (dv_bd ha hc) (dv_bd ha hb);have db:=dv_bd ha hb;have oa:=okP_out ha;have ob:=okP_out hb;have oc:=okP_out hc;have od:=okP_out hd;go_enter Tryz.func53,Tryz.ntmps53
 have H0:=zH (Hp.start w);go_upto_region 0 with fail
 refine wl ?_;refine aA' 23 [.int .i64 a.1,.int .i64 a.2] H0.out ?_;intro X136 w137 H138 _;refine aA' 23 [.int .i64 b.1,.int .i64 b.2] H138.out ?_;intro X141 w142 H143 _;refine aA' 23 [.int .i64 c.1,.int .i64 c.2] H143.out ?_;intro X146 w147 H148 _;refine aA' 23 [.int .i64 d.1,.int .i64 d.2] H148.out ?_;intro X151 w152 H153 _;refine aA' 30 rz H153.out ?_;intro X156 w157 H158 _;refine aA' 30 rz H158.out ?_;intro X161 w162 H163 _;refine zq (.int .i64 0) ?_;go_upto_region 1 with fail
 refine wl ?_;refine zI1 H163.out _ ?_;refine zc (rvalid_any a.1 a.2 _) ?_;rintro e w167 ⟨rfl,hx⟩;have H168:=zH (H163.out.step hx);clear hx;refine⟨.bool true,by rw[ha],?_⟩;try simp only[Act.put,zA,zB,zC]
 refine zI3 H168.out (.bool false) (.bool false) _ ?_;refine zc (rvalid_any b.1 b.2 _) ?_;rintro e w172 ⟨rfl,hx⟩;have H173:=zH (H168.out.step hx);clear hx;refine⟨.bool true,by rw[hb],?_⟩;try simp only[Act.put,zA,zB,zC]
 refine zI4 H173.out (.bool false) (.bool false) (.bool false) _ ?_;refine zc (rvalid_any c.1 c.2 _) ?_;rintro e w178 ⟨rfl,hx⟩;have H179:=zH (H173.out.step hx);clear hx;refine⟨.bool true,by rw[hc],?_⟩;try simp only[Act.put,zA,zB,zC]
 refine zI4 H179.out (.bool false) (.bool false) (.bool false) _ ?_;refine zc (rvalid_any d.1 d.2 _) ?_;rintro e w184 ⟨rfl,hx⟩;have H185:=zH (H179.out.step hx);clear hx;refine⟨.bool true,by rw[hd],?_⟩;try simp only[Act.put,zA,zB,zC]
 refine qV (.bool false) ?_;refine zq (.bool false) ?_;go_upto_region 3 with fail
 refine zy ?_;have H189:=zH (H185.out.step (Ext.refl w184).drew);refine zJ6 H185.out zb (bs 15 219) 0 1 3 4 6 7 _ _ _ _ _ _ ?_;refine FN.go3 (j1:=⟨9,some 11,23,[.int .i64 0,.int .i64 0]⟩) (j2:=⟨10,some 12,23,[.int .i64 0,.int .i64 0]⟩) (j3:=⟨11,some 13,23,[.int .i64 0,.int .i64 0]⟩) (b:=w184) ?_ zb;refine gN 2 (bs 15 223) (fk (fk (fk trivial))) zb.size (fun xq hxq=>sub11_any b a _ hb ha) (by rintro x_ e x2_ ⟨rfl,hx⟩;exact hx) ?_;rintro xq e w191 hxq ⟨rfl,hx⟩;replace hx:=hxq.trans hx;clear hxq;have H192:=zH (H189.out.step hx);have S194:=zH (zb.trans hx);clear hx;refine⟨_,rfl,?_⟩;try simp only[Act.put,zA,zB,zC]
 refine gN 5 (bs 15 255) (fk (fk (fk trivial))) S194.out.size (fun xq hxq=>sub11_any d c _ hd hc) (by rintro x_ e x2_ ⟨rfl,hx⟩;exact hx) ?_;rintro xq e w195 hxq ⟨rfl,hx⟩;replace hx:=hxq.trans hx;clear hxq;have H196:=zH (H192.out.step hx);have S198:=zH (S194.out.trans hx);clear hx;refine⟨_,rfl,?_⟩;try simp only[Act.put,zA,zB,zC]
 refine gN 8 (bs 15 511) (fk (fk (fk trivial))) S198.out.size (fun xq hxq=>sub11_any c a _ hc ha) (by rintro x_ e x2_ ⟨rfl,hx⟩;exact hx) ?_;rintro xq e w199 hxq ⟨rfl,hx⟩;replace hx:=hxq.trans hx;clear hxq;have H200:=zH (H196.out.step hx);have S202:=zH (S198.out.trans hx);clear hx;refine⟨_,rfl,?_⟩;try simp only[Act.put,zA,zB,zC]
 refine gE3 (bs 15 4095) (fk (fk (fk trivial))) S202.out.size H185.out H200.out ?_;intro X203 X204 X205 w206 hx hh hg0 hg1 hg2 hs;have H207:=hN hh;have S209:=zH (show Ext w184 w206 from hs);have G210:=zH (show w184.heap.size<=X203 from hg0);have G211:=zH (show w184.heap.size<=X204 from hg1);have G212:=zH (show w184.heap.size<=X205 from hg2);clear hh hx hs hg0 hg1 hg2;try simp only[Act.put,zA,zB,zC]
 refine bS 6 12 (bs 15 8191) [.int .i64 ((dv a b).1),.int .i64 ((dv a b).2)] H207.out S209.out G210.out ?_;intro w213 H214 _ S216;refine bS 7 13 (bs 15 16383) [.int .i64 ((dv c d).1),.int .i64 ((dv c d).2)] H214.out S216.out G211.out ?_;intro w217 H218 _ S220;refine bS 8 14 (bs 15 32767) [.int .i64 ((dv a c).1),.int .i64 ((dv a c).2)] H218.out S220.out G212.out ?_;intro w221 H222 _ S224;refine wpAnyH_done kR ?_ _;go_upto_region 4 with fail
 refine wl ?_;refine zI2 H222.out _ _ ?_;refine aC H222.out (wedge11_any (dv a b) (dv c d) _ (dv_bd ha hb) (dv_bd hc hd)) ?_;intro w225 H226 _;refine zq (.int .i64 (cr (dv a b) (dv c d))) ?_;rcases emH (cr (dv a b) (dv c d)=0)with C0|C0
 ·go_upto_region 5 with fail
  refine wl ?_;refine zq (.int .i64 (cr (dv a b) (dv c d))) ?_;refine zp (.bool true) (by exact ezq (e:=(dec_t C0.out))) ?_;rcases emH (cr (dv a b) (dv a c)≠0)with C1|C1
  ·go_upto_region 6 with fail
   refine wl ?_;refine zI2 H226.out _ _ ?_;refine aC H226.out (wedge11_any (dv a b) (dv a c) _ (dv_bd ha hb) (dv_bd ha hc)) ?_;intro w233 H234 _;refine zp (.bool true) (by exact ezn (e:=(dec_t C1.out))) ?_;refine zI6 (Hp.start _) (.bool true) _ _ _ _ (.bool true) ?_;go_upto_region 7 with fail
   refine wl ?_;refine zI2 (Hp.start _) _ _ ?_;refine aS' 4 rz H234.out ?_;intro w241 H242 _;refine aS' 5 rz H242.out ?_;intro w244 H245 _;refine zq (.int .i64 0) ?_;have HSN:=zH (show segN a b c d=0 from by rw[segN_line C0.out];exact if_pos (.inl (.inl C1.out)));go_wp2_with fail
   refine bodyPost_ret (v:= .tuple #[.agg z4,.agg z4,.int .i64 0]) ?_ rfl ⟨.inr ⟨by rw[HSN.out];decide,by rw[HSN.out]⟩,H245.out.ext⟩;exact results_c1c1t1 rfl rfl rfl ((H245.out.blk (i:=4) rR).loadVar rfl rfl rR) ((H245.out.blk (i:=5) rR).loadVar rfl rfl rR) rfl
  rcases emH (cr (dv c d) (dv a c)≠0)with C2|C2
  ·go_upto_region 6 with fail
   refine wl ?_;refine zI2 H226.out _ _ ?_;refine aC H226.out (wedge11_any (dv a b) (dv a c) _ (dv_bd ha hb) (dv_bd ha hc)) ?_;intro w249 H250 _;refine zp (.bool false) (by exact ezn (e:=(dec_f C1.out))) ?_;refine zI3 H250.out (.bool false) _ _ ?_;refine aC H250.out (wedge11_any (dv c d) (dv a c) _ (dv_bd hc hd) (dv_bd ha hc)) ?_;intro w254 H255 _;refine zp (.bool true) (by exact ezn (e:=(dec_t C2.out))) ?_;refine zq (.bool true) ?_;go_upto_region 7 with fail
   refine wl ?_;refine zI2 (Hp.start _) _ _ ?_;refine aS' 4 rz H255.out ?_;intro w261 H262 _;refine aS' 5 rz H262.out ?_;intro w264 H265 _;refine zq (.int .i64 0) ?_;have HSN:=zH (show segN a b c d=0 from by rw[segN_line C0.out];exact if_pos (.inl (.inr C2.out)));go_wp2_with fail
   refine bodyPost_ret (v:= .tuple #[.agg z4,.agg z4,.int .i64 0]) ?_ rfl ⟨.inr ⟨by rw[HSN.out];decide,by rw[HSN.out]⟩,H265.out.ext⟩;exact results_c1c1t1 rfl rfl rfl ((H265.out.blk (i:=4) rR).loadVar rfl rfl rR) ((H265.out.blk (i:=5) rR).loadVar rfl rfl rR) rfl
  go_upto_region 6 with fail
  refine wl ?_;refine zI2 H226.out _ _ ?_;refine aC H226.out (wedge11_any (dv a b) (dv a c) _ (dv_bd ha hb) (dv_bd ha hc)) ?_;intro w268 H269 _;refine zp (.bool false) (by exact ezn (e:=(dec_f C1.out))) ?_;refine zI3 H269.out (.bool false) _ _ ?_;refine aC H269.out (wedge11_any (dv c d) (dv a c) _ (dv_bd hc hd) (dv_bd ha hc)) ?_;intro w273 H274 _;refine zp (.bool false) (by exact ezn (e:=(dec_f C2.out))) ?_;refine zq (.bool false) ?_;rcases emH (a=b)with E1|E1
  ·rcases emH (c=d)with E2|E2
   ·rcases emH (a=c)with E3|E3
    ·go_upto_region 8 with fail
     refine wl ?_;refine zI2 H274.out _ _ ?_;refine zp (.bool true) (by exact ev_eqlpt rR rR rR (pt_eq.2 E1.out)) ?_;refine zI3 H274.out (.bool true) _ _ ?_;refine zp (.bool true) (by exact ev_eqlpt rR rR rR (pt_eq.2 E2.out)) ?_;refine zI4 H274.out (.bool true) (.bool true) _ _ ?_;refine zp (.bool false) (by exact ev_neqpt rR rR rR (by rw[pt_eq.2 E3.out];rfl)) ?_;refine zq (.bool false) ?_;have HSV:=zH (show segN a b c d=(sharedV a b c d).2 from by rw[segN_line C0.out];exact if_neg (fun h_=>h_.elim (fun h_=>h_.elim C1.out C2.out) (fun h_=>h_.2.2 E3.out)));have HSX:=zH (show segX a b c d=(((sharedV a b c d).1.1:Int):Rat)from if_neg (fun h_=>h_ C0.out));have HSY:=zH (show segY a b c d=(((sharedV a b c d).1.2:Int):Rat)from if_neg (fun h_=>h_ C0.out));rcases emH ((sharedV a b c d).2=1)with CS|CS
     ·go_upto_region 10 with fail
      refine wl ?_;refine zI4 H274.out _ _ _ _ ?_;refine zc (((ralong17_any a b c d _ ha hb hc hd).mono (fun _ _ h_=>LineRet.yes h_ CS.out))) ?_;rintro e w290 ⟨r289,s289,rfl,hr_,hs_,hx⟩;have H291:=zH (H274.out.step hx);have R289:=zH hr_;have S289:=zH hs_;clear hr_ hs_ hx;refine zn ?_;refine zI3 (Hp.start _) _ _ _ ?_;refine aS' 4 (rc r289) H291.out ?_;intro w296 H297 D297;refine aS' 5 (rc s289) H297.out ?_;intro w299 H300 D300;refine zq (.int .i64 1) ?_;have DD303:=tD D297 D300;go_wp2_with fail
      refine bodyPost_ret (v:= .tuple #[.agg #[.bool r289.n,.slice r289.p r289.l r289.c,.bool r289.m,.slice r289.p2 r289.l2 r289.c2],.agg #[.bool s289.n,.slice s289.p s289.l s289.c,.bool s289.m,.slice s289.p2 s289.l2 s289.c2],.int .i64 1]) ?_ rfl ⟨.inl ⟨_,_,by rw[HSV.out,CS.out],rfl,by rw[HSX.out];exact(R289.out.dig DD303.out),by rw[HSY.out];exact(S289.out.dig DD303.out)⟩,H300.out.ext⟩;exact results_c1c1t1 rfl rfl rfl ((H300.out.blk (i:=4) rR).loadVar rfl rfl rR) ((H300.out.blk (i:=5) rR).loadVar rfl rfl rR) rfl
     go_upto_region 10 with fail
     refine wl ?_;refine zI4 H274.out _ _ _ _ ?_;refine aC H274.out (((ralong17_any a b c d _ ha hb hc hd).mono (fun _ _ h_=>LineRet.no h_ CS.out))) ?_;intro w304 H305 _;refine zI3 (Hp.start _) _ _ (.int .i64 ((sharedV a b c d).2)) ?_;refine aS' 4 rz H305.out ?_;intro w310 H311 _;refine aS' 5 rz H311.out ?_;intro w313 H314 _;refine zq (.int .i64 ((sharedV a b c d).2)) ?_;go_wp2_with fail
     refine bodyPost_ret (v:= .tuple #[.agg z4,.agg z4,.int .i64 (sharedV a b c d).2]) ?_ rfl ⟨.inr ⟨by rw[HSV.out];exact CS.out,by rw[HSV.out]⟩,H314.out.ext⟩;exact results_c1c1t1 rfl rfl rfl ((H314.out.blk (i:=4) rR).loadVar rfl rfl rR) ((H314.out.blk (i:=5) rR).loadVar rfl rfl rR) rfl
    go_upto_region 8 with fail
    refine wl ?_;refine zI2 H274.out _ _ ?_;refine zp (.bool true) (by exact ev_eqlpt rR rR rR (pt_eq.2 E1.out)) ?_;refine zI3 H274.out (.bool true) _ _ ?_;refine zp (.bool true) (by exact ev_eqlpt rR rR rR (pt_eq.2 E2.out)) ?_;refine zI4 H274.out (.bool true) (.bool true) _ _ ?_;refine zp (.bool true) (by exact ev_neqpt rR rR rR (by rw[Bool.eq_false_iff.2 (fun h_=>E3.out (pt_eq.1 h_))];rfl)) ?_;refine zq (.bool true) ?_;go_upto_region 9 with fail
    refine wl ?_;refine zI2 (Hp.start _) _ _ ?_;refine aS' 4 rz H274.out ?_;intro w326 H327 _;refine aS' 5 rz H327.out ?_;intro w329 H330 _;refine zq (.int .i64 0) ?_;have HSN:=zH (show segN a b c d=0 from by rw[segN_line C0.out];exact if_pos (.inr ⟨E1.out,E2.out,E3.out⟩));go_wp2_with fail
    refine bodyPost_ret (v:= .tuple #[.agg z4,.agg z4,.int .i64 0]) ?_ rfl ⟨.inr ⟨by rw[HSN.out];decide,by rw[HSN.out]⟩,H330.out.ext⟩;exact results_c1c1t1 rfl rfl rfl ((H330.out.blk (i:=4) rR).loadVar rfl rfl rR) ((H330.out.blk (i:=5) rR).loadVar rfl rfl rR) rfl
   go_upto_region 8 with fail
   refine wl ?_;refine zI2 H274.out _ _ ?_;refine zp (.bool true) (by exact ev_eqlpt rR rR rR (pt_eq.2 E1.out)) ?_;refine zI3 H274.out (.bool true) _ _ ?_;refine zp (.bool false) (by exact ev_eqlpt rR rR rR (Bool.eq_false_iff.2 (fun h_=>E2.out (pt_eq.1 h_)))) ?_;refine zI6 (Hp.start _) (.bool false) (.bool false) _ _ _ (.bool false) ?_;have HSV:=zH (show segN a b c d=(sharedV a b c d).2 from by rw[segN_line C0.out];exact if_neg (fun h_=>h_.elim (fun h_=>h_.elim C1.out C2.out) (fun h_=>E2.out h_.2.1)));have HSX:=zH (show segX a b c d=(((sharedV a b c d).1.1:Int):Rat)from if_neg (fun h_=>h_ C0.out));have HSY:=zH (show segY a b c d=(((sharedV a b c d).1.2:Int):Rat)from if_neg (fun h_=>h_ C0.out));rcases emH ((sharedV a b c d).2=1)with CS|CS
   ·go_upto_region 10 with fail
    refine wl ?_;refine zI4 H274.out _ _ _ _ ?_;refine zc (((ralong17_any a b c d _ ha hb hc hd).mono (fun _ _ h_=>LineRet.yes h_ CS.out))) ?_;rintro e w341 ⟨r340,s340,rfl,hr_,hs_,hx⟩;have H342:=zH (H274.out.step hx);have R340:=zH hr_;have S340:=zH hs_;clear hr_ hs_ hx;refine zn ?_;refine zI3 (Hp.start _) _ _ _ ?_;refine aS' 4 (rc r340) H342.out ?_;intro w347 H348 D348;refine aS' 5 (rc s340) H348.out ?_;intro w350 H351 D351;refine zq (.int .i64 1) ?_;have DD354:=tD D348 D351;go_wp2_with fail
    refine bodyPost_ret (v:= .tuple #[.agg #[.bool r340.n,.slice r340.p r340.l r340.c,.bool r340.m,.slice r340.p2 r340.l2 r340.c2],.agg #[.bool s340.n,.slice s340.p s340.l s340.c,.bool s340.m,.slice s340.p2 s340.l2 s340.c2],.int .i64 1]) ?_ rfl ⟨.inl ⟨_,_,by rw[HSV.out,CS.out],rfl,by rw[HSX.out];exact(R340.out.dig DD354.out),by rw[HSY.out];exact(S340.out.dig DD354.out)⟩,H351.out.ext⟩;exact results_c1c1t1 rfl rfl rfl ((H351.out.blk (i:=4) rR).loadVar rfl rfl rR) ((H351.out.blk (i:=5) rR).loadVar rfl rfl rR) rfl
   go_upto_region 10 with fail
   refine wl ?_;refine zI4 H274.out _ _ _ _ ?_;refine aC H274.out (((ralong17_any a b c d _ ha hb hc hd).mono (fun _ _ h_=>LineRet.no h_ CS.out))) ?_;intro w355 H356 _;refine zI3 (Hp.start _) _ _ (.int .i64 ((sharedV a b c d).2)) ?_;refine aS' 4 rz H356.out ?_;intro w361 H362 _;refine aS' 5 rz H362.out ?_;intro w364 H365 _;refine zq (.int .i64 ((sharedV a b c d).2)) ?_;go_wp2_with fail
   refine bodyPost_ret (v:= .tuple #[.agg z4,.agg z4,.int .i64 (sharedV a b c d).2]) ?_ rfl ⟨.inr ⟨by rw[HSV.out];exact CS.out,by rw[HSV.out]⟩,H365.out.ext⟩;exact results_c1c1t1 rfl rfl rfl ((H365.out.blk (i:=4) rR).loadVar rfl rfl rR) ((H365.out.blk (i:=5) rR).loadVar rfl rfl rR) rfl
  go_upto_region 8 with fail
  refine wl ?_;refine zI2 H274.out _ _ ?_;refine zp (.bool false) (by exact ev_eqlpt rR rR rR (Bool.eq_false_iff.2 (fun h_=>E1.out (pt_eq.1 h_)))) ?_;refine zI8 (Hp.start _) (.bool false) _ _ _ (.bool false) (.bool false) _ _ ?_;refine zk ?_;refine zq (.bool false) ?_;have HSV:=zH (show segN a b c d=(sharedV a b c d).2 from by rw[segN_line C0.out];exact if_neg (fun h_=>h_.elim (fun h_=>h_.elim C1.out C2.out) (fun h_=>E1.out h_.1)));have HSX:=zH (show segX a b c d=(((sharedV a b c d).1.1:Int):Rat)from if_neg (fun h_=>h_ C0.out));have HSY:=zH (show segY a b c d=(((sharedV a b c d).1.2:Int):Rat)from if_neg (fun h_=>h_ C0.out));rcases emH ((sharedV a b c d).2=1)with CS|CS
  ·go_upto_region 10 with fail
   refine wl ?_;refine zI4 H274.out _ _ _ _ ?_;refine zc (((ralong17_any a b c d _ ha hb hc hd).mono (fun _ _ h_=>LineRet.yes h_ CS.out))) ?_;rintro e w375 ⟨r374,s374,rfl,hr_,hs_,hx⟩;have H376:=zH (H274.out.step hx);have R374:=zH hr_;have S374:=zH hs_;clear hr_ hs_ hx;refine zn ?_;refine zI3 (Hp.start _) _ _ _ ?_;refine aS' 4 (rc r374) H376.out ?_;intro w381 H382 D382;refine aS' 5 (rc s374) H382.out ?_;intro w384 H385 D385;refine zq (.int .i64 1) ?_;have DD388:=tD D382 D385;go_wp2_with fail
   refine bodyPost_ret (v:= .tuple #[.agg #[.bool r374.n,.slice r374.p r374.l r374.c,.bool r374.m,.slice r374.p2 r374.l2 r374.c2],.agg #[.bool s374.n,.slice s374.p s374.l s374.c,.bool s374.m,.slice s374.p2 s374.l2 s374.c2],.int .i64 1]) ?_ rfl ⟨.inl ⟨_,_,by rw[HSV.out,CS.out],rfl,by rw[HSX.out];exact(R374.out.dig DD388.out),by rw[HSY.out];exact(S374.out.dig DD388.out)⟩,H385.out.ext⟩;exact results_c1c1t1 rfl rfl rfl ((H385.out.blk (i:=4) rR).loadVar rfl rfl rR) ((H385.out.blk (i:=5) rR).loadVar rfl rfl rR) rfl
  go_upto_region 10 with fail
  refine wl ?_;refine zI4 H274.out _ _ _ _ ?_;refine aC H274.out (((ralong17_any a b c d _ ha hb hc hd).mono (fun _ _ h_=>LineRet.no h_ CS.out))) ?_;intro w389 H390 _;refine zI3 (Hp.start _) _ _ (.int .i64 ((sharedV a b c d).2)) ?_;refine aS' 4 rz H390.out ?_;intro w395 H396 _;refine aS' 5 rz H396.out ?_;intro w398 H399 _;refine zq (.int .i64 ((sharedV a b c d).2)) ?_;go_wp2_with fail
  refine bodyPost_ret (v:= .tuple #[.agg z4,.agg z4,.int .i64 (sharedV a b c d).2]) ?_ rfl ⟨.inr ⟨by rw[HSV.out];exact CS.out,by rw[HSV.out]⟩,H399.out.ext⟩;exact results_c1c1t1 rfl rfl rfl ((H399.out.blk (i:=4) rR).loadVar rfl rfl rR) ((H399.out.blk (i:=5) rR).loadVar rfl rfl rR) rfl
 go_upto_region 5 with fail
 refine wl ?_;refine zq (.int .i64 (cr (dv a b) (dv c d))) ?_;refine zp (.bool false) (by exact ezq (e:=(dec_f C0.out))) ?_;go_upto_region 11 with fail
 refine zy ?_;have H404:=zH (H226.out.step (Ext.refl w225).drew);refine zJ4 H226.out zb (bs 8 27) 0 1 3 4 _ _ _ _ ?_;refine mC 2 (bs 8 31) (wedge11_any (dv a c) (dv c d) _ (dv_bd ha hc) (dv_bd hc hd)) ?_;rintro e w406 ⟨rfl,hx⟩;have H407:=zH (H404.out.step hx);have S409:=zH (zb.trans hx);clear hx;refine zm S409.out ?_;refine mC 5 (bs 8 63) (wedge11_any (dv a c) (dv a b) _ (dv_bd ha hc) (dv_bd ha hb)) ?_;rintro e w410 ⟨rfl,hx⟩;have H411:=zH (H407.out.step hx);have S413:=zH (S409.out.trans hx);clear hx;refine zm S413.out ?_;refine zJ2 (Hp.start _) S413.out (bs 8 255) 6 7 (.int .i64 (cr (dv a c) (dv c d))) (.int .i64 (cr (dv a c) (dv a b))) ?_;refine wpAnyH_done kR ?_ _;go_upto_region 12 with fail
 refine wl ?_;refine zq (.int .i64 (cr (dv a b) (dv c d))) ?_;refine zp (.bool (decide (cr (dv a b) (dv c d)<0))) (by exact ezl (e:=rfl)) ?_;go_upto_if 97 with fail
 go_cut [15,16,14] (fun v418 v419 v420 wx=>∃(t:Int) (u:Int) (n:Int),v418= .int .i64 t/\v419= .int .i64 u/\v420= .int .i64 n/\(0<n)/\((-9000000000000<=t/\t<=9000000000000)/\ -9000000000000<=u/\u<=9000000000000/\ -9000000000000<=n/\n<=9000000000000)/\(((t:Rat)/(n:Rat)=segT a b c d))/\(((u:Rat)/(n:Rat)=segS a b c d))/\Hp w wx [.blk X136 23 [.int .i64 a.1,.int .i64 a.2],.blk X141 23 [.int .i64 b.1,.int .i64 b.2],.blk X146 23 [.int .i64 c.1,.int .i64 c.2],.blk X151 23 [.int .i64 d.1,.int .i64 d.2],.blk X156 30 [.bool false,.slice none 0 0,.bool false,.slice none 0 0],.blk X161 30 [.bool false,.slice none 0 0,.bool false,.slice none 0 0],.blk X203 23 [.int .i64 ((dv a b).1),.int .i64 ((dv a b).2)],.blk X204 23 [.int .i64 ((dv c d).1),.int .i64 ((dv c d).2)],.blk X205 23 [.int .i64 ((dv a c).1),.int .i64 ((dv a c).2)]]/\Dig w410 wx)
 case first=>
  by_cases cj:cr (dv a b) (dv c d)<0
  ·rw[decide_eq_true cj]
   go_upto_region 13 with fail
   refine wl ?_;refine zq (.int .i64 (cr (dv a c) (dv c d))) ?_;refine zp (.int .i64 (-(cr (dv a c) (dv c d)))) (by exact ev_neg rR rR rfl (by omega) (by omega)) ?_;refine zq (.int .i64 (cr (dv a c) (dv a b))) ?_;refine zp (.int .i64 (-(cr (dv a c) (dv a b)))) (by exact ev_neg rR rR rfl (by omega) (by omega)) ?_;refine zq (.int .i64 (cr (dv a b) (dv c d))) ?_;refine zp (.int .i64 (-(cr (dv a b) (dv c d)))) (by exact ev_neg rR rR rfl (by omega) (by omega)) ?_;refine zI3 (Hp.start _) (.int .i64 (-(cr (dv a c) (dv c d)))) (.int .i64 (-(cr (dv a c) (dv a b)))) (.int .i64 (-(cr (dv a b) (dv c d)))) ?_;go_wp2_with fail
   go_meet
   exact⟨(-(cr (dv a c) (dv c d))),(-(cr (dv a c) (dv a b))),(-(cr (dv a b) (dv c d))),rfl,rfl,rfl,(by have h_:=C0.out;omega),(by omega),neg_div_neg17 _ _,neg_div_neg17 _ _,H411.out,(Dig.refl _)⟩
  rw[decide_eq_false cj];go_wp2_with fail
  go_meet
  exact⟨(cr (dv a c) (dv c d)),(cr (dv a c) (dv a b)),(cr (dv a b) (dv c d)),rfl,rfl,rfl,(by have h_:=C0.out;omega),(by omega),rfl,rfl,H411.out,(Dig.refl _)⟩
 obtain⟨t,u,n,rfl,rfl,rfl,q_HDN,q_HBT,q_HQT,q_HQS,hh_,hd_⟩:=hcut;generalize wc=w430 at*
 have HDN:=zH q_HDN;clear q_HDN;have HBT:=zH q_HBT;clear q_HBT;have HQT:=zH q_HQT;clear q_HQT;have HQS:=zH q_HQS;clear q_HQS;have H432:=zH hh_;have D432:=zH hd_;clear hh_ hd_;have HIT:=zH (show inU (segT a b c d)↔0<=t/\t<=n from by unfold inU;rw[<-HQT.out];exact inU_pos _ _ HDN.out);have HIS:=zH (show inU (segS a b c d)↔0<=u/\u<=n from by unfold inU;rw[<-HQS.out];exact inU_pos _ _ HDN.out);rcases emH (t<0)with T1|T1
 ·go_upto_region 14 with fail
  refine wl ?_;refine zq (.int .i64 t) ?_;refine zp (.bool true) (by exact ezl (e:=(dec_t T1.out))) ?_;refine zI8 (Hp.start _) (.bool true) _ _ _ (.bool true) (.bool true) _ _ ?_;refine zI6 (Hp.start _) (.bool true) (.bool true) _ _ _ (.bool true) ?_;go_upto_region 15 with fail
  refine wl ?_;refine zI2 (Hp.start _) _ _ ?_;refine aS' 4 rz H432.out ?_;intro w444 H445 _;refine aS' 5 rz H445.out ?_;intro w447 H448 _;refine zq (.int .i64 0) ?_;have HSN:=zH (show segN a b c d=0 from by unfold segN;rw[if_pos C0.out];exact if_neg (fun h_=>by have h2_:=(HIT.out.1 h_.1).1;have h3_:=T1.out;omega));go_wp2_with fail
  refine bodyPost_ret (v:= .tuple #[.agg z4,.agg z4,.int .i64 0]) ?_ rfl ⟨.inr ⟨by rw[HSN.out];decide,by rw[HSN.out]⟩,H448.out.ext⟩;exact results_c1c1t1 rfl rfl rfl ((H448.out.blk (i:=4) rR).loadVar rfl rfl rR) ((H448.out.blk (i:=5) rR).loadVar rfl rfl rR) rfl
 rcases emH (n<t)with T2|T2
 ·go_upto_region 14 with fail
  refine wl ?_;refine zq (.int .i64 t) ?_;refine zp (.bool false) (by exact ezl (e:=(dec_f T1.out))) ?_;refine zI3 (Hp.start _) (.bool false) (.int .i64 t) (.int .i64 n) ?_;refine zp (.bool true) (by exact ezg (e:=(dec_t T2.out))) ?_;refine zI8 (Hp.start _) (.bool true) (.bool true) _ _ (.bool true) (.bool true) _ _ ?_;refine zk ?_;refine zq (.bool true) ?_;go_upto_region 15 with fail
  refine wl ?_;refine zI2 (Hp.start _) _ _ ?_;refine aS' 4 rz H432.out ?_;intro w465 H466 _;refine aS' 5 rz H466.out ?_;intro w468 H469 _;refine zq (.int .i64 0) ?_;have HSN:=zH (show segN a b c d=0 from by unfold segN;rw[if_pos C0.out];exact if_neg (fun h_=>by have h2_:=(HIT.out.1 h_.1).2;have h3_:=T2.out;omega));go_wp2_with fail
  refine bodyPost_ret (v:= .tuple #[.agg z4,.agg z4,.int .i64 0]) ?_ rfl ⟨.inr ⟨by rw[HSN.out];decide,by rw[HSN.out]⟩,H469.out.ext⟩;exact results_c1c1t1 rfl rfl rfl ((H469.out.blk (i:=4) rR).loadVar rfl rfl rR) ((H469.out.blk (i:=5) rR).loadVar rfl rfl rR) rfl
 rcases emH (u<0)with U1|U1
 ·go_upto_region 14 with fail
  refine wl ?_;refine zq (.int .i64 t) ?_;refine zp (.bool false) (by exact ezl (e:=(dec_f T1.out))) ?_;refine zI3 (Hp.start _) (.bool false) (.int .i64 t) (.int .i64 n) ?_;refine zp (.bool false) (by exact ezg (e:=(dec_f T2.out))) ?_;refine zI3 (Hp.start _) (.bool false) (.bool false) (.int .i64 u) ?_;refine zp (.bool true) (by exact ezl (e:=(dec_t U1.out))) ?_;refine zI6 (Hp.start _) (.bool true) (.bool true) _ _ _ (.bool true) ?_;go_upto_region 15 with fail
  refine wl ?_;refine zI2 (Hp.start _) _ _ ?_;refine aS' 4 rz H432.out ?_;intro w488 H489 _;refine aS' 5 rz H489.out ?_;intro w491 H492 _;refine zq (.int .i64 0) ?_;have HSN:=zH (show segN a b c d=0 from by unfold segN;rw[if_pos C0.out];exact if_neg (fun h_=>by have h2_:=(HIS.out.1 h_.2).1;have h3_:=U1.out;omega));go_wp2_with fail
  refine bodyPost_ret (v:= .tuple #[.agg z4,.agg z4,.int .i64 0]) ?_ rfl ⟨.inr ⟨by rw[HSN.out];decide,by rw[HSN.out]⟩,H492.out.ext⟩;exact results_c1c1t1 rfl rfl rfl ((H492.out.blk (i:=4) rR).loadVar rfl rfl rR) ((H492.out.blk (i:=5) rR).loadVar rfl rfl rR) rfl
 rcases emH (n<u)with U2|U2
 ·go_upto_region 14 with fail
  refine wl ?_;refine zq (.int .i64 t) ?_;refine zp (.bool false) (by exact ezl (e:=(dec_f T1.out))) ?_;refine zI3 (Hp.start _) (.bool false) (.int .i64 t) (.int .i64 n) ?_;refine zp (.bool false) (by exact ezg (e:=(dec_f T2.out))) ?_;refine zI3 (Hp.start _) (.bool false) (.bool false) (.int .i64 u) ?_;refine zp (.bool false) (by exact ezl (e:=(dec_f U1.out))) ?_;refine zI4 (Hp.start _) (.bool false) (.bool false) (.int .i64 u) (.int .i64 n) ?_;refine zp (.bool true) (by exact ezg (e:=(dec_t U2.out))) ?_;refine zq (.bool true) ?_;go_upto_region 15 with fail
  refine wl ?_;refine zI2 (Hp.start _) _ _ ?_;refine aS' 4 rz H432.out ?_;intro w514 H515 _;refine aS' 5 rz H515.out ?_;intro w517 H518 _;refine zq (.int .i64 0) ?_;have HSN:=zH (show segN a b c d=0 from by unfold segN;rw[if_pos C0.out];exact if_neg (fun h_=>by have h2_:=(HIS.out.1 h_.2).2;have h3_:=U2.out;omega));go_wp2_with fail
  refine bodyPost_ret (v:= .tuple #[.agg z4,.agg z4,.int .i64 0]) ?_ rfl ⟨.inr ⟨by rw[HSN.out];decide,by rw[HSN.out]⟩,H518.out.ext⟩;exact results_c1c1t1 rfl rfl rfl ((H518.out.blk (i:=4) rR).loadVar rfl rfl rR) ((H518.out.blk (i:=5) rR).loadVar rfl rfl rR) rfl
 go_upto_region 14 with fail
 refine wl ?_;refine zq (.int .i64 t) ?_;refine zp (.bool false) (by exact ezl (e:=(dec_f T1.out))) ?_;refine zI3 (Hp.start _) (.bool false) (.int .i64 t) (.int .i64 n) ?_;refine zp (.bool false) (by exact ezg (e:=(dec_f T2.out))) ?_;refine zI3 (Hp.start _) (.bool false) (.bool false) (.int .i64 u) ?_;refine zp (.bool false) (by exact ezl (e:=(dec_f U1.out))) ?_;refine zI4 (Hp.start _) (.bool false) (.bool false) (.int .i64 u) (.int .i64 n) ?_;refine zp (.bool false) (by exact ezg (e:=(dec_f U2.out))) ?_;refine zq (.bool false) ?_;have HSN:=zH (show segN a b c d=1 from by unfold segN;rw[if_pos C0.out];exact if_pos ⟨HIT.out.2 (by have h2_:=T1.out;have h3_:=T2.out;omega),HIS.out.2 (by have h2_:=U1.out;have h3_:=U2.out;omega)⟩);go_upto_region 16 with fail
 refine wl ?_;refine zI2 (Hp.start _) (.int .i64 t) (.int .i64 n) ?_;refine zc (q03FromInts (t) (n) _ (by have ob5:=HDN.out;have ob6:=HBT.out;omega) (by have ob5:=HDN.out;have ob6:=HBT.out;omega) (by have ob5:=HDN.out;have ob6:=HBT.out;omega) (by have ob5:=HDN.out;have ob6:=HBT.out;omega) (by have h_:=HDN.out;omega)) ?_;rintro e w540 ⟨c_,rfl,hc_,hx⟩;have H541:=zH (H432.out.step hx);obtain⟨r537,rfl,hr_⟩:=hc_;have R537:=zH hr_;have B537:=zH (rl_qq (t) (n) (by have ob5:=HDN.out;have ob6:=HBT.out;omega) (by have ob5:=HDN.out;have ob6:=HBT.out;omega));clear hr_ hx;refine zn ?_;refine zI3 (Hp.start _) _ _ _ ?_;refine aA' 30 rz H541.out ?_;intro X546 w547 H548 D548;refine aS' 9 (rc r537) H548.out ?_;intro w551 H552 D552;refine zq (.int .i64 0) ?_;go_upto_region 17 with fail
 refine zy ?_;have H555:=zH (H552.out.step (Ext.refl w551).drew);have D555:=zH (Dig.of_ext (w:=w551) zb);refine zJ1 (Hp.start _) zb (bs 11 1) 0 _ ?_;refine md_ld1 (g:=X136) (o:=0) (v:= .int .i64 a.1) (i:=1) (listed':=(bs 11 3)) rR kR kR kR (by intro _ _ _ h;exact h) rR (fun x hx=>Ext.get hx (show World.cell? w551 ⟨X136,0,none⟩=some (.int .i64 a.1)from cell_of_range (H552.out.range (i:=0) rR 0 1))) (by intro x hq;go_simp<;>with_reducible rfl) zb kR ?_;refine zJ3 H552.out zb (bs 11 59) 3 4 5 _ _ _ ?_;refine gG 9 (some 19) 30 rz w551 H555.out ?_;refine gL 2 (bs 11 571) (bs 11 63) zb.size H555.out zb (fun xq hxq=>q03From a.1 _ (by have ob5:=HDN.out;have ob6:=HBT.out;omega) (by have ob5:=HDN.out;have ob6:=HBT.out;omega)) (by rintro x_ e x2_ ⟨c_,rfl,hc_,hx⟩;exact hx) ?_;rintro xq e w559 hxq ⟨c_,rfl,hc_,hx⟩;replace hx:=hxq.trans hx;clear hxq;have H561:=zH (H555.out.step hx);have D561:=zH (show Dig w551.drew w559 from Dig.of_ext hx);have S563:=zH (zb.trans hx);obtain⟨r560,rfl,hr_⟩:=hc_;have R560:=zH hr_;have B560:=zH (rl_i64 a.1 (by have ob5:=HDN.out;have ob6:=HBT.out;omega) (by have ob5:=HDN.out;have ob6:=HBT.out;omega));clear hr_ hx;refine⟨_,rfl,?_⟩;try simp only[Act.put,zA,zB,zC]
 refine gL 6 (bs 11 575) (bs 11 127) S563.out.size H561.out S563.out (fun xq hxq=>q03From ((dv a b).1) _ (by have ob5:=HDN.out;have ob6:=HBT.out;omega) (by have ob5:=HDN.out;have ob6:=HBT.out;omega)) (by rintro x_ e x2_ ⟨c_,rfl,hc_,hx⟩;exact hx) ?_;rintro xq e w564 hxq ⟨c_,rfl,hc_,hx⟩;replace hx:=hxq.trans hx;clear hxq;have H566:=zH (H561.out.step hx);have D566:=zH (Dig.of_ext hx);have S568:=zH (S563.out.trans hx);obtain⟨r565,rfl,hr_⟩:=hc_;have R565:=zH hr_;have B565:=zH (rl_i64 ((dv a b).1) (by have ob5:=HDN.out;have ob6:=HBT.out;omega) (by have ob5:=HDN.out;have ob6:=HBT.out;omega));clear hr_ hx;refine⟨_,rfl,?_⟩;try simp only[Act.put,zA,zB,zC]
 have DD571:=tD (tD (tD (tD D548 D552) D555) D561) D566;refine gL 7 (bs 11 639) (bs 11 255) S568.out.size H566.out S568.out (fun xq hxq=>q03Mul (L:=60000) (RV.Is.nin (R537.out.dig (DD571.out.trans (Dig.of_ext hxq))) (Nat.le_trans B537.out (by omega))) (RV.Is.nin (R565.out.dig (Dig.of_ext hxq)) (Nat.le_trans B565.out (by omega))) (by omega)) (by rintro x_ e x2_ ⟨c_,rfl,hc_,hx⟩;exact hx) ?_;rintro xq e w569 hxq ⟨c_,rfl,hc_,hx⟩;replace hx:=hxq.trans hx;clear hxq;have H572:=zH (H566.out.step hx);have D572:=zH (Dig.of_ext hx);have S574:=zH (S568.out.trans hx);obtain⟨r570,rfl,hr_⟩:=hc_;have R570:=zH hr_;clear hr_;have B570:=zH (show Nm.rl ((((t:Int):Rat)/((n:Int):Rat))*((((dv a b).1):Int):Rat))<=8+2 from by have h1:=B537.out;have h2:=B565.out;have h3:=Nm.rl_mul (((t:Int):Rat)/((n:Int):Rat)) ((((dv a b).1):Int):Rat);omega);clear hx;refine⟨_,rfl,?_⟩;try simp only[Act.put,zA,zB,zC]
 have DD577:=tD D566 D572;refine gL 8 (bs 11 767) (bs 11 511) S574.out.size H572.out S574.out (fun xq hxq=>q03Add (L:=60000) (RV.Is.nin (R560.out.dig (DD577.out.trans (Dig.of_ext hxq))) (Nat.le_trans B560.out (by omega))) (RV.Is.nin (R570.out.dig (Dig.of_ext hxq)) (Nat.le_trans B570.out (by omega))) (by omega)) (by rintro x_ e x2_ ⟨c_,rfl,hc_,hx⟩;exact hx) ?_;rintro xq e w575 hxq ⟨c_,rfl,hc_,hx⟩;replace hx:=hxq.trans hx;clear hxq;have H578:=zH (H572.out.step hx);have D578:=zH (Dig.of_ext hx);have S580:=zH (S574.out.trans hx);obtain⟨r576,rfl,hr_⟩:=hc_;have R576:=zH hr_;clear hr_ hx;refine⟨_,rfl,?_⟩;try simp only[Act.put,zA,zB,zC]
 refine gE (bs 11 1023) S580.out.size H578.out S580.out ?_;intro X581 w582 hx hh hs hge;have H583:=hN hh;have D583:=zH (Dig.of_ext hx);have S585:=zH (show Ext w551 w582 from hs);have G586:=zH (show w551.heap.size<=X581 from hge);clear hh hx hge hs;try simp only[Act.put,zA,zB,zC]
 refine bS 10 10 (bs 11 2047) (rc r576) H583.out S585.out G586.out ?_;intro w587 H588 D588 S590;refine wpAnyH_done kR ?_ _;go_upto_region 18 with fail
 refine zy ?_;have H591:=zH (H588.out.step (Ext.refl w587).drew);have D591:=zH (Dig.of_ext (w:=w587) zb);refine zJ1 (Hp.start _) zb (bs 11 1) 0 _ ?_;refine md_ld1 (g:=X136) (o:=1) (v:= .int .i64 a.2) (i:=1) (listed':=(bs 11 3)) rR kR kR kR (by intro _ _ _ h;exact h) rR (fun x hx=>Ext.get hx (show World.cell? w587 ⟨X136,1,none⟩=some (.int .i64 a.2)from cell_of_range (H588.out.range (i:=0) rR 1 1))) (by intro x hq;go_simp<;>with_reducible rfl) zb kR ?_;refine zJ3 H588.out zb (bs 11 59) 3 4 5 _ _ _ ?_;refine gG 9 (some 20) 30 rz w587 H591.out ?_;refine gL 2 (bs 11 571) (bs 11 63) zb.size H591.out zb (fun xq hxq=>q03From a.2 _ (by have ob5:=HDN.out;have ob6:=HBT.out;omega) (by have ob5:=HDN.out;have ob6:=HBT.out;omega)) (by rintro x_ e x2_ ⟨c_,rfl,hc_,hx⟩;exact hx) ?_;rintro xq e w595 hxq ⟨c_,rfl,hc_,hx⟩;replace hx:=hxq.trans hx;clear hxq;have H597:=zH (H591.out.step hx);have D597:=zH (show Dig w587.drew w595 from Dig.of_ext hx);have S599:=zH (zb.trans hx);obtain⟨r596,rfl,hr_⟩:=hc_;have R596:=zH hr_;have B596:=zH (rl_i64 a.2 (by have ob5:=HDN.out;have ob6:=HBT.out;omega) (by have ob5:=HDN.out;have ob6:=HBT.out;omega));clear hr_ hx;refine⟨_,rfl,?_⟩;try simp only[Act.put,zA,zB,zC]
 refine gL 6 (bs 11 575) (bs 11 127) S599.out.size H597.out S599.out (fun xq hxq=>q03From ((dv a b).2) _ (by have ob5:=HDN.out;have ob6:=HBT.out;omega) (by have ob5:=HDN.out;have ob6:=HBT.out;omega)) (by rintro x_ e x2_ ⟨c_,rfl,hc_,hx⟩;exact hx) ?_;rintro xq e w600 hxq ⟨c_,rfl,hc_,hx⟩;replace hx:=hxq.trans hx;clear hxq;have H602:=zH (H597.out.step hx);have D602:=zH (Dig.of_ext hx);have S604:=zH (S599.out.trans hx);obtain⟨r601,rfl,hr_⟩:=hc_;have R601:=zH hr_;have B601:=zH (rl_i64 ((dv a b).2) (by have ob5:=HDN.out;have ob6:=HBT.out;omega) (by have ob5:=HDN.out;have ob6:=HBT.out;omega));clear hr_ hx;refine⟨_,rfl,?_⟩;try simp only[Act.put,zA,zB,zC]
 have DD607:=tD (tD (tD (tD (tD (tD (tD DD571 D572) D578) D583) D588) D591) D597) D602;refine gL 7 (bs 11 639) (bs 11 255) S604.out.size H602.out S604.out (fun xq hxq=>q03Mul (L:=60000) (RV.Is.nin (R537.out.dig (DD607.out.trans (Dig.of_ext hxq))) (Nat.le_trans B537.out (by omega))) (RV.Is.nin (R601.out.dig (Dig.of_ext hxq)) (Nat.le_trans B601.out (by omega))) (by omega)) (by rintro x_ e x2_ ⟨c_,rfl,hc_,hx⟩;exact hx) ?_;rintro xq e w605 hxq ⟨c_,rfl,hc_,hx⟩;replace hx:=hxq.trans hx;clear hxq;have H608:=zH (H602.out.step hx);have D608:=zH (Dig.of_ext hx);have S610:=zH (S604.out.trans hx);obtain⟨r606,rfl,hr_⟩:=hc_;have R606:=zH hr_;clear hr_;have B606:=zH (show Nm.rl ((((t:Int):Rat)/((n:Int):Rat))*((((dv a b).2):Int):Rat))<=8+2 from by have h1:=B537.out;have h2:=B601.out;have h3:=Nm.rl_mul (((t:Int):Rat)/((n:Int):Rat)) ((((dv a b).2):Int):Rat);omega);clear hx;refine⟨_,rfl,?_⟩;try simp only[Act.put,zA,zB,zC]
 have DD613:=tD D602 D608;refine gL 8 (bs 11 767) (bs 11 511) S610.out.size H608.out S610.out (fun xq hxq=>q03Add (L:=60000) (RV.Is.nin (R596.out.dig (DD613.out.trans (Dig.of_ext hxq))) (Nat.le_trans B596.out (by omega))) (RV.Is.nin (R606.out.dig (Dig.of_ext hxq)) (Nat.le_trans B606.out (by omega))) (by omega)) (by rintro x_ e x2_ ⟨c_,rfl,hc_,hx⟩;exact hx) ?_;rintro xq e w611 hxq ⟨c_,rfl,hc_,hx⟩;replace hx:=hxq.trans hx;clear hxq;have H614:=zH (H608.out.step hx);have D614:=zH (Dig.of_ext hx);have S616:=zH (S610.out.trans hx);obtain⟨r612,rfl,hr_⟩:=hc_;have R612:=zH hr_;clear hr_ hx;refine⟨_,rfl,?_⟩;try simp only[Act.put,zA,zB,zC]
 refine gE (bs 11 1023) S616.out.size H614.out S616.out ?_;intro X617 w618 hx hh hs hge;have H619:=hN hh;have D619:=zH (Dig.of_ext hx);have S621:=zH (show Ext w587 w618 from hs);have G622:=zH (show w587.heap.size<=X617 from hge);clear hh hx hge hs;try simp only[Act.put,zA,zB,zC]
 refine bS 11 10 (bs 11 2047) (rc r612) H619.out S621.out G622.out ?_;intro w623 H624 D624 S626;refine wpAnyH_done kR ?_ _;go_upto_region 19 with fail
 refine wp_region_held_drew (S:=fun x=>Fr (fun kz=>kz=X156\/kz=X161) w623 x) kR (Fr.of_ext zb) (fun _=> ?_);have H627:=zH (H624.out.step (Ext.refl w623).drew);have D627:=zH (Dig.of_ext (w:=w623) zb);refine mR 0 (bs 5 1) X581 (0) [.bool r576.n,.slice r576.p r576.l r576.c,.bool r576.m,.slice r576.p2 r576.l2 r576.c2] (fun x hx=>Fr.range hx (show World.rangeAt w623 X581 (0) [.bool r576.n,.slice r576.p r576.l r576.c,.bool r576.m,.slice r576.p2 r576.l2 r576.c2]from(H624.out.range (i:=10) rR 0 4)) (fun hk=>hk.elim (H624.out.offBlk (i:=10) (j:=4) rR rR dC rR) (H624.out.offBlk (i:=10) (j:=5) rR rR dC rR))) Tryz.underlying30 (Fr.of_ext zb) ?_;refine zr 1 (bs 5 3) X617 (0) [.bool r612.n,.slice r612.p r612.l r612.c,.bool r612.m,.slice r612.p2 r612.l2 r612.c2] (fun x hx=>Fr.range hx (show World.rangeAt w623 X617 (0) [.bool r612.n,.slice r612.p r612.l r612.c,.bool r612.m,.slice r612.p2 r612.l2 r612.c2]from(H624.out.range (i:=11) rR 0 4)) (fun hk=>hk.elim (H624.out.offBlk (i:=11) (j:=4) rR rR dC rR) (H624.out.offBlk (i:=11) (j:=5) rR rR dC rR))) Tryz.underlying30 (Fr.of_ext zb) ?_;refine md_st (i:=2) (listed':=(bs 5 7)) rR kR rR kR _ _ _ rR H627.out (ix:=4) rR 0 [.bool r576.n,.slice r576.p r576.l r576.c,.bool r576.m,.slice r576.p2 r576.l2 r576.c2] rR rR (by simp) kR (by simp[Value.oneCell']) (by simp[NoUL]) ?_;intro w629 hh hd ho;have H630:=hN hh;have D630:=zH (show Dig w623.drew w629 from hd);have S632:=zH (show Fr (fun kz=>kz=X156\/kz=X161) w623 w629 from Fr.trans_new (Fr.of_ext zb) ho (fun j hj=> .inl (.inl (by injection hj with hj;exact hj.symm))));clear hh hd ho;refine⟨S632.out,?_⟩
 (try simp only[Act.put])
 refine md_st (i:=3) (listed':=(bs 5 15)) rR kR rR kR _ _ _ rR H630.out (ix:=5) rR 0 [.bool r612.n,.slice r612.p r612.l r612.c,.bool r612.m,.slice r612.p2 r612.l2 r612.c2] rR rR (by simp) kR (by simp[Value.oneCell']) (by simp[NoUL]) ?_;intro w633 hh hd ho;have H634:=hN hh;have D634:=zH (hd);have S636:=zH (Fr.trans_new S632.out ho (fun j hj=> .inl (.inr (by injection hj with hj;exact hj.symm))));clear hh hd ho;refine⟨S636.out,?_⟩
 (try simp only[Act.put])
 refine zx 4 (bs 5 31) (.int .i64 1) S636.out ?_;refine wpAnyH_done kR ?_ _;have DD638:=tD (tD (tD (tD (tD (tD (tD (tD (tD (tD (tD D583 D588) D591) D597) D602) D608) D614) D619) D624) D627) D630) D634;have DD639:=tD (tD (tD (tD D619 D624) D627) D630) D634;go_wp2_with fail
 refine bodyPost_ret (v:= .tuple #[.agg #[.bool r576.n,.slice r576.p r576.l r576.c,.bool r576.m,.slice r576.p2 r576.l2 r576.c2],.agg #[.bool r612.n,.slice r612.p r612.l r612.c,.bool r612.m,.slice r612.p2 r612.l2 r612.c2],.int .i64 1]) ?_ rfl ⟨.inl ⟨_,_,HSN.out,rfl,by unfold segX;rw[if_pos C0.out,<-HQT.out];exact(R576.out.dig DD638.out),by unfold segY;rw[if_pos C0.out,<-HQT.out];exact(R612.out.dig DD639.out)⟩,H634.out.ext⟩;exact results_c1c1t1 rfl rfl rfl ((H634.out.blk (i:=4) rR).loadVar rfl rfl rR) ((H634.out.blk (i:=5) rR).loadVar rfl rfl rR) rfl
end Go.Proofs.YtiokhlgdelipdaaGreat
namespace Go.Proofs.YtiokhlgdelipdaaGreat
end Go.Proofs.YtiokhlgdelipdaaGreat
namespace Go.Proofs.YtiokhlgdelipdaaGreat
open Go.RowKit
section
variable {P:Program} {ρ:Operand->Value} {o:Oper} {w:World} {g n c k size:Nat} {z:Int} {t e:TypeId} {x y:Operand}
end
section
variable {w:World} {b g n c:Nat} {T:TypeId} {es:List R1E}
end
theorem edgO_len (rs:List Ring):(edgesOf rs).length<=4096:=by
  unfold edgesOf;refine Nat.le_trans (edgesV_len _) ?_;split
  · rename_i h;exact okR_tot h
  decide
theorem edgO_ok (rs:List Ring):∀e,e∈edgesOf rs->okP e.1/\okP e.2:=by
  unfold edgesOf;split
  · rename_i h;exact fun e he=>edges_ok h e he
  intro e he;simp[edgesV]at he
section
variable {w0 w w':World} {m:List Ent}
end
end Go.Proofs.YtiokhlgdelipdaaGreat
namespace Go.Proofs.YtiokhlgdelipdaaGreat
open Go.RowKit
attribute [local go_sem ↓] Go.wp_at_zero Go.wp_at_succ run_max_ii run_min_ii
theorem tmod_nat (x m:Nat):((x:Nat):Int).tmod (m:Int)=((x%m:Nat):Int):=by rw[Int.tmod_eq_emod_of_nonneg (by omega)];simp
theorem adjF_in {r:Ring}{l:List Ring}{f i k:Nat}(h:f<=i/\i<f+(edgesV [r]).length/\f<=k/\k<f+(edgesV [r]).length)(hne:i≠k):adjF (r::l) f i k=(decide ((i-f+1)%(edgesV [r]).length=k-f)||decide ((k-f+1)%(edgesV [r]).length=i-f)):=by
 rw[show adjF (r::l) f i k=if f<=i/\i<f+(edgesV [r]).length/\f<=k/\k<f+(edgesV [r]).length then decide (i≠k)&&(decide ((i-f+1)%(edgesV [r]).length=k-f)||decide ((k-f+1)%(edgesV [r]).length=i-f))else adjF l (f+(edgesV [r]).length) i k from rfl,if_pos h,decide_eq_true hne,Bool.true_and]
theorem adjF_out {r:Ring}{l:List Ring}{f i k:Nat}(h:¬(f<=i/\i<f+(edgesV [r]).length/\f<=k/\k<f+(edgesV [r]).length)):adjF (r::l) f i k=adjF l (f+(edgesV [r]).length) i k:=if_neg h
theorem edges_one {r:Ring}{w w':World}{e:Ending}{b:Nat}{T:TypeId}(hok:okR [r]=true)(h:∃A n c,e= .returned (.slice A n c)/\n=(edgesOf [r]).length/\RowN w' b T 4 (.slice A n c) n (List.flatMap edC (edgesOf [r]))/\Ext w w'):∃A c,e= .returned (.slice A (edgesV [r]).length c)/\Ext w w':=by
  obtain⟨A,n,c,h1,h2,_,hx⟩:=h;exact⟨A,c,by rw[h1,h2,edgesOf_t hok],hx⟩
theorem edgesV_cut {rs:List Ring}{q:Nat}{r:Ring}(h:rs[q]?=some r):(edgesV (rs.take (q+1))).length=(edgesV (rs.take q)).length+(edgesV [r]).length:=by
  have h1:=edgesV_take (k:=q) (r:=r) (rs:=rs) h;rw[h1,List.length_append];congr 1;simp[edgesV,ringEn]
theorem edgesV_cut_le {rs:List Ring}(hok:okR rs=true)(q:Nat):(edgesV (rs.take q)).length<=4096:=by
  have h1:=edgesV_len (rs.take q);have h2:=tot_take rs q;have h3:=okR_tot hok;omega
theorem radj17_any (A:Option Addr)(cu:Nat)(rs:List Ring)(i k:Nat)(w:World)(hu:RingsV w (.slice A rs.length cu) rs)(hc:rs.length<=cu)(hn:rs.length<=1048576)(hr:∀r,r∈rs->r.length<=1048576)(hok:okR rs=true)(hi:i<=4096)(hk:k<=4096)(hne:i≠k):
  Calls Tryz.prog 54 #[.slice A rs.length cu,.int .i64 (i:Int),.int .i64 (k:Int)] w fun e w'=>e= .returned (.bool (adjF rs 0 i k))/\Ext w w':=by
 have HU:=zH hu;have HC:=zH hc;have HN:=zH hn;have HR:=zH hr;have HOK:=zH hok;clear hu hr hok;go_enter Tryz.func54,Tryz.ntmps54
 have H0:=zH (Hp.start w);go_upto_region 0 with fail
 refine wl ?_;refine zq (.bool false) ?_;go_upto_region 1 with fail
 refine wl ?_;refine zq (.int .i64 0) ?_;go_upto_region 2 with fail
 refine wl ?_;refine zq (.int .i64 0) ?_;go_wp2_with fail
 go_loopg [7,8] (rs.length) (fun cq v4 v5 wr=>∃(q:Nat) (f:Nat),cq=rs.length-q/\v4= .int .i64 (f:Int)/\v5= .int .i64 (q:Int)/\(q<=rs.length)/\(f=(edgesV (rs.take q)).length)/\(adjF rs 0 i k=adjF (rs.drop q) f i k)/\Hp w wr []/\Dig w wr)
 case atStart=>exact⟨0,0,rfl,rfl,rfl,Nat.zero_le _,rfl,rfl,H0.out,Dig.refl _⟩
 obtain⟨q,f,rfl,rfl,rfl,q_HKI,q_HF,q_HADJ,hh_,hd_⟩:=hrel;generalize wr=w6 at*
 have HKI:=zH q_HKI;clear q_HKI;have HF:=zH q_HF;clear q_HF;have HADJ:=zH q_HADJ;clear q_HADJ;have H8:=zH hh_;have D8:=zH hd_;clear hh_ hd_;rcases emH (q<rs.length)with HLT|HLT
 ·have hlt:=HLT.out
  obtain⟨r,hri_⟩:∃r,rs[q]?=some r:=⟨_,List.getElem?_eq_getElem hlt⟩;have HRI:=zH hri_;have hrl:=HR.out r (List.mem_of_getElem? hri_);have HOK1:=zH (okR_one HOK.out hri_);obtain⟨g,off,rfl⟩:∃g off,A=some ⟨g,off,none⟩:=by obtain⟨A_,cu_,hv_,hA_⟩:=HU.out;injection hv_ with e1_ e2_ e3_;subst e1_;obtain⟨g_,off_,e_,_⟩:=hA_ (by omega);exact⟨g_,off_,e_⟩
  have HU1:=zH (RingsV.one HU.out hri_ (cu-q));have hfb:f<=4096:=by rw[HF.out];exact edgesV_cut_le HOK.out q
  have hmb:(edgesV [r]).length<=4096:=by have h_:=edgesV_cut_le HOK.out (q+1);rw[edgesV_cut hri_]at h_;omega
  have HDQ:=zH (show rs.drop q=r::rs.drop (q+1)from by have h_:=List.drop_eq_getElem_cons hlt;rw[h_,show rs[q]=r from Option.some.inj ((List.getElem?_eq_getElem hlt).symm.trans hri_)]);clear hri_;go_upto_region 3 with fail
  refine wl ?_;refine zI3 (Hp.start _) (.int .i64 (q:Int)) _ (.int .i64 ((rs.length:Nat):Int)) ?_;refine zp (.bool true) (by exact ezl (e:=(dec_t (by omega)))) ?_;go_upto_region 5 with fail
  refine wl ?_;refine zI3 (Hp.start _) _ (.int .i64 (q:Int)) (.int .i64 (q:Int)) ?_;refine zp (.int .i64 ((q+1:Nat):Int)) (by exact ez1 (by omega)) ?_;refine zp (.slice (some ⟨g,off+q*1,none⟩) 1 (cu-q)) (by exact ev_slice1 rR Tryz.underlying43 kR rR rR rR rfl (by go_num) hlt HC.out) ?_;refine zc (((redges_any _ [r] _ (HU1.out.ext H8.out.ext) (by simp) (by simp;omega)).mono (fun _ _ h_=>edges_one HOK1.out h_))) ?_;rintro e w19 ⟨Ae,ce,rfl,hx⟩;have H20:=zH (H8.out.step hx);clear hx;refine zn ?_;refine zI2 (Hp.start _) (.int .i64 (((edgesV [r]).length:Nat):Int)) (.int .i64 (((edgesV [r]).length:Nat):Int)) ?_;rcases emH (f<=i)with C1|C1
  ·rcases emH (i<f+(edgesV [r]).length)with C2|C2
   ·rcases emH (f<=k)with C3|C3
    ·rcases emH (k<f+(edgesV [r]).length)with C4|C4
     ·go_upto_region 6 with fail
      refine wl ?_;refine zI2 (Hp.start _) (.int .i64 (i:Int)) (.int .i64 (f:Int)) ?_;refine zp (.bool true) (by exact ezo (e:=(dec_t (by have h_:=C1.out;omega)))) ?_;refine zI4 (Hp.start _) (.bool true) (.int .i64 (i:Int)) (.int .i64 (f:Int)) (.int .i64 (((edgesV [r]).length:Nat):Int)) ?_;refine zp (.int .i64 ((f+(edgesV [r]).length:Nat):Int)) (by exact ez1 (by omega)) ?_;refine zp (.bool true) (by exact ezl (e:=(dec_t (by have h_:=C2.out;omega)))) ?_;refine zI4 (Hp.start _) (.bool true) (.bool true) (.int .i64 (k:Int)) (.int .i64 (f:Int)) ?_;refine zp (.bool true) (by exact ezo (e:=(dec_t (by have h_:=C3.out;omega)))) ?_;refine zI5 (Hp.start _) (.bool true) (.bool true) (.int .i64 (k:Int)) (.int .i64 (f:Int)) (.int .i64 (((edgesV [r]).length:Nat):Int)) ?_;refine zp (.int .i64 ((f+(edgesV [r]).length:Nat):Int)) (by exact ez1 (by omega)) ?_;refine zp (.bool true) (by exact ezl (e:=(dec_t (by have h_:=C4.out;omega)))) ?_;refine zq (.bool true) ?_;have c1_:=C1.out;have c2_:=C2.out;have c3_:=C3.out;have c4_:=C4.out;have hx1:(i-f+1)%(edgesV [r]).length<(edgesV [r]).length:=Nat.mod_lt _ (by omega);have hx2:(k-f+1)%(edgesV [r]).length<(edgesV [r]).length:=Nat.mod_lt _ (by omega);have HAI:=zH (show adjF rs 0 i k=_ from HADJ.out.trans ((congrArg (fun l_=>adjF l_ f i k) HDQ.out).trans (adjF_in ⟨c1_,c2_,c3_,c4_⟩ hne)));rcases emH ((i-f+1)%(edgesV [r]).length=k-f)with D1|D1
      ·go_upto_region 7 with fail
       refine wl ?_;refine zI2 (Hp.start _) (.int .i64 (i:Int)) (.int .i64 (k:Int)) ?_;refine zp (.bool true) (by exact ezn (e:=(dec_t (fun h_=>hne (by omega))))) ?_;refine zI3 (Hp.start _) (.bool true) (.int .i64 (i:Int)) (.int .i64 (f:Int)) ?_;refine zp (.int .i64 (((i-f):Nat):Int)) (by exact ev_sub rR rR rR (by omega) (by omega) (by omega)) ?_;refine zp (.int .i64 (((i-f)+1:Nat):Int)) (by exact ez1 (by omega)) ?_;refine zq (.int .i64 (((edgesV [r]).length:Nat):Int)) ?_;refine zp (.int .i64 ((((i-f+1)%(edgesV [r]).length):Nat):Int)) (by exact ev_rem rR rR rR (by omega) (tmod_nat _ _) (by omega) (by omega)) ?_;refine zI2 (Hp.start _) (.int .i64 (k:Int)) (.int .i64 (f:Int)) ?_;refine zp (.int .i64 (((k-f):Nat):Int)) (by exact ev_sub rR rR rR (by omega) (by omega) (by omega)) ?_;refine zp (.bool true) (by exact ezq (e:=(dec_t (by have h_:=D1.out;omega)))) ?_;refine zI8 (Hp.start _) (.bool true) _ _ _ _ _ _ _ ?_;refine zI6 (Hp.start _) _ _ _ (.bool true) (.bool true) (.bool true) ?_;go_wp2_with fail
       go_ret
       exact⟨by rw[HAI.out,decide_eq_true D1.out,Bool.true_or];rfl,H20.out.ext⟩
      rcases emH ((k-f+1)%(edgesV [r]).length=i-f)with D2|D2
      ·go_upto_region 7 with fail
       refine wl ?_;refine zI2 (Hp.start _) (.int .i64 (i:Int)) (.int .i64 (k:Int)) ?_;refine zp (.bool true) (by exact ezn (e:=(dec_t (fun h_=>hne (by omega))))) ?_;refine zI3 (Hp.start _) (.bool true) (.int .i64 (i:Int)) (.int .i64 (f:Int)) ?_;refine zp (.int .i64 (((i-f):Nat):Int)) (by exact ev_sub rR rR rR (by omega) (by omega) (by omega)) ?_;refine zp (.int .i64 (((i-f)+1:Nat):Int)) (by exact ez1 (by omega)) ?_;refine zq (.int .i64 (((edgesV [r]).length:Nat):Int)) ?_;refine zp (.int .i64 ((((i-f+1)%(edgesV [r]).length):Nat):Int)) (by exact ev_rem rR rR rR (by omega) (tmod_nat _ _) (by omega) (by omega)) ?_;refine zI2 (Hp.start _) (.int .i64 (k:Int)) (.int .i64 (f:Int)) ?_;refine zp (.int .i64 (((k-f):Nat):Int)) (by exact ev_sub rR rR rR (by omega) (by omega) (by omega)) ?_;refine zp (.bool false) (by exact ezq (e:=(dec_f (by have h_:=D1.out;omega)))) ?_;refine zI3 (Hp.start _) (.bool false) (.int .i64 (k:Int)) (.int .i64 (f:Int)) ?_;refine zp (.int .i64 (((k-f):Nat):Int)) (by exact ev_sub rR rR rR (by omega) (by omega) (by omega)) ?_;refine zp (.int .i64 (((k-f)+1:Nat):Int)) (by exact ez1 (by omega)) ?_;refine zq (.int .i64 (((edgesV [r]).length:Nat):Int)) ?_;refine zp (.int .i64 ((((k-f+1)%(edgesV [r]).length):Nat):Int)) (by exact ev_rem rR rR rR (by omega) (tmod_nat _ _) (by omega) (by omega)) ?_;refine zI2 (Hp.start _) (.int .i64 (i:Int)) (.int .i64 (f:Int)) ?_;refine zp (.int .i64 (((i-f):Nat):Int)) (by exact ev_sub rR rR rR (by omega) (by omega) (by omega)) ?_;refine zp (.bool true) (by exact ezq (e:=(dec_t (by have h_:=D2.out;omega)))) ?_;refine zI3 (Hp.start _) (.bool true) (.bool true) (.bool true) ?_;go_wp2_with fail
       go_ret
       exact⟨by rw[HAI.out,decide_eq_false D1.out,decide_eq_true D2.out,Bool.false_or];rfl,H20.out.ext⟩
      go_upto_region 7 with fail
      refine wl ?_;refine zI2 (Hp.start _) (.int .i64 (i:Int)) (.int .i64 (k:Int)) ?_;refine zp (.bool true) (by exact ezn (e:=(dec_t (fun h_=>hne (by omega))))) ?_;refine zI3 (Hp.start _) (.bool true) (.int .i64 (i:Int)) (.int .i64 (f:Int)) ?_;refine zp (.int .i64 (((i-f):Nat):Int)) (by exact ev_sub rR rR rR (by omega) (by omega) (by omega)) ?_;refine zp (.int .i64 (((i-f)+1:Nat):Int)) (by exact ez1 (by omega)) ?_;refine zq (.int .i64 (((edgesV [r]).length:Nat):Int)) ?_;refine zp (.int .i64 ((((i-f+1)%(edgesV [r]).length):Nat):Int)) (by exact ev_rem rR rR rR (by omega) (tmod_nat _ _) (by omega) (by omega)) ?_;refine zI2 (Hp.start _) (.int .i64 (k:Int)) (.int .i64 (f:Int)) ?_;refine zp (.int .i64 (((k-f):Nat):Int)) (by exact ev_sub rR rR rR (by omega) (by omega) (by omega)) ?_;refine zp (.bool false) (by exact ezq (e:=(dec_f (by have h_:=D1.out;omega)))) ?_;refine zI3 (Hp.start _) (.bool false) (.int .i64 (k:Int)) (.int .i64 (f:Int)) ?_;refine zp (.int .i64 (((k-f):Nat):Int)) (by exact ev_sub rR rR rR (by omega) (by omega) (by omega)) ?_;refine zp (.int .i64 (((k-f)+1:Nat):Int)) (by exact ez1 (by omega)) ?_;refine zq (.int .i64 (((edgesV [r]).length:Nat):Int)) ?_;refine zp (.int .i64 ((((k-f+1)%(edgesV [r]).length):Nat):Int)) (by exact ev_rem rR rR rR (by omega) (tmod_nat _ _) (by omega) (by omega)) ?_;refine zI2 (Hp.start _) (.int .i64 (i:Int)) (.int .i64 (f:Int)) ?_;refine zp (.int .i64 (((i-f):Nat):Int)) (by exact ev_sub rR rR rR (by omega) (by omega) (by omega)) ?_;refine zp (.bool false) (by exact ezq (e:=(dec_f (by have h_:=D2.out;omega)))) ?_;refine zI3 (Hp.start _) (.bool false) (.bool false) (.bool false) ?_;go_wp2_with fail
      go_ret
      exact⟨by rw[HAI.out,decide_eq_false D1.out,decide_eq_false D2.out,Bool.false_or];rfl,H20.out.ext⟩
     go_upto_region 6 with fail
     refine wl ?_;refine zI2 (Hp.start _) (.int .i64 (i:Int)) (.int .i64 (f:Int)) ?_;refine zp (.bool true) (by exact ezo (e:=(dec_t (by have h_:=C1.out;omega)))) ?_;refine zI4 (Hp.start _) (.bool true) (.int .i64 (i:Int)) (.int .i64 (f:Int)) (.int .i64 (((edgesV [r]).length:Nat):Int)) ?_;refine zp (.int .i64 ((f+(edgesV [r]).length:Nat):Int)) (by exact ez1 (by omega)) ?_;refine zp (.bool true) (by exact ezl (e:=(dec_t (by have h_:=C2.out;omega)))) ?_;refine zI4 (Hp.start _) (.bool true) (.bool true) (.int .i64 (k:Int)) (.int .i64 (f:Int)) ?_;refine zp (.bool true) (by exact ezo (e:=(dec_t (by have h_:=C3.out;omega)))) ?_;refine zI5 (Hp.start _) (.bool true) (.bool true) (.int .i64 (k:Int)) (.int .i64 (f:Int)) (.int .i64 (((edgesV [r]).length:Nat):Int)) ?_;refine zp (.int .i64 ((f+(edgesV [r]).length:Nat):Int)) (by exact ez1 (by omega)) ?_;refine zp (.bool false) (by exact ezl (e:=(dec_f (by have h_:=C4.out;omega)))) ?_;refine zq (.bool false) ?_;go_upto_region 8 with fail
     refine wl ?_;refine zI2 (Hp.start _) (.int .i64 (f:Int)) (.int .i64 (((edgesV [r]).length:Nat):Int)) ?_;refine zp (.int .i64 ((f+(edgesV [r]).length:Nat):Int)) (by exact ez1 (by omega)) ?_;refine zq (.int .i64 ((f+(edgesV [r]).length:Nat):Int)) ?_;go_upto_region 4 with fail
     refine wl ?_;refine zq (.int .i64 (q:Int)) ?_;refine zp (.int .i64 ((q+1:Nat):Int)) (by exact ez1 (by omega)) ?_;refine zq (.int .i64 ((q+1:Nat):Int)) ?_;go_wp2_with fail
     go_roundg (rs.length-(q+1))
     case measure=>exact(by omega)
     case rel=>exact⟨q+1,f+(edgesV [r]).length,rfl,(by go_num),(by go_num),hlt,(by rw[edgesV_cut HRI.out,<-HF.out]),(by rw[HADJ.out,HDQ.out];exact adjF_out (fun h_=>C4.out h_.2.2.2)),H20.out,H20.out.dig0⟩
    go_upto_region 6 with fail
    refine wl ?_;refine zI2 (Hp.start _) (.int .i64 (i:Int)) (.int .i64 (f:Int)) ?_;refine zp (.bool true) (by exact ezo (e:=(dec_t (by have h_:=C1.out;omega)))) ?_;refine zI4 (Hp.start _) (.bool true) (.int .i64 (i:Int)) (.int .i64 (f:Int)) (.int .i64 (((edgesV [r]).length:Nat):Int)) ?_;refine zp (.int .i64 ((f+(edgesV [r]).length:Nat):Int)) (by exact ez1 (by omega)) ?_;refine zp (.bool true) (by exact ezl (e:=(dec_t (by have h_:=C2.out;omega)))) ?_;refine zI4 (Hp.start _) (.bool true) (.bool true) (.int .i64 (k:Int)) (.int .i64 (f:Int)) ?_;refine zp (.bool false) (by exact ezo (e:=(dec_f (by have h_:=C3.out;omega)))) ?_;refine zI8 (Hp.start _) (.bool false) (.bool false) _ _ _ _ _ (.bool false) ?_;go_upto_region 8 with fail
    refine wl ?_;refine zI2 (Hp.start _) (.int .i64 (f:Int)) (.int .i64 (((edgesV [r]).length:Nat):Int)) ?_;refine zp (.int .i64 ((f+(edgesV [r]).length:Nat):Int)) (by exact ez1 (by omega)) ?_;refine zq (.int .i64 ((f+(edgesV [r]).length:Nat):Int)) ?_;go_upto_region 4 with fail
    refine wl ?_;refine zq (.int .i64 (q:Int)) ?_;refine zp (.int .i64 ((q+1:Nat):Int)) (by exact ez1 (by omega)) ?_;refine zq (.int .i64 ((q+1:Nat):Int)) ?_;go_wp2_with fail
    go_roundg (rs.length-(q+1))
    case measure=>exact(by omega)
    case rel=>exact⟨q+1,f+(edgesV [r]).length,rfl,(by go_num),(by go_num),hlt,(by rw[edgesV_cut HRI.out,<-HF.out]),(by rw[HADJ.out,HDQ.out];exact adjF_out (fun h_=>C3.out h_.2.2.1)),H20.out,H20.out.dig0⟩
   go_upto_region 6 with fail
   refine wl ?_;refine zI2 (Hp.start _) (.int .i64 (i:Int)) (.int .i64 (f:Int)) ?_;refine zp (.bool true) (by exact ezo (e:=(dec_t (by have h_:=C1.out;omega)))) ?_;refine zI4 (Hp.start _) (.bool true) (.int .i64 (i:Int)) (.int .i64 (f:Int)) (.int .i64 (((edgesV [r]).length:Nat):Int)) ?_;refine zp (.int .i64 ((f+(edgesV [r]).length:Nat):Int)) (by exact ez1 (by omega)) ?_;refine zp (.bool false) (by exact ezl (e:=(dec_f (by have h_:=C2.out;omega)))) ?_;refine zI8 (Hp.start _) (.bool false) (.bool false) _ _ _ (.bool false) (.bool false) _ ?_;refine zI5 (Hp.start _) _ _ _ _ (.bool false) ?_;go_upto_region 8 with fail
   refine wl ?_;refine zI2 (Hp.start _) (.int .i64 (f:Int)) (.int .i64 (((edgesV [r]).length:Nat):Int)) ?_;refine zp (.int .i64 ((f+(edgesV [r]).length:Nat):Int)) (by exact ez1 (by omega)) ?_;refine zq (.int .i64 ((f+(edgesV [r]).length:Nat):Int)) ?_;go_upto_region 4 with fail
   refine wl ?_;refine zq (.int .i64 (q:Int)) ?_;refine zp (.int .i64 ((q+1:Nat):Int)) (by exact ez1 (by omega)) ?_;refine zq (.int .i64 ((q+1:Nat):Int)) ?_;go_wp2_with fail
   go_roundg (rs.length-(q+1))
   case measure=>exact(by omega)
   case rel=>exact⟨q+1,f+(edgesV [r]).length,rfl,(by go_num),(by go_num),hlt,(by rw[edgesV_cut HRI.out,<-HF.out]),(by rw[HADJ.out,HDQ.out];exact adjF_out (fun h_=>C2.out h_.2.1)),H20.out,H20.out.dig0⟩
  go_upto_region 6 with fail
  refine wl ?_;refine zI2 (Hp.start _) (.int .i64 (i:Int)) (.int .i64 (f:Int)) ?_;refine zp (.bool false) (by exact ezo (e:=(dec_f (by have h_:=C1.out;omega)))) ?_;refine zI8 (Hp.start _) (.bool false) _ _ _ _ _ (.bool false) (.bool false) ?_;refine zI8 (Hp.start _) _ _ _ (.bool false) (.bool false) _ _ _ ?_;refine zI3 (Hp.start _) _ _ (.bool false) ?_;go_upto_region 8 with fail
  refine wl ?_;refine zI2 (Hp.start _) (.int .i64 (f:Int)) (.int .i64 (((edgesV [r]).length:Nat):Int)) ?_;refine zp (.int .i64 ((f+(edgesV [r]).length:Nat):Int)) (by exact ez1 (by omega)) ?_;refine zq (.int .i64 ((f+(edgesV [r]).length:Nat):Int)) ?_;go_upto_region 4 with fail
  refine wl ?_;refine zq (.int .i64 (q:Int)) ?_;refine zp (.int .i64 ((q+1:Nat):Int)) (by exact ez1 (by omega)) ?_;refine zq (.int .i64 ((q+1:Nat):Int)) ?_;go_wp2_with fail
  go_roundg (rs.length-(q+1))
  case measure=>exact(by omega)
  case rel=>exact⟨q+1,f+(edgesV [r]).length,rfl,(by go_num),(by go_num),hlt,(by rw[edgesV_cut HRI.out,<-HF.out]),(by rw[HADJ.out,HDQ.out];exact adjF_out (fun h_=>C1.out h_.1)),H20.out,H20.out.dig0⟩
 have hlt:=HLT.out;have hki:=HKI.out;obtain rfl:q=rs.length:=by omega
 go_upto_region 3 with fail
 refine wl ?_;refine zI3 (Hp.start _) (.int .i64 ((rs.length:Nat):Int)) _ (.int .i64 ((rs.length:Nat):Int)) ?_;refine zp (.bool false) (by exact ezl (e:=(dec_f (Int.lt_irrefl _)))) ?_;go_upto_region 9 with fail
 refine wl ?_;refine zq (.bool false) ?_;go_wp2_with fail
 go_ret
 exact⟨by rw[HADJ.out,List.drop_length];rfl,H8.out.ext⟩
theorem eds_at {rs:List Ring}{i:Nat}{x:Edge}(h:(edgesOf rs)[i]?=some x):∃e:EdE,(edsV rs)[i]?=some e/\(e.a,e.b)=x:=by
  rw[<-edges_eds,List.getElem?_map]at h;cases h2:(edsV rs)[i]?with
  |none=>rw[h2]at h;cases h
  |some e=>rw[h2]at h;exact⟨e,rfl,Option.some.inj h⟩
theorem eds_of {rs:List Ring}{i:Nat}{e:EdE}(h:(edsV rs)[i]?=some e):(edgesOf rs)[i]?=some (e.a,e.b):=by rw[<-edges_eds,List.getElem?_map,h];rfl
theorem sim_good {rs:List Ring}(hok:okR rs=true)(h:∀(i k:Nat) (x y:Edge),i<(edgesOf rs).length->(edgesOf rs)[i]?=some x->(edgesOf rs)[k]?=some y->k<i->pairR rs x y i k=true):simB rs=true:=by
  unfold simB;rw[hok,Bool.true_and,simAll_iff];intro i k x y hx hy hk;rw[<-pairR_ok hok hx hy hk];exact h i k _ _ (List.getElem?_eq_some_iff.1 (eds_of hx)).1 (eds_of hx) (eds_of hy) hk
theorem sim_bad {rs:List Ring}(hok:okR rs=true){i k:Nat}{x y:Edge}(hx:(edgesOf rs)[i]?=some x)(hy:(edgesOf rs)[k]?=some y)(hk:k<i)(h:pairR rs x y i k=false):simB rs=false:=by
  obtain⟨e,he,rfl⟩:=eds_at hx;obtain⟨f,hf,rfl⟩:=eds_at hy;rw[pairR_ok hok he hf hk]at h;rw[Bool.eq_false_iff];intro hs;unfold simB at hs;rw[hok,Bool.true_and,simAll_iff]at hs;rw[hs i k e f he hf hk]at h;cases h
theorem edges_pos {rs:List Ring}{i:Nat}(h:i<(edgesOf rs).length):okR rs=true:=by
  cases h2:okR rs with
  |true=>rfl
  |false=>rw[edgesOf_f (by rw[h2];decide)]at h;exact absurd h (Nat.not_lt_zero _)
theorem rsimple_any (A:Option Addr)(cu:Nat)(rs:List Ring)(w:World)(hu:RingsV w (.slice A rs.length cu) rs)(hc:rs.length<=cu)(hn:rs.length<=1048576)(hr:∀r,r∈rs->r.length<=1048576):
  Calls Tryz.prog 18 #[.slice A rs.length cu] w fun e w'=>e= .returned (.bool (simB rs))/\Ext w w':=by
 have HU:=zH hu;have HC:=zH hc;have HN:=zH hn;have HR:=zH hr;clear hu hr hc;have hel:=edgO_len rs;go_enter Tryz.func18,Tryz.ntmps18
 have H0:=zH (Hp.start w);go_upto_region 0 with fail
 refine wl ?_;refine zq (.bool false) ?_;go_upto_region 1 with fail
 refine wl ?_;refine zI1 (Hp.start _) _ ?_;refine zc (redges_any _ rs _ (HU.out.ext H0.out.ext) HN.out HR.out) ?_;rintro e w223 ⟨Ae,nE_,ce,rfl,rfl,hrow_,hx⟩;obtain⟨Ae2_,ce2_,hv_,hA_⟩:=RowN.form hrow_;obtain rfl:Ae=Ae2_:=by injection hv_
 have HAE:=zH hA_;clear hA_ hv_;have H224:=zH (show Hp w w223 [ro 56 4 Ae ((edgesOf rs).length) ce edC (edgesOf rs)]from H0.out.addRow hx hrow_);clear hrow_ hx;refine zn ?_;refine zI1 (Hp.start _) _ ?_;go_upto_region 2 with fail
 refine wl ?_;refine zq (.int .i64 0) ?_;go_wp2_with fail
 go_loopg [4] ((edgesOf rs).length) (fun cq v228 wr=>∃(i:Nat),cq=((edgesOf rs).length)-i/\v228= .int .i64 (i:Int)/\(i<=(edgesOf rs).length)/\(∀(j k:Nat) (x y:Edge),j<i->(edgesOf rs)[j]?=some x->(edgesOf rs)[k]?=some y->k<j->pairR rs x y j k=true)/\Hp w wr [.row 56 4 (.slice Ae ((edgesOf rs).length) ce) ((edgesOf rs).length) (List.flatMap edC (edgesOf rs))]/\Dig w223 wr)
 case atStart=>exact⟨0,rfl,rfl,Nat.zero_le _,(fun j_ _ _ _ h_=>absurd h_ (Nat.not_lt_zero _)),H224.out,Dig.refl _⟩
 obtain⟨i,rfl,rfl,q_HKI,q_HALL,hh_,hd_⟩:=hrel;generalize wr=w229 at*
 have HKI:=zH q_HKI;clear q_HKI;have HALL:=zH q_HALL;clear q_HALL;have H231:=zH hh_;have D231:=zH hd_;clear hh_ hd_ H224;rcases emH (i<(edgesOf rs).length)with HLT|HLT
 ·have hlt:=HLT.out
  have HV:=zH (edges_pos hlt);obtain⟨ge,rfl⟩:=HAE.out (by omega);obtain⟨xe,hx_⟩:∃x,(edgesOf rs)[i]?=some x:=⟨_,List.getElem?_eq_getElem hlt⟩;have HX:=zH hx_;have HOX:=zH (edgO_ok rs xe (List.mem_of_getElem? hx_));clear hx_;go_upto_region 3 with fail
  refine wl ?_;refine zI3 (Hp.start _) (.int .i64 (i:Int)) _ (.int .i64 (((edgesOf rs).length:Nat):Int)) ?_;refine zp (.bool true) (by exact ezl (e:=(dec_t (by omega)))) ?_;go_upto_region 5 with fail
  refine wl ?_;refine zq (.int .i64 0) ?_;go_wp2_with fail
  go_loopg [5] (i) (fun cq v238 wr=>∃(k:Nat),cq=i-k/\v238= .int .i64 (k:Int)/\(k<=i)/\(∀(j:Nat) (y:Edge),j<k->(edgesOf rs)[j]?=some y->pairR rs xe y i j=true)/\Hp w wr [.row 56 4 (.slice (some ⟨ge,0,none⟩) ((edgesOf rs).length) ce) ((edgesOf rs).length) (List.flatMap edC (edgesOf rs))]/\Dig w229 wr)
  case atStart=>exact⟨0,rfl,rfl,Nat.zero_le _,(fun j_ _ h_=>absurd h_ (Nat.not_lt_zero _)),H231.out,Dig.refl _⟩
  obtain⟨k,rfl,rfl,q_HKU,q_HROW,hh_,hd_⟩:=hrel;generalize wr=w239 at*
  have HKU:=zH q_HKU;clear q_HKU;have HROW:=zH q_HROW;clear q_HROW;have H241:=zH hh_;have D241:=zH hd_;clear hh_ hd_ H231;rcases emH (k<i)with HLU|HLU
  ·have hlu:=HLU.out
   have hlk:k<(edgesOf rs).length:=Nat.lt_trans hlu hlt;obtain⟨oe,hx_⟩:∃x,(edgesOf rs)[k]?=some x:=⟨_,List.getElem?_eq_getElem hlk⟩;have HO:=zH hx_;have HOO:=zH (edgO_ok rs oe (List.mem_of_getElem? hx_));clear hx_;go_upto_region 6 with fail
   refine wl ?_;refine zI2 (Hp.start _) (.int .i64 (k:Int)) (.int .i64 (i:Int)) ?_;refine zp (.bool true) (by exact ezl (e:=(dec_t (by omega)))) ?_;go_upto_region 8 with fail
   refine zy ?_;have H246:=zH (H241.out.step (Ext.refl w239).drew);have D246:=zH (Dig.of_ext (w:=w239) zb);refine zJ2 (Hp.start _) zb (bs 30 3) 0 1 _ (.int .i64 (i:Int)) ?_;refine zu 2 (bs 30 7) (v:= .pointer (some ⟨ge,i*4,none⟩)) zb ?_ (hv:=by intro w hSw;exact ezi (k:=i) Tryz.underlying53 (l:=hlt) (f:=(Nat.zero_add _).symm));refine zJ1 (Hp.start _) zb (bs 30 15) 3 _ ?_;refine zg 4 (bs 30 31) ge (i*4) [.int .i64 xe.1.1,.int .i64 xe.1.2] (range_part (H241.out.elem (f:=edC) (i:=0) rR edC_len HX.out) 0 2) Tryz.underlying23 zb ?_;refine zJ2 (Hp.start _) zb (bs 30 127) 5 6 _ (.int .i64 (i:Int)) ?_;refine zu 7 (bs 30 255) (v:= .pointer (some ⟨ge,i*4,none⟩)) zb ?_ (hv:=by intro w hSw;exact ezi (k:=i) Tryz.underlying53 (l:=hlt) (f:=(Nat.zero_add _).symm));refine mX 8 (bs 30 511) (.pointer (some ⟨ge,i*4+2,none⟩)) zb ?_;refine zg 9 (bs 30 1023) ge (i*4+2) [.int .i64 xe.2.1,.int .i64 xe.2.2] (range_part (H241.out.elem (f:=edC) (i:=0) rR edC_len HX.out) 2 2) Tryz.underlying23 zb ?_;refine zJ2 (Hp.start _) zb (bs 30 4095) 10 11 _ (.int .i64 (k:Int)) ?_;refine zu 12 (bs 30 8191) (v:= .pointer (some ⟨ge,k*4,none⟩)) zb ?_ (hv:=by intro w hSw;exact ezi (k:=k) Tryz.underlying53 (l:=hlk) (f:=(Nat.zero_add _).symm));refine zJ1 (Hp.start _) zb (bs 30 16383) 13 _ ?_;refine zg 14 (bs 30 32767) ge (k*4) [.int .i64 oe.1.1,.int .i64 oe.1.2] (range_part (H241.out.elem (f:=edC) (i:=0) rR edC_len HO.out) 0 2) Tryz.underlying23 zb ?_;refine zJ2 (Hp.start _) zb (bs 30 131071) 15 16 _ (.int .i64 (k:Int)) ?_;refine zu 17 (bs 30 262143) (v:= .pointer (some ⟨ge,k*4,none⟩)) zb ?_ (hv:=by intro w hSw;exact ezi (k:=k) Tryz.underlying53 (l:=hlk) (f:=(Nat.zero_add _).symm));refine mX 18 (bs 30 524287) (.pointer (some ⟨ge,k*4+2,none⟩)) zb ?_;refine zg 19 (bs 30 1048575) ge (k*4+2) [.int .i64 oe.2.1,.int .i64 oe.2.2] (range_part (H241.out.elem (f:=edC) (i:=0) rR edC_len HO.out) 2 2) Tryz.underlying23 zb ?_;refine FN.go2 (j1:=⟨25,some 6,30,[.bool false,.slice none 0 0,.bool false,.slice none 0 0]⟩) (j2:=⟨26,some 7,30,[.bool false,.slice none 0 0,.bool false,.slice none 0 0]⟩) (b:=w239) ?_ zb;refine gN 20 (bs 30 2097151) (fk (fk trivial)) zb.size (fun xq hxq=>((rsegments_any xe.1 xe.2 oe.1 oe.2 _ HOX.out.1 HOX.out.2 HOO.out.1 HOO.out.2).mono (fun _ _ h_=>h_.any))) (by rintro x_ e x2_ ⟨r265,s265,rfl,hx⟩;exact hx) ?_;rintro xq e w264 hxq ⟨r265,s265,rfl,hx⟩;replace hx:=hxq.trans hx;clear hxq;have H266:=zH (H246.out.step hx);have D266:=zH (show Dig w239.drew w264 from Dig.of_ext hx);have S268:=zH (zb.trans hx);clear hx;refine⟨_,rfl,?_⟩;try simp only[Act.put,zA,zB,zC]
   refine gT 21 (bs 30 4194303) _ ?_;refine gT 22 (bs 30 8388607) _ ?_;refine gT 23 (bs 30 16777215) _ ?_;refine gT 24 (bs 30 33554431) (.int .i64 (segN xe.1 xe.2 oe.1 oe.2)) ?_;refine gE2 (bs 30 134217727) (fk (fk trivial)) S268.out.size H241.out H266.out ?_;intro X273 X274 w275 hx hh hg0 hg1 hs;have H276:=hN hh;have D276:=zH (Dig.of_ext hx);have S278:=zH (show Ext w239 w275 from hs);have G279:=zH (show w239.heap.size<=X273 from hg0);have G280:=zH (show w239.heap.size<=X274 from hg1);clear hh hx hs hg0 hg1;try simp only[Act.put,zA,zB,zC]
   refine bS 1 27 (bs 30 268435455) (rc r265) H276.out S278.out G279.out ?_;intro w281 H282 D282 S284;refine bS 2 28 (bs 30 536870911) (rc s265) H282.out S284.out G280.out ?_;intro w285 H286 D286 S288;refine zx 29 (bs 30 1073741823) (.int .i64 (segN xe.1 xe.2 oe.1 oe.2)) S288.out ?_;refine wpAnyH_done kR ?_ _;rcases emH (adjF rs 0 i k=true)with HAD|HAD
   ·rcases emH (segN xe.1 xe.2 oe.1 oe.2=1)with HSG|HSG
    ·go_upto_region 9 with fail
     refine wl ?_;refine zI3 (Hp.start _) _ (.int .i64 (i:Int)) (.int .i64 (k:Int)) ?_;refine zc (radj17_any A cu rs i k _ (HU.out.ext H286.out.ext) HC.out HN.out HR.out HV.out (by omega) (by omega) (by omega)) ?_;rintro e w295 ⟨rfl,hx⟩;have H296:=zH (H286.out.step hx);have D296:=zH (Dig.of_ext hx);clear hx;refine⟨.bool true,by rw[HAD.out],?_⟩;try simp only[Act.put,zA,zB,zC]
     refine zI2 (Hp.start _) (.bool true) (.int .i64 (segN xe.1 xe.2 oe.1 oe.2)) ?_;refine zp (.bool false) (by exact ezn (e:=(dec_f (fun h_=>h_ HSG.out)))) ?_;refine zI5 (Hp.start _) (.bool false) (.bool false) _ (.int .i64 (i:Int)) (.int .i64 (k:Int)) ?_;refine zc (radj17_any A cu rs i k _ (HU.out.ext H296.out.ext) HC.out HN.out HR.out HV.out (by omega) (by omega) (by omega)) ?_;rintro e w306 ⟨rfl,hx⟩;have H307:=zH (H296.out.step hx);have D307:=zH (Dig.of_ext hx);clear hx;refine⟨.bool true,by rw[HAD.out],?_⟩;try simp only[Act.put,zA,zB,zC]
     refine zI6 (Hp.start _) (.bool false) (.bool false) _ _ (.bool false) (.bool false) ?_;go_upto_region 7 with fail
     refine wl ?_;refine zq (.int .i64 (k:Int)) ?_;refine zp (.int .i64 ((k+1:Nat):Int)) (by exact ez1 (by omega)) ?_;refine zq (.int .i64 ((k+1:Nat):Int)) ?_;have DD316:=tD (tD (tD (tD (tD (tD (tD D241 D246) D266) D276) D282) D286) D296) D307;go_wp2_with fail
     go_roundg (i-(k+1))
     case measure=>exact(by omega)
     case rel=>exact⟨k+1,rfl,(by go_num),hlu,(fun k_ y_ hk_ hy_=>by rcases Nat.lt_or_ge k_ k with q_|q_;exact HROW.out k_ y_ q_ hy_;obtain rfl:k_=k:=(by omega);rw[HO.out]at hy_;injection hy_ with hy_;rw[<-hy_];unfold pairR;rw[if_pos HAD.out];exact decide_eq_true HSG.out),H307.out.take 1,DD316.out⟩
    go_upto_region 9 with fail
    refine wl ?_;refine zI3 (Hp.start _) _ (.int .i64 (i:Int)) (.int .i64 (k:Int)) ?_;refine zc (radj17_any A cu rs i k _ (HU.out.ext H286.out.ext) HC.out HN.out HR.out HV.out (by omega) (by omega) (by omega)) ?_;rintro e w320 ⟨rfl,hx⟩;have H321:=zH (H286.out.step hx);clear hx;refine⟨.bool true,by rw[HAD.out],?_⟩;try simp only[Act.put,zA,zB,zC]
    refine zI2 (Hp.start _) (.bool true) (.int .i64 (segN xe.1 xe.2 oe.1 oe.2)) ?_;refine zp (.bool true) (by exact ezn (e:=(dec_t HSG.out))) ?_;refine zI8 (Hp.start _) (.bool true) (.bool true) _ _ _ _ _ _ ?_;refine zI4 (Hp.start _) _ _ _ (.bool true) ?_;go_upto_region 10 with fail
    refine wl ?_;refine zq (.bool false) ?_;go_wp2_with fail
    go_ret
    exact⟨by rw[show simB rs=false from sim_bad HV.out HX.out HO.out hlu (by unfold pairR;rw[if_pos HAD.out];exact decide_eq_false HSG.out)];rfl,H321.out.ext⟩
   have HADF:=zH (Bool.eq_false_iff.2 HAD.out);rcases emH (segN xe.1 xe.2 oe.1 oe.2=0)with HSG|HSG
   ·go_upto_region 9 with fail
    refine wl ?_;refine zI3 (Hp.start _) _ (.int .i64 (i:Int)) (.int .i64 (k:Int)) ?_;refine zc (radj17_any A cu rs i k _ (HU.out.ext H286.out.ext) HC.out HN.out HR.out HV.out (by omega) (by omega) (by omega)) ?_;rintro e w334 ⟨rfl,hx⟩;have H335:=zH (H286.out.step hx);have D335:=zH (Dig.of_ext hx);clear hx;refine⟨.bool false,by rw[HADF.out],?_⟩;try simp only[Act.put,zA,zB,zC]
    refine zI8 (Hp.start _) (.bool false) _ _ (.bool false) (.bool false) _ (.int .i64 (i:Int)) (.int .i64 (k:Int)) ?_;refine zc (radj17_any A cu rs i k _ (HU.out.ext H335.out.ext) HC.out HN.out HR.out HV.out (by omega) (by omega) (by omega)) ?_;rintro e w343 ⟨rfl,hx⟩;have H344:=zH (H335.out.step hx);have D344:=zH (Dig.of_ext hx);clear hx;refine⟨.bool false,by rw[HADF.out],?_⟩;try simp only[Act.put,zA,zB,zC]
    refine zI3 (Hp.start _) (.bool true) (.bool true) (.int .i64 (segN xe.1 xe.2 oe.1 oe.2)) ?_;refine zp (.bool false) (by exact ezn (e:=(dec_f (fun h_=>h_ HSG.out)))) ?_;refine zI2 (Hp.start _) (.bool false) (.bool false) ?_;go_upto_region 7 with fail
    refine wl ?_;refine zq (.int .i64 (k:Int)) ?_;refine zp (.int .i64 ((k+1:Nat):Int)) (by exact ez1 (by omega)) ?_;refine zq (.int .i64 ((k+1:Nat):Int)) ?_;have DD355:=tD (tD (tD (tD (tD (tD (tD D241 D246) D266) D276) D282) D286) D335) D344;go_wp2_with fail
    go_roundg (i-(k+1))
    case measure=>exact(by omega)
    case rel=>exact⟨k+1,rfl,(by go_num),hlu,(fun k_ y_ hk_ hy_=>by rcases Nat.lt_or_ge k_ k with q_|q_;exact HROW.out k_ y_ q_ hy_;obtain rfl:k_=k:=(by omega);rw[HO.out]at hy_;injection hy_ with hy_;rw[<-hy_];unfold pairR;rw[if_neg HAD.out];exact decide_eq_true HSG.out),H344.out.take 1,DD355.out⟩
   go_upto_region 9 with fail
   refine wl ?_;refine zI3 (Hp.start _) _ (.int .i64 (i:Int)) (.int .i64 (k:Int)) ?_;refine zc (radj17_any A cu rs i k _ (HU.out.ext H286.out.ext) HC.out HN.out HR.out HV.out (by omega) (by omega) (by omega)) ?_;rintro e w359 ⟨rfl,hx⟩;have H360:=zH (H286.out.step hx);clear hx;refine⟨.bool false,by rw[HADF.out],?_⟩;try simp only[Act.put,zA,zB,zC]
   refine zI8 (Hp.start _) (.bool false) _ _ (.bool false) (.bool false) _ (.int .i64 (i:Int)) (.int .i64 (k:Int)) ?_;refine zc (radj17_any A cu rs i k _ (HU.out.ext H360.out.ext) HC.out HN.out HR.out HV.out (by omega) (by omega) (by omega)) ?_;rintro e w368 ⟨rfl,hx⟩;have H369:=zH (H360.out.step hx);clear hx;refine⟨.bool false,by rw[HADF.out],?_⟩;try simp only[Act.put,zA,zB,zC]
   refine zI3 (Hp.start _) (.bool true) (.bool true) (.int .i64 (segN xe.1 xe.2 oe.1 oe.2)) ?_;refine zp (.bool true) (by exact ezn (e:=(dec_t HSG.out))) ?_;refine zI2 (Hp.start _) (.bool true) (.bool true) ?_;go_upto_region 10 with fail
   refine wl ?_;refine zq (.bool false) ?_;go_wp2_with fail
   go_ret
   exact⟨by rw[show simB rs=false from sim_bad HV.out HX.out HO.out hlu (by unfold pairR;rw[if_neg HAD.out];exact decide_eq_false HSG.out)];rfl,H369.out.ext⟩
  have hlu:=HLU.out;have hki:=HKU.out;obtain rfl:k=i:=by omega
  go_upto_region 6 with fail
  refine wl ?_;refine zI2 (Hp.start _) (.int .i64 (k:Int)) (.int .i64 (k:Int)) ?_;refine zp (.bool false) (by exact ezl (e:=(dec_f (Int.lt_irrefl _)))) ?_;go_upto_region 4 with fail
  refine wl ?_;refine zq (.int .i64 (k:Int)) ?_;refine zp (.int .i64 ((k+1:Nat):Int)) (by exact ez1 (by omega)) ?_;refine zq (.int .i64 ((k+1:Nat):Int)) ?_;have DD384:=tD D231 D241;go_wp2_with fail
  go_roundg ((edgesOf rs).length-(k+1))
  case measure=>exact(by omega)
  case rel=>exact⟨k+1,rfl,(by go_num),hlt,(fun j_ k_ x_ y_ hj_ hx_ hy_ hk_=>by rcases Nat.lt_or_ge j_ k with q_|q_;exact HALL.out j_ k_ x_ y_ q_ hx_ hy_ hk_;obtain rfl:j_=k:=(by omega);rw[HX.out]at hx_;injection hx_ with hx_;rw[<-hx_];exact HROW.out k_ y_ hk_ hy_),H241.out,DD384.out⟩
 have hlt:=HLT.out;have hki:=HKI.out;obtain rfl:i=(edgesOf rs).length:=by omega
 go_upto_region 3 with fail
 refine wl ?_;refine zI3 (Hp.start _) (.int .i64 (((edgesOf rs).length:Nat):Int)) _ (.int .i64 (((edgesOf rs).length:Nat):Int)) ?_;refine zp (.bool false) (by exact ezl (e:=(dec_f (Int.lt_irrefl _)))) ?_;rcases emH (okR rs=true)with HV|HV
 ·go_upto_region 11 with fail
  refine wl ?_;refine zI1 (Hp.start _) _ ?_;refine zc (r16Valid_any _ rs _ (HU.out.ext H231.out.ext) HN.out HR.out) ?_;rintro e w391 ⟨rfl,hx⟩;have H392:=zH (H231.out.step hx);clear hx;refine⟨.bool true,by rw[HV.out],?_⟩;try simp only[Act.put,zA,zB,zC]
  refine zq (.bool true) ?_;go_wp2_with fail
  go_ret
  exact⟨by rw[show simB rs=true from sim_good HV.out HALL.out];rfl,H392.out.ext⟩
 go_upto_region 11 with fail
 refine wl ?_;refine zI1 (Hp.start _) _ ?_;refine zc (r16Valid_any _ rs _ (HU.out.ext H231.out.ext) HN.out HR.out) ?_;rintro e w396 ⟨rfl,hx⟩;have H397:=zH (H231.out.step hx);clear hx;refine⟨.bool false,by rw[Bool.eq_false_iff.2 HV.out],?_⟩;try simp only[Act.put,zA,zB,zC]
 refine zq (.bool false) ?_;go_wp2_with fail
 go_ret
 exact⟨by rw[show simB rs=false from by unfold simB;rw[Bool.eq_false_iff.2 HV.out,Bool.false_and]];rfl,H397.out.ext⟩
end Go.Proofs.YtiokhlgdelipdaaGreat
