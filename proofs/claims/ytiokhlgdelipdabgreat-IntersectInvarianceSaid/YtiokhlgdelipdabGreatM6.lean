/- Contracts that the claim stands on: XCpt2 to XEdgX. -/
import Derived.Deep.LoopGhost
import Derived.Deep.DeepCutAuto
import Derived.Test.YtiokhlgdelipdabGreatM5
set_option maxRecDepth 100000
set_option maxHeartbeats 4000000
namespace Go.Proofs.YtiokhlgdelipdabGreat
open Go.RowKit
attribute [local go_sem ↓] Go.wp_at_zero Go.wp_at_succ run_max_ii run_min_ii
theorem cptR2_any (L:Nat)(hL:L<=60000)(v:Value)(es:List R2E)(base:Nat)(w:World)(h:RowN w base 37 8 v es.length (es.flatMap R2E.cells))(hbase:base<=w.heap.size)(hok:∀e,e∈es->e.Ok L w)(hn:es.length<=100000000):
  Calls Tryz.prog 30 #[v,.func (.func 31) #[] #[]] w fun x w'=>∃v',x= .returned v'/\RowN w' base 37 8 v' (compactV (fun x y:R2E=>decide (x.vl=y.vl)) es).length ((compactV (fun x y:R2E=>decide (x.vl=y.vl)) es).flatMap R2E.cells)/\w.grownBy w' v.ownBlock/\Dig w w'/\v'.ownBlock=v.ownBlock:=by
 obtain⟨w0,hx0,rfl⟩:=trunc w base hbase;have HOK:=zH hok;clear hok;rcases h.2 with⟨rfl,h0⟩|⟨g,cap,rest,rfl,hb,hg,hc1,hc2,hc3,hc4⟩
 ·have he:es=[]:=List.eq_nil_of_length_eq_zero h0
  subst he;go_enter Tryz.func30,Tryz.ntmps30
  go_wp2_with fail
  go_ret
  exact⟨_,rfl,h,World.grownBy.refl _ _,Dig.refl _,rfl⟩
 have H0:=zH (Hp.one hx0 h);have HCN:=zH hc1;clear h hx0 hb hg hc2 hc3 hc4;have HFR:=zH (show Fr (fun kz=>Value.ownBlock (.slice (some ⟨g,0,none⟩) es.length cap)=some kz) w w from Fr.of_ext (Ext.refl w));go_enter Tryz.func30,Tryz.ntmps30
 go_upto_region 0 with fail
 refine wl ?_;refine zI1 (Hp.start _) _ ?_;rcases emH (es.length<2)with HS|HS
 ·go_upto_region 1 with fail
  refine wl ?_;refine zI2 (Hp.start _) _ (.int .i64 ((es.length:Nat):Int)) ?_;refine zp (.bool true) (by exact ezl (e:=(dec_t (by have ob0:=HS.out;omega)))) ?_;go_upto_region 2 with fail
  refine wl ?_;refine zI2 (Hp.start _) _ _ ?_;have hcv:compactV (fun x y:R2E=>decide (x.vl=y.vl)) es=es:=by have hs:=HS.out;match es,hs with| [],_=>rfl| [x],_=>rfl|x::y::l,hs=>exact absurd hs (by simp)
  go_wp2_with fail
  go_ret
  exact⟨_,rfl,by rw[hcv];exact H0.out.row (i:=0) (by rfl),World.grownBy.refl _ _,Dig.refl _,rfl⟩
 go_upto_region 1 with fail
 refine wl ?_;refine zI2 (Hp.start _) _ (.int .i64 ((es.length:Nat):Int)) ?_;refine zp (.bool false) (by exact ezl (e:=(dec_f (by have ob0:=HS.out;omega)))) ?_;go_upto_region 3 with fail
 refine wl ?_;refine zq (.int .i64 1) ?_;go_wp2_with fail
 go_loopg [5] (es.length) (fun cq v166 wr=>∃(j:Nat),cq=es.length-j/\v166= .int .i64 ((j+1:Nat):Int)/\(j+1<=es.length)/\(compactV (fun x y:R2E=>decide (x.vl=y.vl)) (es.take (j+1))=es.take (j+1))/\(Fr (fun kz=>Value.ownBlock (.slice (some ⟨g,0,none⟩) es.length cap)=some kz) w wr)/\Hp w0 wr [.row 37 8 (.slice (some ⟨g,0,none⟩) es.length cap) (es.length) (List.flatMap R2E.cells es)]/\Dig w wr)
 case atStart=>exact⟨0,rfl,rfl,(by have h_:=HS.out;omega),(by have hs:=HS.out;match es,hs with| [],hs=>exact absurd hs (by decide)|x::l,_=>rfl),HFR.out,H0.out,Dig.refl _⟩
 obtain⟨j,rfl,rfl,q_HK,q_HCV,q_HFR,hh_,hd_⟩:=hrel;generalize wr=w167 at*
 have HK:=zH q_HK;clear q_HK;have HCV:=zH q_HCV;clear q_HCV;have HFR:=zH q_HFR;clear q_HFR;have H169:=zH hh_;have D169:=zH hd_;clear hh_ hd_;rcases emH (j+1<es.length)with HLT|HLT
 ·go_upto_region 4 with fail
  refine wl ?_;refine zI3 (Hp.start _) (.int .i64 ((j+1:Nat):Int)) _ (.int .i64 ((es.length:Nat):Int)) ?_;refine zp (.bool true) (by exact ezl (e:=(dec_t (by have ob0:=HK.out;have ob1:=HLT.out;omega)))) ?_;obtain⟨e,he⟩:∃e,es[j+1]?=some e:=⟨_,List.getElem?_eq_getElem HLT.out⟩;obtain⟨f,hf⟩:∃f,es[j]?=some f:=⟨_,List.getElem?_eq_getElem (by have h_:=HLT.out;omega)⟩;have HQe:=zH he;have ho_:=HOK.out e (List.mem_of_getElem? he);have HAe:=zH ho_.1;have HZe:=zH ho_.2.1;have BAe:=zH ho_.2.2.1;have BZe:=zH ho_.2.2.2;clear he ho_;have HQf:=zH hf;have ho_:=HOK.out f (List.mem_of_getElem? hf);have HAf:=zH ho_.1;have HZf:=zH ho_.2.1;have BAf:=zH ho_.2.2.1;have BZf:=zH ho_.2.2.2;clear hf ho_;have HST:=zH (compact_step (eqv:=(fun x y:R2E=>decide (x.vl=y.vl))) HQe.out HQf.out);rcases emH (e.vl=f.vl)with HEQ|HEQ
  ·go_upto_region 6 with fail
   refine zy ?_;have H176:=zH (H169.out.step (Ext.refl w167).drew);have D176:=zH (Dig.of_ext (w:=w167) zb);have K178:=zH (HFR.out.trans (Fr.of_ext (Ext.refl w167).drew));refine zJ3 (Hp.start _) zb (bs 11 7) 0 1 2 _ _ (.int .i64 ((j+1:Nat):Int)) ?_;refine zo 3 (bs 11 15) (v:= .pointer (some ⟨g,(j+1)*8,none⟩)) zb ?_ (hv:=by intro w hSw;exact ezi (k:=j+1) Tryz.underlying27 (l:=(by have h_:=HLT.out;omega)) (f:=(Nat.zero_add _).symm));refine zg 4 (bs 11 31) g ((j+1)*8) [.bool e.a.n,.slice e.a.p e.a.l e.a.c,.bool e.a.m,.slice e.a.p2 e.a.l2 e.a.c2,.bool e.b.n,.slice e.b.p e.b.l e.b.c,.bool e.b.m,.slice e.b.p2 e.b.l2 e.b.c2] (H169.out.elem (f:=R2E.cells) (i:=0) rR R2E.len HQe.out) Tryz.underlying37 zb ?_;refine zJ2 (Hp.start _) zb (bs 11 127) 5 6 _ (.int .i64 ((j+1:Nat):Int)) ?_;refine zu 7 (bs 11 255) (v:= .int .i64 (j:Int)) zb ?_ (hv:=by intro w hSw;exact ez2 (by have ob0:=HK.out;have ob1:=HLT.out;omega));refine zo 8 (bs 11 511) (v:= .pointer (some ⟨g,j*8,none⟩)) zb ?_ (hv:=by intro w hSw;exact ezi (k:=j) Tryz.underlying27 (l:=(by have h_:=HLT.out;omega)) (f:=(Nat.zero_add _).symm));refine zg 9 (bs 11 1023) g (j*8) [.bool f.a.n,.slice f.a.p f.a.l f.a.c,.bool f.a.m,.slice f.a.p2 f.a.l2 f.a.c2,.bool f.b.n,.slice f.b.p f.b.l f.b.c,.bool f.b.m,.slice f.b.p2 f.b.l2 f.b.c2] (H169.out.elem (f:=R2E.cells) (i:=0) rR R2E.len HQf.out) Tryz.underlying37 zb ?_;have DD188:=tD D169 D176;refine mC 10 (bs 11 2047) (intEq_any L hL _ e f ⟨(HAe.out.dig DD188.out),(HZe.out.dig DD188.out),BAe.out,BZe.out⟩ ⟨(HAf.out.dig DD188.out),(HZf.out.dig DD188.out),BAf.out,BZf.out⟩) ?_;rintro e w187 ⟨rfl,hx⟩;have H189:=zH (H176.out.step hx);have D189:=zH (show Dig w167.drew w187 from Dig.of_ext hx);have K191:=zH (K178.out.trans (Fr.of_ext hx));have S192:=zH (zb.trans hx);clear hx;refine⟨.bool true,by rw[decide_eq_true HEQ.out],S192.out,?_⟩;try simp only[Act.put,zA,zB,zC]
   refine wpAnyH_done kR ?_ _;obtain⟨d,hd⟩:∃d,es.length=j+1+d:=⟨es.length-(j+1),by have h_:=HLT.out;omega⟩;obtain⟨c2,hc2⟩:∃c2,cap=j+1+c2:=⟨cap-(j+1),by have h_:=HLT.out;have h2_:=HCN.out;omega⟩;have HD:=zH hd;have HC2:=zH hc2;clear hd hc2;go_upto_region 7 with fail
   refine wl ?_;refine zI2 (Hp.start _) _ (.int .i64 ((j+1:Nat):Int)) ?_;refine zp (.slice (some ⟨g,(j+1)*8,none⟩) d c2) (by exact ev_drop rR Tryz.underlying27 kR rR rR (by first|rfl|omega) HD.out (by have ob0:=HK.out;have ob1:=HLT.out;have ob2:=HD.out;have ob3:=HC2.out;have ob4:=HCN.out;omega) HC2.out (by have ob0:=HK.out;have ob1:=HLT.out;have ob2:=HD.out;have ob3:=HC2.out;have ob4:=HCN.out;omega)) ?_;refine zq (.slice (some ⟨g,(j+1)*8,none⟩) d c2) ?_;go_upto_region 8 with fail
   refine wl ?_;refine zq (.int .i64 1) ?_;go_wp2_with fail
   go_loopg [5,7] (d) (fun cq v198 v199 wr=>∃(i:Nat) (k:Nat) (ds:List R2E),cq=d-i/\v198= .int .i64 (k:Int)/\v199= .int .i64 ((i+1:Nat):Int)/\(i+1<=d)/\(k<j+1+(i+1))/\(ds.length=es.length)/\(ds.take k=compactV (fun x y:R2E=>decide (x.vl=y.vl)) (es.take (j+1+(i+1))))/\(ds.drop (j+1+i)=es.drop (j+1+i))/\(Fr (fun kz=>Value.ownBlock (.slice (some ⟨g,0,none⟩) es.length cap)=some kz) w wr)/\Hp w0 wr [.row 37 8 (.slice (some ⟨g,0,none⟩) es.length cap) (es.length) (List.flatMap R2E.cells ds)]/\Dig w187 wr)
   case atStart=>exact⟨0,j+1,es,rfl,rfl,rfl,(by have h_:=HLT.out;have h2_:=HD.out;omega),(by omega),rfl,(by rw[show j+1+(0+1)=j+1+1 by omega,HST.out,if_pos (decide_eq_true HEQ.out),List.append_nil];exact HCV.out.symm),rfl,K191.out,H189.out,Dig.refl _⟩
   obtain⟨i,k,ds,rfl,rfl,rfl,q_HI,q_HKI,q_HDL,q_HD2,q_HD3,q_HFR,hh_,hd_⟩:=hrel;generalize wr=w200 at*
   have HI:=zH q_HI;clear q_HI;have HKI:=zH q_HKI;clear q_HKI;have HDL:=zH q_HDL;clear q_HDL;have HD2:=zH q_HD2;clear q_HD2;have HD3:=zH q_HD3;clear q_HD3;have HFR:=zH q_HFR;clear q_HFR;have H202:=zH hh_;have D202:=zH hd_;clear hh_ hd_ H189;rcases emH (i+1<d)with HLT2|HLT2
   ·go_upto_region 9 with fail
    refine wl ?_;refine zI3 (Hp.start _) (.int .i64 ((i+1:Nat):Int)) (.slice (some ⟨g,(j+1)*8,none⟩) d c2) (.int .i64 (d:Int)) ?_;refine zp (.bool true) (by exact ezl (e:=(dec_t (by have ob0:=HI.out;have ob1:=HKI.out;have ob2:=HD.out;have ob3:=HC2.out;have ob4:=HCN.out;have ob5:=HDL.out;have ob6:=HLT2.out;omega)))) ?_;obtain⟨e2,he2⟩:∃e2,es[j+1+i+1]?=some e2:=⟨_,List.getElem?_eq_getElem (by have h_:=HLT2.out;have h2_:=HD.out;omega)⟩;obtain⟨f2,hf2⟩:∃f2,es[j+1+i]?=some f2:=⟨_,List.getElem?_eq_getElem (by have h_:=HLT2.out;have h2_:=HD.out;omega)⟩;have HQe2:=zH he2;have ho_:=HOK.out e2 (List.mem_of_getElem? he2);have HAe2:=zH ho_.1;have HZe2:=zH ho_.2.1;have BAe2:=zH ho_.2.2.1;have BZe2:=zH ho_.2.2.2;clear he2 ho_;have HQf2:=zH hf2;have ho_:=HOK.out f2 (List.mem_of_getElem? hf2);have HAf2:=zH ho_.1;have HZf2:=zH ho_.2.1;have BAf2:=zH ho_.2.2.1;have BZf2:=zH ho_.2.2.2;clear hf2 ho_;have HRe2:=zH (show ds[j+1+(i+1)]?=some e2 from(get_of_drop HD3.out (by omega)).trans HQe2.out);have HRf2:=zH (show ds[j+1+i]?=some f2 from(get_of_drop HD3.out (by omega)).trans HQf2.out);have HST2:=zH (compact_step (eqv:=(fun x y:R2E=>decide (x.vl=y.vl))) HQe2.out HQf2.out);rcases emH (e2.vl=f2.vl)with HEQ2|HEQ2
    ·go_upto_region 11 with fail
     refine zy ?_;have H209:=zH (H202.out.step (Ext.refl w200).drew);have D209:=zH (Dig.of_ext (w:=w200) zb);have K211:=zH (HFR.out.trans (Fr.of_ext (Ext.refl w200).drew));refine zJ3 (Hp.start _) zb (bs 12 7) 0 1 2 _ (.slice (some ⟨g,(j+1)*8,none⟩) d c2) (.int .i64 ((i+1:Nat):Int)) ?_;refine zo 3 (bs 12 15) (v:= .pointer (some ⟨g,(j+1)*8+(i+1)*8,none⟩)) zb ?_ (hv:=by intro w hSw;exact ezi (k:=i+1) Tryz.underlying27 (l:=(by have h_:=HLT2.out;omega)) (f:=rfl));refine zg 4 (bs 12 31) g ((j+1)*8+(i+1)*8) [.bool e2.a.n,.slice e2.a.p e2.a.l e2.a.c,.bool e2.a.m,.slice e2.a.p2 e2.a.l2 e2.a.c2,.bool e2.b.n,.slice e2.b.p e2.b.l e2.b.c,.bool e2.b.m,.slice e2.b.p2 e2.b.l2 e2.b.c2] (elem_off (H202.out.elem (f:=R2E.cells) (i:=0) rR R2E.len HRe2.out)) Tryz.underlying37 zb ?_;refine zJ2 (Hp.start _) zb (bs 12 127) 5 6 (.slice (some ⟨g,(j+1)*8,none⟩) d c2) (.int .i64 ((i+1:Nat):Int)) ?_;refine zu 7 (bs 12 255) (v:= .int .i64 (i:Int)) zb ?_ (hv:=by intro w hSw;exact ez2 (by have ob0:=HI.out;have ob1:=HKI.out;have ob2:=HD.out;have ob3:=HC2.out;have ob4:=HCN.out;have ob5:=HDL.out;have ob6:=HLT2.out;omega));refine zo 8 (bs 12 511) (v:= .pointer (some ⟨g,(j+1)*8+i*8,none⟩)) zb ?_ (hv:=by intro w hSw;exact ezi (k:=i) Tryz.underlying27 (l:=(by have h_:=HLT2.out;omega)) (f:=rfl));refine zg 9 (bs 12 1023) g ((j+1)*8+i*8) [.bool f2.a.n,.slice f2.a.p f2.a.l f2.a.c,.bool f2.a.m,.slice f2.a.p2 f2.a.l2 f2.a.c2,.bool f2.b.n,.slice f2.b.p f2.b.l f2.b.c,.bool f2.b.m,.slice f2.b.p2 f2.b.l2 f2.b.c2] (elem_off (H202.out.elem (f:=R2E.cells) (i:=0) rR R2E.len HRf2.out)) Tryz.underlying37 zb ?_;have DD221:=tD (tD (tD DD188 D189) D202) D209;refine mC 10 (bs 12 2047) (intEq_any L hL _ e2 f2 ⟨(HAe2.out.dig DD221.out),(HZe2.out.dig DD221.out),BAe2.out,BZe2.out⟩ ⟨(HAf2.out.dig DD221.out),(HZf2.out.dig DD221.out),BAf2.out,BZf2.out⟩) ?_;rintro e w220 ⟨rfl,hx⟩;have H222:=zH (H209.out.step hx);have D222:=zH (show Dig w200.drew w220 from Dig.of_ext hx);have K224:=zH (K211.out.trans (Fr.of_ext hx));have S225:=zH (zb.trans hx);clear hx;refine⟨.bool true,by rw[decide_eq_true HEQ2.out],S225.out,?_⟩;try simp only[Act.put,zA,zB,zC]
     refine zx 11 (bs 12 4095) (.bool false) S225.out ?_;refine wpAnyH_done kR ?_ _;go_upto_region 10 with fail
     refine wl ?_;refine zq (.int .i64 ((i+1:Nat):Int)) ?_;refine zp (.int .i64 ((i+2:Nat):Int)) (by exact ez1 (by have ob0:=HI.out;have ob1:=HKI.out;have ob2:=HD.out;have ob3:=HC2.out;have ob4:=HCN.out;have ob5:=HDL.out;have ob6:=HLT2.out;omega)) ?_;refine zq (.int .i64 ((i+2:Nat):Int)) ?_;have DD230:=tD (tD D202 D209) D222;go_wp2_with fail
     go_roundg (d-(i+1))
     case measure=>exact(by have ob0:=HI.out;have ob1:=HKI.out;have ob2:=HD.out;have ob3:=HC2.out;have ob4:=HCN.out;have ob5:=HDL.out;have ob6:=HLT2.out;have ob8:=(show i<d from by have h_:=HLT2.out;omega);omega)
     case rel=>exact⟨i+1,k,ds,rfl,rfl,(by go_num),HLT2.out,(by have h_:=HKI.out;omega),HDL.out,(by rw[show j+1+(i+1+1)=j+1+i+1+1 by omega,HST2.out,if_pos (decide_eq_true HEQ2.out),List.append_nil];exact HD2.out),(by rw[show j+1+(i+1)=(j+1+i)+1 by omega,<-List.drop_drop,HD3.out,List.drop_drop]),K224.out,H222.out,DD230.out⟩
    go_upto_region 11 with fail
    refine zy ?_;have H231:=zH (H202.out.step (Ext.refl w200).drew);have D231:=zH (Dig.of_ext (w:=w200) zb);have K233:=zH (HFR.out.trans (Fr.of_ext (Ext.refl w200).drew));refine zJ3 (Hp.start _) zb (bs 12 7) 0 1 2 _ (.slice (some ⟨g,(j+1)*8,none⟩) d c2) (.int .i64 ((i+1:Nat):Int)) ?_;refine zo 3 (bs 12 15) (v:= .pointer (some ⟨g,(j+1)*8+(i+1)*8,none⟩)) zb ?_ (hv:=by intro w hSw;exact ezi (k:=i+1) Tryz.underlying27 (l:=(by have h_:=HLT2.out;omega)) (f:=rfl));refine zg 4 (bs 12 31) g ((j+1)*8+(i+1)*8) [.bool e2.a.n,.slice e2.a.p e2.a.l e2.a.c,.bool e2.a.m,.slice e2.a.p2 e2.a.l2 e2.a.c2,.bool e2.b.n,.slice e2.b.p e2.b.l e2.b.c,.bool e2.b.m,.slice e2.b.p2 e2.b.l2 e2.b.c2] (elem_off (H202.out.elem (f:=R2E.cells) (i:=0) rR R2E.len HRe2.out)) Tryz.underlying37 zb ?_;refine zJ2 (Hp.start _) zb (bs 12 127) 5 6 (.slice (some ⟨g,(j+1)*8,none⟩) d c2) (.int .i64 ((i+1:Nat):Int)) ?_;refine zu 7 (bs 12 255) (v:= .int .i64 (i:Int)) zb ?_ (hv:=by intro w hSw;exact ez2 (by have ob0:=HI.out;have ob1:=HKI.out;have ob2:=HD.out;have ob3:=HC2.out;have ob4:=HCN.out;have ob5:=HDL.out;have ob6:=HLT2.out;omega));refine zo 8 (bs 12 511) (v:= .pointer (some ⟨g,(j+1)*8+i*8,none⟩)) zb ?_ (hv:=by intro w hSw;exact ezi (k:=i) Tryz.underlying27 (l:=(by have h_:=HLT2.out;omega)) (f:=rfl));refine zg 9 (bs 12 1023) g ((j+1)*8+i*8) [.bool f2.a.n,.slice f2.a.p f2.a.l f2.a.c,.bool f2.a.m,.slice f2.a.p2 f2.a.l2 f2.a.c2,.bool f2.b.n,.slice f2.b.p f2.b.l f2.b.c,.bool f2.b.m,.slice f2.b.p2 f2.b.l2 f2.b.c2] (elem_off (H202.out.elem (f:=R2E.cells) (i:=0) rR R2E.len HRf2.out)) Tryz.underlying37 zb ?_;have DD243:=tD (tD (tD DD188 D189) D202) D231;refine mC 10 (bs 12 2047) (intEq_any L hL _ e2 f2 ⟨(HAe2.out.dig DD243.out),(HZe2.out.dig DD243.out),BAe2.out,BZe2.out⟩ ⟨(HAf2.out.dig DD243.out),(HZf2.out.dig DD243.out),BAf2.out,BZf2.out⟩) ?_;rintro e w242 ⟨rfl,hx⟩;have H244:=zH (H231.out.step hx);have D244:=zH (show Dig w200.drew w242 from Dig.of_ext hx);have K246:=zH (K233.out.trans (Fr.of_ext hx));have S247:=zH (zb.trans hx);clear hx;refine⟨.bool false,by rw[decide_eq_false HEQ2.out],S247.out,?_⟩;try simp only[Act.put,zA,zB,zC]
    refine zx 11 (bs 12 4095) (.bool true) S247.out ?_;refine wpAnyH_done kR ?_ _;go_upto_region 12 with fail
    refine wl ?_;refine zI4 (Hp.start _) _ (.int .i64 (k:Int)) (.slice (some ⟨g,(j+1)*8,none⟩) d c2) (.int .i64 ((i+1:Nat):Int)) ?_;refine zp (.pointer (some ⟨g,(j+1)*8+(i+1)*8,none⟩)) (by exact ezi (k:=i+1) Tryz.underlying27 (l:=(by have h_:=HLT2.out;omega)) (f:=rfl)) ?_;refine zd g ((j+1)*8+(i+1)*8) [.bool e2.a.n,.slice e2.a.p e2.a.l e2.a.c,.bool e2.a.m,.slice e2.a.p2 e2.a.l2 e2.a.c2,.bool e2.b.n,.slice e2.b.p e2.b.l e2.b.c,.bool e2.b.m,.slice e2.b.p2 e2.b.l2 e2.b.c2] (elem_off (H244.out.elem (f:=R2E.cells) (i:=0) rR R2E.len HRe2.out)) Tryz.underlying37 ?_;refine zp (.pointer (some ⟨g,k*8,none⟩)) (by exact ezi (k:=k) Tryz.underlying27 (l:=(by have h_:=HKI.out;have h1_:=HLT2.out;have h2_:=HD.out;omega)) (f:=(Nat.zero_add _).symm)) ?_;refine mv_stElem (f:=R2E.cells) rR _ _ _ rR H244.out (ix:=0) rR R2E.len k e2 (by have h_:=HKI.out;have h1_:=HLT2.out;have h2_:=HD.out;have h3_:=HDL.out;omega) [.bool e2.a.n,.slice e2.a.p e2.a.l e2.a.c,.bool e2.a.m,.slice e2.a.p2 e2.a.l2 e2.a.c2,.bool e2.b.n,.slice e2.b.p e2.b.l e2.b.c,.bool e2.b.m,.slice e2.b.p2 e2.b.l2 e2.b.c2] rR (k*8) rR rR rR kR (by simp[Value.oneCell']) (by simp[NoUL]) ?_;intro w256 hh hd ho;have H257:=hN hh;have D257:=zH (hd);have K259:=zH (K246.out.trans_new ho (fun j hj=> .inl hj));clear hh hd ho
    (try simp only[Act.put])
    go_upto_region 13 with fail
    refine wl ?_;refine zq (.int .i64 (k:Int)) ?_;refine zp (.int .i64 ((k+1:Nat):Int)) (by exact ez1 (by have ob0:=HI.out;have ob1:=HKI.out;have ob2:=HD.out;have ob3:=HC2.out;have ob4:=HCN.out;have ob5:=HDL.out;have ob6:=HLT2.out;omega)) ?_;refine zq (.int .i64 ((k+1:Nat):Int)) ?_;go_upto_region 10 with fail
    refine wl ?_;refine zq (.int .i64 ((i+1:Nat):Int)) ?_;refine zp (.int .i64 ((i+2:Nat):Int)) (by exact ez1 (by have ob0:=HI.out;have ob1:=HKI.out;have ob2:=HD.out;have ob3:=HC2.out;have ob4:=HCN.out;have ob5:=HDL.out;have ob6:=HLT2.out;omega)) ?_;refine zq (.int .i64 ((i+2:Nat):Int)) ?_;have DD266:=tD (tD (tD D202 D231) D244) D257;go_wp2_with fail
    go_roundg (d-(i+1))
    case measure=>exact(by have ob0:=HI.out;have ob1:=HKI.out;have ob2:=HD.out;have ob3:=HC2.out;have ob4:=HCN.out;have ob5:=HDL.out;have ob6:=HLT2.out;have ob8:=(show i<d from by have h_:=HLT2.out;omega);omega)
    case rel=>exact⟨i+1,k+1,(ds.set k e2),rfl,(by go_num),(by go_num),HLT2.out,(by have h_:=HKI.out;omega),(by rw[List.length_set];exact HDL.out),(by rw[show j+1+(i+1+1)=j+1+i+1+1 by omega,HST2.out,if_neg (by rw[decide_eq_false HEQ2.out];decide),take_set_snoc (by have h_:=HKI.out;have h1_:=HLT2.out;have h2_:=HD.out;have h3_:=HDL.out;omega)];exact congrArg (· ++[e2]) HD2.out),(by rw[List.drop_set_of_lt (by have h_:=HKI.out;omega),show j+1+(i+1)=(j+1+i)+1 by omega,<-List.drop_drop,HD3.out,List.drop_drop]),K259.out,H257.out,DD266.out⟩
   go_upto_region 9 with fail
   refine wl ?_;refine zI3 (Hp.start _) (.int .i64 ((i+1:Nat):Int)) (.slice (some ⟨g,(j+1)*8,none⟩) d c2) (.int .i64 (d:Int)) ?_;refine zp (.bool false) (by exact ezl (e:=(dec_f (by have ob0:=HI.out;have ob1:=HKI.out;have ob2:=HD.out;have ob3:=HC2.out;have ob4:=HCN.out;have ob5:=HDL.out;have ob6:=HLT2.out;omega)))) ?_;have hid_:i+1=d:=by have h_:=HLT2.out;have h2_:=HI.out;omega
   have HTK:=zH (show ds.take k=compactV (fun x y:R2E=>decide (x.vl=y.vl)) es from by rw[HD2.out,show j+1+(i+1)=es.length by rw[HD.out];omega,List.take_of_length_le (Nat.le_refl _)]);obtain⟨d3,hd3⟩:∃d3,es.length=k+d3:=⟨es.length-k,by have h_:=HKI.out;have h2_:=HD.out;omega⟩;obtain⟨c3,hc3⟩:∃c3,cap=k+c3:=⟨cap-k,by have h_:=HKI.out;have h2_:=HD.out;have h3_:=HCN.out;omega⟩;have HD4:=zH hd3;have HC3:=zH hc3;have hd0:0<d3:=by have h_:=HKI.out;have h2_:=HD.out;omega
   have HD0:=zH hd0;clear hd3 hc3 hid_ hd0;go_upto_region 14 with fail
   refine wl ?_;refine zI2 (Hp.start _) _ (.int .i64 (k:Int)) ?_;refine zp (.slice (some ⟨g,k*8,none⟩) d3 c3) (by exact ev_drop rR Tryz.underlying27 kR rR rR (by first|rfl|omega) HD4.out HD0.out HC3.out (by have ob0:=HI.out;have ob1:=HKI.out;have ob2:=HD.out;have ob3:=HC2.out;have ob4:=HCN.out;have ob5:=HDL.out;have ob6:=HLT2.out;have ob7:=HD4.out;have ob8:=HC3.out;have ob9:=HD0.out;omega)) ?_;refine mv_clear (f:=R2E.cells) rR _ 27 rR H202.out (ix:=0) rR R2E.len HDL.out k c3 (by have h_:=HD4.out;have h2_:=HD0.out;omega) (by rw[show es.length-k=d3 by have h_:=HD4.out;omega];rfl) Tryz.underlying27 (.agg z8) Tryz.zeroValue37 rfl (by simp[Value.cells,Value.oneCell']) (by simp[Value.cells,NoUL]) dC ?_;intro w274 hh hd ho;have H275:=hN hh;have D275:=zH (hd);have K277:=zH (HFR.out.trans_new ho (fun j hj=> .inl hj));clear hh hd ho
   (try simp only[Act.put])
   go_upto_region 15 with fail
   refine wl ?_;refine zI2 (Hp.start _) _ (.int .i64 (k:Int)) ?_;refine zp (.slice (some ⟨g,0,none⟩) k cap) (by exact ev_head (size:=8) rR Tryz.underlying27 kR rR rR (by first|rfl|omega) (by have h_:=HD4.out;omega) HCN.out (by have h_:=HC3.out;have h2_:=HD4.out;have h3_:=HCN.out;have h4_:=HD0.out;omega)) ?_;refine zI1 (Hp.start _) _ ?_;have HRW:=zH (H275.out.row (i:=0) (by rfl));have hlen:(ds.take k).length=k:=by rw[List.length_take,HDL.out,HD4.out];omega
   rw[HTK.out]at hlen HRW;go_wp2_with fail
   go_ret
   exact⟨_,rfl,by rw[hlen];exact HRW.out,K277.out.grownBy,((((D169.out.trans D176.out).trans D189.out).trans D202.out).trans D275.out),rfl⟩
  go_upto_region 6 with fail
  refine zy ?_;have H282:=zH (H169.out.step (Ext.refl w167).drew);have D282:=zH (Dig.of_ext (w:=w167) zb);have K284:=zH (HFR.out.trans (Fr.of_ext (Ext.refl w167).drew));refine zJ3 (Hp.start _) zb (bs 11 7) 0 1 2 _ _ (.int .i64 ((j+1:Nat):Int)) ?_;refine zo 3 (bs 11 15) (v:= .pointer (some ⟨g,(j+1)*8,none⟩)) zb ?_ (hv:=by intro w hSw;exact ezi (k:=j+1) Tryz.underlying27 (l:=(by have h_:=HLT.out;omega)) (f:=(Nat.zero_add _).symm));refine zg 4 (bs 11 31) g ((j+1)*8) [.bool e.a.n,.slice e.a.p e.a.l e.a.c,.bool e.a.m,.slice e.a.p2 e.a.l2 e.a.c2,.bool e.b.n,.slice e.b.p e.b.l e.b.c,.bool e.b.m,.slice e.b.p2 e.b.l2 e.b.c2] (H169.out.elem (f:=R2E.cells) (i:=0) rR R2E.len HQe.out) Tryz.underlying37 zb ?_;refine zJ2 (Hp.start _) zb (bs 11 127) 5 6 _ (.int .i64 ((j+1:Nat):Int)) ?_;refine zu 7 (bs 11 255) (v:= .int .i64 (j:Int)) zb ?_ (hv:=by intro w hSw;exact ez2 (by have ob0:=HK.out;have ob1:=HLT.out;omega));refine zo 8 (bs 11 511) (v:= .pointer (some ⟨g,j*8,none⟩)) zb ?_ (hv:=by intro w hSw;exact ezi (k:=j) Tryz.underlying27 (l:=(by have h_:=HLT.out;omega)) (f:=(Nat.zero_add _).symm));refine zg 9 (bs 11 1023) g (j*8) [.bool f.a.n,.slice f.a.p f.a.l f.a.c,.bool f.a.m,.slice f.a.p2 f.a.l2 f.a.c2,.bool f.b.n,.slice f.b.p f.b.l f.b.c,.bool f.b.m,.slice f.b.p2 f.b.l2 f.b.c2] (H169.out.elem (f:=R2E.cells) (i:=0) rR R2E.len HQf.out) Tryz.underlying37 zb ?_;have DD294:=tD D169 D282;refine mC 10 (bs 11 2047) (intEq_any L hL _ e f ⟨(HAe.out.dig DD294.out),(HZe.out.dig DD294.out),BAe.out,BZe.out⟩ ⟨(HAf.out.dig DD294.out),(HZf.out.dig DD294.out),BAf.out,BZf.out⟩) ?_;rintro e w293 ⟨rfl,hx⟩;have H295:=zH (H282.out.step hx);have D295:=zH (show Dig w167.drew w293 from Dig.of_ext hx);have K297:=zH (K284.out.trans (Fr.of_ext hx));have S298:=zH (zb.trans hx);clear hx;refine⟨.bool false,by rw[decide_eq_false HEQ.out],S298.out,?_⟩;try simp only[Act.put,zA,zB,zC]
  refine wpAnyH_done kR ?_ _;go_upto_region 5 with fail
  refine wl ?_;refine zq (.int .i64 ((j+1:Nat):Int)) ?_;refine zp (.int .i64 ((j+2:Nat):Int)) (by exact ez1 (by have ob0:=HK.out;have ob1:=HLT.out;omega)) ?_;refine zq (.int .i64 ((j+2:Nat):Int)) ?_;have DD302:=tD DD294 D295;go_wp2_with fail
  go_roundg (es.length-(j+1))
  case measure=>exact(by have ob0:=HK.out;have ob1:=HLT.out;have ob3:=(show j<es.length from by have h_:=HLT.out;omega);omega)
  case rel=>exact⟨j+1,rfl,(by go_num),HLT.out,(by rw[HST.out,if_neg (by rw[decide_eq_false HEQ.out];decide),HCV.out,List.take_add_one (i:=j+1),HQe.out];rfl),K297.out,H295.out,DD302.out⟩
 go_upto_region 4 with fail
 refine wl ?_;refine zI3 (Hp.start _) (.int .i64 ((j+1:Nat):Int)) _ (.int .i64 ((es.length:Nat):Int)) ?_;refine zp (.bool false) (by exact ezl (e:=(dec_f (by have ob0:=HK.out;have ob1:=HLT.out;omega)))) ?_;go_upto_region 16 with fail
 refine wl ?_;refine zI2 (Hp.start _) _ _ ?_;have hcv:compactV (fun x y:R2E=>decide (x.vl=y.vl)) es=es:=by have h_:=HCV.out;rwa[show j+1=es.length by have h2_:=HLT.out;have h3_:=HK.out;omega,List.take_of_length_le (Nat.le_refl _)]at h_
 go_wp2_with fail
 go_ret
 exact⟨_,rfl,by rw[hcv];exact H169.out.row (i:=0) (by rfl),HFR.out.grownBy,D169.out,rfl⟩
end Go.Proofs.YtiokhlgdelipdabGreat
namespace Go.Proofs.YtiokhlgdelipdabGreat
open Go.RowKit
attribute [local go_sem ↓] Go.wp_at_zero Go.wp_at_succ run_max_ii run_min_ii
open Go.RowKit
theorem elRR:ElT Tryz.prog 27 37 8 128:=ElT.of (z:= .agg z8) Tryz.underlying27 (by kernel_rfl) rfl (by simp[NoUL,Value.cells]) (by decide)
theorem elInts:ElT Tryz.prog 28 38 1 24:=ElT.of (z:= .slice none 0 0) Tryz.underlying28 (by kernel_rfl) rfl (by simp[NoUL,Value.cells]) (by decide)
def crP (x y:EdE):List (Rat×Rat):=if adjB x y=true\/djB x y=true then[]else if segN x.a x.b y.a y.b=1 then[(segX x.a x.b y.a y.b,segY x.a x.b y.a y.b)]else[]
def crRow (es:List EdE)(k:Nat):List (Rat×Rat):=match es[k]?with|some y=>(es.take k).flatMap (fun x=>crP x y)|none=>[]
def crAll (es:List EdE):List (Rat×Rat):=(List.range es.length).flatMap (crRow es)
def onAt (es:List EdE)(p:Rat×Rat)(i:Nat):Bool:=match es[i]?with|some e=>decide (conC e p)|none=>false
def onV (es:List EdE)(p:Rat×Rat):List Nat:=(List.range es.length).filter (onAt es p)
theorem onV_succ {es:List EdE}{p:Rat×Rat}{i:Nat}{e:EdE}(h:es[i]?=some e):(List.range (i+1)).filter (onAt es p)=(List.range i).filter (onAt es p)++(if conC e p then[i]else[]):=by
  rw[List.range_succ,List.filter_append];congr 1;by_cases hc:conC e p
  · rw[if_pos hc];simp[onAt,h,hc]
  rw[if_neg hc];simp[onAt,h,hc]
theorem crTake_succ {es:List EdE}{i:Nat}{x y:EdE}(h:es[i]?=some x):(es.take (i+1)).flatMap (fun x=>crP x y)=(es.take i).flatMap (fun x=>crP x y)++crP x y:=by
  rw[List.take_add_one,h,List.flatMap_append];simp
theorem crRange_succ {es:List EdE}{k:Nat}{y:EdE}(h:es[k]?=some y):(List.range (k+1)).flatMap (crRow es)=(List.range k).flatMap (crRow es)++(es.take k).flatMap (fun x=>crP x y):=by
  rw[List.range_succ,List.flatMap_append];simp[crRow,h]
def iC (i:Nat):List Value:=[.int .i64 (i:Int)]
structure OnE where
  A:Option Addr
  c:Nat
  l:List Nat
def OnE.cells (o:OnE):List Value:=[.slice o.A o.l.length o.c]
def OnE.Ok (b:Nat)(w:World)(o:OnE):Prop:=RowN w b 3 1 (.slice o.A o.l.length o.c) o.l.length (o.l.flatMap iC)
theorem OnE.Ok.fr {b:Nat}{w0 W W':World}{m:List Ent}{ix n:Nat}{v:Value}{xs:List Value}{o:OnE}(h:o.Ok b W)(H:Hp w0 W m)(hi:m[ix]?=some (.row 38 1 v n xs))(x:Fr (fun k=>v.ownBlock=some k) W W'):o.Ok b W':=by
  obtain⟨h1,h2|⟨g,cap,rest,h3,h4,h5,h6⟩⟩:=h
  · exact⟨h1,.inl h2⟩
  refine⟨h1,.inr ⟨g,cap,rest,h3,h4,?_,h6⟩⟩;have h7:Blk W g 3 _:=h5;refine(x.block g h7.lt (fun hk=> ?_)).trans h7;have h8:=H.typ hi h7 (by exact hk);exact absurd (show(38:TypeId)=3 from h8) (by decide)
theorem OnE.Ok.ext {b:Nat}{W W':World}{o:OnE}(h:o.Ok b W)(x:Ext W W'):o.Ok b W':=RowN.ext h x
theorem RowN.low {w:World}{b b':Nat}{t:TypeId}{size:Nat}{v:Value}{n:Nat}{xs:List Value}(h:RowN w b t size v n xs)(hb:b'<=b):RowN w b' t size v n xs:=by
  obtain⟨h1,h2|⟨g,cap,rest,h3,h4,h5⟩⟩:=h
  · exact⟨h1,.inl h2⟩
  exact⟨h1,.inr ⟨g,cap,rest,h3,Nat.le_trans hb h4,h5⟩⟩
theorem cmp2_tr {a b c:Rat×Rat}(h1:¬cmp2 b a<0)(h2:cmp2 b c<0):cmp2 a c<0:=by
  rw[cmp2_lt]at h1 h2⊢;obtain⟨a1,a2⟩:=a;obtain⟨b1,b2⟩:=b;obtain⟨c1,c2⟩:=c;simp only at h1 h2⊢;grind
theorem cmp2_st {x y:Rat×Rat}(h1:¬cmp2 x y<0)(h2:x≠y):cmp2 y x<0:=by
  rw[cmp2_lt]at h1⊢;obtain⟨a1,a2⟩:=x;obtain⟨b1,b2⟩:=y;have h3:¬(a1=b1/\a2=b2):=fun h=>h2 (Prod.ext h.1 h.2)
  simp only at h1⊢;grind
def le2 (x y:R2E):Prop:=¬cmp2 y.vl x.vl<0
def lt2 (x y:R2E):Prop:=cmp2 x.vl y.vl<0
theorem sorted2 {es1:List R2E}(hs:es1.Pairwise le2):(compactV (fun x y:R2E=>decide (x.vl=y.vl)) es1).Pairwise lt2:=
  compactV_sorted (α:=R2E) (eqv:=fun x y:R2E=>decide (x.vl=y.vl)) (le:=le2) (lt:=lt2)
    (fun a b c h1 h2=>by unfold le2 at h1;unfold lt2 at h2⊢;exact cmp2_tr h1 h2)
    (fun x y h1 h2=>by unfold le2 at h1;unfold lt2;exact cmp2_st h1 (of_decide_eq_false h2))
    (fun x y h1 z h2=>by unfold lt2 at h2⊢;have h3:=of_decide_eq_true h1;rw[<-h3];exact h2) hs
theorem sort_cpt {es es1:List R2E}(hp:es1.Perm es)(hs:es1.Pairwise (fun x y=>¬cmp2 y.vl x.vl<0)):
  ((compactV (fun x y:R2E=>decide (x.vl=y.vl)) es1).map R2E.vl).Pairwise (fun x y=>cmp2 x y<0)/\(∀q,q∈(compactV (fun x y:R2E=>decide (x.vl=y.vl)) es1).map R2E.vl↔q∈es.map R2E.vl)/\(∀e,e∈compactV (fun x y:R2E=>decide (x.vl=y.vl)) es1->e∈es):=by
 have hst:=sorted2 hs;refine⟨by rw[List.pairwise_map];exact hst,fun q=>⟨fun hx=> ?_,fun hx=> ?_⟩,fun e he=>hp.mem_iff.1 (compactV_sub _ he)⟩
 ·obtain⟨e,he,rfl⟩:=List.mem_map.1 hx
  exact List.mem_map_of_mem (hp.mem_iff.1 (compactV_sub _ he))
 obtain⟨e,he,rfl⟩:=List.mem_map.1 hx;obtain⟨f,hf,h2⟩:=compactV_mem (eqv:=(fun x y:R2E=>decide (x.vl=y.vl))) (key:=R2E.vl) (fun x y h=>of_decide_eq_true h) (hp.mem_iff.2 he);exact List.mem_map.2 ⟨f,hf,h2⟩
def IsxRet (rs:List Ring)(w:World)(e:Ending)(w':World):Prop:=
  ∃ (v1 v2:Value) (ps:List R2E) (os:List OnE),e= .returned (.tuple #[v1,v2])/\RowN w' w.heap.size 37 8 v1 ps.length (ps.flatMap R2E.cells)/\(ps.map R2E.vl).Pairwise (fun x y=>cmp2 x y<0)/\(∀q,q∈ps.map R2E.vl↔q∈crAll (edsV rs))/\(∀e,e∈ps->e.Ok 24 w')/\
    RowN w' w.heap.size 38 1 v2 os.length (os.flatMap OnE.cells)/\os.map OnE.l=ps.map (fun e=>onV (edsV rs) e.vl)/\(∀o,o∈os->o.Ok w.heap.size w')/\Ext w w'
theorem take_map_succ {α β:Type}{l:List α}{k:Nat}{x:α}{f:α->β}(h:l[k]?=some x):(l.take (k+1)).map f=(l.take k).map f++[f x]:=by
  rw[List.take_add_one,h];simp
theorem intersections_any (A:Option Addr)(cu:Nat)(rs:List Ring)(w:World)(hu:RingsV w (.slice A rs.length cu) rs)(hc:rs.length<=cu)(hn:rs.length<=1048576)(hr:∀r,r∈rs->r.length<=1048576):
  Calls Tryz.prog 9 #[.slice A rs.length cu] w (IsxRet rs w):=by
 have HU:=zH hu;have HN:=zH hn;have HR:=zH hr;have HC:=zH hc;have hel:=edsV_len rs;clear hu hr hc hn;go_enter Tryz.func9,Tryz.ntmps9
 have H0:=zH (Hp.start w);go_upto_region 0 with fail
 refine wl ?_;refine zI2 (Hp.start _) _ _ ?_;go_upto_region 1 with fail
 refine wl ?_;refine zI1 (Hp.start _) _ ?_;refine zc (iedges_any A cu rs _ (HU.out.ext H0.out.ext) HC.out HN.out HR.out) ?_;rintro e w4 ⟨v_,rfl,hrow_,hx⟩;obtain⟨Ae,ce,rfl,hfe_⟩:=hrow_.form;have HFE:=zH hfe_;clear hfe_;have H5:=zH (show Hp w w4 [ro 65 7 Ae ((edsV rs).length) ce EdE.cells (edsV rs)]from H0.out.addRow hx hrow_);clear hrow_ hx;refine zn ?_;refine zI1 (Hp.start _) _ ?_;go_upto_region 2 with fail
 refine wl ?_;refine zI1 (Hp.start _) _ ?_;have H9:=zH (show Hp w w4 [ro 65 7 Ae ((edsV rs).length) ce EdE.cells (edsV rs),ro 37 8 none 0 0 R2E.cells ([])]from H5.out.addNil 37 8);go_upto_region 3 with fail
 refine wl ?_;refine zI3 (Hp.start _) _ (.int .i64 (((edsV rs).length:Nat):Int)) _ ?_;go_wp2_with fail
 go_loopg [5,21] ((edsV rs).length) (fun cq v13 v14 wr=>∃(k:Nat) (A1:Option Addr) (m:Nat) (c1:Nat) (es:List R2E),cq=((edsV rs).length)-k/\v13= .slice A1 m c1/\v14= .int .i64 (k:Int)/\(k<=(edsV rs).length)/\(m=es.length/\m<=4096*k)/\(es.map R2E.vl=(List.range k).flatMap (crRow (edsV rs)))/\(∀e,e∈es->e.Ok 24 wr)/\Hp w wr [.row 65 7 (.slice Ae ((edsV rs).length) ce) ((edsV rs).length) (List.flatMap EdE.cells (edsV rs)),.row 37 8 (.slice A1 m c1) (m) (List.flatMap R2E.cells es)]/\Dig w4 wr)
 case atStart=>exact⟨0,none,0,0,[],rfl,rfl,rfl,Nat.zero_le _,⟨rfl,Nat.zero_le _⟩,rfl,(fun e_ he_=>by cases he_),H9.out,Dig.refl _⟩
 obtain⟨k,A1,m,c1,es,rfl,rfl,rfl,q_HKN,q_HM,q_HES,q_HOE,hh_,hd_⟩:=hrel;generalize wr=w15 at*
 have HKN:=zH q_HKN;clear q_HKN;have HM:=zH q_HM;clear q_HM;have HES:=zH q_HES;clear q_HES;have HOE:=zH q_HOE;clear q_HOE;have H17:=zH hh_;have D17:=zH hd_;clear hh_ hd_ H9;rcases emH (k<(edsV rs).length)with HLT|HLT
 ·have hlt:=HLT.out
  go_upto_region 4 with fail
  refine wl ?_;refine zp (.bool true) (by exact ezl (e:=(dec_t (by have ob0:=HM.out;omega)))) ?_;go_upto_region 5 with fail
  refine wl ?_;refine zI2 (Hp.start _) (.int .i64 (k:Int)) (.int .i64 (k:Int)) ?_;go_upto_region 6 with fail
  refine wl ?_;refine zI2 (Hp.start _) (.int .i64 (k:Int)) _ ?_;go_wp2_with fail
  go_loopg [5,25] (k) (fun cq v24 v25 wr=>∃(i:Nat) (A2:Option Addr) (m2:Nat) (c2:Nat) (es2:List R2E),cq=k-i/\v24= .slice A2 m2 c2/\v25= .int .i64 (i:Int)/\(i<=k)/\(m2=es2.length/\m2<=4096*k+i)/\(∀ey:EdE,(edsV rs)[k]?=some ey->es2.map R2E.vl=(List.range k).flatMap (crRow (edsV rs))++((edsV rs).take i).flatMap (fun x=>crP x ey))/\(∀e,e∈es2->e.Ok 24 wr)/\Hp w wr [.row 65 7 (.slice Ae ((edsV rs).length) ce) ((edsV rs).length) (List.flatMap EdE.cells (edsV rs)),.row 37 8 (.slice A2 m2 c2) (m2) (List.flatMap R2E.cells es2)]/\Dig w15 wr)
  case atStart=>exact⟨0,A1,m,c1,es,rfl,rfl,rfl,Nat.zero_le _,⟨HM.out.1,HM.out.2⟩,(fun _ _=>by rw[HES.out];simp),(fun g_ hg_=>(HOE.out g_ hg_)),H17.out,Dig.refl _⟩
  obtain⟨i,A2,m2,c2,es2,rfl,rfl,rfl,q_HKI,q_HM2,q_HES2,q_HOE2,hh_,hd_⟩:=hrel;generalize wr=w26 at*
  have HKI:=zH q_HKI;clear q_HKI;have HM2:=zH q_HM2;clear q_HM2;have HES2:=zH q_HES2;clear q_HES2;have HOE2:=zH q_HOE2;clear q_HOE2;have H28:=zH hh_;have D28:=zH hd_;clear hh_ hd_ H17;rcases emH (i<k)with HIK|HIK
  ·have HIK2:=HIK
   have hik:=HIK2.out;obtain⟨ge,rfl⟩:=HFE.out (by omega);obtain⟨ex,hex_⟩:∃x,(edsV rs)[i]?=some x:=⟨_,List.getElem?_eq_getElem (by omega)⟩;obtain⟨ey,hey_⟩:∃x,(edsV rs)[k]?=some x:=⟨_,List.getElem?_eq_getElem (by omega)⟩;have HEX:=zH hex_;have HEY:=zH hey_;have HBX:=zH (edsV_bd HN.out ex (List.mem_of_getElem? hex_));have HBY:=zH (edsV_bd HN.out ey (List.mem_of_getElem? hey_));clear hex_ hey_;go_upto_region 7 with fail
   refine wl ?_;refine zp (.bool true) (by exact ezl (e:=(dec_t (by have ob0:=HM.out;have ob1:=HM2.out;omega)))) ?_;go_upto_region 8 with fail
   refine wl ?_;refine zI2 (Hp.start _) (.int .i64 (i:Int)) (.int .i64 (i:Int)) ?_;rcases emH (adjB ex ey=true)with HAD|HAD
   ·go_upto_region 9 with fail
    refine zy ?_;have H34:=zH (H28.out.step (Ext.refl w26).drew);have D34:=zH (Dig.of_ext (w:=w26) zb);refine zJ2 (Hp.start _) zb (bs 20 3) 0 1 _ (.int .i64 (i:Int)) ?_;refine zo 2 (bs 20 7) (v:= .pointer (some ⟨ge,i*7,none⟩)) zb ?_ (hv:=by intro w hSw;exact ezi (k:=i) Tryz.underlying61 (l:=(show i<(edsV rs).length by omega)) (f:=(Nat.zero_add _).symm));refine zg 3 (bs 20 15) ge (i*7) [.int .i64 ex.a.1,.int .i64 ex.a.2,.int .i64 ex.b.1,.int .i64 ex.b.2,.int .i64 ((ex.r:Nat):Int),.int .i64 ((ex.i:Nat):Int),.int .i64 ((ex.n:Nat):Int)] (H28.out.elem (f:=EdE.cells) (i:=0) rR EdE.len HEX.out) Tryz.underlying65 zb ?_;refine zJ2 (Hp.start _) zb (bs 20 63) 4 5 _ (.int .i64 (k:Int)) ?_;refine zo 6 (bs 20 127) (v:= .pointer (some ⟨ge,k*7,none⟩)) zb ?_ (hv:=by intro w hSw;exact ezi (k:=k) Tryz.underlying61 (l:=(show k<(edsV rs).length by omega)) (f:=(Nat.zero_add _).symm));refine zg 7 (bs 20 255) ge (k*7) [.int .i64 ey.a.1,.int .i64 ey.a.2,.int .i64 ey.b.1,.int .i64 ey.b.2,.int .i64 ((ey.r:Nat):Int),.int .i64 ((ey.i:Nat):Int),.int .i64 ((ey.n:Nat):Int)] (H28.out.elem (f:=EdE.cells) (i:=0) rR EdE.len HEY.out) Tryz.underlying65 zb ?_;refine mC 8 (bs 20 511) (adjacent_any ex ey _ HBX.out HBY.out) ?_;rintro e w42 ⟨rfl,hx⟩;have H43:=zH (H34.out.step hx);have D43:=zH (show Dig w26.drew w42 from Dig.of_ext hx);have S45:=zH (zb.trans hx);clear hx;refine⟨.bool true,by rw[HAD.out],S45.out,?_⟩;try simp only[Act.put,zA,zB,zC]
    refine zJ8 (Hp.start _) S45.out (bs 20 131071) 9 10 11 12 13 14 15 16 (.bool true) _ _ _ _ _ _ _ ?_;refine zJ3 (Hp.start _) S45.out (bs 20 1048575) 17 18 19 _ _ (.bool true) ?_;refine wpAnyH_done kR ?_ _;go_upto_region 13 with fail
    refine wl ?_;refine zp (.int .i64 ((i+1:Nat):Int)) (by exact ez1 (by have ob0:=HM.out;have ob1:=HM2.out;omega)) ?_;refine zq (.int .i64 ((i+1:Nat):Int)) ?_;have DD50:=tD D34 D43;have DD51:=tD (tD D28 D34) D43;go_wp2_with fail
    go_roundg (k-(i+1))
    case measure=>exact(by have ob0:=HM.out;have ob1:=HM2.out;omega)
    case rel=>exact⟨i+1,A2,m2,c2,es2,rfl,rfl,(by go_num),hik,⟨HM2.out.1,by have h_:=HM2.out.2;omega⟩,(fun ey_ hey2_=>by obtain rfl:ey=ey_:=Option.some.inj (HEY.out.symm.trans hey2_);rw[HES2.out _ hey2_,crTake_succ HEX.out,show crP ex ey=[]from if_pos (.inl HAD.out),List.append_nil]),(fun g_ hg_=>(HOE2.out g_ hg_).dig DD50.out),H43.out,DD51.out⟩
   have HADF:=zH (Bool.eq_false_iff.2 HAD.out);rcases emH (djB ex ey=true)with HDJ|HDJ
   ·go_upto_region 9 with fail
    refine zy ?_;have H53:=zH (H28.out.step (Ext.refl w26).drew);have D53:=zH (Dig.of_ext (w:=w26) zb);refine zJ2 (Hp.start _) zb (bs 20 3) 0 1 _ (.int .i64 (i:Int)) ?_;refine zo 2 (bs 20 7) (v:= .pointer (some ⟨ge,i*7,none⟩)) zb ?_ (hv:=by intro w hSw;exact ezi (k:=i) Tryz.underlying61 (l:=(show i<(edsV rs).length by omega)) (f:=(Nat.zero_add _).symm));refine zg 3 (bs 20 15) ge (i*7) [.int .i64 ex.a.1,.int .i64 ex.a.2,.int .i64 ex.b.1,.int .i64 ex.b.2,.int .i64 ((ex.r:Nat):Int),.int .i64 ((ex.i:Nat):Int),.int .i64 ((ex.n:Nat):Int)] (H28.out.elem (f:=EdE.cells) (i:=0) rR EdE.len HEX.out) Tryz.underlying65 zb ?_;refine zJ2 (Hp.start _) zb (bs 20 63) 4 5 _ (.int .i64 (k:Int)) ?_;refine zo 6 (bs 20 127) (v:= .pointer (some ⟨ge,k*7,none⟩)) zb ?_ (hv:=by intro w hSw;exact ezi (k:=k) Tryz.underlying61 (l:=(show k<(edsV rs).length by omega)) (f:=(Nat.zero_add _).symm));refine zg 7 (bs 20 255) ge (k*7) [.int .i64 ey.a.1,.int .i64 ey.a.2,.int .i64 ey.b.1,.int .i64 ey.b.2,.int .i64 ((ey.r:Nat):Int),.int .i64 ((ey.i:Nat):Int),.int .i64 ((ey.n:Nat):Int)] (H28.out.elem (f:=EdE.cells) (i:=0) rR EdE.len HEY.out) Tryz.underlying65 zb ?_;refine mC 8 (bs 20 511) (adjacent_any ex ey _ HBX.out HBY.out) ?_;rintro e w61 ⟨rfl,hx⟩;have H62:=zH (H53.out.step hx);have D62:=zH (show Dig w26.drew w61 from Dig.of_ext hx);have S64:=zH (zb.trans hx);clear hx;refine⟨.bool false,by rw[HADF.out],S64.out,?_⟩;try simp only[Act.put,zA,zB,zC]
    refine zJ3 (Hp.start _) S64.out (bs 20 4095) 9 10 11 (.bool false) _ (.int .i64 (i:Int)) ?_;refine zo 12 (bs 20 8191) (v:= .pointer (some ⟨ge,i*7,none⟩)) S64.out ?_ (hv:=by intro w hSw;exact ezi (k:=i) Tryz.underlying61 (l:=(show i<(edsV rs).length by omega)) (f:=(Nat.zero_add _).symm));refine zg 13 (bs 20 16383) ge (i*7) [.int .i64 ex.a.1,.int .i64 ex.a.2,.int .i64 ex.b.1,.int .i64 ex.b.2,.int .i64 ((ex.r:Nat):Int),.int .i64 ((ex.i:Nat):Int),.int .i64 ((ex.n:Nat):Int)] (H28.out.elem (f:=EdE.cells) (i:=0) rR EdE.len HEX.out) Tryz.underlying65 S64.out ?_;refine zJ2 (Hp.start _) S64.out (bs 20 65535) 14 15 _ (.int .i64 (k:Int)) ?_;refine zo 16 (bs 20 131071) (v:= .pointer (some ⟨ge,k*7,none⟩)) S64.out ?_ (hv:=by intro w hSw;exact ezi (k:=k) Tryz.underlying61 (l:=(show k<(edsV rs).length by omega)) (f:=(Nat.zero_add _).symm));refine zg 17 (bs 20 262143) ge (k*7) [.int .i64 ey.a.1,.int .i64 ey.a.2,.int .i64 ey.b.1,.int .i64 ey.b.2,.int .i64 ((ey.r:Nat):Int),.int .i64 ((ey.i:Nat):Int),.int .i64 ((ey.n:Nat):Int)] (H28.out.elem (f:=EdE.cells) (i:=0) rR EdE.len HEY.out) Tryz.underlying65 S64.out ?_;refine mC 18 (bs 20 524287) (disjoint_any ex ey _) ?_;rintro e w72 ⟨rfl,hx⟩;have H73:=zH (H62.out.step hx);have D73:=zH (Dig.of_ext hx);have S75:=zH (S64.out.trans hx);clear hx;refine⟨.bool true,by rw[HDJ.out],S75.out,?_⟩;try simp only[Act.put,zA,zB,zC]
    refine zx 19 (bs 20 1048575) (.bool true) S75.out ?_;refine wpAnyH_done kR ?_ _;go_upto_region 13 with fail
    refine wl ?_;refine zp (.int .i64 ((i+1:Nat):Int)) (by exact ez1 (by have ob0:=HM.out;have ob1:=HM2.out;omega)) ?_;refine zq (.int .i64 ((i+1:Nat):Int)) ?_;have DD79:=tD (tD D53 D62) D73;have DD80:=tD (tD (tD D28 D53) D62) D73;go_wp2_with fail
    go_roundg (k-(i+1))
    case measure=>exact(by have ob0:=HM.out;have ob1:=HM2.out;omega)
    case rel=>exact⟨i+1,A2,m2,c2,es2,rfl,rfl,(by go_num),hik,⟨HM2.out.1,by have h_:=HM2.out.2;omega⟩,(fun ey_ hey2_=>by obtain rfl:ey=ey_:=Option.some.inj (HEY.out.symm.trans hey2_);rw[HES2.out _ hey2_,crTake_succ HEX.out,show crP ex ey=[]from if_pos (.inr HDJ.out),List.append_nil]),(fun g_ hg_=>(HOE2.out g_ hg_).dig DD79.out),H73.out,DD80.out⟩
   have HDJF:=zH (Bool.eq_false_iff.2 HDJ.out);have HNO:=zH (show¬(adjB ex ey=true\/djB ex ey=true)from fun h_=>h_.elim HAD.out HDJ.out);go_upto_region 9 with fail
   refine zy ?_;have H81:=zH (H28.out.step (Ext.refl w26).drew);have D81:=zH (Dig.of_ext (w:=w26) zb);refine zJ2 (Hp.start _) zb (bs 20 3) 0 1 _ (.int .i64 (i:Int)) ?_;refine zo 2 (bs 20 7) (v:= .pointer (some ⟨ge,i*7,none⟩)) zb ?_ (hv:=by intro w hSw;exact ezi (k:=i) Tryz.underlying61 (l:=(show i<(edsV rs).length by omega)) (f:=(Nat.zero_add _).symm));refine zg 3 (bs 20 15) ge (i*7) [.int .i64 ex.a.1,.int .i64 ex.a.2,.int .i64 ex.b.1,.int .i64 ex.b.2,.int .i64 ((ex.r:Nat):Int),.int .i64 ((ex.i:Nat):Int),.int .i64 ((ex.n:Nat):Int)] (H28.out.elem (f:=EdE.cells) (i:=0) rR EdE.len HEX.out) Tryz.underlying65 zb ?_;refine zJ2 (Hp.start _) zb (bs 20 63) 4 5 _ (.int .i64 (k:Int)) ?_;refine zo 6 (bs 20 127) (v:= .pointer (some ⟨ge,k*7,none⟩)) zb ?_ (hv:=by intro w hSw;exact ezi (k:=k) Tryz.underlying61 (l:=(show k<(edsV rs).length by omega)) (f:=(Nat.zero_add _).symm));refine zg 7 (bs 20 255) ge (k*7) [.int .i64 ey.a.1,.int .i64 ey.a.2,.int .i64 ey.b.1,.int .i64 ey.b.2,.int .i64 ((ey.r:Nat):Int),.int .i64 ((ey.i:Nat):Int),.int .i64 ((ey.n:Nat):Int)] (H28.out.elem (f:=EdE.cells) (i:=0) rR EdE.len HEY.out) Tryz.underlying65 zb ?_;refine mC 8 (bs 20 511) (adjacent_any ex ey _ HBX.out HBY.out) ?_;rintro e w89 ⟨rfl,hx⟩;have H90:=zH (H81.out.step hx);have D90:=zH (show Dig w26.drew w89 from Dig.of_ext hx);have S92:=zH (zb.trans hx);clear hx;refine⟨.bool false,by rw[HADF.out],S92.out,?_⟩;try simp only[Act.put,zA,zB,zC]
   refine zJ3 (Hp.start _) S92.out (bs 20 4095) 9 10 11 (.bool false) _ (.int .i64 (i:Int)) ?_;refine zo 12 (bs 20 8191) (v:= .pointer (some ⟨ge,i*7,none⟩)) S92.out ?_ (hv:=by intro w hSw;exact ezi (k:=i) Tryz.underlying61 (l:=(show i<(edsV rs).length by omega)) (f:=(Nat.zero_add _).symm));refine zg 13 (bs 20 16383) ge (i*7) [.int .i64 ex.a.1,.int .i64 ex.a.2,.int .i64 ex.b.1,.int .i64 ex.b.2,.int .i64 ((ex.r:Nat):Int),.int .i64 ((ex.i:Nat):Int),.int .i64 ((ex.n:Nat):Int)] (H28.out.elem (f:=EdE.cells) (i:=0) rR EdE.len HEX.out) Tryz.underlying65 S92.out ?_;refine zJ2 (Hp.start _) S92.out (bs 20 65535) 14 15 _ (.int .i64 (k:Int)) ?_;refine zo 16 (bs 20 131071) (v:= .pointer (some ⟨ge,k*7,none⟩)) S92.out ?_ (hv:=by intro w hSw;exact ezi (k:=k) Tryz.underlying61 (l:=(show k<(edsV rs).length by omega)) (f:=(Nat.zero_add _).symm));refine zg 17 (bs 20 262143) ge (k*7) [.int .i64 ey.a.1,.int .i64 ey.a.2,.int .i64 ey.b.1,.int .i64 ey.b.2,.int .i64 ((ey.r:Nat):Int),.int .i64 ((ey.i:Nat):Int),.int .i64 ((ey.n:Nat):Int)] (H28.out.elem (f:=EdE.cells) (i:=0) rR EdE.len HEY.out) Tryz.underlying65 S92.out ?_;refine mC 18 (bs 20 524287) (disjoint_any ex ey _) ?_;rintro e w100 ⟨rfl,hx⟩;have H101:=zH (H90.out.step hx);have D101:=zH (Dig.of_ext hx);have S103:=zH (S92.out.trans hx);clear hx;refine⟨.bool false,by rw[HDJF.out],S103.out,?_⟩;try simp only[Act.put,zA,zB,zC]
   refine zx 19 (bs 20 1048575) (.bool false) S103.out ?_;refine wpAnyH_done kR ?_ _;rcases emH (segN ex.a ex.b ey.a ey.b=1)with HSG|HSG
   ·go_upto_region 10 with fail
    refine zy ?_;have H106:=zH (H101.out.step (Ext.refl w100).drew);have D106:=zH (Dig.of_ext (w:=w100) zb);refine zJ2 (Hp.start _) zb (bs 30 3) 0 1 _ (.int .i64 (i:Int)) ?_;refine zu 2 (bs 30 7) (v:= .pointer (some ⟨ge,i*7,none⟩)) zb ?_ (hv:=by intro w hSw;exact ezi (k:=i) Tryz.underlying61 (l:=(show i<(edsV rs).length by omega)) (f:=(Nat.zero_add _).symm));refine zJ1 (Hp.start _) zb (bs 30 15) 3 _ ?_;refine zg 4 (bs 30 31) ge (i*7) [.int .i64 ex.a.1,.int .i64 ex.a.2] (range_part (H101.out.elem (f:=EdE.cells) (i:=0) rR EdE.len HEX.out) 0 2) Tryz.underlying41 zb ?_;refine zJ2 (Hp.start _) zb (bs 30 127) 5 6 _ (.int .i64 (i:Int)) ?_;refine zu 7 (bs 30 255) (v:= .pointer (some ⟨ge,i*7,none⟩)) zb ?_ (hv:=by intro w hSw;exact ezi (k:=i) Tryz.underlying61 (l:=(show i<(edsV rs).length by omega)) (f:=(Nat.zero_add _).symm));refine mX 8 (bs 30 511) (.pointer (some ⟨ge,i*7+2,none⟩)) zb ?_;refine zg 9 (bs 30 1023) ge (i*7+2) [.int .i64 ex.b.1,.int .i64 ex.b.2] (range_part (H101.out.elem (f:=EdE.cells) (i:=0) rR EdE.len HEX.out) 2 2) Tryz.underlying41 zb ?_;refine zJ2 (Hp.start _) zb (bs 30 4095) 10 11 _ (.int .i64 (k:Int)) ?_;refine zu 12 (bs 30 8191) (v:= .pointer (some ⟨ge,k*7,none⟩)) zb ?_ (hv:=by intro w hSw;exact ezi (k:=k) Tryz.underlying61 (l:=(show k<(edsV rs).length by omega)) (f:=(Nat.zero_add _).symm));refine zJ1 (Hp.start _) zb (bs 30 16383) 13 _ ?_;refine zg 14 (bs 30 32767) ge (k*7) [.int .i64 ey.a.1,.int .i64 ey.a.2] (range_part (H101.out.elem (f:=EdE.cells) (i:=0) rR EdE.len HEY.out) 0 2) Tryz.underlying41 zb ?_;refine zJ2 (Hp.start _) zb (bs 30 131071) 15 16 _ (.int .i64 (k:Int)) ?_;refine zu 17 (bs 30 262143) (v:= .pointer (some ⟨ge,k*7,none⟩)) zb ?_ (hv:=by intro w hSw;exact ezi (k:=k) Tryz.underlying61 (l:=(show k<(edsV rs).length by omega)) (f:=(Nat.zero_add _).symm));refine mX 18 (bs 30 524287) (.pointer (some ⟨ge,k*7+2,none⟩)) zb ?_;refine zg 19 (bs 30 1048575) ge (k*7+2) [.int .i64 ey.b.1,.int .i64 ey.b.2] (range_part (H101.out.elem (f:=EdE.cells) (i:=0) rR EdE.len HEY.out) 2 2) Tryz.underlying41 zb ?_;refine FN.go2 (j1:=⟨25,some 8,36,[.bool false,.slice none 0 0,.bool false,.slice none 0 0]⟩) (j2:=⟨26,some 9,36,[.bool false,.slice none 0 0,.bool false,.slice none 0 0]⟩) (b:=w100) ?_ zb;refine gN 20 (bs 30 2097151) (fk (fk trivial)) zb.size (fun xq hxq=>((segments_any ex.a ex.b ey.a ey.b _ HBX.out.1 HBX.out.2.1 HBY.out.1 HBY.out.2.1).mono (fun _ _ h_=>SegRet.yes h_ HSG.out))) (by rintro x_ e x2_ ⟨r125,s125,rfl,hr_,hs_,hx⟩;exact hx) ?_;rintro xq e w124 hxq ⟨r125,s125,rfl,hr_,hs_,hx⟩;replace hx:=hxq.trans hx;clear hxq;have H126:=zH (H106.out.step hx);have D126:=zH (show Dig w100.drew w124 from Dig.of_ext hx);have S128:=zH (zb.trans hx);have R125:=zH hr_;have S125:=zH hs_;have B125:=zH (rl_segXY HBX.out.1 HBX.out.2.1 HBY.out.1 HBY.out.2.1).1;have C125:=zH (rl_segXY HBX.out.1 HBX.out.2.1 HBY.out.1 HBY.out.2.1).2;clear hr_ hs_ hx;refine⟨_,rfl,?_⟩;try simp only[Act.put,zA,zB,zC]
    refine gT 21 (bs 30 4194303) _ ?_;refine gT 22 (bs 30 8388607) _ ?_;refine gT 23 (bs 30 16777215) _ ?_;refine gT 24 (bs 30 33554431) (.int .i64 1) ?_;refine gE2 (bs 30 134217727) (fk (fk trivial)) S128.out.size H101.out H126.out ?_;intro X133 X134 w135 hx hh hg0 hg1 hs;have H136:=hN hh;have D136:=zH (Dig.of_ext hx);have S138:=zH (show Ext w100 w135 from hs);have G139:=zH (show w100.heap.size<=X133 from hg0);have G140:=zH (show w100.heap.size<=X134 from hg1);clear hh hx hs hg0 hg1;try simp only[Act.put,zA,zB,zC]
    refine bS 2 27 (bs 30 268435455) (rc r125) H136.out S138.out G139.out ?_;intro w141 H142 D142 S144;refine bS 3 28 (bs 30 536870911) (rc s125) H142.out S144.out G140.out ?_;intro w145 H146 D146 S148;refine zx 29 (bs 30 1073741823) (.int .i64 1) S148.out ?_;refine wpAnyH_done kR ?_ _;go_upto_region 11 with fail
    refine wl ?_;refine zq (.int .i64 1) ?_;refine zp (.bool true) (by exact ezq (e:=(dec_t rfl))) ?_;go_upto_region 12 with fail
    refine wl ?_;refine zI4 H146.out _ _ _ _ ?_;refine zp (w':=(w145.alloc (.cells ([.bool r125.n,.slice r125.p r125.l r125.c,.bool r125.m,.slice r125.p2 r125.l2 r125.c2,.bool s125.n,.slice s125.p s125.l s125.c,.bool s125.m,.slice s125.p2 s125.l2 s125.c2]:List Value).toArray 37))) (.slice (some ⟨w145.heap.size,0,none⟩) 1 1) (by go_simp) ?_;refine mv_app rR _ _ _ rR elRR rR H146.out (ix:=1) rR 1 1 [.bool r125.n,.slice r125.p r125.l r125.c,.bool r125.m,.slice r125.p2 r125.l2 r125.c2,.bool s125.n,.slice s125.p s125.l s125.c,.bool s125.m,.slice s125.p2 s125.l2 s125.c2] rR rfl (by simp[Value.oneCell']) (by simp[NoUL]) dC (by unfold maxLen;exact(by have ob0:=HM.out;have ob1:=HM2.out;omega)) (by have ob0:=HM.out;have ob1:=HM2.out;omega) ?_;intro g155 cp156 w154 hf hh hd hg;have Fg155:=zH hf;clear hf;rw[show List.flatMap R2E.cells es2++[.bool r125.n,.slice r125.p r125.l r125.c,.bool r125.m,.slice r125.p2 r125.l2 r125.c2,.bool s125.n,.slice s125.p s125.l s125.c,.bool s125.m,.slice s125.p2 s125.l2 s125.c2]=_ from flat_snoc R2E.cells _ (⟨r125,s125,(segX ex.a ex.b ey.a ey.b),(segY ex.a ex.b ey.a ey.b)⟩:R2E)]at hh;have H157:=hN hh;have D157:=zH (hd);clear hh hd hg;try simp only[Act.put,zA,zB,zC]
    refine zq (.slice (some ⟨g155,0,none⟩) (m2+1) cp156) ?_;have DD160:=tD (tD (tD (tD (tD (tD (tD (tD D81 D90) D101) D106) D126) D136) D142) D146) D157;have DD161:=tD (tD (tD D136 D142) D146) D157;go_upto_region 13 with fail
    refine wl ?_;refine zp (.int .i64 ((i+1:Nat):Int)) (by exact ez1 (by have ob0:=HM.out;have ob1:=HM2.out;omega)) ?_;refine zq (.int .i64 ((i+1:Nat):Int)) ?_;have DD164:=tD (tD (tD (tD (tD (tD (tD (tD (tD D28 D81) D90) D101) D106) D126) D136) D142) D146) D157;go_wp2_with fail
    go_roundg (k-(i+1))
    case measure=>exact(by have ob0:=HM.out;have ob1:=HM2.out;omega)
    case rel=>exact⟨i+1,some ⟨g155,0,none⟩,(m2+1),cp156,es2++[(⟨r125,s125,(segX ex.a ex.b ey.a ey.b),(segY ex.a ex.b ey.a ey.b)⟩:R2E)],rfl,rfl,(by go_num),hik,⟨by rw[HM2.out.1];simp,by have h_:=HM2.out.2;omega⟩,(fun ey_ hey2_=>by obtain rfl:ey=ey_:=Option.some.inj (HEY.out.symm.trans hey2_);rw[List.map_append,HES2.out _ hey2_,crTake_succ HEX.out,show crP ex ey=[(segX ex.a ex.b ey.a ey.b,segY ex.a ex.b ey.a ey.b)]from(if_neg HNO.out).trans (if_pos HSG.out),List.append_assoc];rfl),(fun g_ hg_=>(List.mem_append.1 hg_).elim (fun h_=>(HOE2.out g_ h_).dig DD160.out) (fun h_=>by rw[List.mem_singleton.1 h_];exact⟨(R125.out.dig DD161.out),(S125.out.dig DD161.out),Nat.le_trans B125.out (by decide),Nat.le_trans C125.out (by decide)⟩)),H157.out.take 2,DD164.out⟩
   go_upto_region 10 with fail
   refine zy ?_;have H165:=zH (H101.out.step (Ext.refl w100).drew);have D165:=zH (Dig.of_ext (w:=w100) zb);refine zJ2 (Hp.start _) zb (bs 30 3) 0 1 _ (.int .i64 (i:Int)) ?_;refine zu 2 (bs 30 7) (v:= .pointer (some ⟨ge,i*7,none⟩)) zb ?_ (hv:=by intro w hSw;exact ezi (k:=i) Tryz.underlying61 (l:=(show i<(edsV rs).length by omega)) (f:=(Nat.zero_add _).symm));refine zJ1 (Hp.start _) zb (bs 30 15) 3 _ ?_;refine zg 4 (bs 30 31) ge (i*7) [.int .i64 ex.a.1,.int .i64 ex.a.2] (range_part (H101.out.elem (f:=EdE.cells) (i:=0) rR EdE.len HEX.out) 0 2) Tryz.underlying41 zb ?_;refine zJ2 (Hp.start _) zb (bs 30 127) 5 6 _ (.int .i64 (i:Int)) ?_;refine zu 7 (bs 30 255) (v:= .pointer (some ⟨ge,i*7,none⟩)) zb ?_ (hv:=by intro w hSw;exact ezi (k:=i) Tryz.underlying61 (l:=(show i<(edsV rs).length by omega)) (f:=(Nat.zero_add _).symm));refine mX 8 (bs 30 511) (.pointer (some ⟨ge,i*7+2,none⟩)) zb ?_;refine zg 9 (bs 30 1023) ge (i*7+2) [.int .i64 ex.b.1,.int .i64 ex.b.2] (range_part (H101.out.elem (f:=EdE.cells) (i:=0) rR EdE.len HEX.out) 2 2) Tryz.underlying41 zb ?_;refine zJ2 (Hp.start _) zb (bs 30 4095) 10 11 _ (.int .i64 (k:Int)) ?_;refine zu 12 (bs 30 8191) (v:= .pointer (some ⟨ge,k*7,none⟩)) zb ?_ (hv:=by intro w hSw;exact ezi (k:=k) Tryz.underlying61 (l:=(show k<(edsV rs).length by omega)) (f:=(Nat.zero_add _).symm));refine zJ1 (Hp.start _) zb (bs 30 16383) 13 _ ?_;refine zg 14 (bs 30 32767) ge (k*7) [.int .i64 ey.a.1,.int .i64 ey.a.2] (range_part (H101.out.elem (f:=EdE.cells) (i:=0) rR EdE.len HEY.out) 0 2) Tryz.underlying41 zb ?_;refine zJ2 (Hp.start _) zb (bs 30 131071) 15 16 _ (.int .i64 (k:Int)) ?_;refine zu 17 (bs 30 262143) (v:= .pointer (some ⟨ge,k*7,none⟩)) zb ?_ (hv:=by intro w hSw;exact ezi (k:=k) Tryz.underlying61 (l:=(show k<(edsV rs).length by omega)) (f:=(Nat.zero_add _).symm));refine mX 18 (bs 30 524287) (.pointer (some ⟨ge,k*7+2,none⟩)) zb ?_;refine zg 19 (bs 30 1048575) ge (k*7+2) [.int .i64 ey.b.1,.int .i64 ey.b.2] (range_part (H101.out.elem (f:=EdE.cells) (i:=0) rR EdE.len HEY.out) 2 2) Tryz.underlying41 zb ?_;refine FN.go2 (j1:=⟨25,some 8,36,[.bool false,.slice none 0 0,.bool false,.slice none 0 0]⟩) (j2:=⟨26,some 9,36,[.bool false,.slice none 0 0,.bool false,.slice none 0 0]⟩) (b:=w100) ?_ zb;refine gN 20 (bs 30 2097151) (fk (fk trivial)) zb.size (fun xq hxq=>((segments_any ex.a ex.b ey.a ey.b _ HBX.out.1 HBX.out.2.1 HBY.out.1 HBY.out.2.1).mono (fun _ _ h_=>SegRet.no h_ HSG.out))) (by rintro x_ e x2_ ⟨rfl,hx⟩;exact hx) ?_;rintro xq e w183 hxq ⟨rfl,hx⟩;replace hx:=hxq.trans hx;clear hxq;have H184:=zH (H165.out.step hx);have D184:=zH (show Dig w100.drew w183 from Dig.of_ext hx);have S186:=zH (zb.trans hx);clear hx;refine⟨_,rfl,?_⟩;try simp only[Act.put,zA,zB,zC]
   refine gT 21 (bs 30 4194303) _ ?_;refine gT 22 (bs 30 8388607) _ ?_;refine gT 23 (bs 30 16777215) _ ?_;refine gT 24 (bs 30 33554431) (.int .i64 (segN ex.a ex.b ey.a ey.b)) ?_;refine gE2 (bs 30 134217727) (fk (fk trivial)) S186.out.size H101.out H184.out ?_;intro X191 X192 w193 hx hh hg0 hg1 hs;have H194:=hN hh;have D194:=zH (Dig.of_ext hx);have S196:=zH (show Ext w100 w193 from hs);have G197:=zH (show w100.heap.size<=X191 from hg0);have G198:=zH (show w100.heap.size<=X192 from hg1);clear hh hx hs hg0 hg1;try simp only[Act.put,zA,zB,zC]
   refine bS 2 27 (bs 30 268435455) rz H194.out S196.out G197.out ?_;intro w199 H200 D200 S202;refine bS 3 28 (bs 30 536870911) rz H200.out S202.out G198.out ?_;intro w203 H204 D204 S206;refine zx 29 (bs 30 1073741823) (.int .i64 (segN ex.a ex.b ey.a ey.b)) S206.out ?_;refine wpAnyH_done kR ?_ _;go_upto_region 11 with fail
   refine wl ?_;refine zq (.int .i64 (segN ex.a ex.b ey.a ey.b)) ?_;refine zp (.bool false) (by exact ezq (e:=(dec_f HSG.out))) ?_;go_upto_region 13 with fail
   refine wl ?_;refine zp (.int .i64 ((i+1:Nat):Int)) (by exact ez1 (by have ob0:=HM.out;have ob1:=HM2.out;omega)) ?_;refine zq (.int .i64 ((i+1:Nat):Int)) ?_;have DD212:=tD (tD (tD (tD (tD (tD (tD D81 D90) D101) D165) D184) D194) D200) D204;have DD213:=tD (tD (tD (tD (tD (tD (tD (tD D28 D81) D90) D101) D165) D184) D194) D200) D204;go_wp2_with fail
   go_roundg (k-(i+1))
   case measure=>exact(by have ob0:=HM.out;have ob1:=HM2.out;omega)
   case rel=>exact⟨i+1,A2,m2,c2,es2,rfl,rfl,(by go_num),hik,⟨HM2.out.1,by have h_:=HM2.out.2;omega⟩,(fun ey_ hey2_=>by obtain rfl:ey=ey_:=Option.some.inj (HEY.out.symm.trans hey2_);rw[HES2.out _ hey2_,crTake_succ HEX.out,show crP ex ey=[]from(if_neg HNO.out).trans (if_neg HSG.out),List.append_nil]),(fun g_ hg_=>(HOE2.out g_ hg_).dig DD212.out),H204.out.take 2,DD213.out⟩
  have hik:=HIK.out;have hki:=HKI.out;obtain rfl:i=k:=by omega
  go_upto_region 7 with fail
  refine wl ?_;refine zp (.bool false) (by exact ezl (e:=(dec_f (Int.lt_irrefl _)))) ?_;go_upto_region 14 with fail
  refine wl ?_;refine zp (.int .i64 ((i+1:Nat):Int)) (by exact ez1 (by have ob0:=HM.out;omega)) ?_;refine zq (.int .i64 ((i+1:Nat):Int)) ?_;have DD217:=tD D17 D28;go_wp2_with fail
  go_roundg ((edsV rs).length-(i+1))
  case measure=>exact(by have ob0:=HM.out;omega)
  case rel=>exact⟨i+1,A2,m2,c2,es2,rfl,rfl,(by go_num),hlt,⟨HM2.out.1,by have h_:=HM2.out.2;omega⟩,(by rw[HES2.out _ (List.getElem?_eq_getElem hlt),crRange_succ (List.getElem?_eq_getElem hlt)]),(fun g_ hg_=>(HOE2.out g_ hg_)),H28.out,DD217.out⟩
 have hlt:=HLT.out;have hkn:=HKN.out;obtain rfl:k=(edsV rs).length:=by omega
 go_upto_region 4 with fail
 refine wl ?_;refine zp (.bool false) (by exact ezl (e:=(dec_f (Int.lt_irrefl _)))) ?_;have hmm:m<=16777216:=by have h_:=HM.out.2;omega
 go_upto_region 15 with fail
 refine wl ?_;refine zI1 (Hp.start _) _ ?_;refine zc (sortR2_any 24 dC (fun w_ e_ f_ h1_ h2_=>compare2_any 24 dC w_ e_ f_ h1_ h2_) (.slice A1 m c1) es _ _ (by have h_:=H17.out.row (i:=1) rR;rw[HM.out.1]at h_⊢;exact h_) (fun g_ hg_=>(HOE.out g_ hg_)) (by have h_:=HM.out.1;omega)) ?_;rintro e w220 ⟨rfl,es1,hp_,hs_,hr_,hg_,hd_⟩;have HPS:=zH (And.intro hp_ hs_);rw[hp_.length_eq,<-HM.out.1]at hr_;have H221:=zH (show Hp w w220 [ro 65 7 Ae ((edsV rs).length) ce EdE.cells (edsV rs),ro 37 8 A1 m c1 R2E.cells es1]from H17.out.turn (i:=1) (e:= .row 37 8 (.slice A1 m c1) (m) (List.flatMap R2E.cells es)) (e':= .row 37 8 (.slice A1 m c1) (m) (List.flatMap R2E.cells es1)) (by rfl) (fun k h=>h) hg_ hr_ (fun k hk=> .inl hk));have HOS1:=zH (show∀e,e∈es1->e.Ok 24 w220 from fun e he=>((HOE.out e (hp_.mem_iff.1 he))).dig hd_);have HL1:=zH (show es1.length=m from hp_.length_eq.trans HM.out.1.symm);clear hp_ hs_ hr_ hg_ hd_;have hx:=True.intro;clear hx;refine zn ?_;go_upto_region 16 with fail
 refine wl ?_;refine zI1 (Hp.start _) _ ?_;refine zc (cptR2_any 24 dC (.slice A1 m c1) es1 _ _ (by have h_:=H221.out.row (i:=1) rR;exact(congrArg (fun n_=>RowN _ _ 37 8 (.slice A1 m c1) n_ (List.flatMap R2E.cells es1)) HL1.out).mpr h_) H221.out.ext.size HOS1.out (by have h_:=HL1.out;omega)) ?_;rintro e w224 ⟨v_,rfl,hr_,hg_,hd_,ho_⟩;obtain⟨ps,hps_⟩:∃ps,ps=compactV (fun x y:R2E=>decide (x.vl=y.vl)) es1:=⟨_,rfl⟩;rw[<-hps_]at hr_;obtain⟨A3,c3,rfl,hf_⟩:=hr_.form;have HF3:=zH hf_;have HPS2:=zH (sort_cpt HPS.out.1 HPS.out.2);rw[<-hps_]at HPS2;have HOP:=zH (show∀e,e∈ps->e.Ok 24 w224 from fun e he=>(HOS1.out e (compactV_sub _ (by rw[<-hps_];exact he))).dig hd_);have hpl:ps.length<=16777216:=by have h_:=compactV_le (fun x y:R2E=>decide (x.vl=y.vl)) es1;rw[<-hps_,HL1.out]at h_;omega
 have H225:=zH (show Hp w w224 [ro 65 7 Ae ((edsV rs).length) ce EdE.cells (edsV rs),ro 37 8 A3 ps.length c3 R2E.cells ps]from H221.out.turn (i:=1) (e:= .row 37 8 (.slice A1 m c1) (m) (List.flatMap R2E.cells es1)) (e':= .row 37 8 (.slice A3 ps.length c3) (ps.length) (List.flatMap R2E.cells ps)) (by rfl) (fun k h=>h) hg_ hr_ (fun k hk=> .inl (by have h_:Value.ownBlock (.slice A3 ps.length c3)=some k:=hk;rw[ho_]at h_;exact h_)));clear hr_ hg_ hd_ ho_ hf_ hps_;have hx:=True.intro;clear hx;refine zn ?_;refine zI1 (Hp.start _) _ ?_;go_upto_region 17 with fail
 refine wl ?_;refine zI1 (Hp.start _) _ ?_;have H229:=zH (show Hp w w224 [ro 65 7 Ae ((edsV rs).length) ce EdE.cells (edsV rs),ro 37 8 A3 ps.length c3 R2E.cells ps,ro 38 1 none 0 0 OnE.cells ([])]from H225.out.addNil 38 1);go_upto_region 18 with fail
 refine wl ?_;refine zI3 (Hp.start _) _ (.int .i64 ((ps.length:Nat):Int)) _ ?_;go_wp2_with fail
 go_loopg [11,89] (ps.length) (fun cq v233 v234 wr=>∃(k:Nat) (A4:Option Addr) (c4:Nat) (os:List OnE),cq=ps.length-k/\v233= .slice A4 k c4/\v234= .int .i64 (k:Int)/\(k<=ps.length)/\(os.map OnE.l=(ps.take k).map (fun e=>onV (edsV rs) e.vl))/\(os.length=k)/\(∀o,o∈os->o.Ok w.heap.size wr)/\Hp w wr [.row 65 7 (.slice Ae ((edsV rs).length) ce) ((edsV rs).length) (List.flatMap EdE.cells (edsV rs)),.row 37 8 (.slice A3 ps.length c3) (ps.length) (List.flatMap R2E.cells ps),.row 38 1 (.slice A4 k c4) (k) (List.flatMap OnE.cells os)]/\Dig w224 wr)
 case atStart=>exact⟨0,none,0,[],rfl,rfl,rfl,Nat.zero_le _,rfl,rfl,(fun o_ ho_=>by cases ho_),H229.out,Dig.refl _⟩
 obtain⟨k,A4,c4,os,rfl,rfl,rfl,q_HKP,q_HOS,q_HOL,q_HOK4,hh_,hd_⟩:=hrel;generalize wr=w235 at*
 have HKP:=zH q_HKP;clear q_HKP;have HOS:=zH q_HOS;clear q_HOS;have HOL:=zH q_HOL;clear q_HOL;have HOK4:=zH q_HOK4;clear q_HOK4;have H237:=zH hh_;have D237:=zH hd_;clear hh_ hd_ H229;rcases emH (k<ps.length)with HLT|HLT
 ·have hlt:=HLT.out
  obtain⟨pe,hpe_⟩:∃x,ps[k]?=some x:=⟨_,List.getElem?_eq_getElem hlt⟩;have HPE:=zH hpe_;have HOE_:=zH (HOP.out pe (List.mem_of_getElem? hpe_));clear hpe_;obtain⟨gp,rfl⟩:=HF3.out (by omega);go_upto_region 19 with fail
  refine wl ?_;refine zp (.bool true) (by exact ezl (e:=(dec_t (by omega)))) ?_;have HB:=H237;have HEP:=zH (H237.out.elem (f:=R2E.cells) (i:=1) (by rfl) R2E.len HPE.out);have HK0:=zH (Hp.start w235);have OKP:=zH (HOE_.out.dig D237.out);have RPa:=zH OKP.out.1;have RPb:=zH OKP.out.2.1;have BRPa:=zH OKP.out.2.2.1;have BRPb:=zH OKP.out.2.2.2;go_upto_region 20 with fail
  refine wl ?_;refine zp (.pointer (some ⟨gp,k*8,none⟩)) (by exact ezi (k:=k) Tryz.underlying27 (l:=hlt) (f:=(Nat.zero_add _).symm)) ?_;refine zd gp (k*8) [.bool pe.a.n,.slice pe.a.p pe.a.l pe.a.c,.bool pe.a.m,.slice pe.a.p2 pe.a.l2 pe.a.c2,.bool pe.b.n,.slice pe.b.p pe.b.l pe.b.c,.bool pe.b.m,.slice pe.b.p2 pe.b.l2 pe.b.c2] (range_ext HEP.out HK0.out.ext) Tryz.underlying37 ?_;refine aA' 37 [.bool false,.slice none 0 0,.bool false,.slice none 0 0,.bool false,.slice none 0 0,.bool false,.slice none 0 0] HK0.out ?_;intro X242 w243 H244 D244;refine aS' 0 [.bool pe.a.n,.slice pe.a.p pe.a.l pe.a.c,.bool pe.a.m,.slice pe.a.p2 pe.a.l2 pe.a.c2,.bool pe.b.n,.slice pe.b.p pe.b.l pe.b.c,.bool pe.b.m,.slice pe.b.p2 pe.b.l2 pe.b.c2] H244.out ?_;intro w247 H248 D248;go_upto_region 21 with fail
  refine wl ?_;refine zI1 (Hp.start _) _ ?_;have H251:=zH (show Hp w235 w247 [.blk X242 37 [.bool pe.a.n,.slice pe.a.p pe.a.l pe.a.c,.bool pe.a.m,.slice pe.a.p2 pe.a.l2 pe.a.c2,.bool pe.b.n,.slice pe.b.p pe.b.l pe.b.c,.bool pe.b.m,.slice pe.b.p2 pe.b.l2 pe.b.c2],ro 3 1 none 0 0 iC ([])]from H248.out.addNil 3 1);go_upto_region 22 with fail
  refine wl ?_;refine zI3 (Hp.start _) _ (.int .i64 (((edsV rs).length:Nat):Int)) _ ?_;go_wp2_with fail
  go_loopg [14,95] ((edsV rs).length) (fun cq v255 v256 wr=>∃(i:Nat) (A5:Option Addr) (n5:Nat) (c5:Nat) (is:List Nat),cq=((edsV rs).length)-i/\v255= .slice A5 n5 c5/\v256= .int .i64 (i:Int)/\(i<=(edsV rs).length)/\(n5=is.length/\n5<=i)/\(is=(List.range i).filter (onAt (edsV rs) pe.vl))/\Hp w235 wr [.blk X242 37 [.bool pe.a.n,.slice pe.a.p pe.a.l pe.a.c,.bool pe.a.m,.slice pe.a.p2 pe.a.l2 pe.a.c2,.bool pe.b.n,.slice pe.b.p pe.b.l pe.b.c,.bool pe.b.m,.slice pe.b.p2 pe.b.l2 pe.b.c2],.row 3 1 (.slice A5 n5 c5) (n5) (List.flatMap iC is)]/\Dig w247 wr)
  case atStart=>exact⟨0,none,0,0,[],rfl,rfl,rfl,Nat.zero_le _,⟨rfl,Nat.zero_le _⟩,rfl,H251.out,Dig.refl _⟩
  obtain⟨i,A5,n5,c5,is,rfl,rfl,rfl,q_HIN,q_HI5,q_HIS,hh_,hd_⟩:=hrel;generalize wr=w257 at*
  have HIN:=zH q_HIN;clear q_HIN;have HI5:=zH q_HI5;clear q_HI5;have HIS:=zH q_HIS;clear q_HIS;have H259:=zH hh_;have D259:=zH hd_;clear hh_ hd_ H251;rcases emH (i<(edsV rs).length)with HIU|HIU
  ·have hiu:=HIU.out
   obtain⟨ge,rfl⟩:=HFE.out (by omega);obtain⟨ex,hex_⟩:∃x,(edsV rs)[i]?=some x:=⟨_,List.getElem?_eq_getElem hiu⟩;have HEX:=zH hex_;have HBX:=zH (edsV_bd HN.out ex (List.mem_of_getElem? hex_));have HEL:=zH (HB.out.elem (f:=EdE.cells) (i:=0) (by rfl) EdE.len hex_);clear hex_;go_upto_region 23 with fail
   refine wl ?_;refine zp (.bool true) (by exact ezl (e:=(dec_t (by have ob0:=HI5.out;omega)))) ?_;go_upto_region 24 with fail
   refine wl ?_;refine zq (.int .i64 (i:Int)) ?_;refine zp (.pointer (some ⟨ge,i*7,none⟩)) (by exact ezi (k:=i) Tryz.underlying61 (l:=hiu) (f:=(Nat.zero_add _).symm)) ?_;refine zd ge (i*7) [.int .i64 ex.a.1,.int .i64 ex.a.2,.int .i64 ex.b.1,.int .i64 ex.b.2,.int .i64 ((ex.r:Nat):Int),.int .i64 ((ex.i:Nat):Int),.int .i64 ((ex.n:Nat):Int)] (range_ext HEL.out H259.out.ext) Tryz.underlying65 ?_;refine aA' 65 [.int .i64 0,.int .i64 0,.int .i64 0,.int .i64 0,.int .i64 0,.int .i64 0,.int .i64 0] H259.out ?_;intro X264 w265 H266 D266;refine zq (.int .i64 (i:Int)) ?_;refine aS' 2 [.int .i64 ex.a.1,.int .i64 ex.a.2,.int .i64 ex.b.1,.int .i64 ex.b.2,.int .i64 ((ex.r:Nat):Int),.int .i64 ((ex.i:Nat):Int),.int .i64 ((ex.n:Nat):Int)] H266.out ?_;intro w270 H271 D271;rcases emH (conC ex pe.vl)with HCN|HCN
   ·go_upto_region 25 with fail
    refine wl ?_;refine zI2 H271.out _ _ ?_;have DD275:=tD (tD (tD (tD D244 D248) D259) D266) D271;refine zc (contains17_any 24 dC ex pe _ HBX.out (OKP.out.dig DD275.out)) ?_;rintro e w274 ⟨rfl,hx⟩;have H276:=zH (H271.out.step hx);have D276:=zH (Dig.of_ext hx);clear hx;refine⟨.bool true,by rw[decide_eq_true HCN.out],?_⟩;try simp only[Act.put,zA,zB,zC]
    go_upto_region 26 with fail
    refine wl ?_;refine zI2 (Hp.start _) _ (.int .i64 (i:Int)) ?_;refine zp (w':=(w274.alloc (.cells ([.int .i64 (i:Int)]:List Value).toArray 3))) (.slice (some ⟨w274.heap.size,0,none⟩) 1 1) (by go_simp) ?_;refine mv_app rR _ _ _ rR elInt rR H276.out (ix:=1) rR 1 1 [.int .i64 (i:Int)] rR rfl (by simp[Value.oneCell']) (by simp[NoUL]) dC (by unfold maxLen;exact(by have ob0:=HI5.out;omega)) (by have ob0:=HI5.out;omega) ?_;intro g281 cp282 w280 hf hh hd hg;have Fg281:=zH hf;clear hf;rw[show List.flatMap iC is++[.int .i64 (i:Int)]=_ from flat_snoc iC _ i]at hh;have H283:=hN hh;have D283:=zH (hd);clear hh hd hg;try simp only[Act.put,zA,zB,zC]
    refine zq (.slice (some ⟨g281,0,none⟩) (n5+1) cp282) ?_;go_upto_region 27 with fail
    refine wl ?_;refine zp (.int .i64 ((i+1:Nat):Int)) (by exact ez1 (by have ob0:=HI5.out;omega)) ?_;refine zq (.int .i64 ((i+1:Nat):Int)) ?_;have DD288:=tD (tD (tD (tD D259 D266) D271) D276) D283;go_wp2_with fail
    go_roundg ((edsV rs).length-(i+1))
    case measure=>exact(by have ob0:=HI5.out;omega)
    case rel=>exact⟨i+1,some ⟨g281,0,none⟩,(n5+1),cp282,is++[i],rfl,rfl,(by go_num),hiu,⟨by rw[HI5.out.1];simp,by have h_:=HI5.out.2;omega⟩,(by rw[HIS.out,onV_succ HEX.out,if_pos HCN.out]),H283.out.take 2,DD288.out⟩
   go_upto_region 25 with fail
   refine wl ?_;refine zI2 H271.out _ _ ?_;have DD290:=tD (tD (tD (tD D244 D248) D259) D266) D271;refine zc (contains17_any 24 dC ex pe _ HBX.out (OKP.out.dig DD290.out)) ?_;rintro e w289 ⟨rfl,hx⟩;have H291:=zH (H271.out.step hx);have D291:=zH (Dig.of_ext hx);clear hx;refine⟨.bool false,by rw[decide_eq_false HCN.out],?_⟩;try simp only[Act.put,zA,zB,zC]
   go_upto_region 27 with fail
   refine wl ?_;refine zp (.int .i64 ((i+1:Nat):Int)) (by exact ez1 (by have ob0:=HI5.out;omega)) ?_;refine zq (.int .i64 ((i+1:Nat):Int)) ?_;have DD295:=tD (tD (tD D259 D266) D271) D291;go_wp2_with fail
   go_roundg ((edsV rs).length-(i+1))
   case measure=>exact(by have ob0:=HI5.out;omega)
   case rel=>exact⟨i+1,A5,n5,c5,is,rfl,rfl,(by go_num),hiu,⟨HI5.out.1,by have h_:=HI5.out.2;omega⟩,(by rw[HIS.out,onV_succ HEX.out,if_neg HCN.out,List.append_nil]),H291.out.take 2,DD295.out⟩
  have hiu:=HIU.out;have hiN:=HIN.out;obtain rfl:i=(edsV rs).length:=by omega
  go_upto_region 23 with fail
  refine wl ?_;refine zp (.bool false) (by exact ezl (e:=(dec_f (Int.lt_irrefl _)))) ?_;have hn5:=HI5.out.1;subst hn5;have HRI:=zH (show(⟨A5,c5,is⟩:OnE).Ok w.heap.size w257 from(H259.out.row (i:=1) (by rfl)).low HB.out.ext.size);have HXX:=zH (HB.out.step H259.out.ext);have HFZ:=zH (fun o_ ho_=>(HOK4.out o_ ho_).ext H259.out.ext);have HDX:=zH (Dig.of_ext H259.out.ext);go_upto_region 28 with fail
  refine wl ?_;refine zI2 (Hp.start _) _ _ ?_;refine zp (w':=(w257.alloc (.cells ([.slice A5 is.length c5]:List Value).toArray 38))) (.slice (some ⟨w257.heap.size,0,none⟩) 1 1) (by go_simp) ?_;refine mv_app rR _ _ _ rR elInts rR HXX.out (ix:=2) rR 1 1 [.slice A5 is.length c5] rR rfl (by simp[Value.oneCell']) (by simp[NoUL]) dC (by unfold maxLen;exact(by omega)) (by omega) ?_;intro g301 cp302 w300 hf hh hd hg;have Fg301:=zH hf;clear hf;rw[show List.flatMap OnE.cells os++[.slice A5 is.length c5]=_ from flat_snoc OnE.cells _ (⟨A5,c5,is⟩:OnE)]at hh;have H303:=hN hh;have D303:=zH (hd);have K305:=zH (show Fr (fun kz=>Value.ownBlock (.slice A4 k c4)=some kz) w257 w300 from((Fr.of_ext (G:=fun kz=>Value.ownBlock (.slice A4 k c4)=some kz) (Ext.refl w257)).trans (Fr.of_ext ((Ext.refl _).alloc _))).trans_new hg (fun j hj=> .inl hj));clear hh hd hg;try simp only[Act.put,zA,zB,zC]
  refine zq (.slice (some ⟨g301,0,none⟩) (k+1) cp302) ?_;go_upto_region 29 with fail
  refine wl ?_;refine zp (.int .i64 ((k+1:Nat):Int)) (by exact ez1 (by omega)) ?_;refine zq (.int .i64 ((k+1:Nat):Int)) ?_;go_wp2_with fail
  go_roundg (ps.length-(k+1))
  case measure=>exact(by omega)
  case rel=>exact⟨k+1,some ⟨g301,0,none⟩,cp302,os++[(⟨A5,c5,is⟩:OnE)],rfl,rfl,(by go_num),hlt,(by rw[List.map_append,HOS.out,take_map_succ HPE.out];rw[show is=onV (edsV rs) pe.vl from HIS.out];rfl),(by rw[List.length_append,HOL.out];rfl),(fun o_ ho_=>(List.mem_append.1 ho_).elim (fun h_=>(HFZ.out o_ h_).fr HXX.out (ix:=2) (by rfl) K305.out) (fun h_=>by rw[List.mem_singleton.1 h_];exact HRI.out.fr HXX.out (ix:=2) (by rfl) K305.out)),H303.out,((D237.out).trans (HDX.out.trans D303.out))⟩
 have hlt:=HLT.out;have hkp:=HKP.out;obtain rfl:k=ps.length:=by omega
 go_upto_region 19 with fail
 refine wl ?_;refine zp (.bool false) (by exact ezl (e:=(dec_f (Int.lt_irrefl _)))) ?_;go_upto_region 30 with fail
 refine wl ?_;refine zI4 (Hp.start _) _ _ _ _ ?_;have hol:=HOL.out;go_wp2_with fail
 go_ret2
 exact⟨_,_,ps,os,rfl,H237.out.row (i:=1) (by rfl),HPS2.out.1,fun q_=>(HPS2.out.2.1 q_).trans (by rw[HES.out];exact Iff.rfl),(fun g_ hg_=>(HOP.out g_ hg_).dig D237.out),(by have h_:=H237.out.row (i:=2) (by rfl);rw[<-hol]at h_⊢;exact h_),(by rw[HOS.out,List.take_length]),HOK4.out,H237.out.ext⟩
end Go.Proofs.YtiokhlgdelipdabGreat
namespace Go.Proofs.YtiokhlgdelipdabGreat
open Go.RowKit
theorem line_mid {a b c d:Int×Int}(h0:cr (dv a b) (dv c d)=0)(h:¬offL a b c d)(k:¬lessB (shH a b c d) (shL a b c d)=true):onI a b (shL a b c d):=by
 obtain⟨l1,l2,l3⟩:=shL_or a b c d;obtain⟨u1,u2,u3⟩:=shH_or a b c d;have k:=leL_iff.2 k;refine mid_on ?_ l1 (leL_trans k u1);by_cases q:a=b
 ·subst q;unfold cr dv;simp
 have hl:lineV a b c d=dv a b:=if_neg (fun k=>q (dv_zero.1 k));have hc:cr (dv a b) (dv a c)=0:=by
  rcases Int.lt_trichotomy (cr (dv a b) (dv a c)) 0 with k|k|k
  ·exact absurd (.inl (by rw[hl];omega)) h
  ·exact k
  exact absurd (.inl (by rw[hl];omega)) h
 have hd:cr (dv a b) (dv a d)=0:=by
  have:cr (dv a b) (dv a d)=cr (dv a b) (dv a c)+cr (dv a b) (dv c d):=by unfold cr dv;grind
  omega
 have ha:cr (dv a b) (dv a a)=0:=by unfold cr dv;simp
 have hb:cr (dv a b) (dv a b)=0:=by unfold cr;grind
 rcases l3 with k|k<;>rw[k]
 ·rcases endL_or a b with⟨_,e1,_⟩|⟨_,e1,_⟩<;>rw[e1]<;>assumption
 rcases endL_or c d with⟨_,e1,_⟩|⟨_,e1,_⟩<;>rw[e1]<;>assumption
theorem seg_meet {a b c d:Int×Int}(h:segN a b c d≠0):∃x y:Rat,onC a b x y/\onC c d x y:=by
 by_cases h1:segN a b c d=1
 ·exact⟨_,_,seg_on h1,seg_on2 h1⟩
 by_cases h0:cr (dv a b) (dv c d)=0
 ·rw[segN_l h0]at h
  by_cases k:offL a b c d
  ·rw[if_pos k]at h;exact absurd rfl h
  rw[if_neg k]at h;have hk:¬lessB (shH a b c d) (shL a b c d)=true:=by
   intro e;unfold sharedV at h;rw[if_pos e]at h;exact h rfl
  refine⟨_,_,onI_onC (line_mid h0 k hk),?_⟩;rw[<-shL_swap];exact onI_onC (line_mid (by rw[cr_neg,h0];rfl) (fun e=>k ((offL_swap h0).1 e)) (by rw[shL_swap,shH_swap];exact hk))
 rw[segN_p h0]at h h1;by_cases k:inU (segT a b c d)/\inU (segS a b c d)
 ·rw[if_pos k]at h1;exact absurd rfl h1
 rw[if_neg k]at h;exact absurd rfl h
theorem dj_seg {x y:EdE}(h:djB x y=true):segN x.a x.b y.a y.b=0:=by
 rcases Int.lt_trichotomy (segN x.a x.b y.a y.b) 0 with k|k|k
 ·have:=seg_bd x.a x.b y.a y.b;omega
 ·exact k
 exfalso;obtain⟨p,q,⟨_,⟨a1,a2⟩,a3,a4⟩,_,⟨b1,b2⟩,b3,b4⟩:=seg_meet (a:=x.a) (b:=x.b) (c:=y.a) (d:=y.b) (by omega);have key:∀{m n:Int} {z:Rat},z<=(m:Rat)->(n:Rat)<=z->¬m<n:=by
  intro m n z h1 h2 h3;have h4:(m:Rat)<(n:Rat):=by exact_mod_cast h3
  exact absurd (Rat.le_trans h2 h1) (Rat.not_le.2 h4)
 unfold djB at h;simp only[Bool.or_eq_true,decide_eq_true_eq]at h;rcases h with h|h|h|h
 ·exact key a2 b1 h
 ·exact key b2 a1 h
 ·exact key a4 b3 h
 exact key b4 a3 h
theorem simP_eq (x y:EdE):simP x y=if adjB x y=true then decide (segN x.a x.b y.a y.b=1)else decide (segN x.a x.b y.a y.b=0):=by
  unfold simP;split
  · rfl
  cases h:djB x y with
  |false=>simp
  |true=>simp[dj_seg h]
def allQ:Nat->List Ring->List EdE
  |_,[]=>[]
  |q,r::rs=>edR q (edgesV [r]) (edgesV [r]).length++allQ (q+1) rs
theorem allQ_eq:∀(rs:List Ring) (q:Nat),(rs.mapIdx fun k r=>edR (q+k) (edgesV [r]) (edgesV [r]).length).flatten=allQ q rs
  | [],q=>rfl
  | r::rs,q=>by
    rw[List.mapIdx_cons,List.flatten_cons,Nat.add_zero];unfold allQ;rw[<-allQ_eq rs (q+1)];congr 3;funext i x;rw[show q+(i+1)=q+1+i by omega]
theorem allV_eq (rs:List Ring):allV rs=allQ 0 rs:=by
  rw[<-allQ_eq rs 0];unfold allV;congr 2;funext i x;rw[Nat.zero_add]
theorem edR_mem {q n:Nat}{es:List Edge}{i:Nat}{x:EdE}(h:(edR q es n)[i]?=some x):x.r=q/\x.i=i/\x.n=n/\es[i]?=some (x.a,x.b):=by
  unfold edR at h;rw[List.getElem?_mapIdx]at h;cases he:es[i]?with
  |none=>rw[he]at h;simp at h
  | some e=>
    rw[he]at h;simp at h;subst h;exact⟨rfl,rfl,rfl,rfl⟩
theorem allQ_r:∀{rs:List Ring} {q i:Nat} {x:EdE},(allQ q rs)[i]?=some x->q<=x.r
  | [],q,i,x,h=>by simp[allQ]at h
  | r::rs,q,i,x,h=>by
    unfold allQ at h;by_cases hi:i<(edR q (edgesV [r]) (edgesV [r]).length).length
    · rw[List.getElem?_append_left hi]at h
      rw[(edR_mem h).1];exact Nat.le_refl _
    rw[List.getElem?_append_right (by omega)]at h;have:=allQ_r h;omega
theorem adjB_swap (x y:EdE):adjB x y=adjB y x:=by
  unfold adjB;rw[show decide (x.r=y.r)=decide (y.r=x.r)from decide_eq_decide.2 ⟨Eq.symm,Eq.symm⟩,Bool.or_comm]
theorem simAll_iff {es:List EdE}:simAll es=true↔∀(i k:Nat) (x y:EdE),es[i]?=some x->es[k]?=some y->k<i->simP y x=true:=by
 unfold simAll;rw[List.all_eq_true];constructor
 ·intro h i k x y hi hk hlt
  have h1:=h i (List.mem_range.2 (List.getElem?_eq_some_iff.1 hi).1);unfold simRow at h1;rw[hi]at h1;exact List.all_eq_true.1 h1 y (List.mem_take_iff_getElem.2 ⟨k,by have:=(List.getElem?_eq_some_iff.1 hk).1;omega,(List.getElem?_eq_some_iff.1 hk).2⟩)
 intro h i hi;obtain⟨x,hx⟩:∃x,es[i]?=some x:=⟨_,List.getElem?_eq_getElem (List.mem_range.1 hi)⟩;unfold simRow;rw[hx];refine List.all_eq_true.2 (fun y hy=> ?_);obtain⟨k,hk,rfl⟩:=List.mem_take_iff_getElem.1 hy;exact h i k x _ hx (List.getElem?_eq_getElem (by omega)) (by omega)
theorem cmp2_irr (p:Rat×Rat):¬cmp2 p p<0:=by
  rw[cmp2_lt];grind
theorem cmp2_trans {p q r:Rat×Rat}(h:cmp2 p q<0)(k:cmp2 q r<0):cmp2 p r<0:=by
  rw[cmp2_lt]at*;grind
theorem crAll_mem {es:List EdE}{z:Rat×Rat}:z∈crAll es↔∃(i k:Nat) (y x:EdE),es[i]?=some y/\es[k]?=some x/\k<i/\z∈crP x y:=by
 unfold crAll;rw[List.mem_flatMap];constructor
 ·rintro⟨i,hi,h⟩
  unfold crRow at h;cases hy:es[i]?with
  |none=>rw[hy]at h;simp at h
  |some y=>
   rw[hy]at h;obtain⟨x,hx,hz⟩:=List.mem_flatMap.1 h;obtain⟨k,hk,rfl⟩:=List.mem_take_iff_getElem.1 hx;exact⟨i,k,y,_,hy,List.getElem?_eq_getElem (by omega),by omega,hz⟩
 rintro⟨i,k,y,x,hy,hx,hk,hz⟩;refine⟨i,List.mem_range.2 (List.getElem?_eq_some_iff.1 hy).1,?_⟩;unfold crRow;rw[hy];exact List.mem_flatMap.2 ⟨x,List.mem_take_iff_getElem.2 ⟨k,by have:=(List.getElem?_eq_some_iff.1 hx).1;omega,(List.getElem?_eq_some_iff.1 hx).2⟩,hz⟩
theorem crP_iff {x y:EdE}{z:Rat×Rat}:z∈crP x y↔adjB x y=false/\segN x.a x.b y.a y.b=1/\z=(segX x.a x.b y.a y.b,segY x.a x.b y.a y.b):=by
  unfold crP;by_cases h:adjB x y=true\/djB x y=true
  · rw[if_pos h]
    constructor
    · intro k;simp at k
    rintro⟨h1,h2,_⟩;rcases h with h|h
    · rw[h1]at h;cases h
    rw[dj_seg h]at h2;cases h2
  rw[if_neg h];have h1:adjB x y=false:=Bool.eq_false_iff.2 (fun e=>h (.inl e));by_cases k:segN x.a x.b y.a y.b=1
  · rw[if_pos k];simp[h1,k]
  rw[if_neg k];simp[k]
end Go.Proofs.YtiokhlgdelipdabGreat
namespace Go.Proofs.YtiokhlgdelipdabGreat
open Go.RowKit
attribute [local go_sem ↓] Go.wp_at_zero Go.wp_at_succ run_max_ii run_min_ii
theorem RowN.elemG {α:Type}{f:α->List Value}{w:World}{b g n c size:Nat}{T:TypeId}{es:List α}(hc:∀x,(f x).length=size)(h:RowN w b T size (.slice (some ⟨g,0,none⟩) n c) n (es.flatMap f)){k:Nat}{e:α}(he:es[k]?=some e):w.rangeAt g (k*size) (f e):=
  h.rangeAt _ _ (fun j v hj=>flat_get hc es k e he j v hj)
theorem RowN.capMaxI {w:World}{b n c size:Nat}{T:TypeId}{A:Option Addr}{xs:List Value}(h:RowN w b T size (.slice A n c) n xs):n<=9223372036854775807:=by
  obtain⟨_,⟨_,h2⟩|⟨g,c',r,_,_,_,h3,h4,_⟩⟩:=h
  · omega
  unfold maxLen at h4;omega
end Go.Proofs.YtiokhlgdelipdabGreat
namespace Go.Proofs.YtiokhlgdelipdabGreat
open Go.RowKit
def trP (t p:Int×Int):Int×Int:=(p.1+t.1,p.2+t.2)
theorem dv_tr (t a b:Int×Int):dv (trP t a) (trP t b)=dv a b:=by unfold dv trP;exact Prod.ext (by dsimp only;omega) (by dsimp only;omega)
theorem less_tr (t a b:Int×Int):lessB (trP t a) (trP t b)=lessB a b:=by
  rw[Bool.eq_iff_iff,lessB_iff,lessB_iff];unfold trP;dsimp only
  omega
theorem tr_inj {t a b:Int×Int}:trP t a=trP t b↔a=b:=by
  unfold trP;constructor
  · intro h;injection h with h1 h2;exact Prod.ext (by omega) (by omega)
  intro h;rw[h]
theorem endL_tr (t a b:Int×Int):endL (trP t a) (trP t b)=trP t (endL a b):=by unfold endL;rw[less_tr];split<;>rfl
theorem endH_tr (t a b:Int×Int):endH (trP t a) (trP t b)=trP t (endH a b):=by unfold endH;rw[less_tr];split<;>rfl
theorem shL_tr (t a b c d:Int×Int):shL (trP t a) (trP t b) (trP t c) (trP t d)=trP t (shL a b c d):=by
  unfold shL;rw[endL_tr,endL_tr,less_tr];split<;>rfl
theorem shH_tr (t a b c d:Int×Int):shH (trP t a) (trP t b) (trP t c) (trP t d)=trP t (shH a b c d):=by
  unfold shH;rw[endH_tr,endH_tr,less_tr];split<;>rfl
theorem shared_tr (t a b c d:Int×Int):(sharedV (trP t a) (trP t b) (trP t c) (trP t d)).2=(sharedV a b c d).2/\((sharedV a b c d).2=1->(sharedV (trP t a) (trP t b) (trP t c) (trP t d)).1=trP t (sharedV a b c d).1):=by
 unfold sharedV;rw[shL_tr,shH_tr,less_tr];by_cases h:lessB (shH a b c d) (shL a b c d)=true
 ·rw[if_pos h,if_pos h];exact⟨rfl,fun k=>by cases k⟩
 rw[if_neg h,if_neg h];by_cases k:shL a b c d=shH a b c d
 ·rw[if_pos k,if_pos (tr_inj.2 k)];exact⟨rfl,fun _=>rfl⟩
 rw[if_neg k,if_neg (fun e=>k (tr_inj.1 e))];exact⟨rfl,fun k=>by cases k⟩
theorem segT_tr (t a b c d:Int×Int):segT (trP t a) (trP t b) (trP t c) (trP t d)=segT a b c d:=by unfold segT;rw[dv_tr,dv_tr,dv_tr]
theorem segS_tr (t a b c d:Int×Int):segS (trP t a) (trP t b) (trP t c) (trP t d)=segS a b c d:=by unfold segS;rw[dv_tr,dv_tr,dv_tr]
theorem segN_tr (t a b c d:Int×Int):segN (trP t a) (trP t b) (trP t c) (trP t d)=segN a b c d:=by
  unfold segN lineV;rw[segT_tr,segS_tr,(shared_tr t a b c d).1];simp only[dv_tr,ne_eq,tr_inj]
theorem segX_tr {t a b c d:Int×Int}(h:segN a b c d=1):segX (trP t a) (trP t b) (trP t c) (trP t d)=segX a b c d+(t.1:Rat)/\segY (trP t a) (trP t b) (trP t c) (trP t d)=segY a b c d+(t.2:Rat):=by
 unfold segX segY;rw[dv_tr,dv_tr];by_cases h0:cr (dv a b) (dv c d)=0
 ·rw[if_neg (by simpa using h0),if_neg (by simpa using h0),if_neg (by simpa using h0),if_neg (by simpa using h0)]
  rw[segN_l h0]at h;by_cases k:offL a b c d
  ·rw[if_pos k]at h;cases h
  rw[if_neg k]at h;rw[(shared_tr t a b c d).2 h];unfold trP;dsimp only
  rw[Rat.intCast_add,Rat.intCast_add];exact⟨rfl,rfl⟩
 rw[if_pos h0,if_pos h0,if_pos h0,if_pos h0,segT_tr];have e1:(trP t b).1-(trP t a).1=b.1-a.1:=by unfold trP;dsimp only;omega
 have e2:(trP t b).2-(trP t a).2=b.2-a.2:=by unfold trP;dsimp only;omega
 rw[e1,e2];unfold trP;dsimp only
 rw[Rat.intCast_add,Rat.intCast_add];exact⟨by grind,by grind⟩
theorem nb_back {m i k:Nat}(hi:i<m)(hk:k<m):((i+1)%m=k\/(k+1)%m=i)↔((m-1-i+1)%m=m-1-k\/(m-1-k+1)%m=m-1-i):=by
  have key:∀x y:Nat,x<m->y<m->((x+1)%m=y↔(x+1=y\/(x+1=m/\y=0))):=by
    intro x y hx hy;by_cases h:x+1=m
    · rw[h,Nat.mod_self];omega
    rw[Nat.mod_eq_of_lt (by omega)];omega
  rw[key i k hi hk,key k i hk hi,key _ _ (by omega) (by omega),key _ _ (by omega) (by omega)];omega
theorem nb_back1 {m i k:Nat}(hi:i<m)(hk:k<m)(f:Nat->Nat)(hf:∀x,x<m->f x=if x=m-1 then m-1 else m-2-x):((i+1)%m=k\/(k+1)%m=i)↔((f i+1)%m=f k\/(f k+1)%m=f i):=by
 have key:∀x y:Nat,x<m->y<m->((x+1)%m=y↔(x+1=y\/(x+1=m/\y=0))):=by
  intro x y hx hy;by_cases h:x+1=m
  ·rw[h,Nat.mod_self];omega
  rw[Nat.mod_eq_of_lt (by omega)];omega
 have fl:∀x,x<m->f x<m:=by intro x hx;rw[hf x hx];split<;>omega
 rw[key i k hi hk,key k i hk hi,key _ _ (fl i hi) (fl k hk),key _ _ (fl k hk) (fl i hi),hf i hi,hf k hk];split<;>split<;>omega
def swE (t:Int×Int)(e:Edge):Edge:=(trP t e.2,trP t e.1)
def allEd (r:Ring):List Edge:=(List.range r.length).map fun i=>(r.getD i (0,0),r.getD ((i+1)%r.length) (0,0))
def backR (t:Int×Int)(r:Ring):Ring:=r.reverse.map (trP t)
theorem allEd_len (r:Ring):(allEd r).length=r.length:=by unfold allEd;simp
theorem allEd_get {r:Ring}{i:Nat}(h:i<r.length):(allEd r)[i]?=some (r[i],r[(i+1)%r.length]'(Nat.mod_lt _ (by omega))):=by
  unfold allEd;rw[List.getElem?_map,List.getElem?_range h];simp only[Option.map_some,Option.some.injEq,Prod.mk.injEq];have h2:(i+1)%r.length<r.length:=Nat.mod_lt _ (by omega);exact⟨by simp[List.getD,h],by simp[List.getD,h2]⟩
theorem fm_eq {α β:Type}(f:α->Option β)(g:α->β)(p:β->Bool):∀l:List α,(∀x,x∈l->f x=if p (g x)=true then some (g x)else none)->l.filterMap f=(l.map g).filter p
  | [],_=>rfl
  | x::l,h=>by
    have ih:=fm_eq f g p l (fun y hy=>h y (List.mem_cons_of_mem _ hy));rw[List.filterMap_cons,h x (by simp),List.map_cons,List.filter_cons,ih];by_cases k:p (g x)=true
    · rw[if_pos k,if_pos k]
    rw[if_neg k,if_neg k]
theorem edges_all (r:Ring):edgesV [r]=(allEd r).filter (fun e=>decide (e.1≠e.2)):=by
  unfold edgesV ringEn allEd;rw[List.flatMap_cons,List.flatMap_nil,List.append_nil];refine fm_eq _ _ _ _ (fun i hi=> ?_);have hl:=List.mem_range.1 hi;have h2:(i+1)%r.length<r.length:=Nat.mod_lt _ (by omega);rw[edgeAt_some (List.getElem?_eq_getElem hl) (List.getElem?_eq_getElem h2)];by_cases h:r[i]=r[(i+1)%r.length]
  · rw[if_pos h];simp[List.getD,hl,h2,h]
  rw[if_neg h];simp[List.getD,hl,h2,h]
theorem back_len (t:Int×Int)(r:Ring):(backR t r).length=r.length:=by unfold backR;simp
theorem back_get {t:Int×Int}{r:Ring}{i:Nat}(h:i<r.length):(backR t r)[i]'(by rw[back_len];exact h)=trP t (r[r.length-1-i]):=by
  unfold backR;simp
theorem allEd_back (t:Int×Int)(r:Ring):allEd (backR t r)=(((allEd r).take (r.length-1)).reverse++(allEd r).drop (r.length-1)).map (swE t):=by
 apply List.ext_getElem?;intro i;by_cases hi:i<r.length
 ·rw[allEd_get (by rw[back_len];exact hi),List.getElem?_map]
  have hlen:((allEd r).take (r.length-1)).reverse.length=r.length-1:=by rw[List.length_reverse,List.length_take,allEd_len];omega
  by_cases h1:i<r.length-1
  ·rw[List.getElem?_append_left (by omega),List.getElem?_reverse (by rw[List.length_take,allEd_len];omega),List.length_take,allEd_len,Nat.min_eq_left (by omega),List.getElem?_take_of_lt (by omega),allEd_get (by omega)]
   simp only[Option.map_some,Option.some.injEq];unfold swE;have e1:(i+1)%(backR t r).length=i+1:=by rw[back_len];exact Nat.mod_eq_of_lt (by omega)
   have e2:(r.length-1-1-i+1)%r.length=r.length-1-i:=by rw[Nat.mod_eq_of_lt (by omega)];omega
   refine Prod.ext ?_ ?_
   ·rw[back_get hi];simp only[e2]
   simp only[e1];rw[back_get (by omega)];congr 2;omega
  have hi2:i=r.length-1:=by omega
  rw[List.getElem?_append_right (by omega),hlen,List.getElem?_drop,show r.length-1+(i-(r.length-1))=r.length-1 by omega,allEd_get (by omega)];simp only[Option.map_some,Option.some.injEq];unfold swE;have e1:(i+1)%(backR t r).length=0:=by rw[back_len,show i+1=r.length by omega,Nat.mod_self]
  have e2:(r.length-1+1)%r.length=0:=by rw[show r.length-1+1=r.length by omega,Nat.mod_self]
  refine Prod.ext ?_ ?_
  ·rw[back_get hi];simp only[e2];congr 2;omega
  simp only[e1];rw[back_get (by omega)];congr 2
 rw[List.getElem?_eq_none (by rw[allEd_len,back_len];omega),List.getElem?_eq_none (by rw[List.length_map,List.length_append,List.length_reverse,List.length_take,List.length_drop,allEd_len];omega)]
theorem edges_back (t:Int×Int)(r:Ring):∃D L:List Edge,edgesV [r]=D++L/\edgesV [backR t r]=(D.reverse++L).map (swE t)/\L.length<=1:=by
 refine⟨((allEd r).take (r.length-1)).filter (fun e=>decide (e.1≠e.2)),((allEd r).drop (r.length-1)).filter (fun e=>decide (e.1≠e.2)),?_,?_,?_⟩
 ·rw[edges_all,<-List.filter_append,List.take_append_drop]
 ·rw[edges_all,allEd_back,List.filter_map]
  have e:((fun e:Edge=>decide (e.1≠e.2)) ∘ swE t)=(fun e:Edge=>decide (e.1≠e.2)):=by
   funext e;unfold swE;simp only[Function.comp];rw[decide_eq_decide];constructor
   ·intro h k;exact h (by rw[k])
   intro h k;exact h ((tr_inj.1 k).symm)
  rw[e,List.filter_append,List.filter_reverse]
 refine Nat.le_trans (List.length_filter_le _ _) ?_;rw[List.length_drop,allEd_len];omega
theorem edges_phi (t:Int×Int)(r:Ring):(edgesV [backR t r]).length=(edgesV [r]).length/\∃f:Nat->Nat,(∀i x,(edgesV [r])[i]?=some x->(edgesV [backR t r])[f i]?=some (swE t x)/\f i<(edgesV [r]).length)/\(∀i k,i<(edgesV [r]).length->k<(edgesV [r]).length->(f i=f k↔i=k)/\(((i+1)%(edgesV [r]).length=k\/(k+1)%(edgesV [r]).length=i)↔((f i+1)%(edgesV [r]).length=f k\/(f k+1)%(edgesV [r]).length=f i)))/\(∀j,j<(edgesV [r]).length->∃i,i<(edgesV [r]).length/\f i=j):=by
 obtain⟨D,L,h1,h2,h3⟩:=edges_back t r;rw[h1,h2];have hl:((D.reverse++L).map (swE t)).length=(D++L).length:=by simp
 refine⟨hl,?_⟩;have hm:(D++L).length=D.length+L.length:=List.length_append;generalize hM:(D++L).length=m at*
 by_cases hL:L.length=0
 ·have eL:L=[]:=List.eq_nil_of_length_eq_zero hL
  subst eL;refine⟨fun i=>m-1-i,?_,?_,?_⟩
  ·intro i x hx
   have hi:i<m:=by rw[<-hM];exact(List.getElem?_eq_some_iff.1 hx).1
   rw[List.append_nil]at hx;dsimp only
   refine⟨?_,by omega⟩;rw[List.append_nil,List.getElem?_map,List.getElem?_reverse (by simp at hm;omega),show D.length-1-(m-1-i)=i by simp at hm;omega,hx];rfl
  ·intro i k hi hk
   dsimp only
   exact⟨by omega,nb_back hi hk⟩
  intro j hj;exact⟨m-1-j,by omega,by dsimp only;omega⟩
 have hL1:L.length=1:=by omega
 refine⟨fun i=>if i=m-1 then m-1 else m-2-i,?_,?_,?_⟩
 ·intro i x hx
  have hi:i<m:=by rw[<-hM];exact(List.getElem?_eq_some_iff.1 hx).1
  dsimp only
  by_cases c:i=m-1
  ·rw[if_pos c]
   refine⟨?_,by omega⟩;rw[List.getElem?_append_right (by omega)]at hx;rw[List.getElem?_map,List.getElem?_append_right (by rw[List.length_reverse];omega),List.length_reverse,show m-1-D.length=i-D.length by omega,hx];rfl
  rw[if_neg c];refine⟨?_,by omega⟩;rw[List.getElem?_append_left (by omega)]at hx;rw[List.getElem?_map,List.getElem?_append_left (by rw[List.length_reverse];omega),List.getElem?_reverse (by omega),show D.length-1-(m-2-i)=i by omega,hx];rfl
 ·intro i k hi hk
  refine⟨?_,nb_back1 hi hk _ (fun x _=>rfl)⟩;dsimp only
  split<;>split<;>omega
 intro j hj;by_cases c:j=m-1
 ·exact⟨m-1,by omega,by dsimp only;rw[if_pos rfl];exact c.symm⟩
 exact⟨m-2-j,by omega,by dsimp only;rw[if_neg (by omega)];omega⟩
def mvR (t:Int×Int)(rs:List Ring):List Ring:=rs.map (backR t)
theorem back_back (t:Int×Int)(r:Ring):backR (-t.1,-t.2) (backR t r)=r:=by
  unfold backR;rw[List.map_reverse,List.map_reverse,List.map_reverse,List.reverse_reverse,List.map_map];have e:(trP (-t.1,-t.2) ∘ trP t)=id:=by
    funext p;unfold trP;simp only[Function.comp,id];exact Prod.ext (by dsimp only;omega) (by dsimp only;omega)
  rw[e,List.map_id]
theorem mv_mv (t:Int×Int)(rs:List Ring):mvR (-t.1,-t.2) (mvR t rs)=rs:=by
  unfold mvR;rw[List.map_map];have e:(backR (-t.1,-t.2) ∘ backR t)=id:=by funext r;exact back_back t r
  rw[e,List.map_id]
theorem allQ_mem:∀{rs:List Ring} {q0 q i:Nat} {r:Ring} {x:Edge},rs[q]?=some r->(edgesV [r])[i]?=some x->(⟨x.1,x.2,q0+q,i,(edgesV [r]).length⟩:EdE)∈allQ q0 rs
 | [],q0,q,i,r,x,h,_=>by simp at h
 |r0::rs,q0,0,i,r,x,h,hx=>by
  have e:r0=r:=by simpa using h
  subst e;unfold allQ;exact List.mem_append_left _ (List.mem_of_getElem? (edR_get hx))
 |r0::rs,q0,q+1,i,r,x,h,hx=>by
  unfold allQ;have:=allQ_mem (rs:=rs) (q0:=q0+1) (q:=q) (by simpa using h) hx;rw[show q0+1+q=q0+(q+1)by omega]at this;exact List.mem_append_right _ this
theorem eds_iff {rs:List Ring}(hok:okR rs=true){e:EdE}:e∈edsV rs↔∃(k:Nat) (r:Ring) (i:Nat) (x:Edge),rs[k]?=some r/\(edgesV [r])[i]?=some x/\e=⟨x.1,x.2,k,i,(edgesV [r]).length⟩:=by
  unfold edsV;rw[if_pos hok];constructor
  · exact allV_mem
  rintro⟨k,r,i,x,h1,h2,rfl⟩;rw[allV_eq];have:=allQ_mem (q0:=0) h1 h2;rw[Nat.zero_add]at this;exact this
theorem allQ_inj:∀{rs:List Ring} {q i k:Nat} {x y:EdE},(allQ q rs)[i]?=some x->(allQ q rs)[k]?=some y->x.r=y.r->x.i=y.i->i=k
  | [],q,i,k,x,y,hx,_,_,_=>by simp[allQ]at hx
  | r::rs,q,i,k,x,y,hx,hy,h1,h2=>by
    unfold allQ at hx hy;have hl:(edR q (edgesV [r]) (edgesV [r]).length).length=(edgesV [r]).length:=edR_len _ _ _;by_cases hi:i<(edgesV [r]).length<;>by_cases hk:k<(edgesV [r]).length
    · rw[List.getElem?_append_left (by omega)]at hx hy
      have a:=edR_mem hx;have b:=edR_mem hy;omega
    · rw[List.getElem?_append_left (by omega)]at hx
      rw[List.getElem?_append_right (by omega)]at hy;have a:=edR_mem hx;have b:=allQ_r hy;omega
    · rw[List.getElem?_append_right (by omega)]at hx
      rw[List.getElem?_append_left (by omega)]at hy;have a:=edR_mem hy;have b:=allQ_r hx;omega
    rw[List.getElem?_append_right (by omega),hl]at hx hy;have:=allQ_inj hx hy h1 h2;omega
theorem eds_inj {rs:List Ring}{i k:Nat}{x y:EdE}(hx:(edsV rs)[i]?=some x)(hy:(edsV rs)[k]?=some y)(h1:x.r=y.r)(h2:x.i=y.i):i=k:=by
  unfold edsV at hx hy;split at hx
  · rename_i h
    rw[if_pos h,allV_eq]at hy;rw[allV_eq]at hx;exact allQ_inj hx hy h1 h2
  simp at hx
theorem mv_pair {t:Int×Int}{rs:List Ring}(h1:okR rs=true)(h2:okR (mvR t rs)=true){x y:EdE}(hx:x∈edsV rs)(hy:y∈edsV rs)(hne:¬(x.r=y.r/\x.i=y.i)):
  ∃x' y':EdE,x'∈edsV (mvR t rs)/\y'∈edsV (mvR t rs)/\¬(x'.r=y'.r/\x'.i=y'.i)/\adjB x' y'=adjB x y/\x'.a=trP t x.b/\x'.b=trP t x.a/\y'.a=trP t y.b/\y'.b=trP t y.a:=by
 obtain⟨k,r,i,u,a1,a2,rfl⟩:=(eds_iff h1).1 hx;obtain⟨l,s,j,v,b1,b2,rfl⟩:=(eds_iff h1).1 hy;obtain⟨m1,f,f1,f2,_⟩:=edges_phi t r;have a1':(mvR t rs)[k]?=some (backR t r):=by unfold mvR;rw[List.getElem?_map,a1];rfl
 have b1':(mvR t rs)[l]?=some (backR t s):=by unfold mvR;rw[List.getElem?_map,b1];rfl
 by_cases hkl:k=l
 ·subst hkl
  rw[a1]at b1;injection b1 with b1
  subst b1;refine⟨⟨(swE t u).1,(swE t u).2,k,f i,(edgesV [backR t r]).length⟩,⟨(swE t v).1,(swE t v).2,k,f j,(edgesV [backR t r]).length⟩,(eds_iff h2).2 ⟨k,_,f i,_,a1',(f1 i u a2).1,rfl⟩,(eds_iff h2).2 ⟨k,_,f j,_,a1',(f1 j v b2).1,rfl⟩,?_,?_,rfl,rfl,rfl,rfl⟩
  ·rintro⟨_,e⟩
   have e2:=((f2 i j (List.getElem?_eq_some_iff.1 a2).1 (List.getElem?_eq_some_iff.1 b2).1).1).1 e;exact hne ⟨rfl,e2⟩
  have hn:=(f2 i j (List.getElem?_eq_some_iff.1 a2).1 (List.getElem?_eq_some_iff.1 b2).1).2;unfold adjB;rw[Bool.eq_iff_iff];simp only[Bool.and_eq_true,Bool.or_eq_true,decide_eq_true_eq,m1];exact⟨fun h=>⟨h.1,hn.2 h.2⟩,fun h=>⟨h.1,hn.1 h.2⟩⟩
 obtain⟨_,g,g1,_,_⟩:=edges_phi t s;refine⟨⟨(swE t u).1,(swE t u).2,k,f i,(edgesV [backR t r]).length⟩,⟨(swE t v).1,(swE t v).2,l,g j,(edgesV [backR t s]).length⟩,(eds_iff h2).2 ⟨k,_,f i,_,a1',(f1 i u a2).1,rfl⟩,(eds_iff h2).2 ⟨l,_,g j,_,b1',(g1 j v b2).1,rfl⟩,fun e=>hkl e.1,?_,rfl,rfl,rfl,rfl⟩;unfold adjB;dsimp only
 rw[decide_eq_false hkl];rfl
theorem seg_mv (t a b c d:Int×Int):segN (trP t b) (trP t a) (trP t d) (trP t c)=segN a b c d:=by rw[segN_tr,segN_rev,segN_rev2]
theorem crE {rs:List Ring}{z:Rat×Rat}:z∈crAll (edsV rs)↔∃x y:EdE,x∈edsV rs/\y∈edsV rs/\¬(x.r=y.r/\x.i=y.i)/\adjB x y=false/\segN x.a x.b y.a y.b=1/\z=(segX x.a x.b y.a y.b,segY x.a x.b y.a y.b):=by
 rw[crAll_mem];constructor
 ·rintro⟨i,k,y,x,hy,hx,hk,h⟩
  obtain⟨h1,h2,h3⟩:=crP_iff.1 h;exact⟨x,y,List.mem_of_getElem? hx,List.mem_of_getElem? hy,fun e=>by have:=eds_inj hx hy e.1 e.2;omega,h1,h2,h3⟩
 rintro⟨x,y,hx,hy,hne,h1,h2,h3⟩;obtain⟨k,hx⟩:=List.mem_iff_getElem?.1 hx;obtain⟨i,hy⟩:=List.mem_iff_getElem?.1 hy;rcases Nat.lt_trichotomy k i with h|h|h
 ·exact⟨i,k,y,x,hy,hx,h,crP_iff.2 ⟨h1,h2,h3⟩⟩
 ·subst h
  rw[hx]at hy;injection hy with e
  subst e;exact absurd ⟨rfl,rfl⟩ hne
 exact⟨k,i,x,y,hx,hy,h,crP_iff.2 ⟨by rw[adjB_swap];exact h1,by rw[segN_swap];exact h2,by rw[h3,segX_swap,segY_swap]⟩⟩
theorem cr_mv1 {t:Int×Int}{rs:List Ring}(h1:okR rs=true)(h2:okR (mvR t rs)=true){z:Rat×Rat}(h:z∈crAll (edsV rs)):(z.1+(t.1:Rat),z.2+(t.2:Rat))∈crAll (edsV (mvR t rs)):=by
 obtain⟨x,y,hx,hy,hne,k1,k2,rfl⟩:=crE.1 h;obtain⟨x',y',hx',hy',hne',ka,e1,e2,e3,e4⟩:=mv_pair h1 h2 hx hy hne;refine crE.2 ⟨x',y',hx',hy',hne',by rw[ka];exact k1,by rw[e1,e2,e3,e4,seg_mv];exact k2,?_⟩;rw[e1,e2,e3,e4];have k3:segN x.b x.a y.b y.a=1:=by rw[segN_rev,segN_rev2];exact k2
 rw[(segX_tr k3).1,(segX_tr k3).2,segX_rev,segX_rev2,segY_rev,segY_rev2]
theorem cr_mv {t:Int×Int}{rs:List Ring}(h1:okR rs=true)(h2:okR (mvR t rs)=true){z:Rat×Rat}:z∈crAll (edsV (mvR t rs))↔(z.1-(t.1:Rat),z.2-(t.2:Rat))∈crAll (edsV rs):=by
 constructor
 ·intro h
  have:=cr_mv1 (t:=(-t.1,-t.2)) h2 (by rw[mv_mv];exact h1) h;rw[mv_mv]at this;dsimp only at this
  rw[Rat.intCast_neg,Rat.intCast_neg,<-Rat.sub_eq_add_neg,<-Rat.sub_eq_add_neg]at this;exact this
 intro h;have:=cr_mv1 h1 h2 h;dsimp only at this
 rw[show z.1-(t.1:Rat)+(t.1:Rat)=z.1 by grind,show z.2-(t.2:Rat)+(t.2:Rat)=z.2 by grind]at this;exact this
theorem simP_swap (x y:EdE):simP x y=simP y x:=by rw[simP_eq,simP_eq,adjB_swap,segN_swap]
theorem simE {rs:List Ring}:simAll (edsV rs)=true↔∀x y:EdE,x∈edsV rs->y∈edsV rs->¬(x.r=y.r/\x.i=y.i)->simP x y=true:=by
 rw[simAll_iff];constructor
 ·intro h x y hx hy hne
  obtain⟨k,hx⟩:=List.mem_iff_getElem?.1 hx;obtain⟨i,hy⟩:=List.mem_iff_getElem?.1 hy;rcases Nat.lt_trichotomy k i with q|q|q
  ·exact h i k y x hy hx q
  ·subst q
   rw[hx]at hy;injection hy with e
   subst e;exact absurd ⟨rfl,rfl⟩ hne
  rw[simP_swap];exact h k i x y hx hy q
 intro h i k x y hx hy hk;exact h y x (List.mem_of_getElem? hy) (List.mem_of_getElem? hx) (fun e=>by have:=eds_inj hy hx e.1 e.2;omega)
theorem sim_mv1 {t:Int×Int}{rs:List Ring}(h1:okR rs=true)(h2:okR (mvR t rs)=true)(h:simAll (edsV (mvR t rs))=true):simAll (edsV rs)=true:=by
  rw[simE]at h⊢;intro x y hx hy hne;obtain⟨x',y',hx',hy',hne',ka,e1,e2,e3,e4⟩:=mv_pair h1 h2 hx hy hne;have:=h x' y' hx' hy' hne';rw[simP_eq,ka,e1,e2,e3,e4,seg_mv]at this;rw[simP_eq];exact this
theorem sim_mv {t:Int×Int}{rs:List Ring}(h1:okR rs=true)(h2:okR (mvR t rs)=true):simB (mvR t rs)=simB rs:=by
  unfold simB;rw[h1,h2,Bool.true_and,Bool.true_and,Bool.eq_iff_iff];refine⟨sim_mv1 h1 h2,fun h=> ?_⟩;refine sim_mv1 (t:=(-t.1,-t.2)) h2 (by rw[mv_mv];exact h1) ?_;rw[mv_mv];exact h
theorem pts_mv {t:Int×Int}{rs:List Ring}(h1:okR rs=true)(h2:okR (mvR t rs)=true){l l':List (Rat×Rat)}(hs:l.Pairwise (fun x y=>cmp2 x y<0))(hm:∀q,q∈l↔q∈crAll (edsV rs))(hs':l'.Pairwise (fun x y=>cmp2 x y<0))(hm':∀q,q∈l'↔q∈crAll (edsV (mvR t rs))):
  l'=l.map fun p=>(p.1+(t.1:Rat),p.2+(t.2:Rat)):=by
 refine strict_unique (lt:=fun x y=>cmp2 x y<0) cmp2_irr (fun a b c=>cmp2_trans) hs' ?_ (fun z=> ?_)
 ·rw[List.pairwise_map]
  refine hs.imp (fun {a b} h=> ?_);rw[cmp2_lt]at h⊢;dsimp only
  grind
 rw[hm',cr_mv h1 h2,<-hm,List.mem_map];constructor
 ·intro h;exact⟨_,h,Prod.ext (by dsimp only;grind) (by dsimp only;grind)⟩
 rintro⟨p,hp,rfl⟩;rw[show(p.1+(t.1:Rat)-(t.1:Rat),p.2+(t.2:Rat)-(t.2:Rat))=p from Prod.ext (by dsimp only;grind) (by dsimp only;grind)];exact hp
end Go.Proofs.YtiokhlgdelipdabGreat
namespace Go.Proofs.YtiokhlgdelipdabGreat
open Go.RowKit
attribute [local go_sem ↓] Go.wp_at_zero Go.wp_at_succ run_max_ii run_min_ii
theorem calls_len {P:Program}{f:FuncId}{A:Option Addr}{c n m:Nat}{w:World}{Φ:Ending->World->Prop}(h:n=m)(k:Calls P f #[.slice A n c] w Φ):Calls P f #[.slice A m c] w Φ:=h▸k
theorem elPoint:ElT Tryz.prog 45 41 2 16:=ElT.of (z:= .agg #[.int .i64 0,.int .i64 0]) Tryz.underlying45 (by kernel_rfl) rfl (by simp[NoUL,Value.cells]) (by decide)
theorem elPts:ElT Tryz.prog 22 45 1 24:=ElT.of (z:= .slice none 0 0) Tryz.underlying22 (by kernel_rfl) rfl (by simp[NoUL,Value.cells]) (by decide)
def ptC (p:Int×Int):List Value:=[.int .i64 p.1,.int .i64 p.2]
theorem ptC_len (p:Int×Int):(ptC p).length=2:=rfl
structure PnE where
  A:Option Addr
  c:Nat
  l:List (Int×Int)
def PnE.cells (o:PnE):List Value:=[.slice o.A o.l.length o.c]
theorem PnE.len (o:PnE):o.cells.length=1:=rfl
def PnE.Ok (b:Nat)(w:World)(o:PnE):Prop:=RowN w b 41 2 (.slice o.A o.l.length o.c) o.l.length (o.l.flatMap ptC)
theorem PnE.Ok.fr {b:Nat}{w0 W W':World}{m:List Ent}{ix n:Nat}{v:Value}{xs:List Value}{o:PnE}(h:o.Ok b W)(H:Hp w0 W m)(hi:m[ix]?=some (.row 45 1 v n xs))(x:Fr (fun k=>v.ownBlock=some k) W W'):o.Ok b W':=by
  obtain⟨h1,h2|⟨g,cap,rest,h3,h4,h5,h6⟩⟩:=h
  · exact⟨h1,.inl h2⟩
  refine⟨h1,.inr ⟨g,cap,rest,h3,h4,?_,h6⟩⟩;have h7:Blk W g 41 _:=h5;refine(x.block g h7.lt (fun hk=> ?_)).trans h7;have h8:=H.typ hi h7 (by exact hk);exact absurd (show(45:TypeId)=41 from h8) (by decide)
theorem PnE.Ok.ext {b:Nat}{W W':World}{o:PnE}(h:o.Ok b W)(x:Ext W W'):o.Ok b W':=RowN.ext h x
theorem pts_of {w:World}{b c:Nat}{A:Option Addr}{l:List (Int×Int)}(h:RowN w b 41 2 (.slice A l.length c) l.length (l.flatMap ptC)):PtsV w (.slice A l.length c) l:=by
 obtain⟨A',c',e,hf⟩:=h.form;injection e with e1 _ e3
 subst e1 e3;refine⟨A,c,rfl,fun hne=> ?_⟩;obtain⟨g,rfl⟩:=hf (List.length_pos_iff.2 hne);refine⟨g,0,rfl,fun i hi=> ?_⟩;have h1:l[i]?=some l[i]:=List.getElem?_eq_getElem hi;have hr:=RowN.elemG ptC_len h h1;have e:l.getD i (0,0)=l[i]:=by rw[List.getD_eq_getElem?_getD,h1];rfl
 rw[e,Nat.zero_add];exact⟨hr 0 _ rfl,hr 1 _ rfl⟩
theorem rows_rings {w:World}{b b2 c:Nat}{A:Option Addr}{os:List PnE}(h:RowN w b 45 1 (.slice A os.length c) os.length (os.flatMap PnE.cells))(ho:∀o,o∈os->o.Ok b2 w):RingsV w (.slice A os.length c) (os.map PnE.l):=by
 obtain⟨A',c',e,hf⟩:=h.form;injection e with e1 _ e3
 subst e1 e3;refine⟨A,c,by rw[List.length_map],fun h0=> ?_⟩;obtain⟨g,rfl⟩:=hf (by simpa using h0);refine⟨g,0,rfl,fun i r hr=> ?_⟩;rw[List.getElem?_map]at hr;cases h1:os[i]?with
 |none=>rw[h1]at hr;cases hr
 |some o=>
  rw[h1]at hr;obtain rfl:o.l=r:=Option.some.inj hr;have h2:=RowN.elemG PnE.len h h1;refine⟨o.A,o.c,?_,pts_of (ho o (List.mem_of_getElem? h1))⟩;have h3:=h2 0 _ rfl;rw[Nat.zero_add];simpa using h3
def smallP (p:Int×Int):Prop:=(-524288<=p.1/\p.1<=524288)/\(-524288<=p.2/\p.2<=524288)
theorem okR_mv {t:Int×Int}{rs:List Ring}(h:okR rs=true)(ht:(-100000<=t.1/\t.1<=100000)/\(-100000<=t.2/\t.2<=100000))(hs:∀r,r∈rs->∀p,p∈r->smallP p):okR (mvR t rs)=true:=by
 unfold okR at h⊢;rw[Bool.and_eq_true]at h⊢;refine⟨?_,List.all_eq_true.2 (fun r hr=> ?_)⟩
 ·have e:tot (mvR t rs)=tot rs:=by
   unfold tot mvR;rw[List.foldl_map];simp only[back_len]
  rw[e];exact h.1
 unfold mvR at hr;obtain⟨r0,h0,rfl⟩:=List.mem_map.1 hr;unfold okAll;refine List.all_eq_true.2 (fun p hp=> ?_);unfold backR at hp;obtain⟨q,hq,rfl⟩:=List.mem_map.1 hp;have hk:=hs r0 h0 q (List.mem_reverse.1 hq);unfold smallP at hk;unfold okPt trP;simp only[Bool.and_eq_true,decide_eq_true_eq];omega
theorem tmod_bd (x:Int): -100000<=x.tmod 100000/\x.tmod 100000<=100000:=by
  have h1:=Int.tmod_lt_of_pos x (show(0:Int)<100000 by decide);have h2:=Int.tmod_lt_of_pos (-x) (show(0:Int)<100000 by decide);rw[Int.neg_tmod]at h2;omega
theorem back_at {t:Int×Int}{r:Ring}{k:Nat}{p:Int×Int}(hk:k<r.length)(h:r[r.length-1-k]?=some p):(backR t r)[k]?=some (p.1+t.1,p.2+t.2):=by
  rw[List.getElem?_eq_getElem (by rw[back_len];exact hk),back_get hk];rw[List.getElem?_eq_getElem (by omega)]at h;rw[Option.some.inj h];rfl
theorem inv_at {t:Int×Int}{ps qs:List R2E}{i:Nat}{x y:R2E}(h:qs.map R2E.vl=(ps.map R2E.vl).map fun p=>(p.1+(t.1:Rat),p.2+(t.2:Rat)))(hx:ps[i]?=some x)(hy:qs[i]?=some y):x.p+(((t.1):Int):Rat)=y.p/\x.q+(((t.2):Int):Rat)=y.q:=by
  have h1:=congrArg (fun l=>l[i]?) h;simp only[List.getElem?_map,hx,hy,Option.map_some]at h1;have h2:=Option.some.inj h1;unfold R2E.vl at h2;injection h2 with h3 h4
  exact⟨h3.symm,h4.symm⟩
end Go.Proofs.YtiokhlgdelipdabGreat
namespace Go.Proofs.YtiokhlgdelipdabGreat
end Go.Proofs.YtiokhlgdelipdabGreat
namespace Go.Proofs.YtiokhlgdelipdabGreat
open Go.RowKit
section
variable {P:Program} {ρ:Operand->Value} {o:Oper} {w:World} {g n c k size:Nat} {z:Int} {t e:TypeId} {x y:Operand}
end
section
variable {w:World} {b g n c:Nat} {T:TypeId} {es:List R1E}
end
section
variable {w0 w w':World} {m:List Ent}
end
end Go.Proofs.YtiokhlgdelipdabGreat
namespace Go.Proofs.YtiokhlgdelipdabGreat
open Go.RowKit
attribute [local go_sem ↓] Go.wp_at_zero Go.wp_at_succ run_max_ii run_min_ii
def EvRet (a b:Int×Int)(rs:List Ring)(w:World)(e:Ending)(w':World):Prop:=
  ∃(v:Value) (es:List R1E),e= .returned v/\RowN w' w.heap.size 36 4 v es.length (es.flatMap R1E.cells)/\(es.map R1E.q).Pairwise (· < ·)/\(∀x,x∈es.map R1E.q↔x∈evL a b rs)/\(∀e,e∈es->e.Ok 24 w')/\Ext w w'
def EvI (X1 X6 X42 X63 Y64 X83 X93 X155:Nat)(a b:Int×Int)(r61 r62:RV)(base:List Rat)(A1:Option Addr)(m c1:Nat)(w W1:World)(pre:List OkE)(W:World):Prop:=
  ∃ (A:Option Addr) (n c:Nat) (es:List R1E) (A2:Option Addr) (c2:Nat),Hp w W [.blk X1 41 [.int .i64 a.1,.int .i64 a.2],.blk X6 41 [.int .i64 b.1,.int .i64 b.2],.blk X42 41 [.int .i64 a.1,.int .i64 a.2,.int .i64 b.1,.int .i64 b.2],.blk X63 36 [.bool r61.n,.slice r61.p r61.l r61.c,.bool r61.m,.slice r61.p2 r61.l2 r61.c2],.blk Y64 36 [.bool r62.n,.slice r62.p r62.l r62.c,.bool r62.m,.slice r62.p2 r62.l2 r62.c2],.row 36 4 (.slice A n c) (n) (List.flatMap R1E.cells es),.blk X83 56 [.slice A n c],.blk X93 89 [.func (.func 60) #[] #[.pointer (some ⟨X63,0,none⟩),.pointer (some ⟨Y64,0,none⟩),.pointer (some ⟨X83,0,none⟩)]],.blk X155 25 [.slice A2 pre.length c2],.row 42 4 (.slice A2 pre.length c2) (pre.length) (List.flatMap edC (pre.map Subtype.val))]/\Dig W1 W/\(∀k,Value.ownBlock (.slice A n c)=some k->Value.ownBlock (.slice A1 m c1)=some k\/W1.heap.size<=k)/\(∀k,Value.ownBlock (.slice A2 pre.length c2)=some k->W1.heap.size<=k)/\
    es.map R1E.q=base++evC a b [] (pre.map Subtype.val)/\n=es.length/\n<=5000+5000*pre.length/\(∀e,e∈es->e.Ok 24 W)/\W1.heap.size<=W.heap.size
theorem evI_own (X1 X6 X42 X63 Y64 X83 X93 X155:Nat)(a b:Int×Int)(r61 r62:RV)(base:List Rat)(A1:Option Addr)(m c1:Nat)(w W1:World)(hw:w.heap.size<=W1.heap.size):OwnFrom W1.heap.size (EvI X1 X6 X42 X63 Y64 X83 X93 X155 a b r61 r62 base A1 m c1 w W1):=by
 rintro s W W' row ⟨A,n,c,es,A2,c2,h1,h2,h3,h4,h5,h6,h7,h8,h9⟩ hg hr;have d:Dig W W':=Dig.keptQ hg (fun k hk=>(hr k hk).2);exact⟨A,n,c,es,A2,c2,h1.keptQ hg (fun k hk=>⟨Nat.le_trans hw (hr k hk).1,(hr k hk).2⟩),h2.trans d,h3,h4,h5,h6,h7,fun e he=>(h8 e he).dig d,Nat.le_trans h9 hg.size⟩
def EvA (X1 X6 X93 X155:Nat)(W1:World)(x:OkE)(a':Act)(W:World):Prop:=
  ∃(J:Nat->Value) (Xp Xq:Nat),Blk W Xp 41 ([.int .i64 x.1.1.1,.int .i64 x.1.1.2]:List Value).toArray/\Blk W Xq 41 ([.int .i64 x.1.2.1,.int .i64 x.1.2.2]:List Value).toArray/\Xp≠Xq/\W1.heap.size<=Xp/\W1.heap.size<=Xq/\a'={tmps:=#[J 0,J 1,J 2,J 3,.pointer (some ⟨X1,0,none⟩),.pointer (some ⟨X6,0,none⟩),J 6,J 7,J 8,J 9,.pointer (some ⟨X93,0,none⟩),J 11,J 12,J 13,J 14,.pointer (some ⟨X155,0,none⟩),.pointer (some ⟨Xp,0,none⟩),.pointer (some ⟨Xq,0,none⟩),J 18,J 19,J 20,J 21,J 22,J 23,J 24,J 25,J 26,J 27,J 28,J 29,J 30,J 31,J 32,J 33,J 34,J 35,J 36,J 37,J 38,J 39,J 40,J 41,J 42,J 43,J 44,J 45,J 46,J 47,J 48,J 49,J 50,J 51,J 52,J 53,J 54,J 55,J 56,J 57,J 58,J 59,J 60,J 61,J 62,J 63,J 64,J 65,J 66,J 67,J 68,J 69,J 70,J 71,J 72,J 73,J 74,J 75,J 76,J 77,J 78,J 79,J 80,J 81,J 82,J 83,J 84,J 85,J 86,J 87,J 88,J 89,J 90,J 91,J 92,J 93,J 94,J 95,J 96,J 97,J 98,J 99,J 100,J 101,J 102,J 103,J 104,J 105,J 106,J 107,J 108,J 109,J 110,J 111,J 112,J 113,J 114,J 115,J 116,J 117,J 118,J 119,J 120,J 121,J 122,J 123,J 124,J 125,J 126,J 127,J 128,J 129],defers:=[]}
theorem evA_own (X1 X6 X93 X155:Nat)(W1:World)(x:OkE)(a':Act):OwnFrom W1.heap.size (fun(_:Unit) W=>EvA X1 X6 X93 X155 W1 x a' W):=by
  rintro _ W W' row ⟨J,Xp,Xq,h1,h2,h3⟩ hg hr;exact⟨J,Xp,Xq,h1.kept hg (fun k hk=>(hr k hk).2),h2.kept hg (fun k hk=>(hr k hk).2),h3⟩
theorem evA_mk {X1 X6 X93 X155 Xp Xq:Nat}{W1 W:World}{x:OkE}{a':Act}(h1:Blk W Xp 41 ([.int .i64 x.1.1.1,.int .i64 x.1.1.2]:List Value).toArray)(h2:Blk W Xq 41 ([.int .i64 x.1.2.1,.int .i64 x.1.2.2]:List Value).toArray)(h3:Xp≠Xq)(h4:W1.heap.size<=Xp)(h5:W1.heap.size<=Xq)
    (h6:a'={tmps:=#[a'.tmps.getD 0 undef,a'.tmps.getD 1 undef,a'.tmps.getD 2 undef,a'.tmps.getD 3 undef,.pointer (some ⟨X1,0,none⟩),.pointer (some ⟨X6,0,none⟩),a'.tmps.getD 6 undef,a'.tmps.getD 7 undef,a'.tmps.getD 8 undef,a'.tmps.getD 9 undef,.pointer (some ⟨X93,0,none⟩),a'.tmps.getD 11 undef,a'.tmps.getD 12 undef,a'.tmps.getD 13 undef,a'.tmps.getD 14 undef,.pointer (some ⟨X155,0,none⟩),.pointer (some ⟨Xp,0,none⟩),.pointer (some ⟨Xq,0,none⟩),a'.tmps.getD 18 undef,a'.tmps.getD 19 undef,a'.tmps.getD 20 undef,a'.tmps.getD 21 undef,a'.tmps.getD 22 undef,a'.tmps.getD 23 undef,a'.tmps.getD 24 undef,a'.tmps.getD 25 undef,a'.tmps.getD 26 undef,a'.tmps.getD 27 undef,a'.tmps.getD 28 undef,a'.tmps.getD 29 undef,a'.tmps.getD 30 undef,a'.tmps.getD 31 undef,a'.tmps.getD 32 undef,a'.tmps.getD 33 undef,a'.tmps.getD 34 undef,a'.tmps.getD 35 undef,a'.tmps.getD 36 undef,a'.tmps.getD 37 undef,a'.tmps.getD 38 undef,a'.tmps.getD 39 undef,a'.tmps.getD 40 undef,a'.tmps.getD 41 undef,a'.tmps.getD 42 undef,a'.tmps.getD 43 undef,a'.tmps.getD 44 undef,a'.tmps.getD 45 undef,a'.tmps.getD 46 undef,a'.tmps.getD 47 undef,a'.tmps.getD 48 undef,a'.tmps.getD 49 undef,a'.tmps.getD 50 undef,a'.tmps.getD 51 undef,a'.tmps.getD 52 undef,a'.tmps.getD 53 undef,a'.tmps.getD 54 undef,a'.tmps.getD 55 undef,a'.tmps.getD 56 undef,a'.tmps.getD 57 undef,a'.tmps.getD 58 undef,a'.tmps.getD 59 undef,a'.tmps.getD 60 undef,a'.tmps.getD 61 undef,a'.tmps.getD 62 undef,a'.tmps.getD 63 undef,a'.tmps.getD 64 undef,a'.tmps.getD 65 undef,a'.tmps.getD 66 undef,a'.tmps.getD 67 undef,a'.tmps.getD 68 undef,a'.tmps.getD 69 undef,a'.tmps.getD 70 undef,a'.tmps.getD 71 undef,a'.tmps.getD 72 undef,a'.tmps.getD 73 undef,a'.tmps.getD 74 undef,a'.tmps.getD 75 undef,a'.tmps.getD 76 undef,a'.tmps.getD 77 undef,a'.tmps.getD 78 undef,a'.tmps.getD 79 undef,a'.tmps.getD 80 undef,a'.tmps.getD 81 undef,a'.tmps.getD 82 undef,a'.tmps.getD 83 undef,a'.tmps.getD 84 undef,a'.tmps.getD 85 undef,a'.tmps.getD 86 undef,a'.tmps.getD 87 undef,a'.tmps.getD 88 undef,a'.tmps.getD 89 undef,a'.tmps.getD 90 undef,a'.tmps.getD 91 undef,a'.tmps.getD 92 undef,a'.tmps.getD 93 undef,a'.tmps.getD 94 undef,a'.tmps.getD 95 undef,a'.tmps.getD 96 undef,a'.tmps.getD 97 undef,a'.tmps.getD 98 undef,a'.tmps.getD 99 undef,a'.tmps.getD 100 undef,a'.tmps.getD 101 undef,a'.tmps.getD 102 undef,a'.tmps.getD 103 undef,a'.tmps.getD 104 undef,a'.tmps.getD 105 undef,a'.tmps.getD 106 undef,a'.tmps.getD 107 undef,a'.tmps.getD 108 undef,a'.tmps.getD 109 undef,a'.tmps.getD 110 undef,a'.tmps.getD 111 undef,a'.tmps.getD 112 undef,a'.tmps.getD 113 undef,a'.tmps.getD 114 undef,a'.tmps.getD 115 undef,a'.tmps.getD 116 undef,a'.tmps.getD 117 undef,a'.tmps.getD 118 undef,a'.tmps.getD 119 undef,a'.tmps.getD 120 undef,a'.tmps.getD 121 undef,a'.tmps.getD 122 undef,a'.tmps.getD 123 undef,a'.tmps.getD 124 undef,a'.tmps.getD 125 undef,a'.tmps.getD 126 undef,a'.tmps.getD 127 undef,a'.tmps.getD 128 undef,a'.tmps.getD 129 undef],defers:=[]}):EvA X1 X6 X93 X155 W1 x a' W:=⟨fun q=>a'.tmps.getD q undef,Xp,Xq,h1,h2,h3,h4,h5,h6⟩
theorem eventYs_any (u:Value)(rs:List Ring)(a b:Int×Int)(w:World)(hu:RingsV w u rs)(hn:rs.length<=1048576)(hr:∀r,r∈rs->r.length<=1048576):
  Calls Tryz.prog 23 #[u,.agg #[.int .i64 a.1,.int .i64 a.2],.agg #[.int .i64 b.1,.int .i64 b.2]] w (EvRet a b rs w):=by
 have HU:=zH hu;have HN:=zH hn;have HR:=zH hr;obtain⟨A,cu,rfl,hA⟩:=hu;have HA:=zH hA;clear hA hr;refine(callsIn_wide (n:=4)).1 ?_;refine callsIn_of_wp_marks Tryz.func23 rfl trivial ?_ rfl;simp only[Tryz.ntmps23,List.size_toArray,List.length_cons,List.length_nil,Nat.reduceAdd,Nat.reduceSub,Array.replicate_succ,Array.replicate_zero,List.push_toArray,List.append_toArray,List.nil_append,List.cons_append];refine wpIn_wide.2 ?_;refine Go.Code.wp_mono bodyPostQ.m ?_;have H0:=zH (Hp.start w);go_upto_region 0 with fail
 refine wl ?_;refine aA' 41 [.int .i64 a.1,.int .i64 a.2] H0.out ?_;intro X1 w2 H3 _;refine aA' 41 [.int .i64 b.1,.int .i64 b.2] H3.out ?_;intro X6 w7 H8 _;refine zI1 (Hp.start _) _ ?_;rcases emH (okR rs=true)with HVQ|HVQ
 ·have HV:=HVQ
  rcases emH (okAll [a,b]=true)with HB|HB
  ·have HALL:=HB
   rcases emH (b.2<=a.2)with HLE|HLE
   ·go_upto_region 1 with fail
    refine wl ?_;refine zI1 (Hp.start _) _ ?_;refine zc (polyValid_any _ rs _ (HU.out.ext H8.out.ext) HN.out HR.out) ?_;rintro e w16 ⟨rfl,hx⟩;have H17:=zH (H8.out.step hx);clear hx;refine⟨.bool true,by rw[HV.out],?_⟩;try simp only[Act.put,zA,zB,zC]
    refine zI4 H17.out (.bool false) (.bool false) _ _ ?_;refine aL' 2 41 [.int .i64 a.1,.int .i64 a.2,.int .i64 b.1,.int .i64 b.2] H17.out ?_;intro X21 w22 H23 _;refine zc (may_any (.slice (some ⟨X21,0,none⟩) 2 2) [a,b] _ (ptsLit2 H23.out (i:=2) rR) (by simp)) ?_;rintro e w25 ⟨rfl,hx⟩;have H26:=zH (H23.out.step hx);clear hx;refine⟨.bool true,by rw[HALL.out],?_⟩;try simp only[Act.put,zA,zB,zC]
    refine zI7 H26.out (.bool false) (.bool false) (.bool false) _ _ _ _ ?_;refine zp (.bool true) (by exact ezo (e:=(dec_t (by have ob0:=HLE.out;omega)))) ?_;refine zq (.bool true) ?_;go_upto_region 2 with fail
    refine wl ?_;refine zI1 (Hp.start _) _ ?_;go_wp2_with fail
    exact⟨_,results_tmp rfl _ _ _,_,[],rfl,RowN.nil _ _ _ _,by simp,by rw[show evL a b rs=[]from if_neg (fun h=>by have h1:=h.2.2.2;have h2:=HLE.out;omega)];simp,by simp,H26.out.ext⟩
   go_upto_region 1 with fail
   refine wl ?_;refine zI1 (Hp.start _) _ ?_;refine zc (polyValid_any _ rs _ (HU.out.ext H8.out.ext) HN.out HR.out) ?_;rintro e w37 ⟨rfl,hx⟩;have H38:=zH (H8.out.step hx);clear hx;refine⟨.bool true,by rw[HV.out],?_⟩;try simp only[Act.put,zA,zB,zC]
   refine zI4 H38.out (.bool false) (.bool false) _ _ ?_;refine aL' 2 41 [.int .i64 a.1,.int .i64 a.2,.int .i64 b.1,.int .i64 b.2] H38.out ?_;intro X42 w43 H44 _;refine zc (may_any (.slice (some ⟨X42,0,none⟩) 2 2) [a,b] _ (ptsLit2 H44.out (i:=2) rR) (by simp)) ?_;rintro e w46 ⟨rfl,hx⟩;have H47:=zH (H44.out.step hx);clear hx;refine⟨.bool true,by rw[HALL.out],?_⟩;try simp only[Act.put,zA,zB,zC]
   refine zI7 H47.out (.bool false) (.bool false) (.bool false) _ _ _ _ ?_;refine zp (.bool false) (by exact ezo (e:=(dec_f (by have ob0:=HLE.out;omega)))) ?_;refine zq (.bool false) ?_;have hok:=okAll2.1 HB.out;have oa:=okP_out hok.1;have ob:=okP_out hok.2;have HOK:=zH hok;clear hok;go_upto_region 3 with fail
   refine zy ?_;have H56:=zH (H47.out.step (Ext.refl w46).drew);refine zJ4 H47.out zb (bs 10 27) 0 1 3 4 _ _ _ _ ?_;refine tuple2 (f:=2) 2 5 6 7 46 49 7 8 36 z4 (fun v w=>∃c,v= .agg c/\NIs w c (((a.2):Int):Rat)) (fun v w=>∃c,v= .agg c/\NIs w c (((b.2):Int):Rat)) rfl rfl rfl rfl dC dC kR (fun _ hx=>zb.trans hx) (fun _ _ _ h e=>by obtain⟨c,h1,h2⟩:=h;exact⟨c,h1,h2.ext e⟩) (fun _ _ _ h e=>by obtain⟨c,h1,h2⟩:=h;exact⟨c,h1,h2.ext e⟩) ?ht60c1 ?ht60c2 ?ht60c3 ?ht60c4 ?ht60e _ _ _ _ kR rfl;case ht60c1=>
    intro v1 v2 v3 v4 w1 K hxq hSw hK;try simp only[Act.put,zA,zB,zC]
    rw[if_pos (by rfl)];refine wp_call_op (by go_simp) (pFrom a.2 _ (by omega) (by omega)) ?_;rintro e w' ⟨c_,rfl,hc_,hx⟩;refine⟨_,rfl,?_⟩;have hk:=hK.out _ _ ⟨c_,rfl,hc_⟩ hx;try simp only[Act.put,zA,zB,zC]
    simp only[Act.put,zA,zB,zC]at hk;exact hk
   case ht60c2=>
    intro v1 v2 v3 v4 w1 K hxq hSw hK;try simp only[Act.put,zA,zB,zC]
    rw[if_pos (by rfl)];refine wp_call_op (by go_simp) (pFrom b.2 _ (by omega) (by omega)) ?_;rintro e w' ⟨c_,rfl,hc_,hx⟩;refine⟨_,rfl,?_⟩;have hk:=hK.out _ _ ⟨c_,rfl,hc_⟩ hx;try simp only[Act.put,zA,zB,zC]
    simp only[Act.put,zA,zB,zC]at hk;exact hk
   case ht60c3=>
    intro v1 v2 v3 v4 w1 K hxq hSw hK;try simp only[Act.put,zA,zB,zC]
    go_simp
    have hk:=hK.out;simp only[Act.put,zA,zB,zC]at hk;exact hk
   case ht60c4=>
    intro v1 v2 v3 v4 w1 K hxq hSw hK;try simp only[Act.put,zA,zB,zC]
    go_simp
    have hk:=hK.out;simp only[Act.put,zA,zB,zC]at hk;exact hk
   case ht60e=>
   intro v1_ v2_ X63 Y64 w65 hx hSw xp1 xp2 xb1 xb2 xz1 xz2 n12;have hh:=H56.out.add2 hx xb1 xb2 xz1 xz2 n12 (by simp[NoUL]) (by simp[NoUL]);have H66:=hN hh;have S68:=zH (zb.trans hx);have G69:=zH (Nat.le_trans zb.size xz1);have G70:=zH (Nat.le_trans zb.size xz2);obtain⟨c_,rfl,hc_⟩:=xp1;obtain⟨r61,rfl,hr_⟩:=hc_;have R61:=zH hr_;have B61:=zH (rl_i64 a.2 (by omega) (by omega));clear hr_;obtain⟨c_,rfl,hc_⟩:=xp2;obtain⟨r62,rfl,hr_⟩:=hc_;have R62:=zH hr_;have B62:=zH (rl_i64 b.2 (by omega) (by omega));clear hr_ hh hx hSw xb1 xb2 xz1 xz2 n12
   (try simp only[zA,zB,zC])
   refine bS 3 8 (bs 10 511) (rc r61) H66.out S68.out G69.out ?_;intro w71 H72 D72 S74;refine bS 4 9 (bs 10 1023) (rc r62) H72.out S74.out G70.out ?_;intro w75 H76 D76 S78;refine wpAnyH_done kR ?_ _;go_upto_region 4 with fail
   refine wl ?_;refine zI2 H76.out _ _ ?_;refine aL' 2 36 [.bool r61.n,.slice r61.p r61.l r61.c,.bool r61.m,.slice r61.p2 r61.l2 r61.c2,.bool r62.n,.slice r62.p r62.l r62.c,.bool r62.m,.slice r62.p2 r62.l2 r62.c2] H76.out ?_;intro X79 w80 H81 D81;refine aA' 56 [.slice none 0 0] H81.out ?_;intro X83 w84 H85 D85;refine aU' 6 (.slice (some ⟨X79,0,none⟩) 2 2) H85.out ?_;intro w88 H89 D89;have H91:=zH (show Hp w w88 [.blk X1 41 [.int .i64 a.1,.int .i64 a.2],.blk X6 41 [.int .i64 b.1,.int .i64 b.2],.blk X42 41 [.int .i64 a.1,.int .i64 a.2,.int .i64 b.1,.int .i64 b.2],.blk X63 36 (rc r61),.blk Y64 36 (rc r62),ro 36 4 (some ⟨X79,0,none⟩) 2 2 R1E.cells ([(⟨r61,(((a.2):Int):Rat)⟩:R1E),(⟨r62,(((b.2):Int):Rat)⟩:R1E)]),.blk X83 56 [.slice (some ⟨X79,0,none⟩) 2 2]]from H89.out.turn (r:=none) (i:=5) (e:= .blk X79 36 [.bool r61.n,.slice r61.p r61.l r61.c,.bool r61.m,.slice r61.p2 r61.l2 r61.c2,.bool r62.n,.slice r62.p r62.l r62.c,.bool r62.m,.slice r62.p2 r62.l2 r62.c2]) (e':= .row 36 4 (.slice (some ⟨X79,0,none⟩) 2 2) (2) (List.flatMap R1E.cells ([(⟨r61,(((a.2):Int):Rat)⟩:R1E),(⟨r62,(((b.2):Int):Rat)⟩:R1E)]))) (by rfl) (fun k h=>by cases h) (World.grownBy.refl _ _) (H89.out.litRow17 (i:=5) (n:=2) (by rfl) (by rfl) (by decide)) (fun k hk=> .inl hk));go_upto_region 5 with fail
   refine wl ?_;refine zI1 (Hp.start _) _ ?_;refine aA' 89 [.nilFunc] H91.out ?_;intro X93 w94 H95 D95;refine aU' 7 (.func (.func 60) #[] #[.pointer (some ⟨X63,0,none⟩),.pointer (some ⟨Y64,0,none⟩),.pointer (some ⟨X83,0,none⟩)]) H95.out ?_;intro w98 H99 D99;have DD101:=tD (tD (tD (tD (tD (tD D72 D76) D81) D85) D89) D95) D99;have HOE0:=zH (show∀e,e∈[(⟨r61,(((a.2):Int):Rat)⟩:R1E),(⟨r62,(((b.2):Int):Rat)⟩:R1E)]->e.Ok 24 w98 from(by simp only[List.forall_mem_cons,List.not_mem_nil,false_imp_iff,implies_true,and_true];exact⟨⟨(R61.out.dig DD101.out),Nat.le_trans B61.out (by decide)⟩,⟨(R62.out.dig DD101.out),Nat.le_trans B62.out (by decide)⟩⟩));go_upto_region 6 with fail
   refine wl ?_;refine zI3 (Hp.start _) _ (.int .i64 ((rs.length:Nat):Int)) _ ?_;go_wp2_with fail
   go_loopg [56] (rs.length) (fun cq v105 wr=>∃(i:Nat) (m:Nat) (es:List R1E) (A1:Option Addr) (c1:Nat),cq=rs.length-i/\v105= .int .i64 (i:Int)/\(i<=rs.length)/\(m=es.length/\m<=2+tot (rs.take i))/\(es.map R1E.q=[(((a.2):Int):Rat),(((b.2):Int):Rat)]++evP a b (rs.take i))/\(∀e,e∈es->e.Ok 24 wr)/\Hp w wr [.blk X1 41 [.int .i64 a.1,.int .i64 a.2],.blk X6 41 [.int .i64 b.1,.int .i64 b.2],.blk X42 41 [.int .i64 a.1,.int .i64 a.2,.int .i64 b.1,.int .i64 b.2],.blk X63 36 [.bool r61.n,.slice r61.p r61.l r61.c,.bool r61.m,.slice r61.p2 r61.l2 r61.c2],.blk Y64 36 [.bool r62.n,.slice r62.p r62.l r62.c,.bool r62.m,.slice r62.p2 r62.l2 r62.c2],.row 36 4 (.slice A1 m c1) (m) (List.flatMap R1E.cells es),.blk X83 56 [.slice A1 m c1],.blk X93 89 [.func (.func 60) #[] #[.pointer (some ⟨X63,0,none⟩),.pointer (some ⟨Y64,0,none⟩),.pointer (some ⟨X83,0,none⟩)]]]/\Dig w98 wr)
   case atStart=>exact⟨0,2,[(⟨r61,(((a.2):Int):Rat)⟩:R1E),(⟨r62,(((b.2):Int):Rat)⟩:R1E)],some ⟨X79,0,none⟩,2,rfl,rfl,Nat.zero_le _,⟨rfl,by simp[tot]⟩,rfl,HOE0.out,H99.out,Dig.refl _⟩
   obtain⟨i,m,es,A1,c1,rfl,rfl,q_HKI,q_HM,q_HES,q_HOE,hh_,hd_⟩:=hrel;generalize wr=w106 at*
   have HKI:=zH q_HKI;clear q_HKI;have HM:=zH q_HM;clear q_HM;have HES:=zH q_HES;clear q_HES;have HOE:=zH q_HOE;clear q_HOE;have H108:=zH hh_;have D108:=zH hd_;clear hh_ hd_ H99;rcases emH (i<rs.length)with HLT|HLT
   ·have hlt:=HLT.out
    obtain⟨r,hri_⟩:∃r,rs[i]?=some r:=⟨_,List.getElem?_eq_getElem hlt⟩;have HRI:=zH hri_;have hrl:=HR.out r (List.mem_of_getElem? hri_);obtain⟨g,off,rfl,hp_⟩:=HA.out (by omega);obtain⟨B,cb,h1_,A2_,cb2_,hv_,h2_⟩:=hp_ i r hri_;injection hv_ with e1_ e2_ e3_
    subst e1_;subst e3_;have HRC:=zH h1_;have HPT:=zH h2_;clear hri_ h1_ h2_ hp_ e2_;go_upto_region 7 with fail
    refine wl ?_;refine zp (.bool true) (by exact ezl (e:=(dec_t (by omega)))) ?_;go_upto_region 8 with fail
    refine wl ?_;refine zp (.pointer (some ⟨g,off+i,none⟩)) (by exact ezi (k:=i) Tryz.underlying22 (l:=hlt) (f:=(show off+i=off+i*1 by omega))) ?_;refine ze g (off+i) (.slice B r.length cb) (range_one (H108.out.ext.get HRC.out)) ?_;refine zI1 (Hp.start _) _ ?_;go_upto_region 9 with fail
    refine wl ?_;refine zI3 (Hp.start _) _ (.int .i64 ((r.length:Nat):Int)) _ ?_;have HT2:=zH (show tot (rs.take i)+r.length<=4096 from by have h_:=tot_succ HRI.out;have h2_:=tot_take rs (i+1);have h3_:=okR_tot HV.out;omega);go_wp2_with fail
    go_loopg [62] (r.length) (fun cq v116 wr=>∃(k:Nat) (m2:Nat) (es2:List R1E) (A2:Option Addr) (c2:Nat),cq=r.length-k/\v116= .int .i64 (k:Int)/\(k<=r.length)/\(m2=es2.length/\m2<=2+(tot (rs.take i)+k))/\(es2.map R1E.q=[(((a.2):Int):Rat),(((b.2):Int):Rat)]++evP a b (rs.take i)++(r.take k).flatMap (fun p=>btw (((a.2):Int):Rat) (((b.2):Int):Rat) (p.2:Rat)))/\(∀e,e∈es2->e.Ok 24 wr)/\Hp w wr [.blk X1 41 [.int .i64 a.1,.int .i64 a.2],.blk X6 41 [.int .i64 b.1,.int .i64 b.2],.blk X42 41 [.int .i64 a.1,.int .i64 a.2,.int .i64 b.1,.int .i64 b.2],.blk X63 36 [.bool r61.n,.slice r61.p r61.l r61.c,.bool r61.m,.slice r61.p2 r61.l2 r61.c2],.blk Y64 36 [.bool r62.n,.slice r62.p r62.l r62.c,.bool r62.m,.slice r62.p2 r62.l2 r62.c2],.row 36 4 (.slice A2 m2 c2) (m2) (List.flatMap R1E.cells es2),.blk X83 56 [.slice A2 m2 c2],.blk X93 89 [.func (.func 60) #[] #[.pointer (some ⟨X63,0,none⟩),.pointer (some ⟨Y64,0,none⟩),.pointer (some ⟨X83,0,none⟩)]]]/\Dig w106 wr)
    case atStart=>exact⟨0,m,es,A1,c1,rfl,rfl,Nat.zero_le _,⟨HM.out.1,HM.out.2⟩,(by rw[HES.out];simp),(fun g_ hg_=>(HOE.out g_ hg_)),H108.out,Dig.refl _⟩
    obtain⟨k,m2,es2,A2,c2,rfl,rfl,q_HKU,q_HM2,q_HES2,q_HOE2,hh_,hd_⟩:=hrel;generalize wr=w117 at*
    have HKU:=zH q_HKU;clear q_HKU;have HM2:=zH q_HM2;clear q_HM2;have HES2:=zH q_HES2;clear q_HES2;have HOE2:=zH q_HOE2;clear q_HOE2;have H119:=zH hh_;have D119:=zH hd_;clear hh_ hd_ H108;rcases emH (k<r.length)with HLU|HLU
    ·have hlu:=HLU.out
     have hr0:r≠ []:=by intro h_;rw[h_]at hlu;simp at hlu
     obtain⟨gr,ofr,rfl,hpa_⟩:=HPT.out hr0;have HPA:=zH hpa_;obtain⟨p,hp_⟩:∃p,r[k]?=some p:=⟨_,List.getElem?_eq_getElem hlu⟩;have HPK:=zH hp_;have HPR:=zH (ptAt_range hpa_ hp_);have HKP:=zH (okR_ptk HV.out HRI.out hp_);have op:=okP_out HKP.out;clear hp_ hpa_;go_upto_region 10 with fail
     refine wl ?_;refine zp (.bool true) (by exact ezl (e:=(dec_t (by omega)))) ?_;go_upto_region 11 with fail
     refine wl ?_;refine zp (.pointer (some ⟨gr,ofr+k*2,none⟩)) (by exact ezi (k:=k) Tryz.underlying45 (l:=hlu) (f:=rfl)) ?_;refine zd gr (ofr+k*2) [.int .i64 p.1,.int .i64 p.2] (range_ext HPR.out H119.out.ext) Tryz.underlying41 ?_;refine aA' 41 [.int .i64 0,.int .i64 0] H119.out ?_;intro X123 w124 H125 D125;refine aS' 8 [.int .i64 p.1,.int .i64 p.2] H125.out ?_;intro w128 H129 D129;go_upto_region 12 with fail
     refine wp_region_held_drew (S:=fun x=>Fr (fun kz=>kz=X83\/Value.ownBlock (.slice A2 m2 c2)=some kz) w128 x) kR (Fr.of_ext zb) (fun _=> ?_);have H131:=zH (H129.out.step (Ext.refl w128).drew);have D131:=zH (Dig.of_ext (w:=w128) zb);refine md_ld1 (g:=X93) (o:=0) (v:= .func (.func 60) #[] #[.pointer (some ⟨X63,0,none⟩),.pointer (some ⟨Y64,0,none⟩),.pointer (some ⟨X83,0,none⟩)]) (i:=0) (listed':=(bs 5 1)) rR kR kR kR (by intro _ _ _ h;exact h) rR (fun x hx=>Fr.cell hx (show World.cell? w128 ⟨X93,0,none⟩=some (.func (.func 60) #[] #[.pointer (some ⟨X63,0,none⟩),.pointer (some ⟨Y64,0,none⟩),.pointer (some ⟨X83,0,none⟩)])from cell_of_range (H129.out.range (i:=7) rR 0 1)) (fun hk=>hk.elim (H129.out.offBlk (i:=7) (j:=6) rR rR dC rR) (H129.out.offRow (i:=7) (j:=5) rR rR dC rR))) (by intro x hq;go_simp<;>with_reducible rfl) (Fr.of_ext zb) kR ?_;try simp only[Act.put,zA,zB,zC]
     refine zx 1 (bs 5 3) (.pointer (some ⟨X123,1,none⟩)) (Fr.of_ext zb) ?_;refine md_ld1 (g:=X123) (o:=1) (v:= .int .i64 p.2) (i:=2) (listed':=(bs 5 7)) rR kR kR kR (by intro _ _ _ h;exact h) rR (fun x hx=>Fr.cell hx (show World.cell? w128 ⟨X123,1,none⟩=some (.int .i64 p.2)from cell_of_range (H129.out.range (i:=8) rR 1 1)) (fun hk=>hk.elim (H129.out.offBlk (i:=8) (j:=6) rR rR dC rR) (H129.out.offRow (i:=8) (j:=5) rR rR dC rR))) (by intro x hq;go_simp<;>with_reducible rfl) (Fr.of_ext zb) kR ?_;try simp only[Act.put,zA,zB,zC]
     refine mC 3 (bs 5 15) (pFrom p.2 _ (by omega) (by omega)) ?_;rintro e w134 ⟨c_,rfl,hc_,hx⟩;have H136:=zH (H131.out.step hx);have D136:=zH (show Dig w128.drew w134 from Dig.of_ext hx);have S139:=zH (show Fr (fun kz=>kz=X83\/Value.ownBlock (.slice A2 m2 c2)=some kz) w128 w134 from(Fr.of_ext zb).trans (Fr.of_ext hx));obtain⟨r135,rfl,hr_⟩:=hc_;have R135:=zH hr_;have B135:=zH (rl_i64 p.2 (by omega) (by omega));clear hr_ hx;refine zm S139.out ?_;have DD142:=tD (tD (tD (tD (tD (tD DD101 D108) D119) D125) D129) D131) D136;have DD143:=tD (tD (tD D125 D129) D131) D136;refine mC 4 (bs 5 31) (put_any 24 dC r135 r61 r62 (((p.2):Int):Rat) (((a.2):Int):Rat) (((b.2):Int):Rat) X63 Y64 X83 A2 m2 c2 es2 w _ (H136.out.pick2 (ib:=6) (ir:=5) rR rR dC) R135.out (Nat.le_trans B135.out (by omega)) (R61.out.dig DD142.out) (R62.out.dig DD142.out) (Nat.le_trans B61.out (by omega)) (Nat.le_trans B62.out (by omega)) (H136.out.range (i:=3) rR 0 4) (H136.out.range (i:=4) rR 0 4) (fun h_=>h_.elim (H136.out.offBlk (i:=3) (j:=6) rR rR dC rR) (H136.out.offRow (i:=3) (j:=5) rR rR dC rR)) (fun h_=>h_.elim (H136.out.offBlk (i:=4) (j:=6) rR rR dC rR) (H136.out.offRow (i:=4) (j:=5) rR rR dC rR)) HM2.out.1 (by have h_:=HM2.out.2;have h2_:=HT2.out;omega) (fun g_ hg_=>(HOE2.out g_ hg_).dig DD143.out)) ?_;rintro e w140 ⟨rfl,hkr_⟩;unfold PutRet at hkr_;obtain⟨A141,c141,n141,es141,h1_,h2_,h3_,h4_,h5_,h6_,h7_,h8_⟩:=hkr_;have HVK141:=zH h5_;have HNK141:=zH (And.intro h6_ h7_);have HOK141:=zH h8_;have HFK141:=zH h4_;have HFP141:=zH h3_;have H144:=zH (show Hp w w140 [.blk X1 41 [.int .i64 a.1,.int .i64 a.2],.blk X6 41 [.int .i64 b.1,.int .i64 b.2],.blk X42 41 [.int .i64 a.1,.int .i64 a.2,.int .i64 b.1,.int .i64 b.2],.blk X63 36 (rc r61),.blk Y64 36 (rc r62),ro 36 4 A141 n141 c141 R1E.cells es141,.blk X83 56 [.slice A141 n141 c141],.blk X93 89 [.func (.func 60) #[] #[.pointer (some ⟨X63,0,none⟩),.pointer (some ⟨Y64,0,none⟩),.pointer (some ⟨X83,0,none⟩)]],.blk X123 41 [.int .i64 p.1,.int .i64 p.2]]from H136.out.call2 (ib:=6) (ir:=5) (e:= .blk X83 56 [.slice A2 m2 c2]) (f:= .row 36 4 (.slice A2 m2 c2) (m2) (List.flatMap R1E.cells es2)) (e':= .blk X83 56 [.slice A141 n141 c141]) (f':= .row 36 4 (.slice A141 n141 c141) (n141) (List.flatMap R1E.cells es141)) (by rfl) (by rfl) (by decide) h3_ (fun k_ hk_=>hk_.elim (fun h_=> .inl (by rw[h_];rfl)) .inr) h1_ (fun k_ hk_=> .inl hk_) h4_);have D144:=zH (show Dig w134 w140 from h2_);clear h1_ h2_ h4_ h5_ h6_ h7_ h8_;have hx:=True.intro;have S146:=zH (S139.out.trans (h3_));clear hx;refine zm S146.out ?_;refine wpAnyH_done kR ?_ _;go_upto_region 13 with fail
     refine wl ?_;refine zp (.int .i64 ((k+1:Nat):Int)) (by exact ez1 (by omega)) ?_;refine zq (.int .i64 ((k+1:Nat):Int)) ?_;have DD149:=tD (tD (tD (tD (tD D119 D125) D129) D131) D136) D144;go_wp2_with fail
     go_roundg (r.length-(k+1))
     case measure=>exact(by omega)
     case rel=>exact⟨k+1,n141,es141,A141,c141,rfl,(by go_num),hlu,⟨HNK141.out.1,by have h_:=HNK141.out.2;have h2_:=HM2.out.2;omega⟩,(by rw[HVK141.out,HES2.out,ringP_snoc HPK.out,<-List.append_assoc];rfl),(fun g_ hg_=>(HOK141.out g_ hg_)),H144.out.take 8,DD149.out⟩
    have hlu:=HLU.out;have hku:=HKU.out;obtain rfl:k=r.length:=by omega
    go_upto_region 10 with fail
    refine wl ?_;refine zp (.bool false) (by exact ezl (e:=(dec_f (Int.lt_irrefl _)))) ?_;go_upto_region 14 with fail
    refine wl ?_;refine zp (.int .i64 ((i+1:Nat):Int)) (by exact ez1 (by omega)) ?_;refine zq (.int .i64 ((i+1:Nat):Int)) ?_;have DD153:=tD D108 D119;go_wp2_with fail
    go_roundg (rs.length-(i+1))
    case measure=>exact(by omega)
    case rel=>exact⟨i+1,m2,es2,A2,c2,rfl,(by go_num),hlt,⟨HM2.out.1,by have h_:=HM2.out.2;have h2_:=tot_succ HRI.out;omega⟩,(by rw[HES2.out,List.take_length,evP_take HRI.out,List.append_assoc]),(fun g_ hg_=>(HOE2.out g_ hg_)),H119.out,DD153.out⟩
   have hlt:=HLT.out;have hki:=HKI.out;obtain rfl:i=rs.length:=by omega
   go_upto_region 7 with fail
   refine wl ?_;refine zp (.bool false) (by exact ezl (e:=(dec_f (Int.lt_irrefl _)))) ?_;go_upto_region 15 with fail
   refine wl ?_;refine aA' 25 [.slice none 0 0] H108.out ?_;intro X155 w156 H157 D157;have H160:=zH (show Hp w w156 [.blk X1 41 [.int .i64 a.1,.int .i64 a.2],.blk X6 41 [.int .i64 b.1,.int .i64 b.2],.blk X42 41 [.int .i64 a.1,.int .i64 a.2,.int .i64 b.1,.int .i64 b.2],.blk X63 36 (rc r61),.blk Y64 36 (rc r62),ro 36 4 A1 m c1 R1E.cells es,.blk X83 56 [.slice A1 m c1],.blk X93 89 [.func (.func 60) #[] #[.pointer (some ⟨X63,0,none⟩),.pointer (some ⟨Y64,0,none⟩),.pointer (some ⟨X83,0,none⟩)]],.blk X155 25 [.slice none 0 0],ro 42 4 none 0 0 edC ([])]from H157.out.addNil 42 4);go_upto_region 16 with fail
   refine wl ?_;refine zI1 (Hp.start _) _ ?_;refine zc (edges_any _ rs _ (HU.out.ext H160.out.ext) HN.out HR.out) ?_;rintro e w162 ⟨Bx,ve,rfl,hB1,hB2,hcell,hR,hx⟩;have HB1:=zH hB1;have HB2:=zH hB2;have HCL:=zH hcell;rw[if_pos HV.out]at hR;have HRG:=zH hR;clear hB1 hcell hR;have H163:=zH (H160.out.step hx);have D163:=zH (Dig.of_ext hx);clear hx;refine zn ?_;have hbo:=H160.out.lt (i:=6) (k:=X83) (by rfl) rfl;have hbe:=H160.out.lt (i:=8) (k:=X155) (by rfl) rfl;have hbr:=fun k (hk:Value.ownBlock (.slice A1 m c1)=some k)=>H160.out.lt (i:=5) (k:=k) (by rfl) (by exact hk)
   have HRF:=zH (show RingsO (fun k=>¬(fun k=>k=X83\/k=X155\/Value.ownBlock (.slice A1 m c1)=some k\/w162.heap.size<=k) k) w162 ve rs from HRG.out.imp (fun k h hk=>by rcases hk with rfl|rfl|hk|hk;omega;omega;have h2:=hbr k hk;omega;omega));have HWS:=zH (show w.heap.size<=w162.heap.size from H163.out.ext.size);have hgb:¬(fun k=>k=X83\/k=X155\/Value.ownBlock (.slice A1 m c1)=some k\/w162.heap.size<=k) Bx:=fun hk=>by have h1:=HB1.out;have h9:=HB2.out;rcases hk with hk|hk|hk|hk;omega;omega;have h2:=hbr _ hk;omega;omega
   have DD165:=tD D157 D163;have DD166:=tD (tD (tD DD101 D108) D157) D163;have HOLD0:=zH (H163.out.lt (i:=0) (k:=X1) (by rfl) rfl);have HOLD1:=zH (H163.out.lt (i:=1) (k:=X6) (by rfl) rfl);have HOLD2:=zH (H163.out.lt (i:=2) (k:=X42) (by rfl) rfl);go_wp2_with fail
   refine wpIn_wide.1 (edges_loop (n:=4) (by omega) (fun k=>k=X83\/k=X155\/Value.ownBlock (.slice A1 m c1)=some k\/w162.heap.size<=k) Bx ve rs rR HCL.out hgb HRF.out HN.out HV.out (fun k h=> .inr (.inr (.inr h))) (EvI X1 X6 X42 X63 Y64 X83 X93 X155 a b r61 r62 (es.map R1E.q) A1 m c1 w w162) (evI_own X1 X6 X42 X63 Y64 X83 X93 X155 a b r61 r62 (es.map R1E.q) A1 m c1 w w162 HWS.out) ⟨A1,m,c1,es,none,0,H163.out,Dig.refl _,fun k hk=> .inl hk,by simp[Value.ownBlock],by simp[evC],HM.out.1,by have h1:=HM.out.2;have h2:=tot_take rs rs.length;have h3:=okR_tot HV.out;omega,(fun g_ hg_=>(HOE.out g_ hg_).dig DD165.out),Nat.le_refl _⟩ (EvA X1 X6 X93 X155 w162) (evA_own X1 X6 X93 X155 w162) ?assign ?body ?done);case assign=>
    intro l pre x W K hi hK;obtain⟨A,n,c,es2,A2,c2,hh,hd,hf1,hf2,hvl,hnl,hnp,hok,hsz⟩:=hi;have HSZ:=zH hsz;have H0:=zH hh;have HK:=zH hK;have HF:=zH (And.intro hf1 (And.intro hf2 (And.intro hvl (And.intro hnl hnp))));have HOKS:=zH hok;have HD:=zH hd;clear hsz hh hK hf1 hf2 hok hvl hnl hnp hd;unfold ptVal2;simp only[zA,zB,zC];refine wpIn_seq ?_;refine wpIn_region_plain kR (fun⟨_,_,h⟩=>h) ?_;refine aA 41 [.int .i64 0,.int .i64 0] H0.out ?_;intro X167 w168 H170 hx hge;have Q169:=zH (show W.heap.size<=X167 from Nat.le_trans (Fr.of_ext (G:=fun kz=>False) (Ext.refl W)).size hge);have D170:=zH (Dig.of_ext hx);have K172:=zH (show Fr (fun kz=>False) W w168 from(Fr.of_ext (G:=fun kz=>False) (Ext.refl W)).trans (Fr.of_ext hx));clear hx hge;refine aS 10 [.int .i64 x.1.1.1,.int .i64 x.1.1.2] H170.out ?_;intro w174 H175 hd ho;have D175:=zH (hd);have K177:=zH (K172.out.trans_new ho (fun j hj=> .inr (by injection hj with hj;rw[<-hj];exact Q169.out)));clear hd ho;refine wpIn_region_plain kR (fun⟨_,_,h⟩=>h) ?_;refine aA 41 [.int .i64 0,.int .i64 0] H175.out ?_;intro X178 w179 H181 hx hge;have Q180:=zH (Nat.le_trans K177.out.size hge);have D181:=zH (Dig.of_ext hx);have K183:=zH (K177.out.trans (Fr.of_ext hx));clear hx hge;refine aS 11 [.int .i64 x.1.2.1,.int .i64 x.1.2.2] H181.out ?_;intro w185 H186 hd ho;have D186:=zH (hd);have K188:=zH (K183.out.trans_new ho (fun j hj=> .inr (by injection hj with hj;rw[<-hj];exact Q180.out)));clear hd ho;refine HK.out _ _ (KeepsFrom.of_fr K188.out (fun _ h=>h.elim)) (K188.out.imp (fun _ h=>h.elim)) ⟨A,n,c,es2,A2,c2,H186.out.take 10,HD.out.trans (((D170.out.trans D175.out).trans D181.out).trans D186.out),HF.out.1,HF.out.2.1,HF.out.2.2.1,HF.out.2.2.2.1,HF.out.2.2.2.2,fun e he=>(HOKS.out e he).dig (((D170.out.trans D175.out).trans D181.out).trans D186.out),Nat.le_trans HSZ.out K188.out.size⟩ (evA_mk (H186.out.blk (i:=10) rR) (H186.out.blk (i:=11) rR) ?_ (Nat.le_trans HSZ.out Q169.out) (Nat.le_trans HSZ.out Q180.out) rR);exact fun e=>H186.out.apart 10 11 _ _ (by rfl) (by rfl) (by decide) X167 (by rfl) (by rw[e];rfl)
   case body=>
    intro l pre x a' W hi hax hlen;obtain⟨A,n,c,es2,A2,c2,hh,hd,hf1,hf2,hvl,hnl,hnp,hok,hsz⟩:=hi;obtain⟨J,Xp,Xq,hba,hbb,hne,hga,hgb2,rfl⟩:=hax;have HSZ:=zH hsz;have HD:=zH hd;have HF1:=zH hf1;have HF2:=zH hf2;have HVL:=zH hvl;have HNL:=zH hnl;have HNP:=zH hnp;have HOKS:=zH hok;have HOX:=zH x.2;have H0:=zH (show Hp w W [.blk X1 41 [.int .i64 a.1,.int .i64 a.2],.blk X6 41 [.int .i64 b.1,.int .i64 b.2],.blk X42 41 [.int .i64 a.1,.int .i64 a.2,.int .i64 b.1,.int .i64 b.2],.blk X63 36 (rc r61),.blk Y64 36 (rc r62),ro 36 4 A n c R1E.cells es2,.blk X83 56 [.slice A n c],.blk X93 89 [.func (.func 60) #[] #[.pointer (some ⟨X63,0,none⟩),.pointer (some ⟨Y64,0,none⟩),.pointer (some ⟨X83,0,none⟩)]],.blk X155 25 [.slice A2 pre.length c2],ro 42 4 A2 pre.length c2 edC (pre.map Subtype.val),.blk Xp 41 [.int .i64 x.1.1.1,.int .i64 x.1.1.2],.blk Xq 41 [.int .i64 x.1.2.1,.int .i64 x.1.2.2]]from hh.addTyp3 hba hbb hne HWS.out hga hgb2 (by simp[NoUL]) (by simp[NoUL]) (by simp only[List.forall_mem_cons,List.not_mem_nil,false_imp_iff,implies_true,and_true];exact⟨.inr (fun k hk=>by injection hk with hk;rw[<-hk];exact HOLD0.out),.inr (fun k hk=>by injection hk with hk;rw[<-hk];exact HOLD1.out),.inr (fun k hk=>by injection hk with hk;rw[<-hk];exact HOLD2.out),.inl (by simp[Ent.typ]),.inl (by simp[Ent.typ]),.inl (by simp[Ent.typ]),.inl (by simp[Ent.typ]),.inl (by simp[Ent.typ]),.inl (by simp[Ent.typ]),.inl (by simp[Ent.typ])⟩));have HLEN:=zH hlen;obtain⟨o2,ho2_⟩:∃o2,o2=Value.ownBlock (.slice A2 pre.length c2):=⟨_,rfl⟩;have HO2:=zH ho2_;clear ho2_;have HLO:=zH (R61.out.dig ((DD166.out).trans HD.out));have HHI:=zH (R62.out.dig ((DD166.out).trans HD.out));have HFR:=zH (show Fr (fun kz=>kz=X83\/kz=X155\/Value.ownBlock (.slice A n c)=some kz\/o2=some kz) W W from Fr.of_ext (Ext.refl W));clear hh hd hf1 hf2 hvl hnl hnp hok hsz hba hbb hne hga hgb2;gi_upto_region 19 with fail
    refine wpIn_region_plain kR (fun⟨_,_,h⟩=>h) ?_;refine zI4 H0.out _ _ _ _ ?_;refine aL 2 3 [.int .i64 a.1,.int .i64 b.1] H0.out ?_;intro X191 w192 H193 hx hge;have D193:=zH (Dig.of_ext hx);have K195:=zH (HFR.out.trans (Fr.of_ext hx));clear hx hge;refine zI2 (Hp.start _) _ _ ?_;refine wpList_nil ?_;skip
    gi_wp2_with fail
    gi_loopg [83] (2) (fun cq v198 wr=>∃(kx:Nat) (A3:Option Addr) (n3:Nat) (c3:Nat) (es3:List R1E),cq=2-kx/\v198= .int .i64 (kx:Int)/\(kx<=2)/\(n3=es3.length/\n3<=n+kx)/\(es3.map R1E.q=(es.map R1E.q)++evC a b [] (pre.map Subtype.val)++yatP a b x.1 kx)/\(∀e,e∈es3->e.Ok 24 wr)/\((∀k,Value.ownBlock (.slice A3 n3 c3)=some k->Value.ownBlock (.slice A n c)=some k\/W.heap.size<=k))/\(Fr (fun kz=>kz=X83\/kz=X155\/Value.ownBlock (.slice A n c)=some kz\/o2=some kz) W wr)/\Hp w wr [.blk X1 41 [.int .i64 a.1,.int .i64 a.2],.blk X6 41 [.int .i64 b.1,.int .i64 b.2],.blk X42 41 [.int .i64 a.1,.int .i64 a.2,.int .i64 b.1,.int .i64 b.2],.blk X63 36 [.bool r61.n,.slice r61.p r61.l r61.c,.bool r61.m,.slice r61.p2 r61.l2 r61.c2],.blk Y64 36 [.bool r62.n,.slice r62.p r62.l r62.c,.bool r62.m,.slice r62.p2 r62.l2 r62.c2],.row 36 4 (.slice A3 n3 c3) (n3) (List.flatMap R1E.cells es3),.blk X83 56 [.slice A3 n3 c3],.blk X93 89 [.func (.func 60) #[] #[.pointer (some ⟨X63,0,none⟩),.pointer (some ⟨Y64,0,none⟩),.pointer (some ⟨X83,0,none⟩)]],.blk X155 25 [.slice A2 pre.length c2],.row 42 4 (.slice A2 pre.length c2) (pre.length) (List.flatMap edC (pre.map Subtype.val)),.blk Xp 41 [.int .i64 x.1.1.1,.int .i64 x.1.1.2],.blk Xq 41 [.int .i64 x.1.2.1,.int .i64 x.1.2.2],.blk X191 3 [.int .i64 a.1,.int .i64 b.1]]/\Dig w192 wr)
    case atStart=>exact⟨0,A,n,c,es2,rfl,rfl,(by omega),⟨HNL.out,by omega⟩,(by rw[HVL.out];simp[yatP]),(fun g_ hg_=>(HOKS.out g_ hg_).dig D193.out),(fun k hk=> .inl hk),K195.out,H193.out,Dig.refl _⟩
    obtain⟨kx,A3,n3,c3,es3,rfl,rfl,q_HKX,q_HM3,q_HES3,q_HOE3,q_HO3,q_HFR,hh_,hd_⟩:=hrel;generalize wr=w199 at*
    have HKX:=zH q_HKX;clear q_HKX;have HM3:=zH q_HM3;clear q_HM3;have HES3:=zH q_HES3;clear q_HES3;have HOE3:=zH q_HOE3;clear q_HOE3;have HO3:=zH q_HO3;clear q_HO3;have HFR:=zH q_HFR;clear q_HFR;have H201:=zH hh_;have D201:=zH hd_;clear hh_ hd_ H193;rcases emH (kx<2)with HKT|HKT
    ·obtain⟨xv,hxv⟩:∃xv,xv=if kx=0 then a.1 else b.1:=⟨_,rfl⟩
     have HXV:=zH hxv;clear hxv;have hxb: -1048576<=xv/\xv<=1048576:=by rw[HXV.out];split<;>omega
     have HXB:=zH hxb;clear hxb;gi_upto_region 20 with fail
     refine wpIn_region_plain kR (fun⟨_,_,h⟩=>h) ?_;refine zp (.bool true) (by exact ezl (e:=(dec_t (by have ob0:=HLEN.out;have ob1:=HKT.out;omega)))) ?_;refine wpList_nil ?_;gi_upto_region 21 with fail
     refine wpIn_region_plain kR (fun⟨_,_,h⟩=>h) ?_;refine zp (.pointer (some ⟨X191,kx,none⟩)) (by exact ezi (k:=kx) Tryz.underlying38 (l:=(by have h_:=HKT.out;omega)) (f:=(show kx=0+kx*1 by omega))) ?_;refine ze X191 kx (.int .i64 xv) (by rw[HXV.out];exact lit2_get H201.out (i:=12) rR kx HKT.out) ?_;refine zq (.int .i64 xv) ?_;refine wpList_nil ?_;rcases emH (yatC x.1.1 x.1.2 xv)with HYC|HYC
     ·gi_upto_region 22 with fail
      refine wpIn_region_plain kR (fun⟨_,_,h⟩=>h) ?_;refine zd Xp (0) [.int .i64 x.1.1.1,.int .i64 x.1.1.2] (H201.out.range (i:=10) rR 0 2) Tryz.underlying41 ?_;refine zd Xq (0) [.int .i64 x.1.2.1,.int .i64 x.1.2.2] (H201.out.range (i:=11) rR 0 2) Tryz.underlying41 ?_;refine qV (.int .i64 xv) ?_;refine zc (((yat_any x.1.1 x.1.2 xv _ (by have h_:=HXB.out;omega)).mono (fun _ _ h_=>AtRet.yes h_ HYC.out))) ?_;rintro e w208 ⟨r209,rfl,hr_,hx⟩;have H210:=zH (H201.out.step hx);have D210:=zH (Dig.of_ext hx);have K212:=zH (HFR.out.trans (Fr.of_ext hx));have R209:=zH hr_;have B209:=zH (rl_yat (x:=xv) HYC.out.1 HYC.out.2.1 HXB.out);clear hr_ hx;refine zn ?_;refine zI3 (Hp.start _) _ _ (.bool true) ?_;refine aA 36 rz H210.out ?_;intro X216 w217 H219 hx hge;have Q218:=zH (Nat.le_trans K212.out.size hge);have D219:=zH (Dig.of_ext hx);have K221:=zH (K212.out.trans (Fr.of_ext hx));clear hx hge;refine aS 13 (rc r209) H219.out ?_;intro w223 H224 hd ho;have D224:=zH (hd);have K226:=zH (K221.out.trans_new ho (fun j hj=> .inr (by injection hj with hj;rw[<-hj];exact Q218.out)));clear hd ho;refine zq (.bool true) ?_;refine wpList_nil ?_;gi_upto_region 23 with fail
      refine wpIn_region_plain kR (fun⟨_,_,h⟩=>h) ?_;refine zq (.bool true) ?_;refine wpList_nil ?_;gi_upto_region 24 with fail
      refine wpIn_region_plain kR (fun⟨_,_,h⟩=>h) ?_;refine zI2 H224.out _ _ ?_;have DD231:=tD D219 D224;have DD232:=tD (tD (tD (tD D193 D201) D210) D219) D224;have DD233:=tD (tD D210 D219) D224;refine zc (put_any 24 dC r209 r61 r62 (yatQ x.1.1 x.1.2 xv) (((a.2):Int):Rat) (((b.2):Int):Rat) X63 Y64 X83 A3 n3 c3 es3 w _ (H224.out.pick2 (ib:=6) (ir:=5) rR rR dC) (R209.out.dig DD231.out) (Nat.le_trans B209.out (by omega)) (HLO.out.dig DD232.out) (HHI.out.dig DD232.out) (Nat.le_trans B61.out (by omega)) (Nat.le_trans B62.out (by omega)) (H224.out.range (i:=3) rR 0 4) (H224.out.range (i:=4) rR 0 4) (fun h_=>h_.elim (H224.out.offBlk (i:=3) (j:=6) rR rR dC rR) (H224.out.offRow (i:=3) (j:=5) rR rR dC rR)) (fun h_=>h_.elim (H224.out.offBlk (i:=4) (j:=6) rR rR dC rR) (H224.out.offRow (i:=4) (j:=5) rR rR dC rR)) HM3.out.1 (by have h_:=HM3.out.2;have h2_:=HNP.out;have h3_:=HLEN.out;have h4_:=HKT.out;omega) (fun g_ hg_=>(HOE3.out g_ hg_).dig DD233.out)) ?_;rintro e w229 ⟨rfl,hkr_⟩;unfold PutRet at hkr_;obtain⟨A230,c230,n230,es230,h1_,h2_,h3_,h4_,h5_,h6_,h7_,h8_⟩:=hkr_;have HVK230:=zH h5_;have HNK230:=zH (And.intro h6_ h7_);have HOK230:=zH h8_;have HFK230:=zH h4_;have HFP230:=zH h3_;have H234:=zH (show Hp w w229 [.blk X1 41 [.int .i64 a.1,.int .i64 a.2],.blk X6 41 [.int .i64 b.1,.int .i64 b.2],.blk X42 41 [.int .i64 a.1,.int .i64 a.2,.int .i64 b.1,.int .i64 b.2],.blk X63 36 (rc r61),.blk Y64 36 (rc r62),ro 36 4 A230 n230 c230 R1E.cells es230,.blk X83 56 [.slice A230 n230 c230],.blk X93 89 [.func (.func 60) #[] #[.pointer (some ⟨X63,0,none⟩),.pointer (some ⟨Y64,0,none⟩),.pointer (some ⟨X83,0,none⟩)]],.blk X155 25 [.slice A2 pre.length c2],ro 42 4 A2 pre.length c2 edC (pre.map Subtype.val),.blk Xp 41 [.int .i64 x.1.1.1,.int .i64 x.1.1.2],.blk Xq 41 [.int .i64 x.1.2.1,.int .i64 x.1.2.2],.blk X191 3 [.int .i64 a.1,.int .i64 b.1],.blk X216 36 (rc r209)]from H224.out.call2 (ib:=6) (ir:=5) (e:= .blk X83 56 [.slice A3 n3 c3]) (f:= .row 36 4 (.slice A3 n3 c3) (n3) (List.flatMap R1E.cells es3)) (e':= .blk X83 56 [.slice A230 n230 c230]) (f':= .row 36 4 (.slice A230 n230 c230) (n230) (List.flatMap R1E.cells es230)) (by rfl) (by rfl) (by decide) h3_ (fun k_ hk_=>hk_.elim (fun h_=> .inl (by rw[h_];rfl)) .inr) h1_ (fun k_ hk_=> .inl hk_) h4_);have D234:=zH (show Dig w223 w229 from h2_);have K236:=zH (K226.out.trans_fr HFP230.out (fun k hk=>hk.elim (fun h=> .inl (.inl h)) (fun hk=>(HO3.out k hk).elim (fun h=> .inl (.inr (.inr (.inl h)))) .inr)));clear h1_ h2_ h4_ h5_ h6_ h7_ h8_;have hx:=True.intro;clear hx;refine zn ?_;refine wpList_nil ?_;gi_upto_region 25 with fail
      refine wpIn_region_plain kR (fun⟨_,_,h⟩=>h) ?_;refine zp (.int .i64 ((kx+1:Nat):Int)) (by exact ez1 (by have ob0:=HLEN.out;have ob1:=HKT.out;have ob2:=HXB.out;omega)) ?_;refine zq (.int .i64 ((kx+1:Nat):Int)) ?_;refine wpList_nil ?_;have DD239:=tD (tD (tD (tD D201 D210) D219) D224) D234;gi_wp2_with fail
      go_roundg (2-(kx+1))
      case measure=>exact(by have ob0:=HLEN.out;have ob1:=HKT.out;have ob2:=HXB.out;have ob4:=(show kx<2 from HKT.out);omega)
      case rel=>exact⟨kx+1,A230,n230,c230,es230,rfl,(by go_num),(by have h_:=HKT.out;omega),⟨HNK230.out.1,by have h_:=HNK230.out.2;have h2_:=HM3.out.2;omega⟩,(by rw[HVK230.out,HES3.out,yatP_succ _ _ _ _ HKT.out,<-HXV.out,yatL_yes HYC.out,List.append_assoc];simp[btw]),(fun g_ hg_=>(HOK230.out g_ hg_)),(fun k_ hk_=>(HFK230.out k_ hk_).elim (fun h_=>HO3.out k_ h_) (fun h_=> .inr (Nat.le_trans K226.out.size h_))),K236.out,H234.out.take 13,DD239.out⟩
     gi_upto_region 22 with fail
     refine wpIn_region_plain kR (fun⟨_,_,h⟩=>h) ?_;refine zd Xp (0) [.int .i64 x.1.1.1,.int .i64 x.1.1.2] (H201.out.range (i:=10) rR 0 2) Tryz.underlying41 ?_;refine zd Xq (0) [.int .i64 x.1.2.1,.int .i64 x.1.2.2] (H201.out.range (i:=11) rR 0 2) Tryz.underlying41 ?_;refine qV (.int .i64 xv) ?_;refine zc (((yat_any x.1.1 x.1.2 xv _ (by have h_:=HXB.out;omega)).mono (fun _ _ h_=>AtRet.no h_ HYC.out))) ?_;rintro e w241 ⟨rfl,hx⟩;have H242:=zH (H201.out.step hx);have D242:=zH (Dig.of_ext hx);have K244:=zH (HFR.out.trans (Fr.of_ext hx));clear hx;refine zn ?_;refine zI3 (Hp.start _) _ _ (.bool false) ?_;refine aA 36 rz H242.out ?_;intro X248 w249 H251 hx hge;have Q250:=zH (Nat.le_trans K244.out.size hge);have D251:=zH (Dig.of_ext hx);have K253:=zH (K244.out.trans (Fr.of_ext hx));clear hx hge;refine aS 13 rz H251.out ?_;intro w255 H256 hd ho;have D256:=zH (hd);have K258:=zH (K253.out.trans_new ho (fun j hj=> .inr (by injection hj with hj;rw[<-hj];exact Q250.out)));clear hd ho;refine zq (.bool false) ?_;refine wpList_nil ?_;gi_upto_region 23 with fail
     refine wpIn_region_plain kR (fun⟨_,_,h⟩=>h) ?_;refine zq (.bool false) ?_;refine wpList_nil ?_;gi_upto_region 25 with fail
     refine wpIn_region_plain kR (fun⟨_,_,h⟩=>h) ?_;refine zp (.int .i64 ((kx+1:Nat):Int)) (by exact ez1 (by have ob0:=HLEN.out;have ob1:=HKT.out;have ob2:=HXB.out;omega)) ?_;refine zq (.int .i64 ((kx+1:Nat):Int)) ?_;refine wpList_nil ?_;have DD263:=tD (tD D242 D251) D256;have DD264:=tD (tD (tD D201 D242) D251) D256;gi_wp2_with fail
     go_roundg (2-(kx+1))
     case measure=>exact(by have ob0:=HLEN.out;have ob1:=HKT.out;have ob2:=HXB.out;have ob4:=(show kx<2 from HKT.out);omega)
     case rel=>exact⟨kx+1,A3,n3,c3,es3,rfl,(by go_num),(by have h_:=HKT.out;omega),⟨HM3.out.1,by have h_:=HM3.out.2;omega⟩,(by rw[HES3.out,yatP_succ _ _ _ _ HKT.out,<-HXV.out,yatL_no HYC.out];simp),(fun g_ hg_=>(HOE3.out g_ hg_).dig DD263.out),HO3.out,K258.out,H256.out.take 13,DD264.out⟩
    obtain rfl:kx=2:=by have h_:=HKX.out;have h2_:=HKT.out;omega
    gi_upto_region 20 with fail
    refine wpIn_region_plain kR (fun⟨_,_,h⟩=>h) ?_;refine zp (.bool false) (by exact ezl (e:=(dec_f dC))) ?_;refine wpList_nil ?_;gi_upto_region 26 with fail
    refine wpIn_region_plain kR (fun⟨_,_,h⟩=>h) ?_;refine zI3 H201.out _ (.int .i64 ((pre.length:Nat):Int)) _ ?_;refine wpList_nil ?_;skip
    gi_wp2_with fail
    gi_loopg [101] (pre.length) (fun cq v268 wr=>∃(i2:Nat) (A4:Option Addr) (n4:Nat) (c4:Nat) (es4:List R1E),cq=pre.length-i2/\v268= .int .i64 (i2:Int)/\(i2<=pre.length)/\(n4=es4.length/\n4<=n+2+i2)/\(es4.map R1E.q=(es.map R1E.q)++evC a b [] (pre.map Subtype.val)++((yatL x.1 a.1).flatMap (btw a.2 b.2)++(yatL x.1 b.1).flatMap (btw a.2 b.2))++((pre.map Subtype.val).take i2).flatMap (fun o=>(segL o x.1).flatMap (btw a.2 b.2)))/\(∀e,e∈es4->e.Ok 24 wr)/\((∀k,Value.ownBlock (.slice A4 n4 c4)=some k->Value.ownBlock (.slice A n c)=some k\/W.heap.size<=k))/\(Fr (fun kz=>kz=X83\/kz=X155\/Value.ownBlock (.slice A n c)=some kz\/o2=some kz) W wr)/\Hp w wr [.blk X1 41 [.int .i64 a.1,.int .i64 a.2],.blk X6 41 [.int .i64 b.1,.int .i64 b.2],.blk X42 41 [.int .i64 a.1,.int .i64 a.2,.int .i64 b.1,.int .i64 b.2],.blk X63 36 [.bool r61.n,.slice r61.p r61.l r61.c,.bool r61.m,.slice r61.p2 r61.l2 r61.c2],.blk Y64 36 [.bool r62.n,.slice r62.p r62.l r62.c,.bool r62.m,.slice r62.p2 r62.l2 r62.c2],.row 36 4 (.slice A4 n4 c4) (n4) (List.flatMap R1E.cells es4),.blk X83 56 [.slice A4 n4 c4],.blk X93 89 [.func (.func 60) #[] #[.pointer (some ⟨X63,0,none⟩),.pointer (some ⟨Y64,0,none⟩),.pointer (some ⟨X83,0,none⟩)]],.blk X155 25 [.slice A2 pre.length c2],.row 42 4 (.slice A2 pre.length c2) (pre.length) (List.flatMap edC (pre.map Subtype.val)),.blk Xp 41 [.int .i64 x.1.1.1,.int .i64 x.1.1.2],.blk Xq 41 [.int .i64 x.1.2.1,.int .i64 x.1.2.2],.blk X191 3 [.int .i64 a.1,.int .i64 b.1]]/\Dig w199 wr)
    case atStart=>exact⟨0,A3,n3,c3,es3,rfl,rfl,Nat.zero_le _,⟨HM3.out.1,HM3.out.2⟩,(by rw[HES3.out];simp[yatP]),(fun g_ hg_=>(HOE3.out g_ hg_)),HO3.out,HFR.out,H201.out,Dig.refl _⟩
    obtain⟨i2,A4,n4,c4,es4,rfl,rfl,q_HI4,q_HM4,q_HES4,q_HOE4,q_HO4,q_HFR,hh_,hd_⟩:=hrel;generalize wr=w269 at*
    have HI4:=zH q_HI4;clear q_HI4;have HM4:=zH q_HM4;clear q_HM4;have HES4:=zH q_HES4;clear q_HES4;have HOE4:=zH q_HOE4;clear q_HOE4;have HO4:=zH q_HO4;clear q_HO4;have HFR:=zH q_HFR;clear q_HFR;have H271:=zH hh_;have D271:=zH hd_;clear hh_ hd_ H201;rcases emH (i2<pre.length)with HLT4|HLT4
    ·have hlt:=HLT4.out
     obtain⟨o,ho_⟩:∃o,pre[i2]?=some o:=⟨_,List.getElem?_eq_getElem hlt⟩;have HOO:=zH o.2;have HPO:=zH (show(pre.map Subtype.val)[i2]?=some o.1 by rw[List.getElem?_map,ho_];rfl);skip
     have HTK:=zH (show(pre.map Subtype.val).take (i2+1)=(pre.map Subtype.val).take i2++[o.1]by rw[List.take_add_one,HPO.out];rfl);clear ho_;obtain⟨ge,hge_⟩:=RowN.form (H271.out.row (i:=9) (by rfl)) |>.elim (fun A_ h_=>h_.elim (fun c_ h2_=>(show∃ge,A2=some ⟨ge,0,none⟩from by obtain⟨e_,h3_⟩:=h2_;injection e_ with e1_ e2_ e3_;subst e1_;exact h3_ (by omega))));subst hge_;gi_upto_region 27 with fail
     refine wpIn_region_plain kR (fun⟨_,_,h⟩=>h) ?_;refine zp (.bool true) (by exact ezl (e:=(dec_t (by have ob0:=HLEN.out;omega)))) ?_;refine wpList_nil ?_;gi_upto_region 28 with fail
     refine wpIn_region_plain kR (fun⟨_,_,h⟩=>h) ?_;refine zp (.pointer (some ⟨ge,i2*4,none⟩)) (by exact ezi (k:=i2) Tryz.underlying25 (l:=hlt) (f:=(Nat.zero_add _).symm)) ?_;refine zd ge (i2*4) [.int .i64 o.1.1.1,.int .i64 o.1.1.2,.int .i64 o.1.2.1,.int .i64 o.1.2.2] (H271.out.elem (f:=edC) (i:=9) rR edC_len HPO.out) Tryz.underlying42 ?_;refine aA 42 [.int .i64 0,.int .i64 0,.int .i64 0,.int .i64 0] H271.out ?_;intro X275 w276 H278 hx hge;have Q277:=zH (show W.heap.size<=X275 from Nat.le_trans HFR.out.size hge);have D278:=zH (Dig.of_ext hx);have K280:=zH (HFR.out.trans (Fr.of_ext hx));clear hx hge;refine aS 13 [.int .i64 o.1.1.1,.int .i64 o.1.1.2,.int .i64 o.1.2.1,.int .i64 o.1.2.2] H278.out ?_;intro w282 H283 hd ho;have D283:=zH (hd);have K285:=zH (K280.out.trans_new ho (fun j hj=> .inr (by injection hj with hj;rw[<-hj];exact Q277.out)));clear hd ho;refine wpList_nil ?_;rcases emH (segN o.1.1 o.1.2 x.1.1 x.1.2=1)with HSG|HSG
     ·gi_upto_region 29 with fail
      refine wpIn_region_plain kR (fun⟨_,_,h⟩=>h) ?_;refine zI1 (Hp.start _) _ ?_;refine zd X275 (0) [.int .i64 o.1.1.1,.int .i64 o.1.1.2] (H283.out.range (i:=13) rR 0 2) Tryz.underlying41 ?_;refine zI1 (Hp.start _) _ ?_;refine zd X275 (2) [.int .i64 o.1.2.1,.int .i64 o.1.2.2] (H283.out.range (i:=13) rR 2 2) Tryz.underlying41 ?_;refine zI2 H283.out _ _ ?_;refine zc (((segments_any o.1.1 o.1.2 x.1.1 x.1.2 _ HOO.out.1 HOO.out.2 HOX.out.1 HOX.out.2).mono (fun _ _ h_=>SegRet.yes h_ HSG.out))) ?_;rintro e w289 ⟨r290,s290,rfl,hr_,hs_,hx⟩;have H291:=zH (H283.out.step hx);have D291:=zH (Dig.of_ext hx);have K293:=zH (K285.out.trans (Fr.of_ext hx));have R290:=zH hr_;have S290:=zH hs_;have C290:=zH (rl_segXY HOO.out.1 HOO.out.2 HOX.out.1 HOX.out.2).2;clear hr_ hs_ hx;refine zn ?_;refine zI4 (Hp.start _) _ _ _ _ ?_;refine aA 36 rz H291.out ?_;intro X298 w299 H301 hx hge;have Q300:=zH (Nat.le_trans K293.out.size hge);have D301:=zH (Dig.of_ext hx);have K303:=zH (K293.out.trans (Fr.of_ext hx));clear hx hge;refine aA 36 rz H301.out ?_;intro X305 w306 H308 hx hge;have Q307:=zH (Nat.le_trans K303.out.size hge);have D308:=zH (Dig.of_ext hx);have K310:=zH (K303.out.trans (Fr.of_ext hx));clear hx hge;refine aS 14 (rc r290) H308.out ?_;intro w312 H313 hd ho;have D313:=zH (hd);have K315:=zH (K310.out.trans_new ho (fun j hj=> .inr (by injection hj with hj;rw[<-hj];exact Q300.out)));clear hd ho;refine aS 15 (rc s290) H313.out ?_;intro w316 H317 hd ho;have D317:=zH (hd);have K319:=zH (K315.out.trans_new ho (fun j hj=> .inr (by injection hj with hj;rw[<-hj];exact Q307.out)));clear hd ho;refine zq (.int .i64 1) ?_;refine wpList_nil ?_;gi_upto_region 30 with fail
      refine wpIn_region_plain kR (fun⟨_,_,h⟩=>h) ?_;refine zq (.int .i64 1) ?_;refine zp (.bool true) (by exact ezq (e:=(dec_t rfl))) ?_;refine wpList_nil ?_;gi_upto_region 31 with fail
      refine wpIn_region_plain kR (fun⟨_,_,h⟩=>h) ?_;refine zI2 H317.out _ _ ?_;have DD325:=tD (tD (tD D301 D308) D313) D317;have DD326:=tD (tD (tD (tD (tD (tD (tD (tD (tD D193 D201) D271) D278) D283) D291) D301) D308) D313) D317;have DD327:=tD (tD (tD (tD (tD (tD D278 D283) D291) D301) D308) D313) D317;refine zc (put_any 24 dC s290 r61 r62 (segY o.1.1 o.1.2 x.1.1 x.1.2) (((a.2):Int):Rat) (((b.2):Int):Rat) X63 Y64 X83 A4 n4 c4 es4 w _ (H317.out.pick2 (ib:=6) (ir:=5) rR rR dC) (S290.out.dig DD325.out) (Nat.le_trans C290.out (by omega)) (HLO.out.dig DD326.out) (HHI.out.dig DD326.out) (Nat.le_trans B61.out (by omega)) (Nat.le_trans B62.out (by omega)) (H317.out.range (i:=3) rR 0 4) (H317.out.range (i:=4) rR 0 4) (fun h_=>h_.elim (H317.out.offBlk (i:=3) (j:=6) rR rR dC rR) (H317.out.offRow (i:=3) (j:=5) rR rR dC rR)) (fun h_=>h_.elim (H317.out.offBlk (i:=4) (j:=6) rR rR dC rR) (H317.out.offRow (i:=4) (j:=5) rR rR dC rR)) HM4.out.1 (by have h_:=HM4.out.2;have h2_:=HNP.out;have h3_:=HLEN.out;omega) (fun g_ hg_=>(HOE4.out g_ hg_).dig DD327.out)) ?_;rintro e w323 ⟨rfl,hkr_⟩;unfold PutRet at hkr_;obtain⟨A324,c324,n324,es324,h1_,h2_,h3_,h4_,h5_,h6_,h7_,h8_⟩:=hkr_;have HVK324:=zH h5_;have HNK324:=zH (And.intro h6_ h7_);have HOK324:=zH h8_;have HFK324:=zH h4_;have HFP324:=zH h3_;have H328:=zH (show Hp w w323 [.blk X1 41 [.int .i64 a.1,.int .i64 a.2],.blk X6 41 [.int .i64 b.1,.int .i64 b.2],.blk X42 41 [.int .i64 a.1,.int .i64 a.2,.int .i64 b.1,.int .i64 b.2],.blk X63 36 (rc r61),.blk Y64 36 (rc r62),ro 36 4 A324 n324 c324 R1E.cells es324,.blk X83 56 [.slice A324 n324 c324],.blk X93 89 [.func (.func 60) #[] #[.pointer (some ⟨X63,0,none⟩),.pointer (some ⟨Y64,0,none⟩),.pointer (some ⟨X83,0,none⟩)]],.blk X155 25 [.slice (some ⟨ge,0,none⟩) pre.length c2],ro 42 4 (some ⟨ge,0,none⟩) pre.length c2 edC (pre.map Subtype.val),.blk Xp 41 [.int .i64 x.1.1.1,.int .i64 x.1.1.2],.blk Xq 41 [.int .i64 x.1.2.1,.int .i64 x.1.2.2],.blk X191 3 [.int .i64 a.1,.int .i64 b.1],.blk X275 42 [.int .i64 o.1.1.1,.int .i64 o.1.1.2,.int .i64 o.1.2.1,.int .i64 o.1.2.2],.blk X298 36 (rc r290),.blk X305 36 (rc s290)]from H317.out.call2 (ib:=6) (ir:=5) (e:= .blk X83 56 [.slice A4 n4 c4]) (f:= .row 36 4 (.slice A4 n4 c4) (n4) (List.flatMap R1E.cells es4)) (e':= .blk X83 56 [.slice A324 n324 c324]) (f':= .row 36 4 (.slice A324 n324 c324) (n324) (List.flatMap R1E.cells es324)) (by rfl) (by rfl) (by decide) h3_ (fun k_ hk_=>hk_.elim (fun h_=> .inl (by rw[h_];rfl)) .inr) h1_ (fun k_ hk_=> .inl hk_) h4_);have D328:=zH (show Dig w316 w323 from h2_);have K330:=zH (K319.out.trans_fr HFP324.out (fun k hk=>hk.elim (fun h=> .inl (.inl h)) (fun hk=>(HO4.out k hk).elim (fun h=> .inl (.inr (.inr (.inl h)))) .inr)));clear h1_ h2_ h4_ h5_ h6_ h7_ h8_;have hx:=True.intro;clear hx;refine zn ?_;refine wpList_nil ?_;gi_upto_region 32 with fail
      refine wpIn_region_plain kR (fun⟨_,_,h⟩=>h) ?_;refine zp (.int .i64 ((i2+1:Nat):Int)) (by exact ez1 (by have ob0:=HLEN.out;omega)) ?_;refine zq (.int .i64 ((i2+1:Nat):Int)) ?_;refine wpList_nil ?_;have DD333:=tD (tD (tD (tD (tD (tD (tD (tD D271 D278) D283) D291) D301) D308) D313) D317) D328;gi_wp2_with fail
      go_roundg (pre.length-(i2+1))
      case measure=>exact(by have ob0:=HLEN.out;omega)
      case rel=>exact⟨i2+1,A324,n324,c324,es324,rfl,(by go_num),hlt,⟨HNK324.out.1,by have h_:=HNK324.out.2;have h2_:=HM4.out.2;omega⟩,(by rw[HVK324.out,HES4.out,HTK.out,List.flatMap_append,<-List.append_assoc];simp[segL_yes HSG.out,btw]),(fun g_ hg_=>(HOK324.out g_ hg_)),(fun k_ hk_=>(HFK324.out k_ hk_).elim (fun h_=>HO4.out k_ h_) (fun h_=> .inr (Nat.le_trans K319.out.size h_))),K330.out,H328.out.take 13,DD333.out⟩
     gi_upto_region 29 with fail
     refine wpIn_region_plain kR (fun⟨_,_,h⟩=>h) ?_;refine zI1 (Hp.start _) _ ?_;refine zd X275 (0) [.int .i64 o.1.1.1,.int .i64 o.1.1.2] (H283.out.range (i:=13) rR 0 2) Tryz.underlying41 ?_;refine zI1 (Hp.start _) _ ?_;refine zd X275 (2) [.int .i64 o.1.2.1,.int .i64 o.1.2.2] (H283.out.range (i:=13) rR 2 2) Tryz.underlying41 ?_;refine zI2 H283.out _ _ ?_;refine zc (((segments_any o.1.1 o.1.2 x.1.1 x.1.2 _ HOO.out.1 HOO.out.2 HOX.out.1 HOX.out.2).mono (fun _ _ h_=>SegRet.no h_ HSG.out))) ?_;rintro e w336 ⟨rfl,hx⟩;have H337:=zH (H283.out.step hx);have D337:=zH (Dig.of_ext hx);have K339:=zH (K285.out.trans (Fr.of_ext hx));clear hx;refine zn ?_;refine zI4 (Hp.start _) _ _ _ (.int .i64 (segN o.1.1 o.1.2 x.1.1 x.1.2)) ?_;refine aA 36 rz H337.out ?_;intro X344 w345 H347 hx hge;have Q346:=zH (Nat.le_trans K339.out.size hge);have D347:=zH (Dig.of_ext hx);have K349:=zH (K339.out.trans (Fr.of_ext hx));clear hx hge;refine aA 36 rz H347.out ?_;intro X351 w352 H354 hx hge;have Q353:=zH (Nat.le_trans K349.out.size hge);have D354:=zH (Dig.of_ext hx);have K356:=zH (K349.out.trans (Fr.of_ext hx));clear hx hge;refine aS 14 rz H354.out ?_;intro w358 H359 hd ho;have D359:=zH (hd);have K361:=zH (K356.out.trans_new ho (fun j hj=> .inr (by injection hj with hj;rw[<-hj];exact Q346.out)));clear hd ho;refine aS 15 rz H359.out ?_;intro w362 H363 hd ho;have D363:=zH (hd);have K365:=zH (K361.out.trans_new ho (fun j hj=> .inr (by injection hj with hj;rw[<-hj];exact Q353.out)));clear hd ho;refine zq (.int .i64 (segN o.1.1 o.1.2 x.1.1 x.1.2)) ?_;refine wpList_nil ?_;gi_upto_region 30 with fail
     refine wpIn_region_plain kR (fun⟨_,_,h⟩=>h) ?_;refine zq (.int .i64 (segN o.1.1 o.1.2 x.1.1 x.1.2)) ?_;refine zp (.bool false) (by exact ezq (e:=(dec_f HSG.out))) ?_;refine wpList_nil ?_;gi_upto_region 32 with fail
     refine wpIn_region_plain kR (fun⟨_,_,h⟩=>h) ?_;refine zp (.int .i64 ((i2+1:Nat):Int)) (by exact ez1 (by have ob0:=HLEN.out;omega)) ?_;refine zq (.int .i64 ((i2+1:Nat):Int)) ?_;refine wpList_nil ?_;have DD371:=tD (tD (tD (tD (tD (tD D278 D283) D337) D347) D354) D359) D363;have DD372:=tD (tD (tD (tD (tD (tD (tD D271 D278) D283) D337) D347) D354) D359) D363;gi_wp2_with fail
     go_roundg (pre.length-(i2+1))
     case measure=>exact(by have ob0:=HLEN.out;omega)
     case rel=>exact⟨i2+1,A4,n4,c4,es4,rfl,(by go_num),hlt,⟨HM4.out.1,by have h_:=HM4.out.2;omega⟩,(by rw[HES4.out,HTK.out,List.flatMap_append];simp[segL_no HSG.out]),(fun g_ hg_=>(HOE4.out g_ hg_).dig DD371.out),HO4.out,K365.out,H363.out.take 13,DD372.out⟩
    have hlt:=HLT4.out;have hi4:=HI4.out;obtain rfl:i2=pre.length:=by omega
    gi_upto_region 27 with fail
    refine wpIn_region_plain kR (fun⟨_,_,h⟩=>h) ?_;refine zp (.bool false) (by exact ezl (e:=(dec_f (Int.lt_irrefl _)))) ?_;refine wpList_nil ?_;gi_upto_region 33 with fail
    refine wpIn_region_plain kR (fun⟨_,_,h⟩=>h) ?_;refine zI1 H271.out _ ?_;refine zd Xp (0) [.int .i64 x.1.1.1,.int .i64 x.1.1.2] (H271.out.range (i:=10) rR 0 2) Tryz.underlying41 ?_;refine zd Xq (0) [.int .i64 x.1.2.1,.int .i64 x.1.2.2] (H271.out.range (i:=11) rR 0 2) Tryz.underlying41 ?_;refine zI1 (Hp.start _) _ ?_;refine zp (w':=(w269.alloc (.cells ([.int .i64 x.1.1.1,.int .i64 x.1.1.2,.int .i64 x.1.2.1,.int .i64 x.1.2.2]:List Value).toArray 42))) (.slice (some ⟨w269.heap.size,0,none⟩) 1 1) (by go_simp) ?_;refine mv_app rR _ _ _ rR elPP rR H271.out (ix:=9) rR 1 1 [.int .i64 x.1.1.1,.int .i64 x.1.1.2,.int .i64 x.1.2.1,.int .i64 x.1.2.2] rR rfl (by simp[Value.oneCell']) (by simp[NoUL]) dC (by unfold maxLen;exact(by have ob0:=HLEN.out;omega)) (by have ob0:=HLEN.out;omega) ?_;intro g376 cp377 w375 hf hh hd hg;have Fg376:=zH hf;clear hf;rw[show List.flatMap edC (pre.map Subtype.val)++[.int .i64 x.1.1.1,.int .i64 x.1.1.2,.int .i64 x.1.2.1,.int .i64 x.1.2.2]=_ from flat_snoc edC _ x.1]at hh;have H378:=hN hh;have D378:=zH (hd);have K380:=zH (show Fr (fun kz=>kz=X83\/kz=X155\/Value.ownBlock (.slice A n c)=some kz\/o2=some kz) W w375 from(HFR.out.trans (Fr.of_ext ((Ext.refl _).alloc _))).trans_new hg (fun j hj=> .inl (.inr (.inr (.inr (HO2.out.trans hj))))));clear hh hd hg;try simp only[Act.put,zA,zB,zC]
    refine aU 8 (.slice (some ⟨g376,0,none⟩) (pre.length+1) cp377) H378.out ?_;intro w381 H382 hd ho;have D382:=zH (hd);have K384:=zH (K380.out.trans_new ho (fun j hj=> .inl (.inr (.inl (by injection hj with hj;exact hj.symm)))));clear hd ho;refine wpList_nil ?_;have DD385:=tD D378 D382;gi_wp2
    exact⟨(KeepsFrom.of_fr K384.out (fun k hk o ho=>hk.elim (fun e=>H0.out.cells (i:=6) (by rfl) (by rw[e];rfl) o ho) (fun hk=>hk.elim (fun e=>H0.out.cells (i:=8) (by rfl) (by rw[e];rfl) o ho) (fun hk=>hk.elim (fun e=>H0.out.cells (i:=5) (by rfl) (by exact e) o ho) (fun e=>H0.out.cells (i:=9) (by rfl) (by exact HO2.out.symm.trans e) o ho))))),(K384.out.imp (fun k hk=>hk.elim .inl (fun hk=>hk.elim (fun e=> .inr (.inl e)) (fun hk=>hk.elim (fun e=>(HF1.out k e).elim (fun h=> .inr (.inr (.inl h))) (fun h=> .inr (.inr (.inr h)))) (fun e=> .inr (.inr (.inr (HF2.out k (HO2.out.symm.trans e))))))))),A4,n4,c4,es4,some ⟨g376,0,none⟩,cp377,(by have h_:=H382.out.take 10;rw[show pre.length+1=(pre++[x]).length by simp,show List.map Subtype.val pre++[x.1]=(pre++[x]).map Subtype.val by simp]at h_;exact h_),HD.out.trans ((((D193.out.trans D201.out).trans D271.out).trans D378.out).trans D382.out),(fun k hk=>(HO4.out k hk).elim (fun h=>HF1.out k h) (fun h=> .inr (Nat.le_trans HSZ.out h))),(fun k hk=>by have e_:g376=k:=(by simpa[Value.ownBlock]using hk);subst e_;exact Fg376.out.elim (fun q=>HF2.out _ q) (fun q=>Nat.le_trans HSZ.out (Nat.le_trans HFR.out.size q))),(by rw[HES4.out,List.take_of_length_le (by simp),List.map_append,List.map_cons,List.map_nil,evC_snoc,List.nil_append];simp[evStep]),HM4.out.1,(by have h_:=HM4.out.2;have h2_:=HNP.out;have h3_:=HLEN.out;simp;omega),(fun g_ hg_=>(HOE4.out g_ hg_).dig DD385.out),Nat.le_trans HSZ.out K384.out.size⟩
   rintro D xs W hD hxs ⟨A,n,c,es2,A2,c2,hh,hd,hf1,hf2,hvl,hnl,hnp,hok,hsz⟩ hK;have H0:=zH hh;have HVL:=zH hvl;have HNL:=zH hnl;have HOKS:=zH hok;have HXS:=zH hxs;have HD:=zH hK;have HDD:=zH hD;have hnp4:es2.length<=90000000:=by have h1:xs.length=(edgesV rs).length:=(by rw[<-hxs,List.length_map]);have h2:=edgesV_len rs;have h3:=okR_tot HV.out;omega
   clear hh hd hf1 hf2 hvl hnl hnp hok hsz hxs hK hD;go_upto_region 34 with fail
   refine wl ?_;refine zI1 H0.out _ ?_;refine zc (rising_any 24 dC (.slice A n c) es2 _ _ (by have h_:=H0.out.row (i:=5) rR;rw[<-HNL.out];exact h_) H0.out.ext.size HOKS.out (by omega)) ?_;rintro e w386 ⟨v3,es3,rfl,h2_,hg3_,h4_,h5_,h6_,h7_,h8_⟩;have HGR:=zH hg3_;have HR3:=zH (And.intro h6_ (And.intro h7_ h8_));have HD3:=zH h4_;have HS:=zH (H0.out.turn (i:=5) (e:= .row 36 4 (.slice A n c) (n) (List.flatMap R1E.cells es2)) (e':= .row 36 4 v3 es3.length (es3.flatMap R1E.cells)) (by rfl) (fun k h=>h) hg3_ h2_ (fun k hk=> .inl (by have h_:v3.ownBlock=some k:=hk;rw[h5_]at h_;exact h_)));clear h2_ hg3_ h4_ h5_ h6_ h7_ h8_;have hx:=True.intro;clear hx;refine zn ?_;refine zq (v3) ?_;go_wp2_with fail
   have hKs:w386.heap[D]?=some (.deferred (some [])):=(HGR.out.block D (Array.getElem?_eq_some_iff.1 HD.out).1 (fun e=>by have h1:=H0.out.cells (i:=5) (by rfl) (by exact e.symm) _ HD.out;cases h1)).trans HD.out;refine⟨by simp,.inl ⟨_,_,rfl,run_takeDeferred hKs,?_⟩⟩;have hfin:=HS.out.keptQ (grownBy_putObj' w386 D (.deferred none)) (fun k hk=>by injection hk with hk;subst hk;exact⟨Nat.le_trans HWS.out HDD.out,_,hKs,rfl⟩);have hdf:=HD3.out.trans (Dig.keptQ (grownBy_putObj' w386 D (.deferred none)) (fun k hk=>by injection hk with hk;subst hk;exact⟨_,hKs,rfl⟩));refine⟨_,results_tmp rfl _ _ _,v3,es3,rfl,hfin.row (i:=5) rR,HR3.out.1,fun q=>(HR3.out.2.1 q).trans ?_,fun e he=>(HOKS.out e (HR3.out.2.2 e he)).dig hdf,hfin.ext⟩;rw[HVL.out,HES.out,HXS.out,List.take_length];unfold evL;rw[if_pos ⟨HV.out,HOK.out.1,HOK.out.2,by have h_:=HLE.out;omega⟩]
  have HALL:=zH (Bool.eq_false_iff.2 HB.out);go_upto_region 1 with fail
  refine wl ?_;refine zI1 (Hp.start _) _ ?_;refine zc (polyValid_any _ rs _ (HU.out.ext H8.out.ext) HN.out HR.out) ?_;rintro e w389 ⟨rfl,hx⟩;have H390:=zH (H8.out.step hx);clear hx;refine⟨.bool true,by rw[HV.out],?_⟩;try simp only[Act.put,zA,zB,zC]
  refine zI4 H390.out (.bool false) (.bool false) _ _ ?_;refine aL' 2 41 [.int .i64 a.1,.int .i64 a.2,.int .i64 b.1,.int .i64 b.2] H390.out ?_;intro X394 w395 H396 _;refine zc (may_any (.slice (some ⟨X394,0,none⟩) 2 2) [a,b] _ (ptsLit2 H396.out (i:=2) rR) (by simp)) ?_;rintro e w398 ⟨rfl,hx⟩;have H399:=zH (H396.out.step hx);clear hx;refine⟨.bool false,by rw[HALL.out],?_⟩;try simp only[Act.put,zA,zB,zC]
  refine zI8 (Hp.start _) (.bool true) (.bool true) (.bool true) _ _ _ _ _ ?_;refine zq (.bool true) ?_;go_upto_region 2 with fail
  refine wl ?_;refine zI1 (Hp.start _) _ ?_;go_wp2_with fail
  exact⟨_,results_tmp rfl _ _ _,_,[],rfl,RowN.nil _ _ _ _,by simp,by rw[show evL a b rs=[]from if_neg (fun h=>HB.out (okAll2.2 ⟨h.2.1,h.2.2.1⟩))];simp,by simp,H399.out.ext⟩
 have HV:=zH (Bool.eq_false_iff.2 HVQ.out);go_upto_region 1 with fail
 refine wl ?_;refine zI1 (Hp.start _) _ ?_;refine zc (polyValid_any _ rs _ (HU.out.ext H8.out.ext) HN.out HR.out) ?_;rintro e w407 ⟨rfl,hx⟩;have H408:=zH (H8.out.step hx);clear hx;refine⟨.bool false,by rw[HV.out],?_⟩;try simp only[Act.put,zA,zB,zC]
 refine zI8 (Hp.start _) (.bool true) (.bool true) _ _ _ _ _ (.bool true) ?_;refine zI7 (Hp.start _) (.bool true) _ _ _ _ _ (.bool true) ?_;go_upto_region 2 with fail
 refine wl ?_;refine zI1 (Hp.start _) _ ?_;go_wp2_with fail
 exact⟨_,results_tmp rfl _ _ _,_,[],rfl,RowN.nil _ _ _ _,by simp,by rw[show evL a b rs=[]from if_neg (fun h=>HVQ.out h.1)];simp,by simp,H408.out.ext⟩
theorem same17I_any (n m:Bool)(u v:Value)(z:Int)(w:World)(hu:IntC w n u z)(hv:IntC w m v z)(hL:Nm.nl z.natAbs<=1000000):
    Calls Tryz.prog 43 #[.agg #[.bool n,u],.agg #[.bool m,v]] w fun e w'=>e= .returned (.bool true)/\Ext w w':=by
  obtain⟨rfl,p,cp,rfl,_,_,h3⟩:=hu;obtain⟨rfl,q,cq,rfl,_,_,h4⟩:=hv;unfold Nm.nl at hL;generalize Nm.digs z.natAbs=xs at*
  generalize decide (z<0)=s at*
  have H3:=zH h3;have H4:=zH h4;clear h3 h4;have HG:=zH (show∀x,Ext ((w.alloc (.cells #[.bool s,.slice p xs.length cp] 34)).alloc (.cells #[.bool s,.slice q xs.length cq] 34)) x->
      x.cell? ⟨w.heap.size,0,none⟩=some (.bool s)/\x.cell? ⟨w.heap.size,1,none⟩=some (.slice p xs.length cp)/\x.cell? ⟨w.heap.size+1,0,none⟩=some (.bool s)/\x.cell? ⟨w.heap.size+1,1,none⟩=some (.slice q xs.length cq)from fun x h=>
    ⟨h.get (by simp),h.get (by simp),h.get (by simp),h.get (by simp)⟩)
  have HW:=zH (show Ext w ((w.alloc (.cells #[.bool s,.slice p xs.length cp] 34)).alloc (.cells #[.bool s,.slice q xs.length cq] 34))from((Ext.refl _).alloc _).alloc _);have hbb:(s != s)=false:=by cases s<;>rfl
  go_enter Tryz.func43,Tryz.ntmps43
  go_wp2_with fail
  generalize ((w.alloc (.cells #[.bool s,.slice p xs.length cp] 34)).alloc (.cells #[.bool s,.slice q xs.length cq] 34))=wa at*
  go_loopw [5] (fun i wr=>∃k:Nat,k<=xs.length/\i= .int .i64 k/\Ext wa wr) (fun i _=>xs.length-(intOf i).toNat)
  case atStart=>exact⟨0,Nat.zero_le _,rfl,Ext.refl _⟩
  obtain⟨k,hk,rfl,he⟩:=hrel;have gl:=HG.out _ he;have HE:=zH he;clear he;by_cases hlt:k<xs.length
  · obtain⟨b,o,rfl,hb⟩:=H3.out (by omega)
    obtain⟨b2,o2,rfl,hb2⟩:=H4.out (by omega);have c0:=(HW.out.trans HE.out).get (hb k hlt);have c1:=(HW.out.trans HE.out).get (hb2 k hlt);clear hb hb2;generalize (xs.getD k 0:Nat)=d at c0 c1
    go_wp2_with fail
    go_quiet (fail)
    go_wp2_with fail
    go_roundw
    case rel=>exact⟨k+1,hlt,by go_num,HE.out.drewN _⟩
    case measure=>simp[intOf];omega
  go_wp2_with fail
  go_ret
  exact⟨rfl,HW.out.trans HE.out⟩
theorem same17G_any (a b:RV)(z1 z2:Int)(w:World)(ha1:IntC w a.n (.slice a.p a.l a.c) z1)(ha2:IntC w a.m (.slice a.p2 a.l2 a.c2) z2)(hb1:IntC w b.n (.slice b.p b.l b.c) z1)(hb2:IntC w b.m (.slice b.p2 b.l2 b.c2) z2)(hl1:Nm.nl z1.natAbs<=1000000)(hl2:Nm.nl z2.natAbs<=1000000):
    Calls Tryz.prog 13 #[.agg #[.bool a.n,.slice a.p a.l a.c,.bool a.m,.slice a.p2 a.l2 a.c2],.agg #[.bool b.n,.slice b.p b.l b.c,.bool b.m,.slice b.p2 b.l2 b.c2]] w fun e w'=>e= .returned (.bool true)/\Ext w w':=by
  have H1:=zH (fun W (x:Ext w W)=>same17I_any a.n b.n _ _ z1 W (ha1.ext x) (hb1.ext x) hl1);have H2:=zH (fun W (x:Ext w W)=>same17I_any a.m b.m _ _ z2 W (ha2.ext x) (hb2.ext x) hl2);have HG:=zH (show∀x,Ext ((w.alloc (.cells #[.bool a.n,.slice a.p a.l a.c,.bool a.m,.slice a.p2 a.l2 a.c2] 36)).alloc (.cells #[.bool b.n,.slice b.p b.l b.c,.bool b.m,.slice b.p2 b.l2 b.c2] 36)) x->
      x.cell? ⟨w.heap.size,0,none⟩=some (.bool a.n)/\x.cell? ⟨w.heap.size,1,none⟩=some (.slice a.p a.l a.c)/\x.cell? ⟨w.heap.size,2,none⟩=some (.bool a.m)/\x.cell? ⟨w.heap.size,3,none⟩=some (.slice a.p2 a.l2 a.c2)/\
      x.cell? ⟨w.heap.size+1,0,none⟩=some (.bool b.n)/\x.cell? ⟨w.heap.size+1,1,none⟩=some (.slice b.p b.l b.c)/\x.cell? ⟨w.heap.size+1,2,none⟩=some (.bool b.m)/\x.cell? ⟨w.heap.size+1,3,none⟩=some (.slice b.p2 b.l2 b.c2)from fun x h=>
    ⟨h.get (by simp),h.get (by simp),h.get (by simp),h.get (by simp),h.get (by simp),h.get (by simp),h.get (by simp),h.get (by simp)⟩)
  have HW:=zH (show Ext w ((w.alloc (.cells #[.bool a.n,.slice a.p a.l a.c,.bool a.m,.slice a.p2 a.l2 a.c2] 36)).alloc (.cells #[.bool b.n,.slice b.p b.l b.c,.bool b.m,.slice b.p2 b.l2 b.c2] 36))from((Ext.refl _).alloc _).alloc _);clear ha1 ha2 hb1 hb2;go_enter Tryz.func13,Tryz.ntmps13
  go_wp2_with fail
  generalize ((w.alloc (.cells #[.bool a.n,.slice a.p a.l a.c,.bool a.m,.slice a.p2 a.l2 a.c2] 36)).alloc (.cells #[.bool b.n,.slice b.p b.l b.c,.bool b.m,.slice b.p2 b.l2 b.c2] 36))=wa at*
  have gl:=HG.out _ (Ext.refl _);go_wp2_with fail
  refine(H1.out _ HW.out).mono ?_;rintro e wx ⟨rfl,hx1⟩;clear gl;have gl:=HG.out _ hx1;go_wp2_with fail
  refine(H2.out _ (HW.out.trans hx1)).mono ?_;rintro e wy ⟨rfl,hx2⟩;go_wp2_with fail
  go_ret
  exact⟨rfl,HW.out.trans (hx1.trans hx2)⟩
theorem same17_any (a b:RV)(q:Rat)(L:Nat)(w:World)(ha:a.Is w q)(hb:b.Is w q)(hq:Nm.rl q<=L)(hL:L<=1000000):
    Calls Tryz.prog 13 #[.agg #[.bool a.n,.slice a.p a.l a.c,.bool a.m,.slice a.p2 a.l2 a.c2],.agg #[.bool b.n,.slice b.p b.l b.c,.bool b.m,.slice b.p2 b.l2 b.c2]] w fun e w'=>e= .returned (.bool true)/\Ext w w':=
  same17G_any a b q.num (q.den:Int) w ha.1 ha.2 hb.1 hb.2 (by have:=Nat.le_max_left (Nm.nl q.num.natAbs) (Nm.nl q.den);unfold Nm.rl at hq;omega) (by have:=Nat.le_max_right (Nm.nl q.num.natAbs) (Nm.nl q.den);unfold Nm.rl at hq;simp only[Int.natAbs_natCast];omega)
theorem loadVar_bool {w:World}{g:Nat}{b:Bool}(h:Blk w g 4 ([.bool b]:List Value).toArray):(Go.loadVar 4 ⟨g,0,none⟩).run Tryz.prog w= .ok (.bool b) w:=by
  have hq:w.cell? ⟨g,0,none⟩=some (.bool b):=h.cell 0;have ha:(isAgg 4).run Tryz.prog w= .ok false w:=by kernel_rfl
  unfold Go.loadVar;simp only[Sem.run_bind,ha,Result.andThen];go_simp<;>rfl
theorem frame_ex {f:(Nat->Value)->Act}{a:Act}(h:a=f (fun q=>a.tmps.getD q undef)):∃J,a=f J:=⟨_,h⟩
def exSq:List Ring:=[[(0,0),(4,0),(4,4),(0,4)]]
def exBow:List Ring:=[[(0,0),(2,2),(2,0),(0,2)]]
def exTri:List Ring:=[[(0,0),(4,0),(0,4)]]
def exDeg:List Ring:=[[(0,0),(1,0),(1,0)]]
theorem q17FromInts (a b:Int)(w:World)(h1: -9223372036854775808<=a)(h2:a<=9223372036854775807)(h3: -9223372036854775808<=b)(h4:b<=9223372036854775807)(hb:b≠0):
    Calls Tryz.prog 59 #[.int .i64 a,.int .i64 b] w fun e w'=>∃c,e= .returned (.tuple #[.agg c,.int .i64 0])/\NIs w' c ((a:Rat)/(b:Rat))/\Ext w w':=by
  refine(r3fromInts_any a b w h1 h2 h3 h4 hb).mono fun e w' h=> ?_
  obtain⟨c,rfl,h3,h4⟩:=RetRE.v h;exact⟨_,rfl,⟨c,rfl,by rw[<-Rat.divInt_eq_div];exact h3⟩,h4⟩
theorem ringLit {w0 w:World}{m:List Ent}{i j X1 X2:Nat}(h:Hp w0 w m)(ps:List (Int×Int))(h1:m[i]?=some (.blk X1 41 (ps.flatMap fun p=>[.int .i64 p.1,.int .i64 p.2])))
  (h2:m[j]?=some (.blk X2 45 [.slice (some ⟨X1,0,none⟩) ps.length ps.length])):RingsV w (.slice (some ⟨X2,0,none⟩) 1 1) [ps]:=by
 refine⟨_,1,rfl,fun _=>⟨X2,0,rfl,fun i r hr=> ?_⟩⟩;have hi:i=0:=by have:=(List.getElem?_eq_some_iff.1 hr).1;simp at this;omega
 subst hi;have hr2:r=ps:=by simpa using hr.symm
 subst hr2;refine⟨_,r.length,h.cell h2 0 rfl,⟨_,r.length,rfl,fun _=>⟨X1,0,rfl,fun i hi=> ?_⟩⟩⟩;have hp:r[i]?=some r[i]:=List.getElem?_eq_getElem hi;have hg:r.getD i (0,0)=r[i]:=by simp[hi]
 rw[hg];have h3:=h.cell h1 (i*2+0) (flat_get (f:=fun p:Int×Int=>([.int .i64 p.1,.int .i64 p.2]:List Value)) (fun _=>rfl) r i r[i] hp 0 _ rfl);have h4:=h.cell h1 (i*2+1) (flat_get (f:=fun p:Int×Int=>([.int .i64 p.1,.int .i64 p.2]:List Value)) (fun _=>rfl) r i r[i] hp 1 _ rfl);rw[Nat.add_zero]at h3;rw[Nat.zero_add];exact⟨h3,h4⟩
theorem ex_cr:crAll (edsV exBow)=[((1:Rat),(1:Rat))]:=by decide+kernel
theorem ex_on:onV (edsV exBow) ((1:Rat),(1:Rat))=[0,2]:=by decide+kernel
theorem ex_bow:simB exBow=false:=by decide+kernel
theorem ex_tri:simB exTri=true:=by decide+kernel
theorem ex_isx {w w':World}{e:Ending}(h:IsxRet exBow w e w'):∃(g1 c1 g2 c2 go co:Nat) (pe:R2E),e= .returned (.tuple #[.slice (some ⟨g1,0,none⟩) 1 c1,.slice (some ⟨g2,0,none⟩) 1 c2])/\w'.rangeAt g1 0 pe.cells/\pe.a.Is w' (((1:Int):Rat)/((1:Int):Rat))/\
  w'.rangeAt g2 0 [.slice (some ⟨go,0,none⟩) 2 co]/\w'.rangeAt go 0 [.int .i64 0,.int .i64 2]/\Ext w w':=by
 obtain⟨v1,v2,ps,os,rfl,h1,h2,h3,h4,h5,h6,h7,hx⟩:=h;have hp:ps.map R2E.vl=[((1:Rat),(1:Rat))]:=strict_unique (lt:=fun x y=>cmp2 x y<0) (fun a h=>by rw[cmp2_eq.2 rfl]at h;exact absurd h (by decide)) (fun a b c h1 h2=>cmp2_tr (fun h=>by rw[cmp2_lt]at h h1;obtain⟨a1,a2⟩:=a;obtain⟨b1,b2⟩:=b;simp only at h h1;grind) h2) h2 (by simp) (fun z=>(h3 z).trans (by rw[ex_cr]));cases ps with
 |nil=>simp at hp
 |cons pe tl=>
  simp only[List.map_cons,List.cons.injEq,List.map_eq_nil_iff]at hp;obtain⟨hp,rfl⟩:=hp;cases os with
  |nil=>simp at h6
  |cons o tl=>
   simp only[List.map_cons,List.map_nil,List.cons.injEq,List.map_eq_nil_iff]at h6;obtain⟨h6,rfl⟩:=h6;rw[hp,ex_on]at h6;have h8:=h7 o (by simp);obtain⟨oA,oc,ol⟩:=o;simp only at h6;subst h6;unfold OnE.Ok at h8;obtain⟨A1,c1,rfl,e1⟩:=h1.form;obtain⟨g1,rfl⟩:=e1 (by simp);obtain⟨A2,c2,rfl,e2⟩:=h5.form;obtain⟨g2,rfl⟩:=e2 (by simp);obtain⟨A3,c3,e3,e4⟩:=h8.form;obtain⟨go,rfl⟩:=e4 (by simp);injection e3 with e3 e5 e6
   subst e3;have h9:=(h4 pe (by simp)).1;have h10:pe.p=((1:Int):Rat)/((1:Int):Rat):=(congrArg Prod.fst hp).trans (by decide+kernel);rw[h10]at h9;exact⟨g1,c1,g2,c2,go,oc,pe,rfl,h1.rangeAt 0 _ (fun j v hj=>by simpa using hj),h9,h5.rangeAt 0 _ (fun j v hj=>by simpa[OnE.cells]using hj),h8.rangeAt 0 _ (fun j v hj=>by simpa[iC]using hj),hx⟩
theorem ex_evL:(∀x,x∈evL (1,1) (3,3) exSq->x=1\/x=3)/\(1:Rat)∈evL (1,1) (3,3) exSq/\(3:Rat)∈evL (1,1) (3,3) exSq:=by decide+kernel
theorem ex_ev {w w':World}{e:Ending}(h:EvRet (1,1) (3,3) exSq w e w'):∃(A:Option Addr) (c:Nat),e= .returned (.slice A 2 c)/\Ext w w':=by
 obtain⟨v,es,rfl,h1,h2,h3,h4,hx⟩:=h;have hq:es.map R1E.q=[(1:Rat),3]:=strict_unique (lt:=fun x y:Rat=>x<y) (fun a h=>by grind) (fun a b c h1 h2=>by grind) h2 (by simp;decide) (fun z=>(h3 z).trans ⟨fun h=>by have:=ex_evL.1 z h;simpa using this,fun h=>by
  have h5:z=1\/z=3:=by simpa using h
  rcases h5 with rfl|rfl
  ·exact ex_evL.2.1
  exact ex_evL.2.2⟩)
 have hl:es.length=2:=by have:=congrArg List.length hq;simpa using this
 rw[hl]at h1;obtain⟨A,c,rfl,_⟩:=h1.form;exact⟨A,c,rfl,hx⟩
theorem pt17_any (x y:Int)(w:World):Calls Tryz.prog 19 #[.int .i64 x,.int .i64 y] w fun e w'=>e= .returned (.agg #[.int .i64 x,.int .i64 y])/\Ext w w':=by
 go_enter Tryz.func19,Tryz.ntmps19
 have H0:=zH (Hp.start w);go_upto_region 0 with fail
 refine wl ?_;refine aA' 41 [.int .i64 0,.int .i64 0] H0.out ?_;intro X1 w2 H3 _;go_upto_region 1 with fail
 refine wl ?_;refine zI3 (Hp.start _) (.int .i64 x) (.int .i64 y) _ ?_;refine aS' 0 [.int .i64 x,.int .i64 y] H3.out ?_;intro w9 H10 _;go_wp2_with fail
 refine bodyPost_ret (v:= .agg #[.int .i64 x,.int .i64 y]) ?_ rfl ⟨rfl,H10.out.ext⟩;exact results_cell1 rfl rfl ((H10.out.blk (i:=0) rR).loadVar rfl rfl rR)
theorem frac17_any (n d:Int)(w:World)(h1: -9223372036854775808<=n/\n<=9223372036854775807)(h2: -9223372036854775808<=d/\d<=9223372036854775807)(hd:d≠0):Calls Tryz.prog 22 #[.int .i64 n,.int .i64 d] w fun e w'=>∃r:RV,e= .returned (.agg #[.bool r.n,.slice r.p r.l r.c,.bool r.m,.slice r.p2 r.l2 r.c2])/\r.Is w' (((n:Int):Rat)/((d:Int):Rat))/\Ext w w':=by
 go_enter Tryz.func22,Tryz.ntmps22
 have H0:=zH (Hp.start w);go_upto_region 0 with fail
 refine wl ?_;refine aA' 36 rz H0.out ?_;intro X12 w13 H14 _;go_upto_region 1 with fail
 refine wl ?_;refine qV (.int .i64 n) ?_;refine zq (.int .i64 d) ?_;refine zc (q17FromInts n d _ h1.1 h1.2 h2.1 h2.2 hd) ?_;rintro e w19 ⟨c_,rfl,hc_,hx⟩;have H20:=zH (H14.out.step hx);obtain⟨r,rfl,hr_⟩:=hc_;have RF:=zH hr_;clear hr_ hx;refine zn ?_;refine zI3 (Hp.start _) _ _ _ ?_;refine aA' 36 rz H20.out ?_;intro X25 w26 H27 D27;refine aS' 1 (rc r) H27.out ?_;intro w30 H31 D31;refine zq (.int .i64 0) ?_;go_upto_region 2 with fail
 refine wl ?_;refine zI1 H31.out _ ?_;refine aS' 0 (rc r) H31.out ?_;intro w34 H35 D35;have DD37:=tD (tD D27 D31) D35;go_wp2_with fail
 refine bodyPost_ret (v:= .agg #[.bool r.n,.slice r.p r.l r.c,.bool r.m,.slice r.p2 r.l2 r.c2]) ?_ rfl ⟨r,rfl,(RF.out.dig DD37.out),H35.out.ext⟩;exact results_cell1 rfl rfl ((H35.out.blk (i:=0) rR).loadVar rfl rfl rR)
end Go.Proofs.YtiokhlgdelipdabGreat
namespace Go.Proofs.YtiokhlgdelipdabGreat
open Go.RowKit
attribute [local go_sem ↓] Go.wp_at_zero Go.wp_at_succ run_max_ii run_min_ii
open Go.RowKit Go.Shelf
theorem edges_loopX {n p0 p1:Nat}{g:Operand}{assign body:Code}{Q:Exit->Act->World->Prop}{a:Act}{W1:World}(hn:2<=n)(G:Nat->Prop)(Bx:Nat)(u:Value)(rs:List Ring)
  (hg:a.eval g= .func (.func 63) #[] #[.pointer (some ⟨Bx,0,none⟩)])(hcb:W1.cell? ⟨Bx,0,none⟩=some u)(hGb:¬G Bx)(hR:RingsO (fun k=>¬G k) W1 u rs)(hrs:rs.length<=1048576)(hok:okR rs=true)
  (hG:∀k,W1.heap.size<=k->G k)
  (I:List OkE->World->Prop)(Ix:Code->List OkE->World->Prop)(hI:OwnFrom W1.heap.size I)(hIx:∀c,OwnFrom W1.heap.size (Ix c))(h0:I [] W1)(Ax:OkE->Act->World->Prop)(hAx:∀x a',OwnFrom W1.heap.size (fun(_:Unit) W=>Ax x a' W))
  (hassign:∀(l:Nat) (pre:List OkE) (x:OkE) (W:World) (K:Act->World->Prop),I pre W->(∀a' W',KeepsFrom W1.heap.size W W'->Fr G W W'->I pre W'->Ax x a' W'->K a' W')->
   assign.wpIn (Fence.wide.inRound l) (n-1-1) Tryz.prog (Exit.then K (fun _ _ _=>False)) {tmps:=(a.tmps.setIfInBounds p0 (ptVal2 x.1.1)).setIfInBounds p1 (ptVal2 x.1.2),defers:=[]} W)
  (hbody:∀(l:Nat) (pre:List OkE) (x:OkE) (a':Act) (W:World),I pre W->Ax x a' W->pre.length<4096->
   body.wpIn (Fence.wide.inRound l) (n-1-1) Tryz.prog (ownPostG W1.heap.size (Fr G) I Ix (pre++[x]) W) a' W)
  (hdone:∀(D:Nat) (xs:List OkE) (W:World),W1.heap.size<=D->xs.map Subtype.val=edgesV rs->I xs W->W.heap[D]?=some (.deferred (some []))->Q .normal {a with defers:={target:= .collected D,args:=#[]}::a.defers} W)
  (hstop:∀(D:Nat) (c:Code) (pre:List OkE) (W:World),W1.heap.size<=D->pre.map Subtype.val<+:edgesV rs->Ix c pre W->W.heap[D]?=some (.deferred (some []))->c.wpIn Fence.wide n Tryz.prog Q {a with defers:={target:= .collected D,args:=#[]}::a.defers} W):
  (Code.rangeFunc g #[p0,p1] assign body).wpIn Fence.wide n Tryz.prog Q a W1:=by
 have hseq:SeqStopsK Fence.wide (n-1) Tryz.prog 63 #[.pointer (some ⟨Bx,0,none⟩)] encE (Fr G) (fun xs=>xs.map Subtype.val=edgesV rs) (fun pre=>pre.map Subtype.val<+:edgesV rs) 4096 W1:=by
  intro l J Jx W hW hJa hJxa hY hJ0;have hx:Ext W1 W:=hW;have hRW:=hR.ext hx;have hrl:∀r,r∈rs->r.length<=4096:=fun r hr=>by
   obtain⟨k,hk⟩:=List.mem_iff_getElem?.1 hr;have h1:=tot_succ hk;have h2:=tot_take rs (k+1);have h3:=okR_tot hok;omega
  have hN:(edgesV rs).length<=4096:=Nat.le_trans (edgesV_len rs) (okR_tot hok);have hEx:∀(s:List OkE) (A B:World),J s A->Ext A B->J s B:=fun s A B h x=>hJa s A B none h (grown_of_ext _ x) (fun r e=>by cases e)
  refine(edges1_in (n-1) (by omega) l Bx 4096 G u rs (fun s W=>∃xs:List OkE,xs.map Subtype.val=s/\J xs W) (fun s W=>∃xs:List OkE,xs.map Subtype.val=s/\Jx xs W) W (hx.get hcb) hGb hRW hrl hrs
   (fun s A B h x=>by obtain⟨xs,h1,h2⟩:=h;exact⟨xs,h1,hEx _ _ _ h2 x⟩) ?_ hN ⟨[],rfl,hJ0⟩).mono ?_
  ·rintro pre x W2 ⟨xs,rfl,h2⟩ hlen hmem
   refine(hY xs ⟨x,edges_ok hok x hmem⟩ W2 h2 (by simpa using hlen)).mono ?_;rintro e W3 (⟨rfl,h3,h4⟩|⟨rfl,h3⟩)
   ·exact .inl ⟨rfl,⟨_,by simp,h3⟩,h4⟩
   exact .inr ⟨rfl,⟨_,by simp,h3⟩⟩
  rintro e W2 ⟨h1,⟨ys,rfl,xs,h2,h3⟩|⟨pre,h2,xs,h3,h4⟩⟩
  ·exact⟨h1,.inl ⟨xs,h2,h3⟩⟩
  exact⟨h1,.inr ⟨xs,by show xs.map Subtype.val<+:edgesV rs;rw[h3];exact h2,h4⟩⟩
 refine wpIn_rangeFunc_ownH rfl (by omega) (gf:=63) (lb:=#[.pointer (some ⟨Bx,0,none⟩)]) hg trivial (enters_of Tryz.func63 kR rfl)
  hseq (fun h k=>Fr.trans h k) (fun W l o o' hl _ _ _=>Fr.putObj W l o' (.inl (hG l hl))) (Below.refl _ _) (fun _=>rfl) I Ix hI hIx h0 Ax hAx ?assign ?body ?done ?stop
 case assign=>
  intro l pre x W K hi hK;have e:((#[p0,p1]:Array Tmp).zip (encE x)).foldl (fun t (p,v)=>t.setIfInBounds p v) a.tmps=(a.tmps.setIfInBounds p0 (ptVal2 x.1.1)).setIfInBounds p1 (ptVal2 x.1.2):=by simp[encE]
  rw[e];exact hassign l pre x W K hi hK
 case body=>exact fun l pre x a' W _ _ hi ha hlt=>hbody l pre x a' W hi ha hlt
 case done=>exact fun D xs W hD hs hi hK=>hdone D xs W hD hs hi hK
 case stop=>exact fun D c pre W hD hp h hK=>hstop D c pre W hD hp h hK
end Go.Proofs.YtiokhlgdelipdabGreat
