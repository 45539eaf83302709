/- Contracts that the claim stands on: XEde to XRSim17. -/
import Derived.Test.YtdkfmkeaaeooeabGreatRows
import Derived.ProofKit
import Derived.OpenShut
import Derived.Below
import Derived.Deep.Slices
import Derived.Lib.SmallJoins
import Derived.ChangeSlices
import Derived.Deep.LoopGhost
import Derived.Deep.DeepCutAuto
import Derived.Test.YtdkfmkeaaeooeabGreatM5
set_option maxRecDepth 100000
set_option maxHeartbeats 4000000
namespace Go.Proofs.YtdkfmkeaaeooeabGreat
open Go.RowKit
attribute [local go_sem ↓] Go.wp_at_zero Go.wp_at_succ run_max_ii run_min_ii
theorem elEdge:ElT Tryz.prog 58 62 7 56:=ElT.of (z:= .agg #[.int .i64 0,.int .i64 0,.int .i64 0,.int .i64 0,.int .i64 0,.int .i64 0,.int .i64 0]) Tryz.underlying58 (by kernel_rfl) rfl (by simp[NoUL,Value.cells]) (by decide)
theorem okR_one {rs:List Ring}{k:Nat}{r:Ring}(h:okR rs=true)(hr:rs[k]?=some r):okR [r]=true:=by
  unfold okR at h⊢;rw[Bool.and_eq_true]at h⊢;have h1:=of_decide_eq_true h.1;have h2:=tot_succ hr;have h3:=tot_take rs (k+1);refine⟨decide_eq_true (by simp[tot];omega),?_⟩;simp only[List.all_cons,List.all_nil,Bool.and_true];exact List.all_eq_true.1 h.2 r (List.mem_of_getElem? hr)
theorem allV_len (rs:List Ring):∀k,k<=rs.length->(allV (rs.take k)).length<=tot (rs.take k)
  |0,_=>by simp[allV]
  | k+1,h=>by
    have hk:rs[k]?=some rs[k]:=List.getElem?_eq_getElem h;have h1:=edgesV_len [rs[k]];have h2:=allV_len rs k (by omega);rw[allV_take hk,tot_succ hk,List.length_append,edR_len];simp[tot]at h1;omega
def EdI (A:Option Addr)(cu:Nat)(rs:List Ring)(Bo:Nat)(w:World)(nn:Nat)(a:Act)(W:World):Prop:=
  ∃ (J:Nat->Value) (k:Nat) (ds:List Deferred) (A2:Option Addr) (n2 c2:Nat),nn=rs.length-k/\a={tmps:=#[.slice A rs.length cu,J 1,J 2,.pointer (some ⟨Bo,0,none⟩),J 4,J 5,J 6,J 7,J 8,J 9,J 10,J 11,J 12,.int .i64 (rs.length:Int),.int .i64 (k:Int),J 15,J 16,J 17,J 18,J 19,J 20,J 21,J 22,J 23,J 24,J 25,J 26,J 27,J 28,J 29,J 30,J 31,J 32,J 33,J 34,J 35,J 36,J 37,J 38,J 39,J 40,J 41,J 42,J 43,J 44,J 45,J 46,J 47,J 48,J 49,J 50,J 51,J 52,J 53,J 54],defers:=ds}/\k<=rs.length/\n2=(allV (rs.take k)).length/\
    Hp w W [.blk Bo 58 [.slice A2 n2 c2],.row 62 7 (.slice A2 n2 c2) (n2) (List.flatMap EdE.cells (allV (rs.take k)))]/\MarksL w.heap.size ds W
theorem edI_mk {A:Option Addr}{cu:Nat}{rs:List Ring}{Bo:Nat}{w W:World}{a:Act}(k:Nat)(ds:List Deferred)(A2:Option Addr)(n2 c2:Nat)(h3:k<=rs.length)(h4:n2=(allV (rs.take k)).length)
    (h5:Hp w W [.blk Bo 58 [.slice A2 n2 c2],.row 62 7 (.slice A2 n2 c2) (n2) (List.flatMap EdE.cells (allV (rs.take k)))])(h6:MarksL w.heap.size ds W)(h2:a={tmps:=#[.slice A rs.length cu,a.tmps.getD 1 undef,a.tmps.getD 2 undef,.pointer (some ⟨Bo,0,none⟩),a.tmps.getD 4 undef,a.tmps.getD 5 undef,a.tmps.getD 6 undef,a.tmps.getD 7 undef,a.tmps.getD 8 undef,a.tmps.getD 9 undef,a.tmps.getD 10 undef,a.tmps.getD 11 undef,a.tmps.getD 12 undef,.int .i64 (rs.length:Int),.int .i64 (k:Int),a.tmps.getD 15 undef,a.tmps.getD 16 undef,a.tmps.getD 17 undef,a.tmps.getD 18 undef,a.tmps.getD 19 undef,a.tmps.getD 20 undef,a.tmps.getD 21 undef,a.tmps.getD 22 undef,a.tmps.getD 23 undef,a.tmps.getD 24 undef,a.tmps.getD 25 undef,a.tmps.getD 26 undef,a.tmps.getD 27 undef,a.tmps.getD 28 undef,a.tmps.getD 29 undef,a.tmps.getD 30 undef,a.tmps.getD 31 undef,a.tmps.getD 32 undef,a.tmps.getD 33 undef,a.tmps.getD 34 undef,a.tmps.getD 35 undef,a.tmps.getD 36 undef,a.tmps.getD 37 undef,a.tmps.getD 38 undef,a.tmps.getD 39 undef,a.tmps.getD 40 undef,a.tmps.getD 41 undef,a.tmps.getD 42 undef,a.tmps.getD 43 undef,a.tmps.getD 44 undef,a.tmps.getD 45 undef,a.tmps.getD 46 undef,a.tmps.getD 47 undef,a.tmps.getD 48 undef,a.tmps.getD 49 undef,a.tmps.getD 50 undef,a.tmps.getD 51 undef,a.tmps.getD 52 undef,a.tmps.getD 53 undef,a.tmps.getD 54 undef],defers:=ds}):EdI A cu rs Bo w (rs.length-k) a W:=
  ⟨fun q=>a.tmps.getD q undef,k,ds,A2,n2,c2,rfl,h2,h3,h4,h5,h6⟩
def EdB (Bo X4 X5 k:Nat)(e0:List EdE)(A:Option Addr)(n0 c:Nat)(w W1:World)(pre:List OkE)(W:World):Prop:=
  ∃ (A2:Option Addr) (c2:Nat) (es:List EdE),Hp w W [.blk Bo 58 [.slice A2 (n0+pre.length) c2],.row 62 7 (.slice A2 (n0+pre.length) c2) (n0+pre.length) (List.flatMap EdE.cells (es)),.blk X4 3 [.int .i64 (k:Int)],.blk X5 3 [.int .i64 (n0:Int)]]/\(∀j,Value.ownBlock (.slice A2 (n0+pre.length) c2)=some j->Value.ownBlock (.slice A n0 c)=some j\/W1.heap.size<=j)/\es=e0++edR k (pre.map Subtype.val) 0/\W1.heap.size<=W.heap.size/\
    Fr (fun j=>j=Bo\/Value.ownBlock (.slice A n0 c)=some j\/W1.heap.size<=j) W1 W
theorem edB_own (Bo X4 X5 k:Nat)(e0:List EdE)(A:Option Addr)(n0 c:Nat)(w W1:World)(hw:w.heap.size<=W1.heap.size):OwnFrom W1.heap.size (EdB Bo X4 X5 k e0 A n0 c w W1):=by
  rintro s W W' row ⟨A2,c2,es,h1,h2,h3,h4,h5⟩ hg hr;exact⟨A2,c2,es,h1.keptQ hg (fun k hk=>⟨Nat.le_trans hw (hr k hk).1,(hr k hk).2⟩),h2,h3,Nat.le_trans h4 hg.size,Fr.trans_new h5 hg (fun j hj=> .inl (.inr (.inr (hr j hj).1)))⟩
def EdA (Bo X4 X5:Nat)(W1:World)(x:OkE)(a':Act)(W:World):Prop:=
  ∃(J:Nat->Value) (Xp Xq:Nat),Blk W Xp 41 ([.int .i64 x.1.1.1,.int .i64 x.1.1.2]:List Value).toArray/\Blk W Xq 41 ([.int .i64 x.1.2.1,.int .i64 x.1.2.2]:List Value).toArray/\Xp≠Xq/\W1.heap.size<=Xp/\W1.heap.size<=Xq/\a'={tmps:=#[J 0,J 1,J 2,.pointer (some ⟨Bo,0,none⟩),.pointer (some ⟨X4,0,none⟩),.pointer (some ⟨X5,0,none⟩),.pointer (some ⟨Xp,0,none⟩),.pointer (some ⟨Xq,0,none⟩),J 8,J 9,J 10,J 11,J 12,J 13,J 14,J 15,J 16,J 17,J 18,J 19,J 20,J 21,J 22,J 23,J 24,J 25,J 26,J 27,J 28,J 29,J 30,J 31,J 32,J 33,J 34,J 35,J 36,J 37,J 38,J 39,J 40,J 41,J 42,J 43,J 44,J 45,J 46,J 47,J 48,J 49,J 50,J 51,J 52,J 53,J 54],defers:=[]}
theorem edA_own (Bo X4 X5:Nat)(W1:World)(x:OkE)(a':Act):OwnFrom W1.heap.size (fun(_:Unit) W=>EdA Bo X4 X5 W1 x a' W):=by
  rintro _ W W' row ⟨J,Xp,Xq,h1,h2,h3⟩ hg hr;exact⟨J,Xp,Xq,h1.kept hg (fun k hk=>(hr k hk).2),h2.kept hg (fun k hk=>(hr k hk).2),h3⟩
theorem edA_mk {Bo X4 X5 Xp Xq:Nat}{W1 W:World}{x:OkE}{a':Act}(h1:Blk W Xp 41 ([.int .i64 x.1.1.1,.int .i64 x.1.1.2]:List Value).toArray)(h2:Blk W Xq 41 ([.int .i64 x.1.2.1,.int .i64 x.1.2.2]:List Value).toArray)(h3:Xp≠Xq)(h4:W1.heap.size<=Xp)(h5:W1.heap.size<=Xq)
    (h6:a'={tmps:=#[a'.tmps.getD 0 undef,a'.tmps.getD 1 undef,a'.tmps.getD 2 undef,.pointer (some ⟨Bo,0,none⟩),.pointer (some ⟨X4,0,none⟩),.pointer (some ⟨X5,0,none⟩),.pointer (some ⟨Xp,0,none⟩),.pointer (some ⟨Xq,0,none⟩),a'.tmps.getD 8 undef,a'.tmps.getD 9 undef,a'.tmps.getD 10 undef,a'.tmps.getD 11 undef,a'.tmps.getD 12 undef,a'.tmps.getD 13 undef,a'.tmps.getD 14 undef,a'.tmps.getD 15 undef,a'.tmps.getD 16 undef,a'.tmps.getD 17 undef,a'.tmps.getD 18 undef,a'.tmps.getD 19 undef,a'.tmps.getD 20 undef,a'.tmps.getD 21 undef,a'.tmps.getD 22 undef,a'.tmps.getD 23 undef,a'.tmps.getD 24 undef,a'.tmps.getD 25 undef,a'.tmps.getD 26 undef,a'.tmps.getD 27 undef,a'.tmps.getD 28 undef,a'.tmps.getD 29 undef,a'.tmps.getD 30 undef,a'.tmps.getD 31 undef,a'.tmps.getD 32 undef,a'.tmps.getD 33 undef,a'.tmps.getD 34 undef,a'.tmps.getD 35 undef,a'.tmps.getD 36 undef,a'.tmps.getD 37 undef,a'.tmps.getD 38 undef,a'.tmps.getD 39 undef,a'.tmps.getD 40 undef,a'.tmps.getD 41 undef,a'.tmps.getD 42 undef,a'.tmps.getD 43 undef,a'.tmps.getD 44 undef,a'.tmps.getD 45 undef,a'.tmps.getD 46 undef,a'.tmps.getD 47 undef,a'.tmps.getD 48 undef,a'.tmps.getD 49 undef,a'.tmps.getD 50 undef,a'.tmps.getD 51 undef,a'.tmps.getD 52 undef,a'.tmps.getD 53 undef,a'.tmps.getD 54 undef],defers:=[]}):EdA Bo X4 X5 W1 x a' W:=⟨fun q=>a'.tmps.getD q undef,Xp,Xq,h1,h2,h3,h4,h5,h6⟩
theorem iedges_any (A:Option Addr)(cu:Nat)(rs:List Ring)(w:World)(hu:RingsV w (.slice A rs.length cu) rs)(hc:rs.length<=cu)(hn:rs.length<=1048576)(hr:∀r,r∈rs->r.length<=1048576):
  Calls Tryz.prog 20 #[.slice A rs.length cu] w fun e w'=>∃v,e= .returned v/\RowN w' w.heap.size 62 7 v (edsV rs).length ((edsV rs).flatMap EdE.cells)/\Ext w w':=by
 have HU:=zH hu;have HN:=zH hn;have HR:=zH hr;have HC:=zH hc;clear hu hr;refine(callsIn_wide (n:=4)).1 ?_;refine callsIn_of_wp_marks Tryz.func20 rfl trivial ?_ rfl;simp only[Tryz.ntmps20,List.size_toArray,List.length_cons,List.length_nil,Nat.reduceAdd,Nat.reduceSub,Array.replicate_succ,Array.replicate_zero,List.push_toArray,List.append_toArray,List.nil_append,List.cons_append];refine wpIn_wide.2 ?_;refine Go.Code.wp_mono bodyPostQ.m ?_;have H0:=zH (Hp.start w);go_upto_region 0 with fail
 refine wl ?_;refine zI1 (Hp.start _) _ ?_;go_upto_region 1 with fail
 refine wl ?_;refine aA' 58 [.slice none 0 0] H0.out ?_;intro X2 w3 H4 _;rcases emH (okR rs=true)with HVQ|HVQ
 ·have HV:=HVQ
  go_upto_region 2 with fail
  refine wl ?_;refine zI1 (Hp.start _) _ ?_;refine zc (polyValid_any _ rs _ (HU.out.ext H4.out.ext) HN.out HR.out) ?_;rintro e w9 ⟨rfl,hx⟩;have H10:=zH (H4.out.step hx);clear hx;refine⟨.bool true,by rw[HV.out],?_⟩;try simp only[Act.put,zA,zB,zC]
  refine zq (.bool false) ?_;have H13:=zH (show Hp w w9 [.blk X2 58 [.slice none 0 0],ro 62 7 none 0 0 EdE.cells ([])]from H10.out.addNil 62 7);go_upto_region 4 with fail
  refine wl ?_;refine zI3 (Hp.start _) _ (.int .i64 ((rs.length:Nat):Int)) _ ?_;go_wp2_with fail
  refine wp_loop_ghost_k (EdI A cu rs X2 w) rs.length (edI_mk 0 [] none 0 0 (Nat.zero_le _) (by simp[allV]) H13.out (.nil _ _) rR) ?_;rintro gk a_ W ⟨J,k,ds,A2,n2,c2,rfl,rfl,hk_,hn2_,hh_,hm_⟩ JJ KK hJJ hKK;skip
  have HK:=zH hk_;have HN2:=zH hn2_;have HM:=zH hm_;have H1:=zH hh_;clear hk_ hn2_ hm_ hh_;rcases emH (k<rs.length)with HLT|HLT
  ·have hlt:=HLT.out
   obtain⟨r,hri_⟩:∃r,rs[k]?=some r:=⟨_,List.getElem?_eq_getElem hlt⟩;have HRI:=zH hri_;have hrl:r.length<=4096:=by have h_:=tot_succ hri_;have h2_:=tot_take rs (k+1);have h3_:=okR_tot HV.out;omega
   have hnb:n2+r.length<=4096:=by have h_:=tot_succ hri_;have h2_:=tot_take rs (k+1);have h3_:=okR_tot HV.out;have h4_:=allV_len rs k (by omega);rw[HN2.out];omega
   have HOK1:=zH (okR_one HV.out hri_);obtain⟨g,off,rfl⟩:∃g off,A=some ⟨g,off,none⟩:=by obtain⟨A_,cu_,hv_,hA_⟩:=HU.out;injection hv_ with e1_ e2_ e3_;subst e1_;obtain⟨g_,off_,e_,_⟩:=hA_ (by omega);exact⟨g_,off_,e_⟩
   have HU1:=zH (RingsV.one HU.out hri_ (cu-k));clear hri_;go_upto_region 5 with fail
   refine wl ?_;refine zp (.bool true) (by exact ezl (e:=(dec_t (by omega)))) ?_;go_upto_region 6 with fail
   refine wl ?_;refine zq (.int .i64 (k:Int)) ?_;refine aA 3 [.int .i64 0] H1.out ?_;intro X21 w22 H24 hx hge;have Q23:=zH (show W.heap.size<=X21 from Nat.le_trans (Fr.of_ext (G:=fun kz=>False) (Ext.refl W)).size hge);have K26:=zH (show Fr (fun kz=>False) W w22 from(Fr.of_ext (G:=fun kz=>False) (Ext.refl W)).trans (Fr.of_ext hx));clear hx hge;refine aU 2 (.int .i64 (k:Int)) H24.out ?_;intro w28 H29 hd ho;have K31:=zH (K26.out.trans_new ho (fun j hj=> .inr (by injection hj with hj;rw[<-hj];exact Q23.out)));clear hd ho;go_upto_region 7 with fail
   refine wl ?_;refine zI2 H29.out _ (.int .i64 (n2:Int)) ?_;refine aA 3 [.int .i64 0] H29.out ?_;intro X33 w34 H36 hx hge;have Q35:=zH (Nat.le_trans K31.out.size hge);have K38:=zH (K31.out.trans (Fr.of_ext hx));clear hx hge;refine aU 3 (.int .i64 (n2:Int)) H36.out ?_;intro w40 H41 hd ho;have K43:=zH (K38.out.trans_new ho (fun j hj=> .inr (by injection hj with hj;rw[<-hj];exact Q35.out)));clear hd ho;go_upto_region 8 with fail
   refine wl ?_;refine zI3 H41.out _ _ _ ?_;refine zp (.int .i64 ((k+1:Nat):Int)) (by exact ez1 (by omega)) ?_;refine zp (.slice (some ⟨g,off+k*1,none⟩) 1 (cu-k)) (by exact ev_slice1 rR Tryz.underlying22 kR rR rR rR rfl (by go_num) hlt HC.out) ?_;refine zc (edges_any _ [r] _ (HU1.out.ext H41.out.ext) (by simp) (by simp;omega)) ?_;rintro e w47 ⟨Bx,ve,rfl,hB1,hB2,hcell,hR,hx⟩;have HB1:=zH hB1;have HB2:=zH hB2;have HCL:=zH hcell;rw[if_pos HOK1.out]at hR;have HRG:=zH hR;clear hB1 hB2 hcell hR;have H48:=zH (H41.out.step hx);have K50:=zH (K43.out.trans (Fr.of_ext hx));clear hx;refine zn ?_;have hbo:=H41.out.lt (i:=0) (k:=X2) (by rfl) rfl;have hbr:=fun k_ (hk_:Value.ownBlock (.slice A2 n2 c2)=some k_)=>H41.out.lt (i:=1) (k:=k_) (by rfl) (by exact hk_)
   have HRF:=zH (show RingsO (fun k_=>¬(fun j=>j=X2\/Value.ownBlock (.slice A2 n2 c2)=some j\/w47.heap.size<=j) k_) w47 ve [r]from HRG.out.imp (fun k_ h hk=>by rcases hk with rfl|hk|hk;omega;have h2:=hbr k_ hk;omega;omega));have HWS:=zH (show w.heap.size<=w47.heap.size from H48.out.ext.size);have HM1:=zH (HM.out.fr K50.out (fun _ h=>h.elim));have hgb:¬(fun j=>j=X2\/Value.ownBlock (.slice A2 n2 c2)=some j\/w47.heap.size<=j) Bx:=fun hk=>by have h1:=HB1.out;have h9:=HB2.out;rcases hk with hk|hk|hk;omega;have h2:=hbr _ hk;omega;omega
   have HCG:=zH (show∀j,(fun j=>j=X2\/Value.ownBlock (.slice A2 n2 c2)=some j\/w47.heap.size<=j) j->∀o:Obj,w47.heap[j]?=some o->o.isCells=true from fun j hj o ho=>by rcases hj with rfl|hj|hj;exact H48.out.cells (i:=0) (by rfl) rfl o ho;exact H48.out.cells (i:=1) (by rfl) (by exact hj) o ho;have h_:=(Array.getElem?_eq_some_iff.1 ho).1;omega);go_wp2_with fail
   refine wpIn_wide.1 (edges_loop (n:=4) (by omega) (fun j=>j=X2\/Value.ownBlock (.slice A2 n2 c2)=some j\/w47.heap.size<=j) Bx ve [r] rR HCL.out hgb HRF.out (by simp) HOK1.out (fun k_ h_=> .inr (.inr h_)) (EdB X2 X21 X33 k (allV (rs.take k)) A2 n2 c2 w w47) (edB_own X2 X21 X33 k (allV (rs.take k)) A2 n2 c2 w w47 HWS.out) ⟨A2,c2,allV (rs.take k),H48.out,fun k_ hk_=> .inl hk_,by simp[edR],Nat.le_refl _,Fr.of_ext (Ext.refl _)⟩ (EdA X2 X21 X33 w47) (edA_own X2 X21 X33 w47) ?assign ?body ?done);case assign=>
    intro l pre x W2 K hi hK;obtain⟨A3,c3,es,hh,ho,he,hsz,hfr⟩:=hi;have H2:=zH hh;have HO3:=zH ho;have HES:=zH he;have HSZ:=zH hsz;have HF:=zH hfr;have HKF:=zH hK;clear hh ho he hsz hfr hK;unfold ptVal2;simp only[zA,zB,zC];refine wpIn_seq ?_;refine wpIn_region_plain kR (fun⟨_,_,h⟩=>h) ?_;refine aA 41 [.int .i64 0,.int .i64 0] H2.out ?_;intro X51 w52 H54 hx hge;have Q53:=zH (show W2.heap.size<=X51 from Nat.le_trans (Fr.of_ext (G:=fun kz=>False) (Ext.refl W2)).size hge);have K56:=zH (show Fr (fun kz=>False) W2 w52 from(Fr.of_ext (G:=fun kz=>False) (Ext.refl W2)).trans (Fr.of_ext hx));clear hx hge;refine aS 4 [.int .i64 x.1.1.1,.int .i64 x.1.1.2] H54.out ?_;intro w58 H59 hd ho;have K61:=zH (K56.out.trans_new ho (fun j hj=> .inr (by injection hj with hj;rw[<-hj];exact Q53.out)));clear hd ho;refine wpIn_region_plain kR (fun⟨_,_,h⟩=>h) ?_;refine aA 41 [.int .i64 0,.int .i64 0] H59.out ?_;intro X62 w63 H65 hx hge;have Q64:=zH (Nat.le_trans K61.out.size hge);have K67:=zH (K61.out.trans (Fr.of_ext hx));clear hx hge;refine aS 5 [.int .i64 x.1.2.1,.int .i64 x.1.2.2] H65.out ?_;intro w69 H70 hd ho;have K72:=zH (K67.out.trans_new ho (fun j hj=> .inr (by injection hj with hj;rw[<-hj];exact Q64.out)));clear hd ho;refine HKF.out _ _ (KeepsFrom.of_fr K72.out (fun _ h=>h.elim)) (K72.out.imp (fun _ h=>h.elim)) ⟨A3,c3,es,H70.out.take 4,HO3.out,HES.out,Nat.le_trans HSZ.out K72.out.size,HF.out.trans (K72.out.imp (fun _ h=>h.elim))⟩ (edA_mk (H70.out.blk (i:=4) rR) (H70.out.blk (i:=5) rR) ?_ (Nat.le_trans HSZ.out Q53.out) (Nat.le_trans HSZ.out Q64.out) rR);exact fun e=>H70.out.apart 4 5 _ _ (by rfl) (by rfl) (by decide) X51 (by rfl) (by rw[e];rfl)
   case body=>
    intro l pre x a' W2 hi hax hlen;obtain⟨A3,c3,es,hh,ho,he,hsz,hfr⟩:=hi;obtain⟨J2,Xp,Xq,hba,hbb,hne,hga,hgb2,rfl⟩:=hax;have HO3:=zH ho;have HES:=zH he;have HSZ:=zH hsz;have HF:=zH hfr;have H2:=zH (show Hp w W2 [.blk X2 58 [.slice A3 (n2+pre.length) c3],ro 62 7 A3 (n2+pre.length) c3 EdE.cells es,.blk X21 3 [.int .i64 (k:Int)],.blk X33 3 [.int .i64 (n2:Int)],.blk Xp 41 [.int .i64 x.1.1.1,.int .i64 x.1.1.2],.blk Xq 41 [.int .i64 x.1.2.1,.int .i64 x.1.2.2]]from hh.addTyp2 hba hbb hne (Nat.le_trans HWS.out hga) (Nat.le_trans HWS.out hgb2) (by simp[NoUL]) (by simp[NoUL]) (by simp only[List.forall_mem_cons,List.not_mem_nil,false_imp_iff,implies_true,and_true];exact⟨by simp[Ent.typ],by simp[Ent.typ],by simp[Ent.typ],by simp[Ent.typ]⟩));clear hh ho he hsz hfr hba hbb hne hga hgb2;have HFR0:=zH (show Fr (fun kz=>kz=X2\/Value.ownBlock (.slice A3 (n2+pre.length) c3)=some kz) W2 W2 from Fr.of_ext (Ext.refl W2));gi_upto_region 11 with fail
    refine wpIn_region_plain kR (fun⟨_,_,h⟩=>h) ?_;refine zI7 H2.out _ _ _ _ _ (.int .i64 ((n2+pre.length:Nat):Int)) _ ?_;refine zp (.int .i64 ((pre.length:Nat):Int)) (by exact ev_sub rR rR rR (by omega) (by omega) (by omega)) ?_;refine zI1 (Hp.start _) _ ?_;refine zp (w':=(W2.alloc (.cells ([.int .i64 x.1.1.1,.int .i64 x.1.1.2,.int .i64 x.1.2.1,.int .i64 x.1.2.2,.int .i64 (k:Int),.int .i64 ((pre.length:Nat):Int),.int .i64 0]:List Value).toArray 62))) (.slice (some ⟨W2.heap.size,0,none⟩) 1 1) (by go_simp) ?_;refine mv_app rR _ _ _ rR elEdge rR H2.out (ix:=1) rR 1 1 [.int .i64 x.1.1.1,.int .i64 x.1.1.2,.int .i64 x.1.2.1,.int .i64 x.1.2.2,.int .i64 (k:Int),.int .i64 ((pre.length:Nat):Int),.int .i64 0] rR rfl (by simp[Value.oneCell']) (by simp[NoUL]) dC (by unfold maxLen;exact(by omega)) (by omega) ?_;intro g77 cp78 w76 hf hh hd hg;have Fg77:=zH hf;clear hf;rw[show List.flatMap EdE.cells es++[.int .i64 x.1.1.1,.int .i64 x.1.1.2,.int .i64 x.1.2.1,.int .i64 x.1.2.2,.int .i64 (k:Int),.int .i64 ((pre.length:Nat):Int),.int .i64 0]=_ from flat_snoc EdE.cells _ ⟨x.1.1,x.1.2,k,pre.length,0⟩]at hh;have H79:=hN hh;have K81:=zH (show Fr (fun kz=>kz=X2\/Value.ownBlock (.slice A3 (n2+pre.length) c3)=some kz) W2 w76 from(HFR0.out.trans (Fr.of_ext ((Ext.refl _).alloc _))).trans_new hg (fun j hj=> .inl (.inr hj)));clear hh hd hg;try simp only[Act.put,zA,zB,zC]
    refine aU 0 (.slice (some ⟨g77,0,none⟩) (n2+pre.length+1) cp78) H79.out ?_;intro w82 H83 hd ho;have K85:=zH (K81.out.trans_new ho (fun j hj=> .inl (.inl (by injection hj with hj;exact hj.symm))));clear hd ho;refine wpList_nil ?_;gi_wp2
    have hkx:=K85.out;have hfx:Fr (fun j=>j=X2\/Value.ownBlock (.slice A2 n2 c2)=some j\/w47.heap.size<=j) W2 w82:=hkx.imp (fun k_ h_=>h_.elim .inl (fun h_=> .inr (HO3.out k_ h_)));exact⟨KeepsFrom.of_fr hkx (fun k_ hk_ o_ ho_=>hk_.elim (fun e_=>H2.out.cells (i:=0) (by rfl) (by rw[e_];rfl) o_ ho_) (fun e_=>H2.out.cells (i:=1) (by rfl) (by exact e_) o_ ho_)),hfx,some ⟨g77,0,none⟩,cp78,_,(by have h_:=H83.out.take 4;rw[show n2+pre.length+1=n2+(pre++[x]).length by simp;omega]at h_;exact h_),(fun k_ hk_=>by have e_:g77=k_:=(by simpa[Value.ownBlock]using hk_);subst e_;exact Fg77.out.elim (fun q=>HO3.out _ q) (fun q=> .inr (Nat.le_trans HSZ.out (Nat.le_trans HFR0.out.size q)))),(by rw[HES.out,List.map_append,List.map_cons,List.map_nil,edR_snoc,List.append_assoc,List.length_map]),Nat.le_trans HSZ.out hkx.size,HF.out.trans hfx⟩
   rintro D xs W2 hD hxs ⟨A3,c3,es,hh,ho,he,hsz,hfr⟩ hK;have HM2:=zH (MarksL.cons (HM1.out.fr hfr HCG.out) HM1.out hD (Nat.le_trans HWS.out hD) hK);obtain⟨m,hm_⟩:∃m,m=xs.length:=⟨_,rfl⟩;have hme:m=(edgesV [r]).length:=by rw[hm_,<-hxs,List.length_map]
   have hmr:m<=r.length:=by rw[hme];have h_:=edgesV_len [r];simp[tot]at h_;exact h_
   have hes:es=allV (rs.take k)++edP k (edgesV [r]) m 0:=by rw[edP_zero,he,hxs]
   rw[<-hm_]at hh;subst hes;have HME:=zH hme;have H2:=zH hh;have HCC:=zH (fun(k_:Nat) (hk_:Value.ownBlock (.slice A3 (n2+m) c3)=some k_)=>hh.cells (i:=1) (by rfl) (by exact hk_));clear hh ho he hsz hfr hK hxs hm_ hme;go_upto_region 12 with fail
   refine wl ?_;refine zI2 H2.out _ (.int .i64 (n2:Int)) ?_;go_wp2_with fail
   go_loopg [8] (m) (fun cq v87 wr=>∃(j:Nat),cq=m-j/\v87= .int .i64 ((n2+j:Nat):Int)/\(j<=m)/\(Fr (fun kz=>Value.ownBlock (.slice A3 (n2+m) c3)=some kz) W2 wr)/\Hp w wr [.blk X2 58 [.slice A3 (n2+m) c3],.row 62 7 (.slice A3 (n2+m) c3) (n2+m) (List.flatMap EdE.cells (allV (rs.take k)++edP k (edgesV [r]) m j)),.blk X21 3 [.int .i64 (k:Int)],.blk X33 3 [.int .i64 (n2:Int)]]/\Dig W2 wr)
   case atStart=>exact⟨0,rfl,rfl,Nat.zero_le _,Fr.of_ext (Ext.refl _),H2.out,Dig.refl _⟩
   obtain⟨j,rfl,rfl,q_HJM,q_HFR,hh_,hd_⟩:=hrel;generalize wr=w88 at*
   have HJM:=zH q_HJM;clear q_HJM;have HFR:=zH q_HFR;clear q_HFR;have H90:=zH hh_;have D90:=zH hd_;clear hh_ hd_ H2;rcases emH (j<m)with HJT|HJT
   ·have hjt:=HJT.out
    obtain⟨ed,hed_⟩:∃ed,(edgesV [r])[j]?=some ed:=⟨_,List.getElem?_eq_getElem (by rw[<-HME.out];exact hjt)⟩;have HE:=zH (show(allV (rs.take k)++edP k (edgesV [r]) m j)[n2+j]?=some ⟨ed.1,ed.2,k,j,0⟩from by rw[HN2.out];exact edP_get hed_ _);have HSE:=zH (show(allV (rs.take k)++edP k (edgesV [r]) m j).set (n2+j) ⟨ed.1,ed.2,k,j,m⟩=allV (rs.take k)++edP k (edgesV [r]) m (j+1)from by rw[HN2.out];exact edP_set hed_ _);clear hed_;obtain⟨ge,hge_⟩:=RowN.form (H90.out.row (i:=1) (by rfl)) |>.elim (fun A_ h_=>h_.elim (fun c_ h2_=>(show∃ge,A3=some ⟨ge,0,none⟩from by obtain⟨e_,h3_⟩:=h2_;injection e_ with e1_ e2_ e3_;subst e1_;exact h3_ (by omega))));subst hge_;go_upto_region 13 with fail
    refine wl ?_;refine zI3 H90.out (.int .i64 ((n2+j:Nat):Int)) _ (.int .i64 ((n2+m:Nat):Int)) ?_;refine zp (.bool true) (by exact ezl (e:=(dec_t (by omega)))) ?_;go_upto_region 15 with fail
    refine wl ?_;refine zI5 H90.out _ (.int .i64 ((n2+j:Nat):Int)) _ (.int .i64 ((n2+m:Nat):Int)) _ ?_;refine zp (.int .i64 (m:Int)) (by exact ev_sub rR rR rR (by omega) (by omega) (by omega)) ?_;refine zp (.pointer (some ⟨ge,(n2+j)*7,none⟩)) (by exact ezi (k:=n2+j) Tryz.underlying58 (l:=(show n2+j<n2+m by omega)) (f:=(Nat.zero_add _).symm)) ?_;refine zq (.pointer (some ⟨ge,(n2+j)*7+6,none⟩)) ?_;refine mv_stPart1 (f:=EdE.cells) rR _ _ _ rR H90.out (ix:=1) rR EdE.len (n2+j) (⟨ed.1,ed.2,k,j,0⟩:EdE) (⟨ed.1,ed.2,k,j,m⟩:EdE) HE.out 6 (.int .i64 (m:Int)) dC rR ((n2+j)*7+6) rR rR rR kR (by simp[Value.cells]) (by simp[Value.oneCell']) (by simp[NoUL]) ?_;intro w101 hh hd ho;have H102:=hN hh;have D102:=zH (hd);have K104:=zH (HFR.out.trans_new ho (fun j hj=> .inl hj));clear hh hd ho
    (try simp only[Act.put])
    have HSS:=zH (show Hp w w101 [.blk X2 58 [.slice (some ⟨ge,0,none⟩) (n2+m) c3],.row 62 7 (.slice (some ⟨ge,0,none⟩) (n2+m) c3) (n2+m) (List.flatMap EdE.cells (allV (rs.take k)++edP k (edgesV [r]) m (j+1))),.blk X21 3 [.int .i64 (k:Int)],.blk X33 3 [.int .i64 (n2:Int)]]from by have h_:=H102.out;rw[HSE.out]at h_;exact h_);go_upto_region 14 with fail
    refine wl ?_;refine zq (.int .i64 ((n2+j:Nat):Int)) ?_;refine zp (.int .i64 ((n2+j+1:Nat):Int)) (by exact ez1 (by omega)) ?_;refine zq (.int .i64 ((n2+j+1:Nat):Int)) ?_;have DD108:=tD D90 D102;go_wp2_with fail
    go_roundg (m-(j+1))
    case measure=>exact(by omega)
    case rel=>exact⟨j+1,rfl,(by go_num),hjt,K104.out,HSS.out,DD108.out⟩
   have hjt:=HJT.out;have hjm:=HJM.out;obtain rfl:j=m:=by omega
   go_upto_region 13 with fail
   refine wl ?_;refine zI3 H90.out (.int .i64 ((n2+j:Nat):Int)) _ (.int .i64 ((n2+j:Nat):Int)) ?_;refine zp (.bool false) (by exact ezl (e:=(dec_f (by omega)))) ?_;go_upto_region 16 with fail
   refine wl ?_;refine zp (.int .i64 ((k+1:Nat):Int)) (by exact ez1 (by omega)) ?_;refine zq (.int .i64 ((k+1:Nat):Int)) ?_;have HSS:=zH (show Hp w w88 [.blk X2 58 [.slice A3 (n2+j) c3],.row 62 7 (.slice A3 (n2+j) c3) (n2+j) (List.flatMap EdE.cells (allV (rs.take (k+1))))]from by rw[allV_take HRI.out,<-edP_all,<-HME.out];exact H90.out.take 2);have hme2:=HME.out;go_wp2_with fail
   exact Handed.intro (rs.length-(k+1)) (by omega) (hJJ _ _ _ (edI_mk (k+1) _ A3 (n2+j) c3 hlt (by rw[allV_take HRI.out,List.length_append,edR_len,<-hme2,<-HN2.out]) HSS.out (HM2.out.fr HFR.out (fun k_ hk_ o_ ho_=>HCC.out k_ hk_ o_ ho_)) (by rfl)))
  have hlt:=HLT.out;have hkk:=HK.out;obtain rfl:k=rs.length:=by omega
  go_upto_region 5 with fail
  refine wl ?_;refine zp (.bool false) (by exact ezl (e:=(dec_f (Int.lt_irrefl _)))) ?_;go_upto_region 17 with fail
  refine wl ?_;refine zI2 H1.out _ _ ?_;go_wp2_with fail
  refine leaves_marks (b:=w.heap.size) (fun W_=>Hp w W_ [.blk X2 58 [.slice A2 n2 c2],.row 62 7 (.slice A2 n2 c2) (n2) (List.flatMap EdE.cells (allV (rs.take rs.length)))]) (fun W_ D_ hJ_ hb_ hK_=>hJ_.keptQ (grownBy_putObj' W_ D_ (.deferred none)) (fun k_ hk_=>by injection hk_ with hk_;subst hk_;exact⟨hb_,_,hK_,rfl⟩)) (fun W_ hJ_=> ?_) ds _ H1.out HM.out;refine⟨_,results_tmp rfl _ _ _,_,rfl,?_,hJ_.ext⟩;have h_:=hJ_.row (i:=1) (by rfl);have hn2:=HN2.out;rw[List.take_length]at h_ hn2;subst hn2;rw[show edsV rs=allV rs from if_pos HV.out];exact h_
 have HV:=zH (Bool.eq_false_iff.2 HVQ.out);go_upto_region 2 with fail
 refine wl ?_;refine zI1 (Hp.start _) _ ?_;refine zc (polyValid_any _ rs _ (HU.out.ext H4.out.ext) HN.out HR.out) ?_;rintro e w117 ⟨rfl,hx⟩;have H118:=zH (H4.out.step hx);clear hx;refine⟨.bool false,by rw[HV.out],?_⟩;try simp only[Act.put,zA,zB,zC]
 refine zq (.bool true) ?_;go_upto_region 3 with fail
 refine wl ?_;refine zI1 (Hp.start _) _ ?_;go_wp2_with fail
 exact⟨_,results_tmp rfl _ _ _,_,rfl,by rw[show edsV rs=[]from if_neg HVQ.out];exact RowN.nil _ _ _ _,H118.out.ext⟩
theorem allV_mem {rs:List Ring}{e:EdE}(h:e∈allV rs):∃(k:Nat) (r:Ring) (i:Nat) (x:Edge),rs[k]?=some r/\(edgesV [r])[i]?=some x/\e=⟨x.1,x.2,k,i,(edgesV [r]).length⟩:=by
 obtain⟨l,hl,he⟩:=List.mem_flatten.1 h;obtain⟨k,hk⟩:=List.mem_iff_getElem?.1 hl;rw[List.getElem?_mapIdx]at hk;cases hr:rs[k]?with
 |none=>simp[hr]at hk
 |some r=>
  simp only[hr,Option.map_some,Option.some.injEq]at hk;subst hk;obtain⟨i,hi⟩:=List.mem_iff_getElem?.1 he;unfold edR at hi;rw[List.getElem?_mapIdx]at hi;cases hx:(edgesV [r])[i]?with
  |none=>simp[hx]at hi
  |some x=>
   simp only[hx,Option.map_some,Option.some.injEq]at hi;exact⟨k,r,i,x,hr,hx,hi.symm⟩
theorem allV_bd {rs:List Ring}(h:okR rs=true)(hn:rs.length<=1048576):∀e,e∈allV rs->e.Bd:=by
  intro e he;obtain⟨k,r,i,x,hk,hi,rfl⟩:=allV_mem he;have h1:=edges_ok (okR_one h hk) x (List.mem_of_getElem? hi);have h2:=(List.getElem?_eq_some_iff.1 hi).1;have h3:=(List.getElem?_eq_some_iff.1 hk).1;have h4:=edgesV_len [r];have h5:=okR_tot (okR_one h hk);exact⟨h1.1,h1.2,by show k<=1048576;omega,h2,by show(edgesV [r]).length<=4096;omega⟩
theorem edsV_bd {rs:List Ring}(hn:rs.length<=1048576):∀e,e∈edsV rs->e.Bd:=by
  unfold edsV;split
  · rename_i h;exact allV_bd h hn
  intro e he;cases he
theorem edsV_len (rs:List Ring):(edsV rs).length<=4096:=by
  unfold edsV;split
  · rename_i h
    have h1:=allV_len rs rs.length (Nat.le_refl _);have h2:=okR_tot h;rw[List.take_length]at h1;omega
  simp
def simP (x y:EdE):Bool:=if adjB x y=true then decide (segN x.a x.b y.a y.b=1)else(djB x y||decide (segN x.a x.b y.a y.b=0))
theorem SegRet.any {a b c d:Int×Int}{w w':World}{e:Ending}(h:SegRet a b c d w e w'):∃r s:RV,e= .returned (.tuple #[.agg #[.bool r.n,.slice r.p r.l r.c,.bool r.m,.slice r.p2 r.l2 r.c2],.agg #[.bool s.n,.slice s.p s.l s.c,.bool s.m,.slice s.p2 s.l2 s.c2],.int .i64 (segN a b c d)])/\Ext w w':=by
  obtain⟨⟨r,s,h0,h1,_,_⟩|⟨_,h1⟩,hx⟩:=h
  · exact⟨r,s,by rw[h1,h0],hx⟩
  exact⟨⟨false,none,0,0,false,none,0,0⟩,⟨false,none,0,0,false,none,0,0⟩,h1,hx⟩
def simRow (es:List EdE)(k:Nat):Bool:=match es[k]?with|some y=>(es.take k).all (fun x=>simP x y)|none=>true
def simAll (es:List EdE):Bool:=(List.range es.length).all (simRow es)
def simB (rs:List Ring):Bool:=okR rs&&simAll (edsV rs)
theorem simAll_bad {es:List EdE}{k i:Nat}{x y:EdE}(hk:es[k]?=some y)(hi:es[i]?=some x)(h:i<k)(hp:simP x y=false):simAll es=false:=by
  rw[Bool.eq_false_iff];intro hs;have h1:=List.all_eq_true.1 hs k (List.mem_range.2 (List.getElem?_eq_some_iff.1 hk).1);unfold simRow at h1;rw[hk]at h1;have h2:=List.all_eq_true.1 h1 x (List.mem_iff_getElem?.2 ⟨i,by rw[List.getElem?_take,if_pos h,hi]⟩);rw[hp]at h2;cases h2
theorem take_all {α:Type}{es:List α}{i:Nat}{x:α}{p:α->Bool}(hi:es[i]?=some x)(h:(es.take i).all p=true)(hx:p x=true):(es.take (i+1)).all p=true:=by
  rw[List.take_add_one,hi];simp only[Option.toList_some,List.all_append,h,List.all_cons,hx,List.all_nil,Bool.and_self]
theorem range_all {p:Nat->Bool}{k:Nat}(h:(List.range k).all p=true)(hx:p k=true):(List.range (k+1)).all p=true:=by
  rw[List.range_succ];simp only[List.all_append,h,List.all_cons,hx,List.all_nil,Bool.and_self]
theorem isSimple_any (A:Option Addr)(cu:Nat)(rs:List Ring)(w:World)(hu:RingsV w (.slice A rs.length cu) rs)(hc:rs.length<=cu)(hn:rs.length<=1048576)(hr:∀r,r∈rs->r.length<=1048576):
  Calls Tryz.prog 17 #[.slice A rs.length cu] w fun e w'=>e= .returned (.bool (simB rs))/\Ext w w':=by
 have HU:=zH hu;have HN:=zH hn;have HR:=zH hr;have HC:=zH hc;have hel:=edsV_len rs;clear hu hr hc hn;go_enter Tryz.func17,Tryz.ntmps17
 have H0:=zH (Hp.start w);go_upto_region 0 with fail
 refine wl ?_;refine zq (.bool false) ?_;rcases emH (okR rs=true)with HVQ|HVQ
 ·have HV:=HVQ
  go_upto_region 1 with fail
  refine wl ?_;refine zI1 (Hp.start _) _ ?_;refine zc (polyValid_any _ rs _ (HU.out.ext H0.out.ext) HN.out HR.out) ?_;rintro e w4 ⟨rfl,hx⟩;have H5:=zH (H0.out.step hx);clear hx;refine⟨.bool true,by rw[HV.out],?_⟩;try simp only[Act.put,zA,zB,zC]
  refine zq (.bool false) ?_;go_upto_region 3 with fail
  refine wl ?_;refine zI1 (Hp.start _) _ ?_;refine zc (iedges_any A cu rs _ (HU.out.ext H5.out.ext) HC.out HN.out HR.out) ?_;rintro e w9 ⟨v_,rfl,hrow_,hx⟩;obtain⟨Ae,ce,rfl,hfe_⟩:=hrow_.form;have HFE:=zH hfe_;clear hfe_;have H10:=zH (show Hp w w9 [ro 62 7 Ae ((edsV rs).length) ce EdE.cells (edsV rs)]from H5.out.addRow hx hrow_);clear hrow_ hx;refine zn ?_;refine zI1 (Hp.start _) _ ?_;go_upto_region 4 with fail
  refine wl ?_;refine zI3 (Hp.start _) _ (.int .i64 (((edsV rs).length:Nat):Int)) _ ?_;go_wp2_with fail
  go_loopg [17] ((edsV rs).length) (fun cq v16 wr=>∃(k:Nat),cq=((edsV rs).length)-k/\v16= .int .i64 (k:Int)/\(k<=(edsV rs).length)/\((List.range k).all (simRow (edsV rs))=true)/\Hp w wr [.row 62 7 (.slice Ae ((edsV rs).length) ce) ((edsV rs).length) (List.flatMap EdE.cells (edsV rs))]/\Dig w9 wr)
  case atStart=>exact⟨0,rfl,rfl,Nat.zero_le _,rfl,H10.out,Dig.refl _⟩
  obtain⟨k,rfl,rfl,q_HKN,q_HALL,hh_,hd_⟩:=hrel;generalize wr=w17 at*
  have HKN:=zH q_HKN;clear q_HKN;have HALL:=zH q_HALL;clear q_HALL;have H19:=zH hh_;have D19:=zH hd_;clear hh_ hd_ H10;rcases emH (k<(edsV rs).length)with HLT|HLT
  ·have hlt:=HLT.out
   go_upto_region 5 with fail
   refine wl ?_;refine zp (.bool true) (by exact ezl (e:=(dec_t (by omega)))) ?_;go_upto_region 6 with fail
   refine wl ?_;refine zI2 (Hp.start _) (.int .i64 (k:Int)) (.int .i64 (k:Int)) ?_;go_upto_region 7 with fail
   refine wl ?_;refine zI2 (Hp.start _) (.int .i64 (k:Int)) _ ?_;go_wp2_with fail
   go_loopg [21] (k) (fun cq v26 wr=>∃(i:Nat),cq=k-i/\v26= .int .i64 (i:Int)/\(i<=k)/\(∀ey:EdE,(edsV rs)[k]?=some ey->((edsV rs).take i).all (fun x=>simP x ey)=true)/\((List.range k).all (simRow (edsV rs))=true)/\Hp w wr [.row 62 7 (.slice Ae ((edsV rs).length) ce) ((edsV rs).length) (List.flatMap EdE.cells (edsV rs))]/\Dig w17 wr)
   case atStart=>exact⟨0,rfl,rfl,Nat.zero_le _,(fun _ _=>by simp),HALL.out,H19.out,Dig.refl _⟩
   obtain⟨i,rfl,rfl,q_HKI,q_HROW,q_HALL,hh_,hd_⟩:=hrel;generalize wr=w27 at*
   have HKI:=zH q_HKI;clear q_HKI;have HROW:=zH q_HROW;clear q_HROW;have HALL:=zH q_HALL;clear q_HALL;have H29:=zH hh_;have D29:=zH hd_;clear hh_ hd_ H19;rcases emH (i<k)with HIK|HIK
   ·have HIK2:=HIK
    have hik:=HIK2.out;obtain⟨ge,rfl⟩:=HFE.out (by omega);obtain⟨ex,hex_⟩:∃x,(edsV rs)[i]?=some x:=⟨_,List.getElem?_eq_getElem (by omega)⟩;obtain⟨ey,hey_⟩:∃x,(edsV rs)[k]?=some x:=⟨_,List.getElem?_eq_getElem (by omega)⟩;have HEX:=zH hex_;have HEY:=zH hey_;have HBX:=zH (edsV_bd HN.out ex (List.mem_of_getElem? hex_));have HBY:=zH (edsV_bd HN.out ey (List.mem_of_getElem? hey_));clear hex_ hey_;go_upto_region 8 with fail
    refine wl ?_;refine zp (.bool true) (by exact ezl (e:=(dec_t (by omega)))) ?_;go_upto_region 9 with fail
    refine wl ?_;refine zI2 (Hp.start _) (.int .i64 (i:Int)) (.int .i64 (i:Int)) ?_;go_upto_region 10 with fail
    refine wl ?_;refine zq (.int .i64 0) ?_;rcases emH (adjB ex ey=true)with HAD|HAD
    ·go_upto_region 11 with fail
     refine zy ?_;have H36:=zH (H29.out.step (Ext.refl w27).drew);have D36:=zH (Dig.of_ext (w:=w27) zb);refine zJ2 (Hp.start _) zb (bs 9 3) 0 1 _ (.int .i64 (i:Int)) ?_;refine zo 2 (bs 9 7) (v:= .pointer (some ⟨ge,i*7,none⟩)) zb ?_ (hv:=by intro w hSw;exact ezi (k:=i) Tryz.underlying58 (l:=(show i<(edsV rs).length by omega)) (f:=(Nat.zero_add _).symm));refine zg 3 (bs 9 15) ge (i*7) [.int .i64 ex.a.1,.int .i64 ex.a.2,.int .i64 ex.b.1,.int .i64 ex.b.2,.int .i64 ((ex.r:Nat):Int),.int .i64 ((ex.i:Nat):Int),.int .i64 ((ex.n:Nat):Int)] (H29.out.elem (f:=EdE.cells) (i:=0) rR EdE.len HEX.out) Tryz.underlying62 zb ?_;refine zJ2 (Hp.start _) zb (bs 9 63) 4 5 _ (.int .i64 (k:Int)) ?_;refine zo 6 (bs 9 127) (v:= .pointer (some ⟨ge,k*7,none⟩)) zb ?_ (hv:=by intro w hSw;exact ezi (k:=k) Tryz.underlying58 (l:=(show k<(edsV rs).length by omega)) (f:=(Nat.zero_add _).symm));refine zg 7 (bs 9 255) ge (k*7) [.int .i64 ey.a.1,.int .i64 ey.a.2,.int .i64 ey.b.1,.int .i64 ey.b.2,.int .i64 ((ey.r:Nat):Int),.int .i64 ((ey.i:Nat):Int),.int .i64 ((ey.n:Nat):Int)] (H29.out.elem (f:=EdE.cells) (i:=0) rR EdE.len HEY.out) Tryz.underlying62 zb ?_;refine mC 8 (bs 9 511) (adjacent_any ex ey _ HBX.out HBY.out) ?_;rintro e w44 ⟨rfl,hx⟩;have H45:=zH (H36.out.step hx);have D45:=zH (show Dig w27.drew w44 from Dig.of_ext hx);have S47:=zH (zb.trans hx);clear hx;refine⟨.bool true,by rw[HAD.out],S47.out,?_⟩;try simp only[Act.put,zA,zB,zC]
     refine wpAnyH_done kR ?_ _;go_upto_region 12 with fail
     refine wl ?_;refine zq (.int .i64 1) ?_;go_upto_region 13 with fail
     refine zy ?_;have H49:=zH (H45.out.step (Ext.refl w44).drew);have D49:=zH (Dig.of_ext (w:=w44) zb);refine zx 0 (bs 13 1) (.int .i64 1) zb ?_;refine zu 1 (bs 13 3) (v:= .bool false) zb ?_ (hv:=by intro w hSw;exact ezq (e:=(dec_f (by omega))));refine zJ8 (Hp.start _) zb (bs 13 1023) 2 3 4 5 6 7 8 9 (.bool false) _ _ _ _ _ _ _ ?_;refine zJ3 (Hp.start _) zb (bs 13 8191) 10 11 12 _ _ (.bool false) ?_;refine wpAnyH_done kR ?_ _;go_upto_region 14 with fail
     refine wp_region_held_drew (S:=fun x=>Ext w44.drew x) kR zb (fun _=> ?_);have H55:=zH (H49.out.step (Ext.refl w44.drew).drew);have D55:=zH (show Dig w44.drew w44.drew.drew from Dig.of_ext (Ext.refl w44.drew).drew);refine zJ2 (Hp.start _) zb (bs 30 3) 0 1 _ (.int .i64 (i:Int)) ?_;refine zu 2 (bs 30 7) (v:= .pointer (some ⟨ge,i*7,none⟩)) zb ?_ (hv:=by intro w hSw;exact ezi (k:=i) Tryz.underlying58 (l:=(show i<(edsV rs).length by omega)) (f:=(Nat.zero_add _).symm));refine zJ1 (Hp.start _) zb (bs 30 15) 3 _ ?_;refine zg 4 (bs 30 31) ge (i*7) [.int .i64 ex.a.1,.int .i64 ex.a.2] (range_part (H49.out.elem (f:=EdE.cells) (i:=0) rR EdE.len HEX.out) 0 2) Tryz.underlying41 zb ?_;refine zJ2 (Hp.start _) zb (bs 30 127) 5 6 _ (.int .i64 (i:Int)) ?_;refine zu 7 (bs 30 255) (v:= .pointer (some ⟨ge,i*7,none⟩)) zb ?_ (hv:=by intro w hSw;exact ezi (k:=i) Tryz.underlying58 (l:=(show i<(edsV rs).length by omega)) (f:=(Nat.zero_add _).symm));refine mX 8 (bs 30 511) (.pointer (some ⟨ge,i*7+2,none⟩)) zb ?_;refine zg 9 (bs 30 1023) ge (i*7+2) [.int .i64 ex.b.1,.int .i64 ex.b.2] (range_part (H49.out.elem (f:=EdE.cells) (i:=0) rR EdE.len HEX.out) 2 2) Tryz.underlying41 zb ?_;refine zJ2 (Hp.start _) zb (bs 30 4095) 10 11 _ (.int .i64 (k:Int)) ?_;refine zu 12 (bs 30 8191) (v:= .pointer (some ⟨ge,k*7,none⟩)) zb ?_ (hv:=by intro w hSw;exact ezi (k:=k) Tryz.underlying58 (l:=(show k<(edsV rs).length by omega)) (f:=(Nat.zero_add _).symm));refine zJ1 (Hp.start _) zb (bs 30 16383) 13 _ ?_;refine zg 14 (bs 30 32767) ge (k*7) [.int .i64 ey.a.1,.int .i64 ey.a.2] (range_part (H49.out.elem (f:=EdE.cells) (i:=0) rR EdE.len HEY.out) 0 2) Tryz.underlying41 zb ?_;refine zJ2 (Hp.start _) zb (bs 30 131071) 15 16 _ (.int .i64 (k:Int)) ?_;refine zu 17 (bs 30 262143) (v:= .pointer (some ⟨ge,k*7,none⟩)) zb ?_ (hv:=by intro w hSw;exact ezi (k:=k) Tryz.underlying58 (l:=(show k<(edsV rs).length by omega)) (f:=(Nat.zero_add _).symm));refine mX 18 (bs 30 524287) (.pointer (some ⟨ge,k*7+2,none⟩)) zb ?_;refine zg 19 (bs 30 1048575) ge (k*7+2) [.int .i64 ey.b.1,.int .i64 ey.b.2] (range_part (H49.out.elem (f:=EdE.cells) (i:=0) rR EdE.len HEY.out) 2 2) Tryz.underlying41 zb ?_;refine FN.go2 (j1:=⟨25,some 7,36,[.bool false,.slice none 0 0,.bool false,.slice none 0 0]⟩) (j2:=⟨26,some 8,36,[.bool false,.slice none 0 0,.bool false,.slice none 0 0]⟩) (b:=w44.drew) ?_ zb;refine gN 20 (bs 30 2097151) (fk (fk trivial)) zb.size (fun xq hxq=>((segments_any ex.a ex.b ey.a ey.b _ HBX.out.1 HBX.out.2.1 HBY.out.1 HBY.out.2.1).mono (fun _ _ h_=>h_.any))) (by rintro x_ e x2_ ⟨r74,s74,rfl,hx⟩;exact hx) ?_;rintro xq e w73 hxq ⟨r74,s74,rfl,hx⟩;replace hx:=hxq.trans hx;clear hxq;have H75:=zH (H55.out.step hx);have D75:=zH (show Dig w44.drew.drew w73 from Dig.of_ext hx);have S77:=zH (zb.trans hx);clear hx;refine⟨_,rfl,?_⟩;try simp only[Act.put,zA,zB,zC]
     refine gT 21 (bs 30 4194303) _ ?_;refine gT 22 (bs 30 8388607) _ ?_;refine gT 23 (bs 30 16777215) _ ?_;refine gT 24 (bs 30 33554431) (.int .i64 (segN ex.a ex.b ey.a ey.b)) ?_;refine gE2 (bs 30 134217727) (fk (fk trivial)) S77.out.size H49.out H75.out ?_;intro X82 X83 w84 hx hh hg0 hg1 hs;have H85:=hN hh;have D85:=zH (Dig.of_ext hx);have S87:=zH (show Ext w44.drew w84 from hs);have G88:=zH (show w44.drew.heap.size<=X82 from hg0);have G89:=zH (show w44.drew.heap.size<=X83 from hg1);clear hh hx hs hg0 hg1;try simp only[Act.put,zA,zB,zC]
     refine bS 1 27 (bs 30 268435455) (rc r74) H85.out S87.out G88.out ?_;intro w90 H91 D91 S93;refine bS 2 28 (bs 30 536870911) (rc s74) H91.out S93.out G89.out ?_;intro w94 H95 D95 S97;refine zx 29 (bs 30 1073741823) (.int .i64 (segN ex.a ex.b ey.a ey.b)) S97.out ?_;refine wpAnyH_done kR ?_ _;rcases emH (segN ex.a ex.b ey.a ey.b=1)with HSG|HSG
     ·go_upto_region 15 with fail
      refine wl ?_;refine zI2 (Hp.start _) (.int .i64 (segN ex.a ex.b ey.a ey.b)) _ ?_;refine zp (.bool false) (by exact ezn (e:=(dec_f (fun h_=>h_ HSG.out)))) ?_;go_upto_region 17 with fail
      refine wl ?_;refine zp (.int .i64 ((i+1:Nat):Int)) (by exact ez1 (by omega)) ?_;refine zq (.int .i64 ((i+1:Nat):Int)) ?_;have DD105:=tD (tD (tD (tD (tD (tD (tD (tD D29 D36) D45) D49) D55) D75) D85) D91) D95;go_wp2_with fail
      go_roundg (k-(i+1))
      case measure=>exact(by omega)
      case rel=>exact⟨i+1,rfl,(by go_num),hik,(fun ey_ hey2_=>by obtain rfl:ey_=ey:=Option.some.inj (hey2_.symm.trans HEY.out);exact take_all HEX.out (HROW.out _ hey2_) (by unfold simP;rw[if_pos HAD.out];exact decide_eq_true HSG.out)),HALL.out,H95.out.take 1,DD105.out⟩
     go_upto_region 15 with fail
     refine wl ?_;refine zI2 (Hp.start _) (.int .i64 (segN ex.a ex.b ey.a ey.b)) _ ?_;refine zp (.bool true) (by exact ezn (e:=(dec_t HSG.out))) ?_;go_upto_region 16 with fail
     refine wl ?_;refine zq (.bool false) ?_;go_wp2_with fail
     go_ret
     exact⟨by rw[show simB rs=false from by unfold simB;rw[simAll_bad HEY.out HEX.out hik (by unfold simP;rw[if_pos HAD.out];exact decide_eq_false HSG.out),Bool.and_false]];rfl,H95.out.ext⟩
    have HADF:=zH (Bool.eq_false_iff.2 HAD.out);go_upto_region 11 with fail
    refine zy ?_;have H110:=zH (H29.out.step (Ext.refl w27).drew);have D110:=zH (Dig.of_ext (w:=w27) zb);refine zJ2 (Hp.start _) zb (bs 9 3) 0 1 _ (.int .i64 (i:Int)) ?_;refine zo 2 (bs 9 7) (v:= .pointer (some ⟨ge,i*7,none⟩)) zb ?_ (hv:=by intro w hSw;exact ezi (k:=i) Tryz.underlying58 (l:=(show i<(edsV rs).length by omega)) (f:=(Nat.zero_add _).symm));refine zg 3 (bs 9 15) ge (i*7) [.int .i64 ex.a.1,.int .i64 ex.a.2,.int .i64 ex.b.1,.int .i64 ex.b.2,.int .i64 ((ex.r:Nat):Int),.int .i64 ((ex.i:Nat):Int),.int .i64 ((ex.n:Nat):Int)] (H29.out.elem (f:=EdE.cells) (i:=0) rR EdE.len HEX.out) Tryz.underlying62 zb ?_;refine zJ2 (Hp.start _) zb (bs 9 63) 4 5 _ (.int .i64 (k:Int)) ?_;refine zo 6 (bs 9 127) (v:= .pointer (some ⟨ge,k*7,none⟩)) zb ?_ (hv:=by intro w hSw;exact ezi (k:=k) Tryz.underlying58 (l:=(show k<(edsV rs).length by omega)) (f:=(Nat.zero_add _).symm));refine zg 7 (bs 9 255) ge (k*7) [.int .i64 ey.a.1,.int .i64 ey.a.2,.int .i64 ey.b.1,.int .i64 ey.b.2,.int .i64 ((ey.r:Nat):Int),.int .i64 ((ey.i:Nat):Int),.int .i64 ((ey.n:Nat):Int)] (H29.out.elem (f:=EdE.cells) (i:=0) rR EdE.len HEY.out) Tryz.underlying62 zb ?_;refine mC 8 (bs 9 511) (adjacent_any ex ey _ HBX.out HBY.out) ?_;rintro e w118 ⟨rfl,hx⟩;have H119:=zH (H110.out.step hx);have D119:=zH (show Dig w27.drew w118 from Dig.of_ext hx);have S121:=zH (zb.trans hx);clear hx;refine⟨.bool false,by rw[HADF.out],S121.out,?_⟩;try simp only[Act.put,zA,zB,zC]
    refine wpAnyH_done kR ?_ _;rcases emH (djB ex ey=true)with HDJ|HDJ
    ·go_upto_region 13 with fail
     refine zy ?_;have H123:=zH (H119.out.step (Ext.refl w118).drew);have D123:=zH (Dig.of_ext (w:=w118) zb);refine zx 0 (bs 13 1) (.int .i64 0) zb ?_;refine zu 1 (bs 13 3) (v:= .bool true) zb ?_ (hv:=by intro w hSw;exact ezq (e:=(dec_t (by omega))));refine zJ3 (Hp.start _) zb (bs 13 31) 2 3 4 (.bool true) _ (.int .i64 (i:Int)) ?_;refine zo 5 (bs 13 63) (v:= .pointer (some ⟨ge,i*7,none⟩)) zb ?_ (hv:=by intro w hSw;exact ezi (k:=i) Tryz.underlying58 (l:=(show i<(edsV rs).length by omega)) (f:=(Nat.zero_add _).symm));refine zg 6 (bs 13 127) ge (i*7) [.int .i64 ex.a.1,.int .i64 ex.a.2,.int .i64 ex.b.1,.int .i64 ex.b.2,.int .i64 ((ex.r:Nat):Int),.int .i64 ((ex.i:Nat):Int),.int .i64 ((ex.n:Nat):Int)] (H119.out.elem (f:=EdE.cells) (i:=0) rR EdE.len HEX.out) Tryz.underlying62 zb ?_;refine zJ2 (Hp.start _) zb (bs 13 511) 7 8 _ (.int .i64 (k:Int)) ?_;refine zo 9 (bs 13 1023) (v:= .pointer (some ⟨ge,k*7,none⟩)) zb ?_ (hv:=by intro w hSw;exact ezi (k:=k) Tryz.underlying58 (l:=(show k<(edsV rs).length by omega)) (f:=(Nat.zero_add _).symm));refine zg 10 (bs 13 2047) ge (k*7) [.int .i64 ey.a.1,.int .i64 ey.a.2,.int .i64 ey.b.1,.int .i64 ey.b.2,.int .i64 ((ey.r:Nat):Int),.int .i64 ((ey.i:Nat):Int),.int .i64 ((ey.n:Nat):Int)] (H119.out.elem (f:=EdE.cells) (i:=0) rR EdE.len HEY.out) Tryz.underlying62 zb ?_;refine mC 11 (bs 13 4095) (disjoint_any ex ey _) ?_;rintro e w134 ⟨rfl,hx⟩;have H135:=zH (H123.out.step hx);have D135:=zH (show Dig w118.drew w134 from Dig.of_ext hx);have S137:=zH (zb.trans hx);clear hx;refine⟨.bool true,by rw[HDJ.out],S137.out,?_⟩;try simp only[Act.put,zA,zB,zC]
     refine zx 12 (bs 13 8191) (.bool true) S137.out ?_;refine wpAnyH_done kR ?_ _;go_upto_region 17 with fail
     refine wl ?_;refine zp (.int .i64 ((i+1:Nat):Int)) (by exact ez1 (by omega)) ?_;refine zq (.int .i64 ((i+1:Nat):Int)) ?_;have DD141:=tD (tD (tD (tD D29 D110) D119) D123) D135;go_wp2_with fail
     go_roundg (k-(i+1))
     case measure=>exact(by omega)
     case rel=>exact⟨i+1,rfl,(by go_num),hik,(fun ey_ hey2_=>by obtain rfl:ey_=ey:=Option.some.inj (hey2_.symm.trans HEY.out);exact take_all HEX.out (HROW.out _ hey2_) (by unfold simP;rw[if_neg HAD.out,HDJ.out,Bool.true_or])),HALL.out,H135.out,DD141.out⟩
    have HDJF:=zH (Bool.eq_false_iff.2 HDJ.out);go_upto_region 13 with fail
    refine zy ?_;have H142:=zH (H119.out.step (Ext.refl w118).drew);have D142:=zH (Dig.of_ext (w:=w118) zb);refine zx 0 (bs 13 1) (.int .i64 0) zb ?_;refine zu 1 (bs 13 3) (v:= .bool true) zb ?_ (hv:=by intro w hSw;exact ezq (e:=(dec_t (by omega))));refine zJ3 (Hp.start _) zb (bs 13 31) 2 3 4 (.bool true) _ (.int .i64 (i:Int)) ?_;refine zo 5 (bs 13 63) (v:= .pointer (some ⟨ge,i*7,none⟩)) zb ?_ (hv:=by intro w hSw;exact ezi (k:=i) Tryz.underlying58 (l:=(show i<(edsV rs).length by omega)) (f:=(Nat.zero_add _).symm));refine zg 6 (bs 13 127) ge (i*7) [.int .i64 ex.a.1,.int .i64 ex.a.2,.int .i64 ex.b.1,.int .i64 ex.b.2,.int .i64 ((ex.r:Nat):Int),.int .i64 ((ex.i:Nat):Int),.int .i64 ((ex.n:Nat):Int)] (H119.out.elem (f:=EdE.cells) (i:=0) rR EdE.len HEX.out) Tryz.underlying62 zb ?_;refine zJ2 (Hp.start _) zb (bs 13 511) 7 8 _ (.int .i64 (k:Int)) ?_;refine zo 9 (bs 13 1023) (v:= .pointer (some ⟨ge,k*7,none⟩)) zb ?_ (hv:=by intro w hSw;exact ezi (k:=k) Tryz.underlying58 (l:=(show k<(edsV rs).length by omega)) (f:=(Nat.zero_add _).symm));refine zg 10 (bs 13 2047) ge (k*7) [.int .i64 ey.a.1,.int .i64 ey.a.2,.int .i64 ey.b.1,.int .i64 ey.b.2,.int .i64 ((ey.r:Nat):Int),.int .i64 ((ey.i:Nat):Int),.int .i64 ((ey.n:Nat):Int)] (H119.out.elem (f:=EdE.cells) (i:=0) rR EdE.len HEY.out) Tryz.underlying62 zb ?_;refine mC 11 (bs 13 4095) (disjoint_any ex ey _) ?_;rintro e w153 ⟨rfl,hx⟩;have H154:=zH (H142.out.step hx);have D154:=zH (show Dig w118.drew w153 from Dig.of_ext hx);have S156:=zH (zb.trans hx);clear hx;refine⟨.bool false,by rw[HDJF.out],S156.out,?_⟩;try simp only[Act.put,zA,zB,zC]
    refine zx 12 (bs 13 8191) (.bool false) S156.out ?_;refine wpAnyH_done kR ?_ _;go_upto_region 14 with fail
    refine zy ?_;have H158:=zH (H154.out.step (Ext.refl w153).drew);have D158:=zH (Dig.of_ext (w:=w153) zb);refine zJ2 (Hp.start _) zb (bs 30 3) 0 1 _ (.int .i64 (i:Int)) ?_;refine zu 2 (bs 30 7) (v:= .pointer (some ⟨ge,i*7,none⟩)) zb ?_ (hv:=by intro w hSw;exact ezi (k:=i) Tryz.underlying58 (l:=(show i<(edsV rs).length by omega)) (f:=(Nat.zero_add _).symm));refine zJ1 (Hp.start _) zb (bs 30 15) 3 _ ?_;refine zg 4 (bs 30 31) ge (i*7) [.int .i64 ex.a.1,.int .i64 ex.a.2] (range_part (H154.out.elem (f:=EdE.cells) (i:=0) rR EdE.len HEX.out) 0 2) Tryz.underlying41 zb ?_;refine zJ2 (Hp.start _) zb (bs 30 127) 5 6 _ (.int .i64 (i:Int)) ?_;refine zu 7 (bs 30 255) (v:= .pointer (some ⟨ge,i*7,none⟩)) zb ?_ (hv:=by intro w hSw;exact ezi (k:=i) Tryz.underlying58 (l:=(show i<(edsV rs).length by omega)) (f:=(Nat.zero_add _).symm));refine mX 8 (bs 30 511) (.pointer (some ⟨ge,i*7+2,none⟩)) zb ?_;refine zg 9 (bs 30 1023) ge (i*7+2) [.int .i64 ex.b.1,.int .i64 ex.b.2] (range_part (H154.out.elem (f:=EdE.cells) (i:=0) rR EdE.len HEX.out) 2 2) Tryz.underlying41 zb ?_;refine zJ2 (Hp.start _) zb (bs 30 4095) 10 11 _ (.int .i64 (k:Int)) ?_;refine zu 12 (bs 30 8191) (v:= .pointer (some ⟨ge,k*7,none⟩)) zb ?_ (hv:=by intro w hSw;exact ezi (k:=k) Tryz.underlying58 (l:=(show k<(edsV rs).length by omega)) (f:=(Nat.zero_add _).symm));refine zJ1 (Hp.start _) zb (bs 30 16383) 13 _ ?_;refine zg 14 (bs 30 32767) ge (k*7) [.int .i64 ey.a.1,.int .i64 ey.a.2] (range_part (H154.out.elem (f:=EdE.cells) (i:=0) rR EdE.len HEY.out) 0 2) Tryz.underlying41 zb ?_;refine zJ2 (Hp.start _) zb (bs 30 131071) 15 16 _ (.int .i64 (k:Int)) ?_;refine zu 17 (bs 30 262143) (v:= .pointer (some ⟨ge,k*7,none⟩)) zb ?_ (hv:=by intro w hSw;exact ezi (k:=k) Tryz.underlying58 (l:=(show k<(edsV rs).length by omega)) (f:=(Nat.zero_add _).symm));refine mX 18 (bs 30 524287) (.pointer (some ⟨ge,k*7+2,none⟩)) zb ?_;refine zg 19 (bs 30 1048575) ge (k*7+2) [.int .i64 ey.b.1,.int .i64 ey.b.2] (range_part (H154.out.elem (f:=EdE.cells) (i:=0) rR EdE.len HEY.out) 2 2) Tryz.underlying41 zb ?_;refine FN.go2 (j1:=⟨25,some 7,36,[.bool false,.slice none 0 0,.bool false,.slice none 0 0]⟩) (j2:=⟨26,some 8,36,[.bool false,.slice none 0 0,.bool false,.slice none 0 0]⟩) (b:=w153) ?_ zb;refine gN 20 (bs 30 2097151) (fk (fk trivial)) zb.size (fun xq hxq=>((segments_any ex.a ex.b ey.a ey.b _ HBX.out.1 HBX.out.2.1 HBY.out.1 HBY.out.2.1).mono (fun _ _ h_=>h_.any))) (by rintro x_ e x2_ ⟨r177,s177,rfl,hx⟩;exact hx) ?_;rintro xq e w176 hxq ⟨r177,s177,rfl,hx⟩;replace hx:=hxq.trans hx;clear hxq;have H178:=zH (H158.out.step hx);have D178:=zH (show Dig w153.drew w176 from Dig.of_ext hx);have S180:=zH (zb.trans hx);clear hx;refine⟨_,rfl,?_⟩;try simp only[Act.put,zA,zB,zC]
    refine gT 21 (bs 30 4194303) _ ?_;refine gT 22 (bs 30 8388607) _ ?_;refine gT 23 (bs 30 16777215) _ ?_;refine gT 24 (bs 30 33554431) (.int .i64 (segN ex.a ex.b ey.a ey.b)) ?_;refine gE2 (bs 30 134217727) (fk (fk trivial)) S180.out.size H154.out H178.out ?_;intro X185 X186 w187 hx hh hg0 hg1 hs;have H188:=hN hh;have D188:=zH (Dig.of_ext hx);have S190:=zH (show Ext w153 w187 from hs);have G191:=zH (show w153.heap.size<=X185 from hg0);have G192:=zH (show w153.heap.size<=X186 from hg1);clear hh hx hs hg0 hg1;try simp only[Act.put,zA,zB,zC]
    refine bS 1 27 (bs 30 268435455) (rc r177) H188.out S190.out G191.out ?_;intro w193 H194 D194 S196;refine bS 2 28 (bs 30 536870911) (rc s177) H194.out S196.out G192.out ?_;intro w197 H198 D198 S200;refine zx 29 (bs 30 1073741823) (.int .i64 (segN ex.a ex.b ey.a ey.b)) S200.out ?_;refine wpAnyH_done kR ?_ _;rcases emH (segN ex.a ex.b ey.a ey.b=0)with HSG|HSG
    ·go_upto_region 15 with fail
     refine wl ?_;refine zI2 (Hp.start _) (.int .i64 (segN ex.a ex.b ey.a ey.b)) _ ?_;refine zp (.bool false) (by exact ezn (e:=(dec_f (fun h_=>h_ HSG.out)))) ?_;go_upto_region 17 with fail
     refine wl ?_;refine zp (.int .i64 ((i+1:Nat):Int)) (by exact ez1 (by omega)) ?_;refine zq (.int .i64 ((i+1:Nat):Int)) ?_;have DD208:=tD (tD (tD (tD (tD (tD (tD (tD (tD D29 D110) D119) D142) D154) D158) D178) D188) D194) D198;go_wp2_with fail
     go_roundg (k-(i+1))
     case measure=>exact(by omega)
     case rel=>exact⟨i+1,rfl,(by go_num),hik,(fun ey_ hey2_=>by obtain rfl:ey_=ey:=Option.some.inj (hey2_.symm.trans HEY.out);exact take_all HEX.out (HROW.out _ hey2_) (by unfold simP;rw[if_neg HAD.out,HDJF.out,Bool.false_or];exact decide_eq_true HSG.out)),HALL.out,H198.out.take 1,DD208.out⟩
    go_upto_region 15 with fail
    refine wl ?_;refine zI2 (Hp.start _) (.int .i64 (segN ex.a ex.b ey.a ey.b)) _ ?_;refine zp (.bool true) (by exact ezn (e:=(dec_t HSG.out))) ?_;go_upto_region 16 with fail
    refine wl ?_;refine zq (.bool false) ?_;go_wp2_with fail
    go_ret
    exact⟨by rw[show simB rs=false from by unfold simB;rw[simAll_bad HEY.out HEX.out hik (by unfold simP;rw[if_neg HAD.out,HDJF.out,Bool.false_or];exact decide_eq_false HSG.out),Bool.and_false]];rfl,H198.out.ext⟩
   have hik:=HIK.out;have hki:=HKI.out;obtain rfl:i=k:=by omega
   go_upto_region 8 with fail
   refine wl ?_;refine zp (.bool false) (by exact ezl (e:=(dec_f (Int.lt_irrefl _)))) ?_;go_upto_region 18 with fail
   refine wl ?_;refine zp (.int .i64 ((i+1:Nat):Int)) (by exact ez1 (by omega)) ?_;refine zq (.int .i64 ((i+1:Nat):Int)) ?_;have DD216:=tD D19 D29;go_wp2_with fail
   go_roundg ((edsV rs).length-(i+1))
   case measure=>exact(by omega)
   case rel=>exact⟨i+1,rfl,(by go_num),hlt,(range_all HALL.out (by unfold simRow;rw[List.getElem?_eq_getElem hlt];exact HROW.out _ (List.getElem?_eq_getElem hlt))),H29.out,DD216.out⟩
  have hlt:=HLT.out;have hkn:=HKN.out;obtain rfl:k=(edsV rs).length:=by omega
  go_upto_region 5 with fail
  refine wl ?_;refine zp (.bool false) (by exact ezl (e:=(dec_f (Int.lt_irrefl _)))) ?_;go_upto_region 19 with fail
  refine wl ?_;refine zq (.bool true) ?_;go_wp2_with fail
  go_ret
  exact⟨by rw[show simB rs=true from by unfold simB;rw[HV.out,show simAll (edsV rs)=true from HALL.out];rfl];rfl,H19.out.ext⟩
 have HV:=zH (Bool.eq_false_iff.2 HVQ.out);go_upto_region 1 with fail
 refine wl ?_;refine zI1 (Hp.start _) _ ?_;refine zc (polyValid_any _ rs _ (HU.out.ext H0.out.ext) HN.out HR.out) ?_;rintro e w220 ⟨rfl,hx⟩;have H221:=zH (H0.out.step hx);clear hx;refine⟨.bool false,by rw[HV.out],?_⟩;try simp only[Act.put,zA,zB,zC]
 refine zq (.bool true) ?_;go_upto_region 2 with fail
 refine wl ?_;refine zq (.bool false) ?_;go_wp2_with fail
 go_ret
 exact⟨by rw[show simB rs=false from by unfold simB;rw[HV.out];rfl];rfl,H221.out.ext⟩
theorem cptR2_any (L:Nat)(hL:L<=60000)(v:Value)(es:List R2E)(base:Nat)(w:World)(h:RowN w base 37 8 v es.length (es.flatMap R2E.cells))(hbase:base<=w.heap.size)(hok:∀e,e∈es->e.Ok L w)(hn:es.length<=100000000):
  Calls Tryz.prog 25 #[v,.func (.func 26) #[] #[]] w fun x w'=>∃v',x= .returned v'/\RowN w' base 37 8 v' (compactV (fun x y:R2E=>decide (x.vl=y.vl)) es).length ((compactV (fun x y:R2E=>decide (x.vl=y.vl)) es).flatMap R2E.cells)/\w.grownBy w' v.ownBlock/\Dig w w'/\v'.ownBlock=v.ownBlock:=by
 obtain⟨w0,hx0,rfl⟩:=trunc w base hbase;have HOK:=zH hok;clear hok;rcases h.2 with⟨rfl,h0⟩|⟨g,cap,rest,rfl,hb,hg,hc1,hc2,hc3,hc4⟩
 ·have he:es=[]:=List.eq_nil_of_length_eq_zero h0
  subst he;go_enter Tryz.func25,Tryz.ntmps25
  go_wp2_with fail
  go_ret
  exact⟨_,rfl,h,World.grownBy.refl _ _,Dig.refl _,rfl⟩
 have H0:=zH (Hp.one hx0 h);have HCN:=zH hc1;clear h hx0 hb hg hc2 hc3 hc4;have HFR:=zH (show Fr (fun kz=>Value.ownBlock (.slice (some ⟨g,0,none⟩) es.length cap)=some kz) w w from Fr.of_ext (Ext.refl w));go_enter Tryz.func25,Tryz.ntmps25
 go_upto_region 0 with fail
 refine wl ?_;refine zI1 (Hp.start _) _ ?_;rcases emH (es.length<2)with HS|HS
 ·go_upto_region 1 with fail
  refine wl ?_;refine zI2 (Hp.start _) _ (.int .i64 ((es.length:Nat):Int)) ?_;refine zp (.bool true) (by exact ezl (e:=(dec_t (by have ob0:=HS.out;omega)))) ?_;go_upto_region 2 with fail
  refine wl ?_;refine zI2 (Hp.start _) _ _ ?_;have hcv:compactV (fun x y:R2E=>decide (x.vl=y.vl)) es=es:=by have hs:=HS.out;match es,hs with| [],_=>rfl| [x],_=>rfl|x::y::l,hs=>exact absurd hs (by simp)
  go_wp2_with fail
  go_ret
  exact⟨_,rfl,by rw[hcv];exact H0.out.row (i:=0) (by rfl),World.grownBy.refl _ _,Dig.refl _,rfl⟩
 go_upto_region 1 with fail
 refine wl ?_;refine zI2 (Hp.start _) _ (.int .i64 ((es.length:Nat):Int)) ?_;refine zp (.bool false) (by exact ezl (e:=(dec_f (by have ob0:=HS.out;omega)))) ?_;go_upto_region 3 with fail
 refine wl ?_;refine zq (.int .i64 1) ?_;go_wp2_with fail
 go_loopg [5] (es.length) (fun cq v166 wr=>∃(j:Nat),cq=es.length-j/\v166= .int .i64 ((j+1:Nat):Int)/\(j+1<=es.length)/\(compactV (fun x y:R2E=>decide (x.vl=y.vl)) (es.take (j+1))=es.take (j+1))/\(Fr (fun kz=>Value.ownBlock (.slice (some ⟨g,0,none⟩) es.length cap)=some kz) w wr)/\Hp w0 wr [.row 37 8 (.slice (some ⟨g,0,none⟩) es.length cap) (es.length) (List.flatMap R2E.cells es)]/\Dig w wr)
 case atStart=>exact⟨0,rfl,rfl,(by have h_:=HS.out;omega),(by have hs:=HS.out;match es,hs with| [],hs=>exact absurd hs (by decide)|x::l,_=>rfl),HFR.out,H0.out,Dig.refl _⟩
 obtain⟨j,rfl,rfl,q_HK,q_HCV,q_HFR,hh_,hd_⟩:=hrel;generalize wr=w167 at*
 have HK:=zH q_HK;clear q_HK;have HCV:=zH q_HCV;clear q_HCV;have HFR:=zH q_HFR;clear q_HFR;have H169:=zH hh_;have D169:=zH hd_;clear hh_ hd_;rcases emH (j+1<es.length)with HLT|HLT
 ·go_upto_region 4 with fail
  refine wl ?_;refine zI3 (Hp.start _) (.int .i64 ((j+1:Nat):Int)) _ (.int .i64 ((es.length:Nat):Int)) ?_;refine zp (.bool true) (by exact ezl (e:=(dec_t (by have ob0:=HK.out;have ob1:=HLT.out;omega)))) ?_;obtain⟨e,he⟩:∃e,es[j+1]?=some e:=⟨_,List.getElem?_eq_getElem HLT.out⟩;obtain⟨f,hf⟩:∃f,es[j]?=some f:=⟨_,List.getElem?_eq_getElem (by have h_:=HLT.out;omega)⟩;have HQe:=zH he;have ho_:=HOK.out e (List.mem_of_getElem? he);have HAe:=zH ho_.1;have HZe:=zH ho_.2.1;have BAe:=zH ho_.2.2.1;have BZe:=zH ho_.2.2.2;clear he ho_;have HQf:=zH hf;have ho_:=HOK.out f (List.mem_of_getElem? hf);have HAf:=zH ho_.1;have HZf:=zH ho_.2.1;have BAf:=zH ho_.2.2.1;have BZf:=zH ho_.2.2.2;clear hf ho_;have HST:=zH (compact_step (eqv:=(fun x y:R2E=>decide (x.vl=y.vl))) HQe.out HQf.out);rcases emH (e.vl=f.vl)with HEQ|HEQ
  ·go_upto_region 6 with fail
   refine zy ?_;have H176:=zH (H169.out.step (Ext.refl w167).drew);have D176:=zH (Dig.of_ext (w:=w167) zb);have K178:=zH (HFR.out.trans (Fr.of_ext (Ext.refl w167).drew));refine zJ3 (Hp.start _) zb (bs 11 7) 0 1 2 _ _ (.int .i64 ((j+1:Nat):Int)) ?_;refine zo 3 (bs 11 15) (v:= .pointer (some ⟨g,(j+1)*8,none⟩)) zb ?_ (hv:=by intro w hSw;exact ezi (k:=j+1) Tryz.underlying27 (l:=(by have h_:=HLT.out;omega)) (f:=(Nat.zero_add _).symm));refine zg 4 (bs 11 31) g ((j+1)*8) [.bool e.a.n,.slice e.a.p e.a.l e.a.c,.bool e.a.m,.slice e.a.p2 e.a.l2 e.a.c2,.bool e.b.n,.slice e.b.p e.b.l e.b.c,.bool e.b.m,.slice e.b.p2 e.b.l2 e.b.c2] (H169.out.elem (f:=R2E.cells) (i:=0) rR R2E.len HQe.out) Tryz.underlying37 zb ?_;refine zJ2 (Hp.start _) zb (bs 11 127) 5 6 _ (.int .i64 ((j+1:Nat):Int)) ?_;refine zu 7 (bs 11 255) (v:= .int .i64 (j:Int)) zb ?_ (hv:=by intro w hSw;exact ez2 (by have ob0:=HK.out;have ob1:=HLT.out;omega));refine zo 8 (bs 11 511) (v:= .pointer (some ⟨g,j*8,none⟩)) zb ?_ (hv:=by intro w hSw;exact ezi (k:=j) Tryz.underlying27 (l:=(by have h_:=HLT.out;omega)) (f:=(Nat.zero_add _).symm));refine zg 9 (bs 11 1023) g (j*8) [.bool f.a.n,.slice f.a.p f.a.l f.a.c,.bool f.a.m,.slice f.a.p2 f.a.l2 f.a.c2,.bool f.b.n,.slice f.b.p f.b.l f.b.c,.bool f.b.m,.slice f.b.p2 f.b.l2 f.b.c2] (H169.out.elem (f:=R2E.cells) (i:=0) rR R2E.len HQf.out) Tryz.underlying37 zb ?_;have DD188:=tD D169 D176;refine mC 10 (bs 11 2047) (intEq_any L hL _ e f ⟨(HAe.out.dig DD188.out),(HZe.out.dig DD188.out),BAe.out,BZe.out⟩ ⟨(HAf.out.dig DD188.out),(HZf.out.dig DD188.out),BAf.out,BZf.out⟩) ?_;rintro e w187 ⟨rfl,hx⟩;have H189:=zH (H176.out.step hx);have D189:=zH (show Dig w167.drew w187 from Dig.of_ext hx);have K191:=zH (K178.out.trans (Fr.of_ext hx));have S192:=zH (zb.trans hx);clear hx;refine⟨.bool true,by rw[decide_eq_true HEQ.out],S192.out,?_⟩;try simp only[Act.put,zA,zB,zC]
   refine wpAnyH_done kR ?_ _;obtain⟨d,hd⟩:∃d,es.length=j+1+d:=⟨es.length-(j+1),by have h_:=HLT.out;omega⟩;obtain⟨c2,hc2⟩:∃c2,cap=j+1+c2:=⟨cap-(j+1),by have h_:=HLT.out;have h2_:=HCN.out;omega⟩;have HD:=zH hd;have HC2:=zH hc2;clear hd hc2;go_upto_region 7 with fail
   refine wl ?_;refine zI2 (Hp.start _) _ (.int .i64 ((j+1:Nat):Int)) ?_;refine zp (.slice (some ⟨g,(j+1)*8,none⟩) d c2) (by exact ev_drop rR Tryz.underlying27 kR rR rR (by first|rfl|omega) HD.out (by have ob0:=HK.out;have ob1:=HLT.out;have ob2:=HD.out;have ob3:=HC2.out;have ob4:=HCN.out;omega) HC2.out (by have ob0:=HK.out;have ob1:=HLT.out;have ob2:=HD.out;have ob3:=HC2.out;have ob4:=HCN.out;omega)) ?_;refine zq (.slice (some ⟨g,(j+1)*8,none⟩) d c2) ?_;go_upto_region 8 with fail
   refine wl ?_;refine zq (.int .i64 1) ?_;go_wp2_with fail
   go_loopg [5,7] (d) (fun cq v198 v199 wr=>∃(i:Nat) (k:Nat) (ds:List R2E),cq=d-i/\v198= .int .i64 (k:Int)/\v199= .int .i64 ((i+1:Nat):Int)/\(i+1<=d)/\(k<j+1+(i+1))/\(ds.length=es.length)/\(ds.take k=compactV (fun x y:R2E=>decide (x.vl=y.vl)) (es.take (j+1+(i+1))))/\(ds.drop (j+1+i)=es.drop (j+1+i))/\(Fr (fun kz=>Value.ownBlock (.slice (some ⟨g,0,none⟩) es.length cap)=some kz) w wr)/\Hp w0 wr [.row 37 8 (.slice (some ⟨g,0,none⟩) es.length cap) (es.length) (List.flatMap R2E.cells ds)]/\Dig w187 wr)
   case atStart=>exact⟨0,j+1,es,rfl,rfl,rfl,(by have h_:=HLT.out;have h2_:=HD.out;omega),(by omega),rfl,(by rw[show j+1+(0+1)=j+1+1 by omega,HST.out,if_pos (decide_eq_true HEQ.out),List.append_nil];exact HCV.out.symm),rfl,K191.out,H189.out,Dig.refl _⟩
   obtain⟨i,k,ds,rfl,rfl,rfl,q_HI,q_HKI,q_HDL,q_HD2,q_HD3,q_HFR,hh_,hd_⟩:=hrel;generalize wr=w200 at*
   have HI:=zH q_HI;clear q_HI;have HKI:=zH q_HKI;clear q_HKI;have HDL:=zH q_HDL;clear q_HDL;have HD2:=zH q_HD2;clear q_HD2;have HD3:=zH q_HD3;clear q_HD3;have HFR:=zH q_HFR;clear q_HFR;have H202:=zH hh_;have D202:=zH hd_;clear hh_ hd_ H189;rcases emH (i+1<d)with HLT2|HLT2
   ·go_upto_region 9 with fail
    refine wl ?_;refine zI3 (Hp.start _) (.int .i64 ((i+1:Nat):Int)) (.slice (some ⟨g,(j+1)*8,none⟩) d c2) (.int .i64 (d:Int)) ?_;refine zp (.bool true) (by exact ezl (e:=(dec_t (by have ob0:=HI.out;have ob1:=HKI.out;have ob2:=HD.out;have ob3:=HC2.out;have ob4:=HCN.out;have ob5:=HDL.out;have ob6:=HLT2.out;omega)))) ?_;obtain⟨e2,he2⟩:∃e2,es[j+1+i+1]?=some e2:=⟨_,List.getElem?_eq_getElem (by have h_:=HLT2.out;have h2_:=HD.out;omega)⟩;obtain⟨f2,hf2⟩:∃f2,es[j+1+i]?=some f2:=⟨_,List.getElem?_eq_getElem (by have h_:=HLT2.out;have h2_:=HD.out;omega)⟩;have HQe2:=zH he2;have ho_:=HOK.out e2 (List.mem_of_getElem? he2);have HAe2:=zH ho_.1;have HZe2:=zH ho_.2.1;have BAe2:=zH ho_.2.2.1;have BZe2:=zH ho_.2.2.2;clear he2 ho_;have HQf2:=zH hf2;have ho_:=HOK.out f2 (List.mem_of_getElem? hf2);have HAf2:=zH ho_.1;have HZf2:=zH ho_.2.1;have BAf2:=zH ho_.2.2.1;have BZf2:=zH ho_.2.2.2;clear hf2 ho_;have HRe2:=zH (show ds[j+1+(i+1)]?=some e2 from(get_of_drop HD3.out (by omega)).trans HQe2.out);have HRf2:=zH (show ds[j+1+i]?=some f2 from(get_of_drop HD3.out (by omega)).trans HQf2.out);have HST2:=zH (compact_step (eqv:=(fun x y:R2E=>decide (x.vl=y.vl))) HQe2.out HQf2.out);rcases emH (e2.vl=f2.vl)with HEQ2|HEQ2
    ·go_upto_region 11 with fail
     refine zy ?_;have H209:=zH (H202.out.step (Ext.refl w200).drew);have D209:=zH (Dig.of_ext (w:=w200) zb);have K211:=zH (HFR.out.trans (Fr.of_ext (Ext.refl w200).drew));refine zJ3 (Hp.start _) zb (bs 12 7) 0 1 2 _ (.slice (some ⟨g,(j+1)*8,none⟩) d c2) (.int .i64 ((i+1:Nat):Int)) ?_;refine zo 3 (bs 12 15) (v:= .pointer (some ⟨g,(j+1)*8+(i+1)*8,none⟩)) zb ?_ (hv:=by intro w hSw;exact ezi (k:=i+1) Tryz.underlying27 (l:=(by have h_:=HLT2.out;omega)) (f:=rfl));refine zg 4 (bs 12 31) g ((j+1)*8+(i+1)*8) [.bool e2.a.n,.slice e2.a.p e2.a.l e2.a.c,.bool e2.a.m,.slice e2.a.p2 e2.a.l2 e2.a.c2,.bool e2.b.n,.slice e2.b.p e2.b.l e2.b.c,.bool e2.b.m,.slice e2.b.p2 e2.b.l2 e2.b.c2] (elem_off (H202.out.elem (f:=R2E.cells) (i:=0) rR R2E.len HRe2.out)) Tryz.underlying37 zb ?_;refine zJ2 (Hp.start _) zb (bs 12 127) 5 6 (.slice (some ⟨g,(j+1)*8,none⟩) d c2) (.int .i64 ((i+1:Nat):Int)) ?_;refine zu 7 (bs 12 255) (v:= .int .i64 (i:Int)) zb ?_ (hv:=by intro w hSw;exact ez2 (by have ob0:=HI.out;have ob1:=HKI.out;have ob2:=HD.out;have ob3:=HC2.out;have ob4:=HCN.out;have ob5:=HDL.out;have ob6:=HLT2.out;omega));refine zo 8 (bs 12 511) (v:= .pointer (some ⟨g,(j+1)*8+i*8,none⟩)) zb ?_ (hv:=by intro w hSw;exact ezi (k:=i) Tryz.underlying27 (l:=(by have h_:=HLT2.out;omega)) (f:=rfl));refine zg 9 (bs 12 1023) g ((j+1)*8+i*8) [.bool f2.a.n,.slice f2.a.p f2.a.l f2.a.c,.bool f2.a.m,.slice f2.a.p2 f2.a.l2 f2.a.c2,.bool f2.b.n,.slice f2.b.p f2.b.l f2.b.c,.bool f2.b.m,.slice f2.b.p2 f2.b.l2 f2.b.c2] (elem_off (H202.out.elem (f:=R2E.cells) (i:=0) rR R2E.len HRf2.out)) Tryz.underlying37 zb ?_;have DD221:=tD (tD (tD DD188 D189) D202) D209;refine mC 10 (bs 12 2047) (intEq_any L hL _ e2 f2 ⟨(HAe2.out.dig DD221.out),(HZe2.out.dig DD221.out),BAe2.out,BZe2.out⟩ ⟨(HAf2.out.dig DD221.out),(HZf2.out.dig DD221.out),BAf2.out,BZf2.out⟩) ?_;rintro e w220 ⟨rfl,hx⟩;have H222:=zH (H209.out.step hx);have D222:=zH (show Dig w200.drew w220 from Dig.of_ext hx);have K224:=zH (K211.out.trans (Fr.of_ext hx));have S225:=zH (zb.trans hx);clear hx;refine⟨.bool true,by rw[decide_eq_true HEQ2.out],S225.out,?_⟩;try simp only[Act.put,zA,zB,zC]
     refine zx 11 (bs 12 4095) (.bool false) S225.out ?_;refine wpAnyH_done kR ?_ _;go_upto_region 10 with fail
     refine wl ?_;refine zq (.int .i64 ((i+1:Nat):Int)) ?_;refine zp (.int .i64 ((i+2:Nat):Int)) (by exact ez1 (by have ob0:=HI.out;have ob1:=HKI.out;have ob2:=HD.out;have ob3:=HC2.out;have ob4:=HCN.out;have ob5:=HDL.out;have ob6:=HLT2.out;omega)) ?_;refine zq (.int .i64 ((i+2:Nat):Int)) ?_;have DD230:=tD (tD D202 D209) D222;go_wp2_with fail
     go_roundg (d-(i+1))
     case measure=>exact(by have ob0:=HI.out;have ob1:=HKI.out;have ob2:=HD.out;have ob3:=HC2.out;have ob4:=HCN.out;have ob5:=HDL.out;have ob6:=HLT2.out;have ob8:=(show i<d from by have h_:=HLT2.out;omega);omega)
     case rel=>exact⟨i+1,k,ds,rfl,rfl,(by go_num),HLT2.out,(by have h_:=HKI.out;omega),HDL.out,(by rw[show j+1+(i+1+1)=j+1+i+1+1 by omega,HST2.out,if_pos (decide_eq_true HEQ2.out),List.append_nil];exact HD2.out),(by rw[show j+1+(i+1)=(j+1+i)+1 by omega,<-List.drop_drop,HD3.out,List.drop_drop]),K224.out,H222.out,DD230.out⟩
    go_upto_region 11 with fail
    refine zy ?_;have H231:=zH (H202.out.step (Ext.refl w200).drew);have D231:=zH (Dig.of_ext (w:=w200) zb);have K233:=zH (HFR.out.trans (Fr.of_ext (Ext.refl w200).drew));refine zJ3 (Hp.start _) zb (bs 12 7) 0 1 2 _ (.slice (some ⟨g,(j+1)*8,none⟩) d c2) (.int .i64 ((i+1:Nat):Int)) ?_;refine zo 3 (bs 12 15) (v:= .pointer (some ⟨g,(j+1)*8+(i+1)*8,none⟩)) zb ?_ (hv:=by intro w hSw;exact ezi (k:=i+1) Tryz.underlying27 (l:=(by have h_:=HLT2.out;omega)) (f:=rfl));refine zg 4 (bs 12 31) g ((j+1)*8+(i+1)*8) [.bool e2.a.n,.slice e2.a.p e2.a.l e2.a.c,.bool e2.a.m,.slice e2.a.p2 e2.a.l2 e2.a.c2,.bool e2.b.n,.slice e2.b.p e2.b.l e2.b.c,.bool e2.b.m,.slice e2.b.p2 e2.b.l2 e2.b.c2] (elem_off (H202.out.elem (f:=R2E.cells) (i:=0) rR R2E.len HRe2.out)) Tryz.underlying37 zb ?_;refine zJ2 (Hp.start _) zb (bs 12 127) 5 6 (.slice (some ⟨g,(j+1)*8,none⟩) d c2) (.int .i64 ((i+1:Nat):Int)) ?_;refine zu 7 (bs 12 255) (v:= .int .i64 (i:Int)) zb ?_ (hv:=by intro w hSw;exact ez2 (by have ob0:=HI.out;have ob1:=HKI.out;have ob2:=HD.out;have ob3:=HC2.out;have ob4:=HCN.out;have ob5:=HDL.out;have ob6:=HLT2.out;omega));refine zo 8 (bs 12 511) (v:= .pointer (some ⟨g,(j+1)*8+i*8,none⟩)) zb ?_ (hv:=by intro w hSw;exact ezi (k:=i) Tryz.underlying27 (l:=(by have h_:=HLT2.out;omega)) (f:=rfl));refine zg 9 (bs 12 1023) g ((j+1)*8+i*8) [.bool f2.a.n,.slice f2.a.p f2.a.l f2.a.c,.bool f2.a.m,.slice f2.a.p2 f2.a.l2 f2.a.c2,.bool f2.b.n,.slice f2.b.p f2.b.l f2.b.c,.bool f2.b.m,.slice f2.b.p2 f2.b.l2 f2.b.c2] (elem_off (H202.out.elem (f:=R2E.cells) (i:=0) rR R2E.len HRf2.out)) Tryz.underlying37 zb ?_;have DD243:=tD (tD (tD DD188 D189) D202) D231;refine mC 10 (bs 12 2047) (intEq_any L hL _ e2 f2 ⟨(HAe2.out.dig DD243.out),(HZe2.out.dig DD243.out),BAe2.out,BZe2.out⟩ ⟨(HAf2.out.dig DD243.out),(HZf2.out.dig DD243.out),BAf2.out,BZf2.out⟩) ?_;rintro e w242 ⟨rfl,hx⟩;have H244:=zH (H231.out.step hx);have D244:=zH (show Dig w200.drew w242 from Dig.of_ext hx);have K246:=zH (K233.out.trans (Fr.of_ext hx));have S247:=zH (zb.trans hx);clear hx;refine⟨.bool false,by rw[decide_eq_false HEQ2.out],S247.out,?_⟩;try simp only[Act.put,zA,zB,zC]
    refine zx 11 (bs 12 4095) (.bool true) S247.out ?_;refine wpAnyH_done kR ?_ _;go_upto_region 12 with fail
    refine wl ?_;refine zI4 (Hp.start _) _ (.int .i64 (k:Int)) (.slice (some ⟨g,(j+1)*8,none⟩) d c2) (.int .i64 ((i+1:Nat):Int)) ?_;refine zp (.pointer (some ⟨g,(j+1)*8+(i+1)*8,none⟩)) (by exact ezi (k:=i+1) Tryz.underlying27 (l:=(by have h_:=HLT2.out;omega)) (f:=rfl)) ?_;refine zd g ((j+1)*8+(i+1)*8) [.bool e2.a.n,.slice e2.a.p e2.a.l e2.a.c,.bool e2.a.m,.slice e2.a.p2 e2.a.l2 e2.a.c2,.bool e2.b.n,.slice e2.b.p e2.b.l e2.b.c,.bool e2.b.m,.slice e2.b.p2 e2.b.l2 e2.b.c2] (elem_off (H244.out.elem (f:=R2E.cells) (i:=0) rR R2E.len HRe2.out)) Tryz.underlying37 ?_;refine zp (.pointer (some ⟨g,k*8,none⟩)) (by exact ezi (k:=k) Tryz.underlying27 (l:=(by have h_:=HKI.out;have h1_:=HLT2.out;have h2_:=HD.out;omega)) (f:=(Nat.zero_add _).symm)) ?_;refine mv_stElem (f:=R2E.cells) rR _ _ _ rR H244.out (ix:=0) rR R2E.len k e2 (by have h_:=HKI.out;have h1_:=HLT2.out;have h2_:=HD.out;have h3_:=HDL.out;omega) [.bool e2.a.n,.slice e2.a.p e2.a.l e2.a.c,.bool e2.a.m,.slice e2.a.p2 e2.a.l2 e2.a.c2,.bool e2.b.n,.slice e2.b.p e2.b.l e2.b.c,.bool e2.b.m,.slice e2.b.p2 e2.b.l2 e2.b.c2] rR (k*8) rR rR rR kR (by simp[Value.oneCell']) (by simp[NoUL]) ?_;intro w256 hh hd ho;have H257:=hN hh;have D257:=zH (hd);have K259:=zH (K246.out.trans_new ho (fun j hj=> .inl hj));clear hh hd ho
    (try simp only[Act.put])
    go_upto_region 13 with fail
    refine wl ?_;refine zq (.int .i64 (k:Int)) ?_;refine zp (.int .i64 ((k+1:Nat):Int)) (by exact ez1 (by have ob0:=HI.out;have ob1:=HKI.out;have ob2:=HD.out;have ob3:=HC2.out;have ob4:=HCN.out;have ob5:=HDL.out;have ob6:=HLT2.out;omega)) ?_;refine zq (.int .i64 ((k+1:Nat):Int)) ?_;go_upto_region 10 with fail
    refine wl ?_;refine zq (.int .i64 ((i+1:Nat):Int)) ?_;refine zp (.int .i64 ((i+2:Nat):Int)) (by exact ez1 (by have ob0:=HI.out;have ob1:=HKI.out;have ob2:=HD.out;have ob3:=HC2.out;have ob4:=HCN.out;have ob5:=HDL.out;have ob6:=HLT2.out;omega)) ?_;refine zq (.int .i64 ((i+2:Nat):Int)) ?_;have DD266:=tD (tD (tD D202 D231) D244) D257;go_wp2_with fail
    go_roundg (d-(i+1))
    case measure=>exact(by have ob0:=HI.out;have ob1:=HKI.out;have ob2:=HD.out;have ob3:=HC2.out;have ob4:=HCN.out;have ob5:=HDL.out;have ob6:=HLT2.out;have ob8:=(show i<d from by have h_:=HLT2.out;omega);omega)
    case rel=>exact⟨i+1,k+1,(ds.set k e2),rfl,(by go_num),(by go_num),HLT2.out,(by have h_:=HKI.out;omega),(by rw[List.length_set];exact HDL.out),(by rw[show j+1+(i+1+1)=j+1+i+1+1 by omega,HST2.out,if_neg (by rw[decide_eq_false HEQ2.out];decide),take_set_snoc (by have h_:=HKI.out;have h1_:=HLT2.out;have h2_:=HD.out;have h3_:=HDL.out;omega)];exact congrArg (· ++[e2]) HD2.out),(by rw[List.drop_set_of_lt (by have h_:=HKI.out;omega),show j+1+(i+1)=(j+1+i)+1 by omega,<-List.drop_drop,HD3.out,List.drop_drop]),K259.out,H257.out,DD266.out⟩
   go_upto_region 9 with fail
   refine wl ?_;refine zI3 (Hp.start _) (.int .i64 ((i+1:Nat):Int)) (.slice (some ⟨g,(j+1)*8,none⟩) d c2) (.int .i64 (d:Int)) ?_;refine zp (.bool false) (by exact ezl (e:=(dec_f (by have ob0:=HI.out;have ob1:=HKI.out;have ob2:=HD.out;have ob3:=HC2.out;have ob4:=HCN.out;have ob5:=HDL.out;have ob6:=HLT2.out;omega)))) ?_;have hid_:i+1=d:=by have h_:=HLT2.out;have h2_:=HI.out;omega
   have HTK:=zH (show ds.take k=compactV (fun x y:R2E=>decide (x.vl=y.vl)) es from by rw[HD2.out,show j+1+(i+1)=es.length by rw[HD.out];omega,List.take_of_length_le (Nat.le_refl _)]);obtain⟨d3,hd3⟩:∃d3,es.length=k+d3:=⟨es.length-k,by have h_:=HKI.out;have h2_:=HD.out;omega⟩;obtain⟨c3,hc3⟩:∃c3,cap=k+c3:=⟨cap-k,by have h_:=HKI.out;have h2_:=HD.out;have h3_:=HCN.out;omega⟩;have HD4:=zH hd3;have HC3:=zH hc3;have hd0:0<d3:=by have h_:=HKI.out;have h2_:=HD.out;omega
   have HD0:=zH hd0;clear hd3 hc3 hid_ hd0;go_upto_region 14 with fail
   refine wl ?_;refine zI2 (Hp.start _) _ (.int .i64 (k:Int)) ?_;refine zp (.slice (some ⟨g,k*8,none⟩) d3 c3) (by exact ev_drop rR Tryz.underlying27 kR rR rR (by first|rfl|omega) HD4.out HD0.out HC3.out (by have ob0:=HI.out;have ob1:=HKI.out;have ob2:=HD.out;have ob3:=HC2.out;have ob4:=HCN.out;have ob5:=HDL.out;have ob6:=HLT2.out;have ob7:=HD4.out;have ob8:=HC3.out;have ob9:=HD0.out;omega)) ?_;refine mv_clear (f:=R2E.cells) rR _ 27 rR H202.out (ix:=0) rR R2E.len HDL.out k c3 (by have h_:=HD4.out;have h2_:=HD0.out;omega) (by rw[show es.length-k=d3 by have h_:=HD4.out;omega];rfl) Tryz.underlying27 (.agg z8) Tryz.zeroValue37 rfl (by simp[Value.cells,Value.oneCell']) (by simp[Value.cells,NoUL]) dC ?_;intro w274 hh hd ho;have H275:=hN hh;have D275:=zH (hd);have K277:=zH (HFR.out.trans_new ho (fun j hj=> .inl hj));clear hh hd ho
   (try simp only[Act.put])
   go_upto_region 15 with fail
   refine wl ?_;refine zI2 (Hp.start _) _ (.int .i64 (k:Int)) ?_;refine zp (.slice (some ⟨g,0,none⟩) k cap) (by exact ev_head (size:=8) rR Tryz.underlying27 kR rR rR (by first|rfl|omega) (by have h_:=HD4.out;omega) HCN.out (by have h_:=HC3.out;have h2_:=HD4.out;have h3_:=HCN.out;have h4_:=HD0.out;omega)) ?_;refine zI1 (Hp.start _) _ ?_;have HRW:=zH (H275.out.row (i:=0) (by rfl));have hlen:(ds.take k).length=k:=by rw[List.length_take,HDL.out,HD4.out];omega
   rw[HTK.out]at hlen HRW;go_wp2_with fail
   go_ret
   exact⟨_,rfl,by rw[hlen];exact HRW.out,K277.out.grownBy,((((D169.out.trans D176.out).trans D189.out).trans D202.out).trans D275.out),rfl⟩
  go_upto_region 6 with fail
  refine zy ?_;have H282:=zH (H169.out.step (Ext.refl w167).drew);have D282:=zH (Dig.of_ext (w:=w167) zb);have K284:=zH (HFR.out.trans (Fr.of_ext (Ext.refl w167).drew));refine zJ3 (Hp.start _) zb (bs 11 7) 0 1 2 _ _ (.int .i64 ((j+1:Nat):Int)) ?_;refine zo 3 (bs 11 15) (v:= .pointer (some ⟨g,(j+1)*8,none⟩)) zb ?_ (hv:=by intro w hSw;exact ezi (k:=j+1) Tryz.underlying27 (l:=(by have h_:=HLT.out;omega)) (f:=(Nat.zero_add _).symm));refine zg 4 (bs 11 31) g ((j+1)*8) [.bool e.a.n,.slice e.a.p e.a.l e.a.c,.bool e.a.m,.slice e.a.p2 e.a.l2 e.a.c2,.bool e.b.n,.slice e.b.p e.b.l e.b.c,.bool e.b.m,.slice e.b.p2 e.b.l2 e.b.c2] (H169.out.elem (f:=R2E.cells) (i:=0) rR R2E.len HQe.out) Tryz.underlying37 zb ?_;refine zJ2 (Hp.start _) zb (bs 11 127) 5 6 _ (.int .i64 ((j+1:Nat):Int)) ?_;refine zu 7 (bs 11 255) (v:= .int .i64 (j:Int)) zb ?_ (hv:=by intro w hSw;exact ez2 (by have ob0:=HK.out;have ob1:=HLT.out;omega));refine zo 8 (bs 11 511) (v:= .pointer (some ⟨g,j*8,none⟩)) zb ?_ (hv:=by intro w hSw;exact ezi (k:=j) Tryz.underlying27 (l:=(by have h_:=HLT.out;omega)) (f:=(Nat.zero_add _).symm));refine zg 9 (bs 11 1023) g (j*8) [.bool f.a.n,.slice f.a.p f.a.l f.a.c,.bool f.a.m,.slice f.a.p2 f.a.l2 f.a.c2,.bool f.b.n,.slice f.b.p f.b.l f.b.c,.bool f.b.m,.slice f.b.p2 f.b.l2 f.b.c2] (H169.out.elem (f:=R2E.cells) (i:=0) rR R2E.len HQf.out) Tryz.underlying37 zb ?_;have DD294:=tD D169 D282;refine mC 10 (bs 11 2047) (intEq_any L hL _ e f ⟨(HAe.out.dig DD294.out),(HZe.out.dig DD294.out),BAe.out,BZe.out⟩ ⟨(HAf.out.dig DD294.out),(HZf.out.dig DD294.out),BAf.out,BZf.out⟩) ?_;rintro e w293 ⟨rfl,hx⟩;have H295:=zH (H282.out.step hx);have D295:=zH (show Dig w167.drew w293 from Dig.of_ext hx);have K297:=zH (K284.out.trans (Fr.of_ext hx));have S298:=zH (zb.trans hx);clear hx;refine⟨.bool false,by rw[decide_eq_false HEQ.out],S298.out,?_⟩;try simp only[Act.put,zA,zB,zC]
  refine wpAnyH_done kR ?_ _;go_upto_region 5 with fail
  refine wl ?_;refine zq (.int .i64 ((j+1:Nat):Int)) ?_;refine zp (.int .i64 ((j+2:Nat):Int)) (by exact ez1 (by have ob0:=HK.out;have ob1:=HLT.out;omega)) ?_;refine zq (.int .i64 ((j+2:Nat):Int)) ?_;have DD302:=tD DD294 D295;go_wp2_with fail
  go_roundg (es.length-(j+1))
  case measure=>exact(by have ob0:=HK.out;have ob1:=HLT.out;have ob3:=(show j<es.length from by have h_:=HLT.out;omega);omega)
  case rel=>exact⟨j+1,rfl,(by go_num),HLT.out,(by rw[HST.out,if_neg (by rw[decide_eq_false HEQ.out];decide),HCV.out,List.take_add_one (i:=j+1),HQe.out];rfl),K297.out,H295.out,DD302.out⟩
 go_upto_region 4 with fail
 refine wl ?_;refine zI3 (Hp.start _) (.int .i64 ((j+1:Nat):Int)) _ (.int .i64 ((es.length:Nat):Int)) ?_;refine zp (.bool false) (by exact ezl (e:=(dec_f (by have ob0:=HK.out;have ob1:=HLT.out;omega)))) ?_;go_upto_region 16 with fail
 refine wl ?_;refine zI2 (Hp.start _) _ _ ?_;have hcv:compactV (fun x y:R2E=>decide (x.vl=y.vl)) es=es:=by have h_:=HCV.out;rwa[show j+1=es.length by have h2_:=HLT.out;have h3_:=HK.out;omega,List.take_of_length_le (Nat.le_refl _)]at h_
 go_wp2_with fail
 go_ret
 exact⟨_,rfl,by rw[hcv];exact H169.out.row (i:=0) (by rfl),HFR.out.grownBy,D169.out,rfl⟩
end Go.Proofs.YtdkfmkeaaeooeabGreat
namespace Go.Proofs.YtdkfmkeaaeooeabGreat
open Go.RowKit
attribute [local go_sem ↓] Go.wp_at_zero Go.wp_at_succ run_max_ii run_min_ii
open Go.RowKit
theorem elRR:ElT Tryz.prog 27 37 8 128:=ElT.of (z:= .agg z8) Tryz.underlying27 (by kernel_rfl) rfl (by simp[NoUL,Value.cells]) (by decide)
theorem elInts:ElT Tryz.prog 28 38 1 24:=ElT.of (z:= .slice none 0 0) Tryz.underlying28 (by kernel_rfl) rfl (by simp[NoUL,Value.cells]) (by decide)
def crP (x y:EdE):List (Rat×Rat):=if adjB x y=true\/djB x y=true then[]else if segN x.a x.b y.a y.b=1 then[(segX x.a x.b y.a y.b,segY x.a x.b y.a y.b)]else[]
def crRow (es:List EdE)(k:Nat):List (Rat×Rat):=match es[k]?with|some y=>(es.take k).flatMap (fun x=>crP x y)|none=>[]
def crAll (es:List EdE):List (Rat×Rat):=(List.range es.length).flatMap (crRow es)
def onAt (es:List EdE)(p:Rat×Rat)(i:Nat):Bool:=match es[i]?with|some e=>decide (conC e p)|none=>false
def onV (es:List EdE)(p:Rat×Rat):List Nat:=(List.range es.length).filter (onAt es p)
theorem onV_succ {es:List EdE}{p:Rat×Rat}{i:Nat}{e:EdE}(h:es[i]?=some e):(List.range (i+1)).filter (onAt es p)=(List.range i).filter (onAt es p)++(if conC e p then[i]else[]):=by
  rw[List.range_succ,List.filter_append];congr 1;by_cases hc:conC e p
  · rw[if_pos hc];simp[onAt,h,hc]
  rw[if_neg hc];simp[onAt,h,hc]
theorem crTake_succ {es:List EdE}{i:Nat}{x y:EdE}(h:es[i]?=some x):(es.take (i+1)).flatMap (fun x=>crP x y)=(es.take i).flatMap (fun x=>crP x y)++crP x y:=by
  rw[List.take_add_one,h,List.flatMap_append];simp
theorem crRange_succ {es:List EdE}{k:Nat}{y:EdE}(h:es[k]?=some y):(List.range (k+1)).flatMap (crRow es)=(List.range k).flatMap (crRow es)++(es.take k).flatMap (fun x=>crP x y):=by
  rw[List.range_succ,List.flatMap_append];simp[crRow,h]
def iC (i:Nat):List Value:=[.int .i64 (i:Int)]
theorem iC_len (i:Nat):(iC i).length=1:=rfl
structure OnE where
  A:Option Addr
  c:Nat
  l:List Nat
def OnE.v (o:OnE):Value:= .slice o.A o.l.length o.c
def OnE.cells (o:OnE):List Value:=[.slice o.A o.l.length o.c]
theorem OnE.len (o:OnE):o.cells.length=1:=rfl
def OnE.Ok (b:Nat)(w:World)(o:OnE):Prop:=RowN w b 3 1 (.slice o.A o.l.length o.c) o.l.length (o.l.flatMap iC)
theorem OnE.Ok.fr {b:Nat}{w0 W W':World}{m:List Ent}{ix n:Nat}{v:Value}{xs:List Value}{o:OnE}(h:o.Ok b W)(H:Hp w0 W m)(hi:m[ix]?=some (.row 38 1 v n xs))(x:Fr (fun k=>v.ownBlock=some k) W W'):o.Ok b W':=by
  obtain⟨h1,h2|⟨g,cap,rest,h3,h4,h5,h6⟩⟩:=h
  · exact⟨h1,.inl h2⟩
  refine⟨h1,.inr ⟨g,cap,rest,h3,h4,?_,h6⟩⟩;have h7:Blk W g 3 _:=h5;refine(x.block g h7.lt (fun hk=> ?_)).trans h7;have h8:=H.typ hi h7 (by exact hk);exact absurd (show(38:TypeId)=3 from h8) (by decide)
theorem OnE.Ok.ext {b:Nat}{W W':World}{o:OnE}(h:o.Ok b W)(x:Ext W W'):o.Ok b W':=RowN.ext h x
theorem RowN.low {w:World}{b b':Nat}{t:TypeId}{size:Nat}{v:Value}{n:Nat}{xs:List Value}(h:RowN w b t size v n xs)(hb:b'<=b):RowN w b' t size v n xs:=by
  obtain⟨h1,h2|⟨g,cap,rest,h3,h4,h5⟩⟩:=h
  · exact⟨h1,.inl h2⟩
  exact⟨h1,.inr ⟨g,cap,rest,h3,Nat.le_trans hb h4,h5⟩⟩
theorem cmp2_tr {a b c:Rat×Rat}(h1:¬cmp2 b a<0)(h2:cmp2 b c<0):cmp2 a c<0:=by
  rw[cmp2_lt]at h1 h2⊢;obtain⟨a1,a2⟩:=a;obtain⟨b1,b2⟩:=b;obtain⟨c1,c2⟩:=c;simp only at h1 h2⊢;grind
theorem cmp2_st {x y:Rat×Rat}(h1:¬cmp2 x y<0)(h2:x≠y):cmp2 y x<0:=by
  rw[cmp2_lt]at h1⊢;obtain⟨a1,a2⟩:=x;obtain⟨b1,b2⟩:=y;have h3:¬(a1=b1/\a2=b2):=fun h=>h2 (Prod.ext h.1 h.2)
  simp only at h1⊢;grind
def le2 (x y:R2E):Prop:=¬cmp2 y.vl x.vl<0
def lt2 (x y:R2E):Prop:=cmp2 x.vl y.vl<0
theorem sorted2 {es1:List R2E}(hs:es1.Pairwise le2):(compactV (fun x y:R2E=>decide (x.vl=y.vl)) es1).Pairwise lt2:=
  compactV_sorted (α:=R2E) (eqv:=fun x y:R2E=>decide (x.vl=y.vl)) (le:=le2) (lt:=lt2)
    (fun a b c h1 h2=>by unfold le2 at h1;unfold lt2 at h2⊢;exact cmp2_tr h1 h2)
    (fun x y h1 h2=>by unfold le2 at h1;unfold lt2;exact cmp2_st h1 (of_decide_eq_false h2))
    (fun x y h1 z h2=>by unfold lt2 at h2⊢;have h3:=of_decide_eq_true h1;rw[<-h3];exact h2) hs
theorem sort_cpt {es es1:List R2E}(hp:es1.Perm es)(hs:es1.Pairwise (fun x y=>¬cmp2 y.vl x.vl<0)):
  ((compactV (fun x y:R2E=>decide (x.vl=y.vl)) es1).map R2E.vl).Pairwise (fun x y=>cmp2 x y<0)/\(∀q,q∈(compactV (fun x y:R2E=>decide (x.vl=y.vl)) es1).map R2E.vl↔q∈es.map R2E.vl)/\(∀e,e∈compactV (fun x y:R2E=>decide (x.vl=y.vl)) es1->e∈es):=by
 have hst:=sorted2 hs;refine⟨by rw[List.pairwise_map];exact hst,fun q=>⟨fun hx=> ?_,fun hx=> ?_⟩,fun e he=>hp.mem_iff.1 (compactV_sub _ he)⟩
 ·obtain⟨e,he,rfl⟩:=List.mem_map.1 hx
  exact List.mem_map_of_mem (hp.mem_iff.1 (compactV_sub _ he))
 obtain⟨e,he,rfl⟩:=List.mem_map.1 hx;obtain⟨f,hf,h2⟩:=compactV_mem (eqv:=(fun x y:R2E=>decide (x.vl=y.vl))) (key:=R2E.vl) (fun x y h=>of_decide_eq_true h) (hp.mem_iff.2 he);exact List.mem_map.2 ⟨f,hf,h2⟩
def IsxRet (rs:List Ring)(w:World)(e:Ending)(w':World):Prop:=
  ∃ (v1 v2:Value) (ps:List R2E) (os:List OnE),e= .returned (.tuple #[v1,v2])/\RowN w' w.heap.size 37 8 v1 ps.length (ps.flatMap R2E.cells)/\(ps.map R2E.vl).Pairwise (fun x y=>cmp2 x y<0)/\(∀q,q∈ps.map R2E.vl↔q∈crAll (edsV rs))/\(∀e,e∈ps->e.Ok 24 w')/\
    RowN w' w.heap.size 38 1 v2 os.length (os.flatMap OnE.cells)/\os.map OnE.l=ps.map (fun e=>onV (edsV rs) e.vl)/\(∀o,o∈os->o.Ok w.heap.size w')/\Ext w w'
theorem take_map_succ {α β:Type}{l:List α}{k:Nat}{x:α}{f:α->β}(h:l[k]?=some x):(l.take (k+1)).map f=(l.take k).map f++[f x]:=by
  rw[List.take_add_one,h];simp
theorem intersections_any (A:Option Addr)(cu:Nat)(rs:List Ring)(w:World)(hu:RingsV w (.slice A rs.length cu) rs)(hc:rs.length<=cu)(hn:rs.length<=1048576)(hr:∀r,r∈rs->r.length<=1048576):
  Calls Tryz.prog 7 #[.slice A rs.length cu] w (IsxRet rs w):=by
 have HU:=zH hu;have HN:=zH hn;have HR:=zH hr;have HC:=zH hc;have hel:=edsV_len rs;clear hu hr hc hn;go_enter Tryz.func7,Tryz.ntmps7
 have H0:=zH (Hp.start w);go_upto_region 0 with fail
 refine wl ?_;refine zI2 (Hp.start _) _ _ ?_;go_upto_region 1 with fail
 refine wl ?_;refine zI1 (Hp.start _) _ ?_;refine zc (iedges_any A cu rs _ (HU.out.ext H0.out.ext) HC.out HN.out HR.out) ?_;rintro e w4 ⟨v_,rfl,hrow_,hx⟩;obtain⟨Ae,ce,rfl,hfe_⟩:=hrow_.form;have HFE:=zH hfe_;clear hfe_;have H5:=zH (show Hp w w4 [ro 62 7 Ae ((edsV rs).length) ce EdE.cells (edsV rs)]from H0.out.addRow hx hrow_);clear hrow_ hx;refine zn ?_;refine zI1 (Hp.start _) _ ?_;go_upto_region 2 with fail
 refine wl ?_;refine zI1 (Hp.start _) _ ?_;have H9:=zH (show Hp w w4 [ro 62 7 Ae ((edsV rs).length) ce EdE.cells (edsV rs),ro 37 8 none 0 0 R2E.cells ([])]from H5.out.addNil 37 8);go_upto_region 3 with fail
 refine wl ?_;refine zI3 (Hp.start _) _ (.int .i64 (((edsV rs).length:Nat):Int)) _ ?_;go_wp2_with fail
 go_loopg [5,21] ((edsV rs).length) (fun cq v13 v14 wr=>∃(k:Nat) (A1:Option Addr) (m:Nat) (c1:Nat) (es:List R2E),cq=((edsV rs).length)-k/\v13= .slice A1 m c1/\v14= .int .i64 (k:Int)/\(k<=(edsV rs).length)/\(m=es.length/\m<=4096*k)/\(es.map R2E.vl=(List.range k).flatMap (crRow (edsV rs)))/\(∀e,e∈es->e.Ok 24 wr)/\Hp w wr [.row 62 7 (.slice Ae ((edsV rs).length) ce) ((edsV rs).length) (List.flatMap EdE.cells (edsV rs)),.row 37 8 (.slice A1 m c1) (m) (List.flatMap R2E.cells es)]/\Dig w4 wr)
 case atStart=>exact⟨0,none,0,0,[],rfl,rfl,rfl,Nat.zero_le _,⟨rfl,Nat.zero_le _⟩,rfl,(fun e_ he_=>by cases he_),H9.out,Dig.refl _⟩
 obtain⟨k,A1,m,c1,es,rfl,rfl,rfl,q_HKN,q_HM,q_HES,q_HOE,hh_,hd_⟩:=hrel;generalize wr=w15 at*
 have HKN:=zH q_HKN;clear q_HKN;have HM:=zH q_HM;clear q_HM;have HES:=zH q_HES;clear q_HES;have HOE:=zH q_HOE;clear q_HOE;have H17:=zH hh_;have D17:=zH hd_;clear hh_ hd_ H9;rcases emH (k<(edsV rs).length)with HLT|HLT
 ·have hlt:=HLT.out
  go_upto_region 4 with fail
  refine wl ?_;refine zp (.bool true) (by exact ezl (e:=(dec_t (by have ob0:=HM.out;omega)))) ?_;go_upto_region 5 with fail
  refine wl ?_;refine zI2 (Hp.start _) (.int .i64 (k:Int)) (.int .i64 (k:Int)) ?_;go_upto_region 6 with fail
  refine wl ?_;refine zI2 (Hp.start _) (.int .i64 (k:Int)) _ ?_;go_wp2_with fail
  go_loopg [5,25] (k) (fun cq v24 v25 wr=>∃(i:Nat) (A2:Option Addr) (m2:Nat) (c2:Nat) (es2:List R2E),cq=k-i/\v24= .slice A2 m2 c2/\v25= .int .i64 (i:Int)/\(i<=k)/\(m2=es2.length/\m2<=4096*k+i)/\(∀ey:EdE,(edsV rs)[k]?=some ey->es2.map R2E.vl=(List.range k).flatMap (crRow (edsV rs))++((edsV rs).take i).flatMap (fun x=>crP x ey))/\(∀e,e∈es2->e.Ok 24 wr)/\Hp w wr [.row 62 7 (.slice Ae ((edsV rs).length) ce) ((edsV rs).length) (List.flatMap EdE.cells (edsV rs)),.row 37 8 (.slice A2 m2 c2) (m2) (List.flatMap R2E.cells es2)]/\Dig w15 wr)
  case atStart=>exact⟨0,A1,m,c1,es,rfl,rfl,rfl,Nat.zero_le _,⟨HM.out.1,HM.out.2⟩,(fun _ _=>by rw[HES.out];simp),(fun g_ hg_=>(HOE.out g_ hg_)),H17.out,Dig.refl _⟩
  obtain⟨i,A2,m2,c2,es2,rfl,rfl,rfl,q_HKI,q_HM2,q_HES2,q_HOE2,hh_,hd_⟩:=hrel;generalize wr=w26 at*
  have HKI:=zH q_HKI;clear q_HKI;have HM2:=zH q_HM2;clear q_HM2;have HES2:=zH q_HES2;clear q_HES2;have HOE2:=zH q_HOE2;clear q_HOE2;have H28:=zH hh_;have D28:=zH hd_;clear hh_ hd_ H17;rcases emH (i<k)with HIK|HIK
  ·have HIK2:=HIK
   have hik:=HIK2.out;obtain⟨ge,rfl⟩:=HFE.out (by omega);obtain⟨ex,hex_⟩:∃x,(edsV rs)[i]?=some x:=⟨_,List.getElem?_eq_getElem (by omega)⟩;obtain⟨ey,hey_⟩:∃x,(edsV rs)[k]?=some x:=⟨_,List.getElem?_eq_getElem (by omega)⟩;have HEX:=zH hex_;have HEY:=zH hey_;have HBX:=zH (edsV_bd HN.out ex (List.mem_of_getElem? hex_));have HBY:=zH (edsV_bd HN.out ey (List.mem_of_getElem? hey_));clear hex_ hey_;go_upto_region 7 with fail
   refine wl ?_;refine zp (.bool true) (by exact ezl (e:=(dec_t (by have ob0:=HM.out;have ob1:=HM2.out;omega)))) ?_;go_upto_region 8 with fail
   refine wl ?_;refine zI2 (Hp.start _) (.int .i64 (i:Int)) (.int .i64 (i:Int)) ?_;rcases emH (adjB ex ey=true)with HAD|HAD
   ·go_upto_region 9 with fail
    refine zy ?_;have H34:=zH (H28.out.step (Ext.refl w26).drew);have D34:=zH (Dig.of_ext (w:=w26) zb);refine zJ2 (Hp.start _) zb (bs 20 3) 0 1 _ (.int .i64 (i:Int)) ?_;refine zo 2 (bs 20 7) (v:= .pointer (some ⟨ge,i*7,none⟩)) zb ?_ (hv:=by intro w hSw;exact ezi (k:=i) Tryz.underlying58 (l:=(show i<(edsV rs).length by omega)) (f:=(Nat.zero_add _).symm));refine zg 3 (bs 20 15) ge (i*7) [.int .i64 ex.a.1,.int .i64 ex.a.2,.int .i64 ex.b.1,.int .i64 ex.b.2,.int .i64 ((ex.r:Nat):Int),.int .i64 ((ex.i:Nat):Int),.int .i64 ((ex.n:Nat):Int)] (H28.out.elem (f:=EdE.cells) (i:=0) rR EdE.len HEX.out) Tryz.underlying62 zb ?_;refine zJ2 (Hp.start _) zb (bs 20 63) 4 5 _ (.int .i64 (k:Int)) ?_;refine zo 6 (bs 20 127) (v:= .pointer (some ⟨ge,k*7,none⟩)) zb ?_ (hv:=by intro w hSw;exact ezi (k:=k) Tryz.underlying58 (l:=(show k<(edsV rs).length by omega)) (f:=(Nat.zero_add _).symm));refine zg 7 (bs 20 255) ge (k*7) [.int .i64 ey.a.1,.int .i64 ey.a.2,.int .i64 ey.b.1,.int .i64 ey.b.2,.int .i64 ((ey.r:Nat):Int),.int .i64 ((ey.i:Nat):Int),.int .i64 ((ey.n:Nat):Int)] (H28.out.elem (f:=EdE.cells) (i:=0) rR EdE.len HEY.out) Tryz.underlying62 zb ?_;refine mC 8 (bs 20 511) (adjacent_any ex ey _ HBX.out HBY.out) ?_;rintro e w42 ⟨rfl,hx⟩;have H43:=zH (H34.out.step hx);have D43:=zH (show Dig w26.drew w42 from Dig.of_ext hx);have S45:=zH (zb.trans hx);clear hx;refine⟨.bool true,by rw[HAD.out],S45.out,?_⟩;try simp only[Act.put,zA,zB,zC]
    refine zJ8 (Hp.start _) S45.out (bs 20 131071) 9 10 11 12 13 14 15 16 (.bool true) _ _ _ _ _ _ _ ?_;refine zJ3 (Hp.start _) S45.out (bs 20 1048575) 17 18 19 _ _ (.bool true) ?_;refine wpAnyH_done kR ?_ _;go_upto_region 13 with fail
    refine wl ?_;refine zp (.int .i64 ((i+1:Nat):Int)) (by exact ez1 (by have ob0:=HM.out;have ob1:=HM2.out;omega)) ?_;refine zq (.int .i64 ((i+1:Nat):Int)) ?_;have DD50:=tD D34 D43;have DD51:=tD (tD D28 D34) D43;go_wp2_with fail
    go_roundg (k-(i+1))
    case measure=>exact(by have ob0:=HM.out;have ob1:=HM2.out;omega)
    case rel=>exact⟨i+1,A2,m2,c2,es2,rfl,rfl,(by go_num),hik,⟨HM2.out.1,by have h_:=HM2.out.2;omega⟩,(fun ey_ hey2_=>by obtain rfl:ey=ey_:=Option.some.inj (HEY.out.symm.trans hey2_);rw[HES2.out _ hey2_,crTake_succ HEX.out,show crP ex ey=[]from if_pos (.inl HAD.out),List.append_nil]),(fun g_ hg_=>(HOE2.out g_ hg_).dig DD50.out),H43.out,DD51.out⟩
   have HADF:=zH (Bool.eq_false_iff.2 HAD.out);rcases emH (djB ex ey=true)with HDJ|HDJ
   ·go_upto_region 9 with fail
    refine zy ?_;have H53:=zH (H28.out.step (Ext.refl w26).drew);have D53:=zH (Dig.of_ext (w:=w26) zb);refine zJ2 (Hp.start _) zb (bs 20 3) 0 1 _ (.int .i64 (i:Int)) ?_;refine zo 2 (bs 20 7) (v:= .pointer (some ⟨ge,i*7,none⟩)) zb ?_ (hv:=by intro w hSw;exact ezi (k:=i) Tryz.underlying58 (l:=(show i<(edsV rs).length by omega)) (f:=(Nat.zero_add _).symm));refine zg 3 (bs 20 15) ge (i*7) [.int .i64 ex.a.1,.int .i64 ex.a.2,.int .i64 ex.b.1,.int .i64 ex.b.2,.int .i64 ((ex.r:Nat):Int),.int .i64 ((ex.i:Nat):Int),.int .i64 ((ex.n:Nat):Int)] (H28.out.elem (f:=EdE.cells) (i:=0) rR EdE.len HEX.out) Tryz.underlying62 zb ?_;refine zJ2 (Hp.start _) zb (bs 20 63) 4 5 _ (.int .i64 (k:Int)) ?_;refine zo 6 (bs 20 127) (v:= .pointer (some ⟨ge,k*7,none⟩)) zb ?_ (hv:=by intro w hSw;exact ezi (k:=k) Tryz.underlying58 (l:=(show k<(edsV rs).length by omega)) (f:=(Nat.zero_add _).symm));refine zg 7 (bs 20 255) ge (k*7) [.int .i64 ey.a.1,.int .i64 ey.a.2,.int .i64 ey.b.1,.int .i64 ey.b.2,.int .i64 ((ey.r:Nat):Int),.int .i64 ((ey.i:Nat):Int),.int .i64 ((ey.n:Nat):Int)] (H28.out.elem (f:=EdE.cells) (i:=0) rR EdE.len HEY.out) Tryz.underlying62 zb ?_;refine mC 8 (bs 20 511) (adjacent_any ex ey _ HBX.out HBY.out) ?_;rintro e w61 ⟨rfl,hx⟩;have H62:=zH (H53.out.step hx);have D62:=zH (show Dig w26.drew w61 from Dig.of_ext hx);have S64:=zH (zb.trans hx);clear hx;refine⟨.bool false,by rw[HADF.out],S64.out,?_⟩;try simp only[Act.put,zA,zB,zC]
    refine zJ3 (Hp.start _) S64.out (bs 20 4095) 9 10 11 (.bool false) _ (.int .i64 (i:Int)) ?_;refine zo 12 (bs 20 8191) (v:= .pointer (some ⟨ge,i*7,none⟩)) S64.out ?_ (hv:=by intro w hSw;exact ezi (k:=i) Tryz.underlying58 (l:=(show i<(edsV rs).length by omega)) (f:=(Nat.zero_add _).symm));refine zg 13 (bs 20 16383) ge (i*7) [.int .i64 ex.a.1,.int .i64 ex.a.2,.int .i64 ex.b.1,.int .i64 ex.b.2,.int .i64 ((ex.r:Nat):Int),.int .i64 ((ex.i:Nat):Int),.int .i64 ((ex.n:Nat):Int)] (H28.out.elem (f:=EdE.cells) (i:=0) rR EdE.len HEX.out) Tryz.underlying62 S64.out ?_;refine zJ2 (Hp.start _) S64.out (bs 20 65535) 14 15 _ (.int .i64 (k:Int)) ?_;refine zo 16 (bs 20 131071) (v:= .pointer (some ⟨ge,k*7,none⟩)) S64.out ?_ (hv:=by intro w hSw;exact ezi (k:=k) Tryz.underlying58 (l:=(show k<(edsV rs).length by omega)) (f:=(Nat.zero_add _).symm));refine zg 17 (bs 20 262143) ge (k*7) [.int .i64 ey.a.1,.int .i64 ey.a.2,.int .i64 ey.b.1,.int .i64 ey.b.2,.int .i64 ((ey.r:Nat):Int),.int .i64 ((ey.i:Nat):Int),.int .i64 ((ey.n:Nat):Int)] (H28.out.elem (f:=EdE.cells) (i:=0) rR EdE.len HEY.out) Tryz.underlying62 S64.out ?_;refine mC 18 (bs 20 524287) (disjoint_any ex ey _) ?_;rintro e w72 ⟨rfl,hx⟩;have H73:=zH (H62.out.step hx);have D73:=zH (Dig.of_ext hx);have S75:=zH (S64.out.trans hx);clear hx;refine⟨.bool true,by rw[HDJ.out],S75.out,?_⟩;try simp only[Act.put,zA,zB,zC]
    refine zx 19 (bs 20 1048575) (.bool true) S75.out ?_;refine wpAnyH_done kR ?_ _;go_upto_region 13 with fail
    refine wl ?_;refine zp (.int .i64 ((i+1:Nat):Int)) (by exact ez1 (by have ob0:=HM.out;have ob1:=HM2.out;omega)) ?_;refine zq (.int .i64 ((i+1:Nat):Int)) ?_;have DD79:=tD (tD D53 D62) D73;have DD80:=tD (tD (tD D28 D53) D62) D73;go_wp2_with fail
    go_roundg (k-(i+1))
    case measure=>exact(by have ob0:=HM.out;have ob1:=HM2.out;omega)
    case rel=>exact⟨i+1,A2,m2,c2,es2,rfl,rfl,(by go_num),hik,⟨HM2.out.1,by have h_:=HM2.out.2;omega⟩,(fun ey_ hey2_=>by obtain rfl:ey=ey_:=Option.some.inj (HEY.out.symm.trans hey2_);rw[HES2.out _ hey2_,crTake_succ HEX.out,show crP ex ey=[]from if_pos (.inr HDJ.out),List.append_nil]),(fun g_ hg_=>(HOE2.out g_ hg_).dig DD79.out),H73.out,DD80.out⟩
   have HDJF:=zH (Bool.eq_false_iff.2 HDJ.out);have HNO:=zH (show¬(adjB ex ey=true\/djB ex ey=true)from fun h_=>h_.elim HAD.out HDJ.out);go_upto_region 9 with fail
   refine zy ?_;have H81:=zH (H28.out.step (Ext.refl w26).drew);have D81:=zH (Dig.of_ext (w:=w26) zb);refine zJ2 (Hp.start _) zb (bs 20 3) 0 1 _ (.int .i64 (i:Int)) ?_;refine zo 2 (bs 20 7) (v:= .pointer (some ⟨ge,i*7,none⟩)) zb ?_ (hv:=by intro w hSw;exact ezi (k:=i) Tryz.underlying58 (l:=(show i<(edsV rs).length by omega)) (f:=(Nat.zero_add _).symm));refine zg 3 (bs 20 15) ge (i*7) [.int .i64 ex.a.1,.int .i64 ex.a.2,.int .i64 ex.b.1,.int .i64 ex.b.2,.int .i64 ((ex.r:Nat):Int),.int .i64 ((ex.i:Nat):Int),.int .i64 ((ex.n:Nat):Int)] (H28.out.elem (f:=EdE.cells) (i:=0) rR EdE.len HEX.out) Tryz.underlying62 zb ?_;refine zJ2 (Hp.start _) zb (bs 20 63) 4 5 _ (.int .i64 (k:Int)) ?_;refine zo 6 (bs 20 127) (v:= .pointer (some ⟨ge,k*7,none⟩)) zb ?_ (hv:=by intro w hSw;exact ezi (k:=k) Tryz.underlying58 (l:=(show k<(edsV rs).length by omega)) (f:=(Nat.zero_add _).symm));refine zg 7 (bs 20 255) ge (k*7) [.int .i64 ey.a.1,.int .i64 ey.a.2,.int .i64 ey.b.1,.int .i64 ey.b.2,.int .i64 ((ey.r:Nat):Int),.int .i64 ((ey.i:Nat):Int),.int .i64 ((ey.n:Nat):Int)] (H28.out.elem (f:=EdE.cells) (i:=0) rR EdE.len HEY.out) Tryz.underlying62 zb ?_;refine mC 8 (bs 20 511) (adjacent_any ex ey _ HBX.out HBY.out) ?_;rintro e w89 ⟨rfl,hx⟩;have H90:=zH (H81.out.step hx);have D90:=zH (show Dig w26.drew w89 from Dig.of_ext hx);have S92:=zH (zb.trans hx);clear hx;refine⟨.bool false,by rw[HADF.out],S92.out,?_⟩;try simp only[Act.put,zA,zB,zC]
   refine zJ3 (Hp.start _) S92.out (bs 20 4095) 9 10 11 (.bool false) _ (.int .i64 (i:Int)) ?_;refine zo 12 (bs 20 8191) (v:= .pointer (some ⟨ge,i*7,none⟩)) S92.out ?_ (hv:=by intro w hSw;exact ezi (k:=i) Tryz.underlying58 (l:=(show i<(edsV rs).length by omega)) (f:=(Nat.zero_add _).symm));refine zg 13 (bs 20 16383) ge (i*7) [.int .i64 ex.a.1,.int .i64 ex.a.2,.int .i64 ex.b.1,.int .i64 ex.b.2,.int .i64 ((ex.r:Nat):Int),.int .i64 ((ex.i:Nat):Int),.int .i64 ((ex.n:Nat):Int)] (H28.out.elem (f:=EdE.cells) (i:=0) rR EdE.len HEX.out) Tryz.underlying62 S92.out ?_;refine zJ2 (Hp.start _) S92.out (bs 20 65535) 14 15 _ (.int .i64 (k:Int)) ?_;refine zo 16 (bs 20 131071) (v:= .pointer (some ⟨ge,k*7,none⟩)) S92.out ?_ (hv:=by intro w hSw;exact ezi (k:=k) Tryz.underlying58 (l:=(show k<(edsV rs).length by omega)) (f:=(Nat.zero_add _).symm));refine zg 17 (bs 20 262143) ge (k*7) [.int .i64 ey.a.1,.int .i64 ey.a.2,.int .i64 ey.b.1,.int .i64 ey.b.2,.int .i64 ((ey.r:Nat):Int),.int .i64 ((ey.i:Nat):Int),.int .i64 ((ey.n:Nat):Int)] (H28.out.elem (f:=EdE.cells) (i:=0) rR EdE.len HEY.out) Tryz.underlying62 S92.out ?_;refine mC 18 (bs 20 524287) (disjoint_any ex ey _) ?_;rintro e w100 ⟨rfl,hx⟩;have H101:=zH (H90.out.step hx);have D101:=zH (Dig.of_ext hx);have S103:=zH (S92.out.trans hx);clear hx;refine⟨.bool false,by rw[HDJF.out],S103.out,?_⟩;try simp only[Act.put,zA,zB,zC]
   refine zx 19 (bs 20 1048575) (.bool false) S103.out ?_;refine wpAnyH_done kR ?_ _;rcases emH (segN ex.a ex.b ey.a ey.b=1)with HSG|HSG
   ·go_upto_region 10 with fail
    refine zy ?_;have H106:=zH (H101.out.step (Ext.refl w100).drew);have D106:=zH (Dig.of_ext (w:=w100) zb);refine zJ2 (Hp.start _) zb (bs 30 3) 0 1 _ (.int .i64 (i:Int)) ?_;refine zu 2 (bs 30 7) (v:= .pointer (some ⟨ge,i*7,none⟩)) zb ?_ (hv:=by intro w hSw;exact ezi (k:=i) Tryz.underlying58 (l:=(show i<(edsV rs).length by omega)) (f:=(Nat.zero_add _).symm));refine zJ1 (Hp.start _) zb (bs 30 15) 3 _ ?_;refine zg 4 (bs 30 31) ge (i*7) [.int .i64 ex.a.1,.int .i64 ex.a.2] (range_part (H101.out.elem (f:=EdE.cells) (i:=0) rR EdE.len HEX.out) 0 2) Tryz.underlying41 zb ?_;refine zJ2 (Hp.start _) zb (bs 30 127) 5 6 _ (.int .i64 (i:Int)) ?_;refine zu 7 (bs 30 255) (v:= .pointer (some ⟨ge,i*7,none⟩)) zb ?_ (hv:=by intro w hSw;exact ezi (k:=i) Tryz.underlying58 (l:=(show i<(edsV rs).length by omega)) (f:=(Nat.zero_add _).symm));refine mX 8 (bs 30 511) (.pointer (some ⟨ge,i*7+2,none⟩)) zb ?_;refine zg 9 (bs 30 1023) ge (i*7+2) [.int .i64 ex.b.1,.int .i64 ex.b.2] (range_part (H101.out.elem (f:=EdE.cells) (i:=0) rR EdE.len HEX.out) 2 2) Tryz.underlying41 zb ?_;refine zJ2 (Hp.start _) zb (bs 30 4095) 10 11 _ (.int .i64 (k:Int)) ?_;refine zu 12 (bs 30 8191) (v:= .pointer (some ⟨ge,k*7,none⟩)) zb ?_ (hv:=by intro w hSw;exact ezi (k:=k) Tryz.underlying58 (l:=(show k<(edsV rs).length by omega)) (f:=(Nat.zero_add _).symm));refine zJ1 (Hp.start _) zb (bs 30 16383) 13 _ ?_;refine zg 14 (bs 30 32767) ge (k*7) [.int .i64 ey.a.1,.int .i64 ey.a.2] (range_part (H101.out.elem (f:=EdE.cells) (i:=0) rR EdE.len HEY.out) 0 2) Tryz.underlying41 zb ?_;refine zJ2 (Hp.start _) zb (bs 30 131071) 15 16 _ (.int .i64 (k:Int)) ?_;refine zu 17 (bs 30 262143) (v:= .pointer (some ⟨ge,k*7,none⟩)) zb ?_ (hv:=by intro w hSw;exact ezi (k:=k) Tryz.underlying58 (l:=(show k<(edsV rs).length by omega)) (f:=(Nat.zero_add _).symm));refine mX 18 (bs 30 524287) (.pointer (some ⟨ge,k*7+2,none⟩)) zb ?_;refine zg 19 (bs 30 1048575) ge (k*7+2) [.int .i64 ey.b.1,.int .i64 ey.b.2] (range_part (H101.out.elem (f:=EdE.cells) (i:=0) rR EdE.len HEY.out) 2 2) Tryz.underlying41 zb ?_;refine FN.go2 (j1:=⟨25,some 8,36,[.bool false,.slice none 0 0,.bool false,.slice none 0 0]⟩) (j2:=⟨26,some 9,36,[.bool false,.slice none 0 0,.bool false,.slice none 0 0]⟩) (b:=w100) ?_ zb;refine gN 20 (bs 30 2097151) (fk (fk trivial)) zb.size (fun xq hxq=>((segments_any ex.a ex.b ey.a ey.b _ HBX.out.1 HBX.out.2.1 HBY.out.1 HBY.out.2.1).mono (fun _ _ h_=>SegRet.yes h_ HSG.out))) (by rintro x_ e x2_ ⟨r125,s125,rfl,hr_,hs_,hx⟩;exact hx) ?_;rintro xq e w124 hxq ⟨r125,s125,rfl,hr_,hs_,hx⟩;replace hx:=hxq.trans hx;clear hxq;have H126:=zH (H106.out.step hx);have D126:=zH (show Dig w100.drew w124 from Dig.of_ext hx);have S128:=zH (zb.trans hx);have R125:=zH hr_;have S125:=zH hs_;have B125:=zH (rl_segXY HBX.out.1 HBX.out.2.1 HBY.out.1 HBY.out.2.1).1;have C125:=zH (rl_segXY HBX.out.1 HBX.out.2.1 HBY.out.1 HBY.out.2.1).2;clear hr_ hs_ hx;refine⟨_,rfl,?_⟩;try simp only[Act.put,zA,zB,zC]
    refine gT 21 (bs 30 4194303) _ ?_;refine gT 22 (bs 30 8388607) _ ?_;refine gT 23 (bs 30 16777215) _ ?_;refine gT 24 (bs 30 33554431) (.int .i64 1) ?_;refine gE2 (bs 30 134217727) (fk (fk trivial)) S128.out.size H101.out H126.out ?_;intro X133 X134 w135 hx hh hg0 hg1 hs;have H136:=hN hh;have D136:=zH (Dig.of_ext hx);have S138:=zH (show Ext w100 w135 from hs);have G139:=zH (show w100.heap.size<=X133 from hg0);have G140:=zH (show w100.heap.size<=X134 from hg1);clear hh hx hs hg0 hg1;try simp only[Act.put,zA,zB,zC]
    refine bS 2 27 (bs 30 268435455) (rc r125) H136.out S138.out G139.out ?_;intro w141 H142 D142 S144;refine bS 3 28 (bs 30 536870911) (rc s125) H142.out S144.out G140.out ?_;intro w145 H146 D146 S148;refine zx 29 (bs 30 1073741823) (.int .i64 1) S148.out ?_;refine wpAnyH_done kR ?_ _;go_upto_region 11 with fail
    refine wl ?_;refine zq (.int .i64 1) ?_;refine zp (.bool true) (by exact ezq (e:=(dec_t rfl))) ?_;go_upto_region 12 with fail
    refine wl ?_;refine zI4 H146.out _ _ _ _ ?_;refine zp (w':=(w145.alloc (.cells ([.bool r125.n,.slice r125.p r125.l r125.c,.bool r125.m,.slice r125.p2 r125.l2 r125.c2,.bool s125.n,.slice s125.p s125.l s125.c,.bool s125.m,.slice s125.p2 s125.l2 s125.c2]:List Value).toArray 37))) (.slice (some ⟨w145.heap.size,0,none⟩) 1 1) (by go_simp) ?_;refine mv_app rR _ _ _ rR elRR rR H146.out (ix:=1) rR 1 1 [.bool r125.n,.slice r125.p r125.l r125.c,.bool r125.m,.slice r125.p2 r125.l2 r125.c2,.bool s125.n,.slice s125.p s125.l s125.c,.bool s125.m,.slice s125.p2 s125.l2 s125.c2] rR rfl (by simp[Value.oneCell']) (by simp[NoUL]) dC (by unfold maxLen;exact(by have ob0:=HM.out;have ob1:=HM2.out;omega)) (by have ob0:=HM.out;have ob1:=HM2.out;omega) ?_;intro g155 cp156 w154 hf hh hd hg;have Fg155:=zH hf;clear hf;rw[show List.flatMap R2E.cells es2++[.bool r125.n,.slice r125.p r125.l r125.c,.bool r125.m,.slice r125.p2 r125.l2 r125.c2,.bool s125.n,.slice s125.p s125.l s125.c,.bool s125.m,.slice s125.p2 s125.l2 s125.c2]=_ from flat_snoc R2E.cells _ (⟨r125,s125,(segX ex.a ex.b ey.a ey.b),(segY ex.a ex.b ey.a ey.b)⟩:R2E)]at hh;have H157:=hN hh;have D157:=zH (hd);clear hh hd hg;try simp only[Act.put,zA,zB,zC]
    refine zq (.slice (some ⟨g155,0,none⟩) (m2+1) cp156) ?_;have DD160:=tD (tD (tD (tD (tD (tD (tD (tD D81 D90) D101) D106) D126) D136) D142) D146) D157;have DD161:=tD (tD (tD D136 D142) D146) D157;go_upto_region 13 with fail
    refine wl ?_;refine zp (.int .i64 ((i+1:Nat):Int)) (by exact ez1 (by have ob0:=HM.out;have ob1:=HM2.out;omega)) ?_;refine zq (.int .i64 ((i+1:Nat):Int)) ?_;have DD164:=tD (tD (tD (tD (tD (tD (tD (tD (tD D28 D81) D90) D101) D106) D126) D136) D142) D146) D157;go_wp2_with fail
    go_roundg (k-(i+1))
    case measure=>exact(by have ob0:=HM.out;have ob1:=HM2.out;omega)
    case rel=>exact⟨i+1,some ⟨g155,0,none⟩,(m2+1),cp156,es2++[(⟨r125,s125,(segX ex.a ex.b ey.a ey.b),(segY ex.a ex.b ey.a ey.b)⟩:R2E)],rfl,rfl,(by go_num),hik,⟨by rw[HM2.out.1];simp,by have h_:=HM2.out.2;omega⟩,(fun ey_ hey2_=>by obtain rfl:ey=ey_:=Option.some.inj (HEY.out.symm.trans hey2_);rw[List.map_append,HES2.out _ hey2_,crTake_succ HEX.out,show crP ex ey=[(segX ex.a ex.b ey.a ey.b,segY ex.a ex.b ey.a ey.b)]from(if_neg HNO.out).trans (if_pos HSG.out),List.append_assoc];rfl),(fun g_ hg_=>(List.mem_append.1 hg_).elim (fun h_=>(HOE2.out g_ h_).dig DD160.out) (fun h_=>by rw[List.mem_singleton.1 h_];exact⟨(R125.out.dig DD161.out),(S125.out.dig DD161.out),Nat.le_trans B125.out (by decide),Nat.le_trans C125.out (by decide)⟩)),H157.out.take 2,DD164.out⟩
   go_upto_region 10 with fail
   refine zy ?_;have H165:=zH (H101.out.step (Ext.refl w100).drew);have D165:=zH (Dig.of_ext (w:=w100) zb);refine zJ2 (Hp.start _) zb (bs 30 3) 0 1 _ (.int .i64 (i:Int)) ?_;refine zu 2 (bs 30 7) (v:= .pointer (some ⟨ge,i*7,none⟩)) zb ?_ (hv:=by intro w hSw;exact ezi (k:=i) Tryz.underlying58 (l:=(show i<(edsV rs).length by omega)) (f:=(Nat.zero_add _).symm));refine zJ1 (Hp.start _) zb (bs 30 15) 3 _ ?_;refine zg 4 (bs 30 31) ge (i*7) [.int .i64 ex.a.1,.int .i64 ex.a.2] (range_part (H101.out.elem (f:=EdE.cells) (i:=0) rR EdE.len HEX.out) 0 2) Tryz.underlying41 zb ?_;refine zJ2 (Hp.start _) zb (bs 30 127) 5 6 _ (.int .i64 (i:Int)) ?_;refine zu 7 (bs 30 255) (v:= .pointer (some ⟨ge,i*7,none⟩)) zb ?_ (hv:=by intro w hSw;exact ezi (k:=i) Tryz.underlying58 (l:=(show i<(edsV rs).length by omega)) (f:=(Nat.zero_add _).symm));refine mX 8 (bs 30 511) (.pointer (some ⟨ge,i*7+2,none⟩)) zb ?_;refine zg 9 (bs 30 1023) ge (i*7+2) [.int .i64 ex.b.1,.int .i64 ex.b.2] (range_part (H101.out.elem (f:=EdE.cells) (i:=0) rR EdE.len HEX.out) 2 2) Tryz.underlying41 zb ?_;refine zJ2 (Hp.start _) zb (bs 30 4095) 10 11 _ (.int .i64 (k:Int)) ?_;refine zu 12 (bs 30 8191) (v:= .pointer (some ⟨ge,k*7,none⟩)) zb ?_ (hv:=by intro w hSw;exact ezi (k:=k) Tryz.underlying58 (l:=(show k<(edsV rs).length by omega)) (f:=(Nat.zero_add _).symm));refine zJ1 (Hp.start _) zb (bs 30 16383) 13 _ ?_;refine zg 14 (bs 30 32767) ge (k*7) [.int .i64 ey.a.1,.int .i64 ey.a.2] (range_part (H101.out.elem (f:=EdE.cells) (i:=0) rR EdE.len HEY.out) 0 2) Tryz.underlying41 zb ?_;refine zJ2 (Hp.start _) zb (bs 30 131071) 15 16 _ (.int .i64 (k:Int)) ?_;refine zu 17 (bs 30 262143) (v:= .pointer (some ⟨ge,k*7,none⟩)) zb ?_ (hv:=by intro w hSw;exact ezi (k:=k) Tryz.underlying58 (l:=(show k<(edsV rs).length by omega)) (f:=(Nat.zero_add _).symm));refine mX 18 (bs 30 524287) (.pointer (some ⟨ge,k*7+2,none⟩)) zb ?_;refine zg 19 (bs 30 1048575) ge (k*7+2) [.int .i64 ey.b.1,.int .i64 ey.b.2] (range_part (H101.out.elem (f:=EdE.cells) (i:=0) rR EdE.len HEY.out) 2 2) Tryz.underlying41 zb ?_;refine FN.go2 (j1:=⟨25,some 8,36,[.bool false,.slice none 0 0,.bool false,.slice none 0 0]⟩) (j2:=⟨26,some 9,36,[.bool false,.slice none 0 0,.bool false,.slice none 0 0]⟩) (b:=w100) ?_ zb;refine gN 20 (bs 30 2097151) (fk (fk trivial)) zb.size (fun xq hxq=>((segments_any ex.a ex.b ey.a ey.b _ HBX.out.1 HBX.out.2.1 HBY.out.1 HBY.out.2.1).mono (fun _ _ h_=>SegRet.no h_ HSG.out))) (by rintro x_ e x2_ ⟨rfl,hx⟩;exact hx) ?_;rintro xq e w183 hxq ⟨rfl,hx⟩;replace hx:=hxq.trans hx;clear hxq;have H184:=zH (H165.out.step hx);have D184:=zH (show Dig w100.drew w183 from Dig.of_ext hx);have S186:=zH (zb.trans hx);clear hx;refine⟨_,rfl,?_⟩;try simp only[Act.put,zA,zB,zC]
   refine gT 21 (bs 30 4194303) _ ?_;refine gT 22 (bs 30 8388607) _ ?_;refine gT 23 (bs 30 16777215) _ ?_;refine gT 24 (bs 30 33554431) (.int .i64 (segN ex.a ex.b ey.a ey.b)) ?_;refine gE2 (bs 30 134217727) (fk (fk trivial)) S186.out.size H101.out H184.out ?_;intro X191 X192 w193 hx hh hg0 hg1 hs;have H194:=hN hh;have D194:=zH (Dig.of_ext hx);have S196:=zH (show Ext w100 w193 from hs);have G197:=zH (show w100.heap.size<=X191 from hg0);have G198:=zH (show w100.heap.size<=X192 from hg1);clear hh hx hs hg0 hg1;try simp only[Act.put,zA,zB,zC]
   refine bS 2 27 (bs 30 268435455) rz H194.out S196.out G197.out ?_;intro w199 H200 D200 S202;refine bS 3 28 (bs 30 536870911) rz H200.out S202.out G198.out ?_;intro w203 H204 D204 S206;refine zx 29 (bs 30 1073741823) (.int .i64 (segN ex.a ex.b ey.a ey.b)) S206.out ?_;refine wpAnyH_done kR ?_ _;go_upto_region 11 with fail
   refine wl ?_;refine zq (.int .i64 (segN ex.a ex.b ey.a ey.b)) ?_;refine zp (.bool false) (by exact ezq (e:=(dec_f HSG.out))) ?_;go_upto_region 13 with fail
   refine wl ?_;refine zp (.int .i64 ((i+1:Nat):Int)) (by exact ez1 (by have ob0:=HM.out;have ob1:=HM2.out;omega)) ?_;refine zq (.int .i64 ((i+1:Nat):Int)) ?_;have DD212:=tD (tD (tD (tD (tD (tD (tD D81 D90) D101) D165) D184) D194) D200) D204;have DD213:=tD (tD (tD (tD (tD (tD (tD (tD D28 D81) D90) D101) D165) D184) D194) D200) D204;go_wp2_with fail
   go_roundg (k-(i+1))
   case measure=>exact(by have ob0:=HM.out;have ob1:=HM2.out;omega)
   case rel=>exact⟨i+1,A2,m2,c2,es2,rfl,rfl,(by go_num),hik,⟨HM2.out.1,by have h_:=HM2.out.2;omega⟩,(fun ey_ hey2_=>by obtain rfl:ey=ey_:=Option.some.inj (HEY.out.symm.trans hey2_);rw[HES2.out _ hey2_,crTake_succ HEX.out,show crP ex ey=[]from(if_neg HNO.out).trans (if_neg HSG.out),List.append_nil]),(fun g_ hg_=>(HOE2.out g_ hg_).dig DD212.out),H204.out.take 2,DD213.out⟩
  have hik:=HIK.out;have hki:=HKI.out;obtain rfl:i=k:=by omega
  go_upto_region 7 with fail
  refine wl ?_;refine zp (.bool false) (by exact ezl (e:=(dec_f (Int.lt_irrefl _)))) ?_;go_upto_region 14 with fail
  refine wl ?_;refine zp (.int .i64 ((i+1:Nat):Int)) (by exact ez1 (by have ob0:=HM.out;omega)) ?_;refine zq (.int .i64 ((i+1:Nat):Int)) ?_;have DD217:=tD D17 D28;go_wp2_with fail
  go_roundg ((edsV rs).length-(i+1))
  case measure=>exact(by have ob0:=HM.out;omega)
  case rel=>exact⟨i+1,A2,m2,c2,es2,rfl,rfl,(by go_num),hlt,⟨HM2.out.1,by have h_:=HM2.out.2;omega⟩,(by rw[HES2.out _ (List.getElem?_eq_getElem hlt),crRange_succ (List.getElem?_eq_getElem hlt)]),(fun g_ hg_=>(HOE2.out g_ hg_)),H28.out,DD217.out⟩
 have hlt:=HLT.out;have hkn:=HKN.out;obtain rfl:k=(edsV rs).length:=by omega
 go_upto_region 4 with fail
 refine wl ?_;refine zp (.bool false) (by exact ezl (e:=(dec_f (Int.lt_irrefl _)))) ?_;have hmm:m<=16777216:=by have h_:=HM.out.2;omega
 go_upto_region 15 with fail
 refine wl ?_;refine zI1 (Hp.start _) _ ?_;refine zc (sortR2_any 24 dC (fun w_ e_ f_ h1_ h2_=>compare2_any 24 dC w_ e_ f_ h1_ h2_) (.slice A1 m c1) es _ _ (by have h_:=H17.out.row (i:=1) rR;rw[HM.out.1]at h_⊢;exact h_) (fun g_ hg_=>(HOE.out g_ hg_)) (by have h_:=HM.out.1;omega)) ?_;rintro e w220 ⟨rfl,es1,hp_,hs_,hr_,hg_,hd_⟩;have HPS:=zH (And.intro hp_ hs_);rw[hp_.length_eq,<-HM.out.1]at hr_;have H221:=zH (show Hp w w220 [ro 62 7 Ae ((edsV rs).length) ce EdE.cells (edsV rs),ro 37 8 A1 m c1 R2E.cells es1]from H17.out.turn (i:=1) (e:= .row 37 8 (.slice A1 m c1) (m) (List.flatMap R2E.cells es)) (e':= .row 37 8 (.slice A1 m c1) (m) (List.flatMap R2E.cells es1)) (by rfl) (fun k h=>h) hg_ hr_ (fun k hk=> .inl hk));have HOS1:=zH (show∀e,e∈es1->e.Ok 24 w220 from fun e he=>((HOE.out e (hp_.mem_iff.1 he))).dig hd_);have HL1:=zH (show es1.length=m from hp_.length_eq.trans HM.out.1.symm);clear hp_ hs_ hr_ hg_ hd_;have hx:=True.intro;clear hx;refine zn ?_;go_upto_region 16 with fail
 refine wl ?_;refine zI1 (Hp.start _) _ ?_;refine zc (cptR2_any 24 dC (.slice A1 m c1) es1 _ _ (by have h_:=H221.out.row (i:=1) rR;exact(congrArg (fun n_=>RowN _ _ 37 8 (.slice A1 m c1) n_ (List.flatMap R2E.cells es1)) HL1.out).mpr h_) H221.out.ext.size HOS1.out (by have h_:=HL1.out;omega)) ?_;rintro e w224 ⟨v_,rfl,hr_,hg_,hd_,ho_⟩;obtain⟨ps,hps_⟩:∃ps,ps=compactV (fun x y:R2E=>decide (x.vl=y.vl)) es1:=⟨_,rfl⟩;rw[<-hps_]at hr_;obtain⟨A3,c3,rfl,hf_⟩:=hr_.form;have HF3:=zH hf_;have HPS2:=zH (sort_cpt HPS.out.1 HPS.out.2);rw[<-hps_]at HPS2;have HOP:=zH (show∀e,e∈ps->e.Ok 24 w224 from fun e he=>(HOS1.out e (compactV_sub _ (by rw[<-hps_];exact he))).dig hd_);have hpl:ps.length<=16777216:=by have h_:=compactV_le (fun x y:R2E=>decide (x.vl=y.vl)) es1;rw[<-hps_,HL1.out]at h_;omega
 have H225:=zH (show Hp w w224 [ro 62 7 Ae ((edsV rs).length) ce EdE.cells (edsV rs),ro 37 8 A3 ps.length c3 R2E.cells ps]from H221.out.turn (i:=1) (e:= .row 37 8 (.slice A1 m c1) (m) (List.flatMap R2E.cells es1)) (e':= .row 37 8 (.slice A3 ps.length c3) (ps.length) (List.flatMap R2E.cells ps)) (by rfl) (fun k h=>h) hg_ hr_ (fun k hk=> .inl (by have h_:Value.ownBlock (.slice A3 ps.length c3)=some k:=hk;rw[ho_]at h_;exact h_)));clear hr_ hg_ hd_ ho_ hf_ hps_;have hx:=True.intro;clear hx;refine zn ?_;refine zI1 (Hp.start _) _ ?_;go_upto_region 17 with fail
 refine wl ?_;refine zI1 (Hp.start _) _ ?_;have H229:=zH (show Hp w w224 [ro 62 7 Ae ((edsV rs).length) ce EdE.cells (edsV rs),ro 37 8 A3 ps.length c3 R2E.cells ps,ro 38 1 none 0 0 OnE.cells ([])]from H225.out.addNil 38 1);go_upto_region 18 with fail
 refine wl ?_;refine zI3 (Hp.start _) _ (.int .i64 ((ps.length:Nat):Int)) _ ?_;go_wp2_with fail
 go_loopg [11,89] (ps.length) (fun cq v233 v234 wr=>∃(k:Nat) (A4:Option Addr) (c4:Nat) (os:List OnE),cq=ps.length-k/\v233= .slice A4 k c4/\v234= .int .i64 (k:Int)/\(k<=ps.length)/\(os.map OnE.l=(ps.take k).map (fun e=>onV (edsV rs) e.vl))/\(os.length=k)/\(∀o,o∈os->o.Ok w.heap.size wr)/\Hp w wr [.row 62 7 (.slice Ae ((edsV rs).length) ce) ((edsV rs).length) (List.flatMap EdE.cells (edsV rs)),.row 37 8 (.slice A3 ps.length c3) (ps.length) (List.flatMap R2E.cells ps),.row 38 1 (.slice A4 k c4) (k) (List.flatMap OnE.cells os)]/\Dig w224 wr)
 case atStart=>exact⟨0,none,0,[],rfl,rfl,rfl,Nat.zero_le _,rfl,rfl,(fun o_ ho_=>by cases ho_),H229.out,Dig.refl _⟩
 obtain⟨k,A4,c4,os,rfl,rfl,rfl,q_HKP,q_HOS,q_HOL,q_HOK4,hh_,hd_⟩:=hrel;generalize wr=w235 at*
 have HKP:=zH q_HKP;clear q_HKP;have HOS:=zH q_HOS;clear q_HOS;have HOL:=zH q_HOL;clear q_HOL;have HOK4:=zH q_HOK4;clear q_HOK4;have H237:=zH hh_;have D237:=zH hd_;clear hh_ hd_ H229;rcases emH (k<ps.length)with HLT|HLT
 ·have hlt:=HLT.out
  obtain⟨pe,hpe_⟩:∃x,ps[k]?=some x:=⟨_,List.getElem?_eq_getElem hlt⟩;have HPE:=zH hpe_;have HOE_:=zH (HOP.out pe (List.mem_of_getElem? hpe_));clear hpe_;obtain⟨gp,rfl⟩:=HF3.out (by omega);go_upto_region 19 with fail
  refine wl ?_;refine zp (.bool true) (by exact ezl (e:=(dec_t (by omega)))) ?_;have HB:=H237;have HEP:=zH (H237.out.elem (f:=R2E.cells) (i:=1) (by rfl) R2E.len HPE.out);have HK0:=zH (Hp.start w235);have OKP:=zH (HOE_.out.dig D237.out);have RPa:=zH OKP.out.1;have RPb:=zH OKP.out.2.1;have BRPa:=zH OKP.out.2.2.1;have BRPb:=zH OKP.out.2.2.2;go_upto_region 20 with fail
  refine wl ?_;refine zp (.pointer (some ⟨gp,k*8,none⟩)) (by exact ezi (k:=k) Tryz.underlying27 (l:=hlt) (f:=(Nat.zero_add _).symm)) ?_;refine zd gp (k*8) [.bool pe.a.n,.slice pe.a.p pe.a.l pe.a.c,.bool pe.a.m,.slice pe.a.p2 pe.a.l2 pe.a.c2,.bool pe.b.n,.slice pe.b.p pe.b.l pe.b.c,.bool pe.b.m,.slice pe.b.p2 pe.b.l2 pe.b.c2] (range_ext HEP.out HK0.out.ext) Tryz.underlying37 ?_;refine aA' 37 [.bool false,.slice none 0 0,.bool false,.slice none 0 0,.bool false,.slice none 0 0,.bool false,.slice none 0 0] HK0.out ?_;intro X242 w243 H244 D244;refine aS' 0 [.bool pe.a.n,.slice pe.a.p pe.a.l pe.a.c,.bool pe.a.m,.slice pe.a.p2 pe.a.l2 pe.a.c2,.bool pe.b.n,.slice pe.b.p pe.b.l pe.b.c,.bool pe.b.m,.slice pe.b.p2 pe.b.l2 pe.b.c2] H244.out ?_;intro w247 H248 D248;go_upto_region 21 with fail
  refine wl ?_;refine zI1 (Hp.start _) _ ?_;have H251:=zH (show Hp w235 w247 [.blk X242 37 [.bool pe.a.n,.slice pe.a.p pe.a.l pe.a.c,.bool pe.a.m,.slice pe.a.p2 pe.a.l2 pe.a.c2,.bool pe.b.n,.slice pe.b.p pe.b.l pe.b.c,.bool pe.b.m,.slice pe.b.p2 pe.b.l2 pe.b.c2],ro 3 1 none 0 0 iC ([])]from H248.out.addNil 3 1);go_upto_region 22 with fail
  refine wl ?_;refine zI3 (Hp.start _) _ (.int .i64 (((edsV rs).length:Nat):Int)) _ ?_;go_wp2_with fail
  go_loopg [14,95] ((edsV rs).length) (fun cq v255 v256 wr=>∃(i:Nat) (A5:Option Addr) (n5:Nat) (c5:Nat) (is:List Nat),cq=((edsV rs).length)-i/\v255= .slice A5 n5 c5/\v256= .int .i64 (i:Int)/\(i<=(edsV rs).length)/\(n5=is.length/\n5<=i)/\(is=(List.range i).filter (onAt (edsV rs) pe.vl))/\Hp w235 wr [.blk X242 37 [.bool pe.a.n,.slice pe.a.p pe.a.l pe.a.c,.bool pe.a.m,.slice pe.a.p2 pe.a.l2 pe.a.c2,.bool pe.b.n,.slice pe.b.p pe.b.l pe.b.c,.bool pe.b.m,.slice pe.b.p2 pe.b.l2 pe.b.c2],.row 3 1 (.slice A5 n5 c5) (n5) (List.flatMap iC is)]/\Dig w247 wr)
  case atStart=>exact⟨0,none,0,0,[],rfl,rfl,rfl,Nat.zero_le _,⟨rfl,Nat.zero_le _⟩,rfl,H251.out,Dig.refl _⟩
  obtain⟨i,A5,n5,c5,is,rfl,rfl,rfl,q_HIN,q_HI5,q_HIS,hh_,hd_⟩:=hrel;generalize wr=w257 at*
  have HIN:=zH q_HIN;clear q_HIN;have HI5:=zH q_HI5;clear q_HI5;have HIS:=zH q_HIS;clear q_HIS;have H259:=zH hh_;have D259:=zH hd_;clear hh_ hd_ H251;rcases emH (i<(edsV rs).length)with HIU|HIU
  ·have hiu:=HIU.out
   obtain⟨ge,rfl⟩:=HFE.out (by omega);obtain⟨ex,hex_⟩:∃x,(edsV rs)[i]?=some x:=⟨_,List.getElem?_eq_getElem hiu⟩;have HEX:=zH hex_;have HBX:=zH (edsV_bd HN.out ex (List.mem_of_getElem? hex_));have HEL:=zH (HB.out.elem (f:=EdE.cells) (i:=0) (by rfl) EdE.len hex_);clear hex_;go_upto_region 23 with fail
   refine wl ?_;refine zp (.bool true) (by exact ezl (e:=(dec_t (by have ob0:=HI5.out;omega)))) ?_;go_upto_region 24 with fail
   refine wl ?_;refine zq (.int .i64 (i:Int)) ?_;refine zp (.pointer (some ⟨ge,i*7,none⟩)) (by exact ezi (k:=i) Tryz.underlying58 (l:=hiu) (f:=(Nat.zero_add _).symm)) ?_;refine zd ge (i*7) [.int .i64 ex.a.1,.int .i64 ex.a.2,.int .i64 ex.b.1,.int .i64 ex.b.2,.int .i64 ((ex.r:Nat):Int),.int .i64 ((ex.i:Nat):Int),.int .i64 ((ex.n:Nat):Int)] (range_ext HEL.out H259.out.ext) Tryz.underlying62 ?_;refine aA' 62 [.int .i64 0,.int .i64 0,.int .i64 0,.int .i64 0,.int .i64 0,.int .i64 0,.int .i64 0] H259.out ?_;intro X264 w265 H266 D266;refine zq (.int .i64 (i:Int)) ?_;refine aS' 2 [.int .i64 ex.a.1,.int .i64 ex.a.2,.int .i64 ex.b.1,.int .i64 ex.b.2,.int .i64 ((ex.r:Nat):Int),.int .i64 ((ex.i:Nat):Int),.int .i64 ((ex.n:Nat):Int)] H266.out ?_;intro w270 H271 D271;rcases emH (conC ex pe.vl)with HCN|HCN
   ·go_upto_region 25 with fail
    refine wl ?_;refine zI2 H271.out _ _ ?_;have DD275:=tD (tD (tD (tD D244 D248) D259) D266) D271;refine zc (contains17_any 24 dC ex pe _ HBX.out (OKP.out.dig DD275.out)) ?_;rintro e w274 ⟨rfl,hx⟩;have H276:=zH (H271.out.step hx);have D276:=zH (Dig.of_ext hx);clear hx;refine⟨.bool true,by rw[decide_eq_true HCN.out],?_⟩;try simp only[Act.put,zA,zB,zC]
    go_upto_region 26 with fail
    refine wl ?_;refine zI2 (Hp.start _) _ (.int .i64 (i:Int)) ?_;refine zp (w':=(w274.alloc (.cells ([.int .i64 (i:Int)]:List Value).toArray 3))) (.slice (some ⟨w274.heap.size,0,none⟩) 1 1) (by go_simp) ?_;refine mv_app rR _ _ _ rR elInt rR H276.out (ix:=1) rR 1 1 [.int .i64 (i:Int)] rR rfl (by simp[Value.oneCell']) (by simp[NoUL]) dC (by unfold maxLen;exact(by have ob0:=HI5.out;omega)) (by have ob0:=HI5.out;omega) ?_;intro g281 cp282 w280 hf hh hd hg;have Fg281:=zH hf;clear hf;rw[show List.flatMap iC is++[.int .i64 (i:Int)]=_ from flat_snoc iC _ i]at hh;have H283:=hN hh;have D283:=zH (hd);clear hh hd hg;try simp only[Act.put,zA,zB,zC]
    refine zq (.slice (some ⟨g281,0,none⟩) (n5+1) cp282) ?_;go_upto_region 27 with fail
    refine wl ?_;refine zp (.int .i64 ((i+1:Nat):Int)) (by exact ez1 (by have ob0:=HI5.out;omega)) ?_;refine zq (.int .i64 ((i+1:Nat):Int)) ?_;have DD288:=tD (tD (tD (tD D259 D266) D271) D276) D283;go_wp2_with fail
    go_roundg ((edsV rs).length-(i+1))
    case measure=>exact(by have ob0:=HI5.out;omega)
    case rel=>exact⟨i+1,some ⟨g281,0,none⟩,(n5+1),cp282,is++[i],rfl,rfl,(by go_num),hiu,⟨by rw[HI5.out.1];simp,by have h_:=HI5.out.2;omega⟩,(by rw[HIS.out,onV_succ HEX.out,if_pos HCN.out]),H283.out.take 2,DD288.out⟩
   go_upto_region 25 with fail
   refine wl ?_;refine zI2 H271.out _ _ ?_;have DD290:=tD (tD (tD (tD D244 D248) D259) D266) D271;refine zc (contains17_any 24 dC ex pe _ HBX.out (OKP.out.dig DD290.out)) ?_;rintro e w289 ⟨rfl,hx⟩;have H291:=zH (H271.out.step hx);have D291:=zH (Dig.of_ext hx);clear hx;refine⟨.bool false,by rw[decide_eq_false HCN.out],?_⟩;try simp only[Act.put,zA,zB,zC]
   go_upto_region 27 with fail
   refine wl ?_;refine zp (.int .i64 ((i+1:Nat):Int)) (by exact ez1 (by have ob0:=HI5.out;omega)) ?_;refine zq (.int .i64 ((i+1:Nat):Int)) ?_;have DD295:=tD (tD (tD D259 D266) D271) D291;go_wp2_with fail
   go_roundg ((edsV rs).length-(i+1))
   case measure=>exact(by have ob0:=HI5.out;omega)
   case rel=>exact⟨i+1,A5,n5,c5,is,rfl,rfl,(by go_num),hiu,⟨HI5.out.1,by have h_:=HI5.out.2;omega⟩,(by rw[HIS.out,onV_succ HEX.out,if_neg HCN.out,List.append_nil]),H291.out.take 2,DD295.out⟩
  have hiu:=HIU.out;have hiN:=HIN.out;obtain rfl:i=(edsV rs).length:=by omega
  go_upto_region 23 with fail
  refine wl ?_;refine zp (.bool false) (by exact ezl (e:=(dec_f (Int.lt_irrefl _)))) ?_;have hn5:=HI5.out.1;subst hn5;have HRI:=zH (show(⟨A5,c5,is⟩:OnE).Ok w.heap.size w257 from(H259.out.row (i:=1) (by rfl)).low HB.out.ext.size);have HXX:=zH (HB.out.step H259.out.ext);have HFZ:=zH (fun o_ ho_=>(HOK4.out o_ ho_).ext H259.out.ext);have HDX:=zH (Dig.of_ext H259.out.ext);go_upto_region 28 with fail
  refine wl ?_;refine zI2 (Hp.start _) _ _ ?_;refine zp (w':=(w257.alloc (.cells ([.slice A5 is.length c5]:List Value).toArray 38))) (.slice (some ⟨w257.heap.size,0,none⟩) 1 1) (by go_simp) ?_;refine mv_app rR _ _ _ rR elInts rR HXX.out (ix:=2) rR 1 1 [.slice A5 is.length c5] rR rfl (by simp[Value.oneCell']) (by simp[NoUL]) dC (by unfold maxLen;exact(by omega)) (by omega) ?_;intro g301 cp302 w300 hf hh hd hg;have Fg301:=zH hf;clear hf;rw[show List.flatMap OnE.cells os++[.slice A5 is.length c5]=_ from flat_snoc OnE.cells _ (⟨A5,c5,is⟩:OnE)]at hh;have H303:=hN hh;have D303:=zH (hd);have K305:=zH (show Fr (fun kz=>Value.ownBlock (.slice A4 k c4)=some kz) w257 w300 from((Fr.of_ext (G:=fun kz=>Value.ownBlock (.slice A4 k c4)=some kz) (Ext.refl w257)).trans (Fr.of_ext ((Ext.refl _).alloc _))).trans_new hg (fun j hj=> .inl hj));clear hh hd hg;try simp only[Act.put,zA,zB,zC]
  refine zq (.slice (some ⟨g301,0,none⟩) (k+1) cp302) ?_;go_upto_region 29 with fail
  refine wl ?_;refine zp (.int .i64 ((k+1:Nat):Int)) (by exact ez1 (by omega)) ?_;refine zq (.int .i64 ((k+1:Nat):Int)) ?_;go_wp2_with fail
  go_roundg (ps.length-(k+1))
  case measure=>exact(by omega)
  case rel=>exact⟨k+1,some ⟨g301,0,none⟩,cp302,os++[(⟨A5,c5,is⟩:OnE)],rfl,rfl,(by go_num),hlt,(by rw[List.map_append,HOS.out,take_map_succ HPE.out];rw[show is=onV (edsV rs) pe.vl from HIS.out];rfl),(by rw[List.length_append,HOL.out];rfl),(fun o_ ho_=>(List.mem_append.1 ho_).elim (fun h_=>(HFZ.out o_ h_).fr HXX.out (ix:=2) (by rfl) K305.out) (fun h_=>by rw[List.mem_singleton.1 h_];exact HRI.out.fr HXX.out (ix:=2) (by rfl) K305.out)),H303.out,((D237.out).trans (HDX.out.trans D303.out))⟩
 have hlt:=HLT.out;have hkp:=HKP.out;obtain rfl:k=ps.length:=by omega
 go_upto_region 19 with fail
 refine wl ?_;refine zp (.bool false) (by exact ezl (e:=(dec_f (Int.lt_irrefl _)))) ?_;go_upto_region 30 with fail
 refine wl ?_;refine zI4 (Hp.start _) _ _ _ _ ?_;have hol:=HOL.out;go_wp2_with fail
 go_ret2
 exact⟨_,_,ps,os,rfl,H237.out.row (i:=1) (by rfl),HPS2.out.1,fun q_=>(HPS2.out.2.1 q_).trans (by rw[HES.out];exact Iff.rfl),(fun g_ hg_=>(HOP.out g_ hg_).dig D237.out),(by have h_:=H237.out.row (i:=2) (by rfl);rw[<-hol]at h_⊢;exact h_),(by rw[HOS.out,List.take_length]),HOK4.out,H237.out.ext⟩
end Go.Proofs.YtdkfmkeaaeooeabGreat
namespace Go.Proofs.YtdkfmkeaaeooeabGreat
open Go.RowKit
theorem line_mid {a b c d:Int×Int}(h0:cr (dv a b) (dv c d)=0)(h:¬offL a b c d)(k:¬lessB (shH a b c d) (shL a b c d)=true):onI a b (shL a b c d):=by
 obtain⟨l1,l2,l3⟩:=shL_or a b c d;obtain⟨u1,u2,u3⟩:=shH_or a b c d;have k:=leL_iff.2 k;refine mid_on ?_ l1 (leL_trans k u1);by_cases q:a=b
 ·subst q;unfold cr dv;simp
 have hl:lineV a b c d=dv a b:=if_neg (fun k=>q (dv_zero.1 k));have hc:cr (dv a b) (dv a c)=0:=by
  rcases Int.lt_trichotomy (cr (dv a b) (dv a c)) 0 with k|k|k
  ·exact absurd (.inl (by rw[hl];omega)) h
  ·exact k
  exact absurd (.inl (by rw[hl];omega)) h
 have hd:cr (dv a b) (dv a d)=0:=by
  have:cr (dv a b) (dv a d)=cr (dv a b) (dv a c)+cr (dv a b) (dv c d):=by unfold cr dv;grind
  omega
 have ha:cr (dv a b) (dv a a)=0:=by unfold cr dv;simp
 have hb:cr (dv a b) (dv a b)=0:=by unfold cr;grind
 rcases l3 with k|k<;>rw[k]
 ·rcases endL_or a b with⟨_,e1,_⟩|⟨_,e1,_⟩<;>rw[e1]<;>assumption
 rcases endL_or c d with⟨_,e1,_⟩|⟨_,e1,_⟩<;>rw[e1]<;>assumption
theorem seg_meet {a b c d:Int×Int}(h:segN a b c d≠0):∃x y:Rat,onC a b x y/\onC c d x y:=by
 by_cases h1:segN a b c d=1
 ·exact⟨_,_,seg_on h1,seg_on2 h1⟩
 by_cases h0:cr (dv a b) (dv c d)=0
 ·rw[segN_l h0]at h
  by_cases k:offL a b c d
  ·rw[if_pos k]at h;exact absurd rfl h
  rw[if_neg k]at h;have hk:¬lessB (shH a b c d) (shL a b c d)=true:=by
   intro e;unfold sharedV at h;rw[if_pos e]at h;exact h rfl
  refine⟨_,_,onI_onC (line_mid h0 k hk),?_⟩;rw[<-shL_swap];exact onI_onC (line_mid (by rw[cr_neg,h0];rfl) (fun e=>k ((offL_swap h0).1 e)) (by rw[shL_swap,shH_swap];exact hk))
 rw[segN_p h0]at h h1;by_cases k:inU (segT a b c d)/\inU (segS a b c d)
 ·rw[if_pos k]at h1;exact absurd rfl h1
 rw[if_neg k]at h;exact absurd rfl h
theorem dj_seg {x y:EdE}(h:djB x y=true):segN x.a x.b y.a y.b=0:=by
 rcases Int.lt_trichotomy (segN x.a x.b y.a y.b) 0 with k|k|k
 ·have:=seg_bd x.a x.b y.a y.b;omega
 ·exact k
 exfalso;obtain⟨p,q,⟨_,⟨a1,a2⟩,a3,a4⟩,_,⟨b1,b2⟩,b3,b4⟩:=seg_meet (a:=x.a) (b:=x.b) (c:=y.a) (d:=y.b) (by omega);have key:∀{m n:Int} {z:Rat},z<=(m:Rat)->(n:Rat)<=z->¬m<n:=by
  intro m n z h1 h2 h3;have h4:(m:Rat)<(n:Rat):=by exact_mod_cast h3
  exact absurd (Rat.le_trans h2 h1) (Rat.not_le.2 h4)
 unfold djB at h;simp only[Bool.or_eq_true,decide_eq_true_eq]at h;rcases h with h|h|h|h
 ·exact key a2 b1 h
 ·exact key b2 a1 h
 ·exact key a4 b3 h
 exact key b4 a3 h
def allQ:Nat->List Ring->List EdE
  |_,[]=>[]
  |q,r::rs=>edR q (edgesV [r]) (edgesV [r]).length++allQ (q+1) rs
theorem allQ_eq:∀(rs:List Ring) (q:Nat),(rs.mapIdx fun k r=>edR (q+k) (edgesV [r]) (edgesV [r]).length).flatten=allQ q rs
  | [],q=>rfl
  | r::rs,q=>by
    rw[List.mapIdx_cons,List.flatten_cons,Nat.add_zero];unfold allQ;rw[<-allQ_eq rs (q+1)];congr 3;funext i x;rw[show q+(i+1)=q+1+i by omega]
theorem allV_eq (rs:List Ring):allV rs=allQ 0 rs:=by
  rw[<-allQ_eq rs 0];unfold allV;congr 2;funext i x;rw[Nat.zero_add]
theorem edges_allQ:∀(rs:List Ring) (q:Nat),(allQ q rs).map (fun e=>(e.a,e.b))=edgesV rs
  | [],q=>rfl
  | r::rs,q=>by
    unfold allQ;rw[List.map_append,edges_allQ rs (q+1)];have h:(edR q (edgesV [r]) (edgesV [r]).length).map (fun e=>(e.a,e.b))=edgesV [r]:=by
      unfold edR;apply List.ext_getElem?;intro i;rw[List.getElem?_map,List.getElem?_mapIdx];cases (edgesV [r])[i]?<;>rfl
    rw[h];unfold edgesV;simp
theorem edges_eds (rs:List Ring):(edsV rs).map (fun e=>(e.a,e.b))=edgesOf rs:=by
  unfold edsV edgesOf;split
  · rw[allV_eq];exact edges_allQ rs 0
  rfl
theorem crAll_mem {es:List EdE}{z:Rat×Rat}:z∈crAll es↔∃(i k:Nat) (y x:EdE),es[i]?=some y/\es[k]?=some x/\k<i/\z∈crP x y:=by
 unfold crAll;rw[List.mem_flatMap];constructor
 ·rintro⟨i,hi,h⟩
  unfold crRow at h;cases hy:es[i]?with
  |none=>rw[hy]at h;simp at h
  |some y=>
   rw[hy]at h;obtain⟨x,hx,hz⟩:=List.mem_flatMap.1 h;obtain⟨k,hk,rfl⟩:=List.mem_take_iff_getElem.1 hx;exact⟨i,k,y,_,hy,List.getElem?_eq_getElem (by omega),by omega,hz⟩
 rintro⟨i,k,y,x,hy,hx,hk,hz⟩;refine⟨i,List.mem_range.2 (List.getElem?_eq_some_iff.1 hy).1,?_⟩;unfold crRow;rw[hy];exact List.mem_flatMap.2 ⟨x,List.mem_take_iff_getElem.2 ⟨k,by have:=(List.getElem?_eq_some_iff.1 hx).1;omega,(List.getElem?_eq_some_iff.1 hx).2⟩,hz⟩
theorem crP_iff {x y:EdE}{z:Rat×Rat}:z∈crP x y↔adjB x y=false/\segN x.a x.b y.a y.b=1/\z=(segX x.a x.b y.a y.b,segY x.a x.b y.a y.b):=by
  unfold crP;by_cases h:adjB x y=true\/djB x y=true
  · rw[if_pos h]
    constructor
    · intro k;simp at k
    rintro⟨h1,h2,_⟩;rcases h with h|h
    · rw[h1]at h;cases h
    rw[dj_seg h]at h2;cases h2
  rw[if_neg h];have h1:adjB x y=false:=Bool.eq_false_iff.2 (fun e=>h (.inl e));by_cases k:segN x.a x.b y.a y.b=1
  · rw[if_pos k];simp[h1,k]
  rw[if_neg k];simp[k]
theorem edge_ne {rs:List Ring}{e:Edge}(h:e∈edgesV rs):e.1≠e.2:=by
  unfold edgesV at h;obtain⟨r,_,h⟩:=List.mem_flatMap.1 h;unfold ringEn at h;obtain⟨i,_,h⟩:=List.mem_filterMap.1 h;unfold edgeAt at h;split at h
  · split at h
    · cases h
    injection h with h;subst h;assumption
  cases h
theorem len_two {l:List Nat}{a b:Nat}(ha:a∈l)(hb:b∈l)(h:a≠b):2<=l.length:=by
  match l,ha,hb with
  | [x],ha,hb=>simp at ha hb;exact absurd (ha.trans hb.symm) h
  |x::y::l,_,_=>simp
theorem onV_mem {es:List EdE}{p:Rat×Rat}{i:Nat}:i∈onV es p↔∃e,es[i]?=some e/\conC e p:=by
  unfold onV;rw[List.mem_filter,List.mem_range];unfold onAt;constructor
  · rintro⟨h1,h2⟩
    rw[List.getElem?_eq_getElem h1]at h2;exact⟨_,List.getElem?_eq_getElem h1,by simpa using h2⟩
  rintro⟨e,h1,h2⟩;exact⟨(List.getElem?_eq_some_iff.1 h1).1,by rw[h1];simpa using h2⟩
theorem onV_srt (es:List EdE)(p:Rat×Rat):(onV es p).Pairwise (· < ·):=List.Pairwise.filter _ List.pairwise_lt_range
theorem edsV_ne {rs:List Ring}{e:EdE}(h:e∈edsV rs):e.a≠e.b:=by
  have hm:(e.a,e.b)∈edgesOf rs:=by rw[<-edges_eds];exact List.mem_map.2 ⟨e,h,rfl⟩
  unfold edgesOf at hm;split at hm
  · exact edge_ne hm
  simp[edgesV]at hm
theorem listed_two {rs:List Ring}{p:Rat×Rat}(h:p∈crAll (edsV rs)):2<=(onV (edsV rs) p).length:=by
  obtain⟨i,k,y,x,hy,hx,hk,hz⟩:=crAll_mem.1 h;obtain⟨_,h2,h3⟩:=crP_iff.1 hz;subst h3;refine len_two (a:=i) (b:=k) (onV_mem.2 ⟨y,hy,?_⟩) (onV_mem.2 ⟨x,hx,?_⟩) (by omega)
  · exact(conC_on (edsV_ne (List.mem_of_getElem? hy))).2 (seg_on2 h2)
  exact(conC_on (edsV_ne (List.mem_of_getElem? hx))).2 (seg_on h2)
theorem listed_on {rs:List Ring}{p:Rat×Rat}{i:Nat}(h:i∈onV (edsV rs) p):∃e:Edge,(edgesOf rs)[i]?=some e/\onC e.1 e.2 p.1 p.2:=by
  obtain⟨e,h1,h2⟩:=onV_mem.1 h;refine⟨(e.a,e.b),by rw[<-edges_eds,List.getElem?_map,h1];rfl,(conC_on (edsV_ne (List.mem_of_getElem? h1))).1 h2⟩
end Go.Proofs.YtdkfmkeaaeooeabGreat
namespace Go.Proofs.YtdkfmkeaaeooeabGreat
open Go.RowKit
attribute [local go_sem ↓] Go.wp_at_zero Go.wp_at_succ run_max_ii run_min_ii
theorem RowN.elemG {α:Type}{f:α->List Value}{w:World}{b g n c size:Nat}{T:TypeId}{es:List α}(hc:∀x,(f x).length=size)(h:RowN w b T size (.slice (some ⟨g,0,none⟩) n c) n (es.flatMap f)){k:Nat}{e:α}(he:es[k]?=some e):w.rangeAt g (k*size) (f e):=
  h.rangeAt _ _ (fun j v hj=>flat_get hc es k e he j v hj)
theorem RowN.capMaxI {w:World}{b n c size:Nat}{T:TypeId}{A:Option Addr}{xs:List Value}(h:RowN w b T size (.slice A n c) n xs):n<=9223372036854775807:=by
  obtain⟨_,⟨_,h2⟩|⟨g,c',r,_,_,_,h3,h4,_⟩⟩:=h
  · omega
  unfold maxLen at h4;omega
theorem pw_step {α:Type}{R:α->α->Prop}{l:List α}{i:Nat}{x y:α}(h:l.Pairwise R)(hx:l[i]?=some x)(hy:l[i+1]?=some y):R x y:=by
  obtain⟨l1,g1⟩:=List.getElem?_eq_some_iff.1 hx;obtain⟨l2,g2⟩:=List.getElem?_eq_some_iff.1 hy;have:=List.pairwise_iff_getElem.1 h i (i+1) l1 l2 (by omega);rwa[g1,g2]at this
theorem isx_at {ps:List R2E}{os:List OnE}{f:R2E->List Nat}{i:Nat}{x:R2E}(h:os.map OnE.l=ps.map f)(hx:ps[i]?=some x):∃(A:Option Addr) (c:Nat) (l:List Nat),os[i]?=some ⟨A,c,l⟩/\l=f x:=by
  have h1:=congrArg (fun l=>l[i]?) h;simp only[List.getElem?_map,hx,Option.map_some]at h1;cases h2:os[i]?with
  |none=>rw[h2]at h1;cases h1
  |some o=>rw[h2]at h1;exact⟨o.A,o.c,o.l,rfl,Option.some.inj h1⟩
theorem isx_len {ps:List R2E}{os:List OnE}{f:R2E->List Nat}(h:os.map OnE.l=ps.map f):os.length=ps.length:=by
  have h1:=congrArg List.length h;simpa using h1
theorem pt_step {ps:List R2E}{i:Nat}{x y:R2E}(h:(ps.map R2E.vl).Pairwise (fun x y=>cmp2 x y<0))(hx:ps[i]?=some x)(hy:ps[i+1]?=some y):x.q<y.q\/x.q=y.q/\x.p<y.p:=
  cmp2_lt.1 (pw_step h (i:=i) (x:=x.vl) (y:=y.vl) (by rw[List.getElem?_map,hx];rfl) (by rw[List.getElem?_map,hy];rfl))
theorem same17I_any (n m:Bool)(u v:Value)(z:Int)(w:World)(hu:IntC w n u z)(hv:IntC w m v z)(hL:Nm.nl z.natAbs<=1000000):
    Calls Tryz.prog 49 #[.agg #[.bool n,u],.agg #[.bool m,v]] w fun e w'=>e= .returned (.bool true)/\Ext w w':=by
  obtain⟨rfl,p,cp,rfl,_,_,h3⟩:=hu;obtain⟨rfl,q,cq,rfl,_,_,h4⟩:=hv;unfold Nm.nl at hL;generalize Nm.digs z.natAbs=xs at*
  generalize decide (z<0)=s at*
  have H3:=zH h3;have H4:=zH h4;clear h3 h4;have HG:=zH (show∀x,Ext ((w.alloc (.cells #[.bool s,.slice p xs.length cp] 34)).alloc (.cells #[.bool s,.slice q xs.length cq] 34)) x->
      x.cell? ⟨w.heap.size,0,none⟩=some (.bool s)/\x.cell? ⟨w.heap.size,1,none⟩=some (.slice p xs.length cp)/\x.cell? ⟨w.heap.size+1,0,none⟩=some (.bool s)/\x.cell? ⟨w.heap.size+1,1,none⟩=some (.slice q xs.length cq)from fun x h=>
    ⟨h.get (by simp),h.get (by simp),h.get (by simp),h.get (by simp)⟩)
  have HW:=zH (show Ext w ((w.alloc (.cells #[.bool s,.slice p xs.length cp] 34)).alloc (.cells #[.bool s,.slice q xs.length cq] 34))from((Ext.refl _).alloc _).alloc _);have hbb:(s != s)=false:=by cases s<;>rfl
  go_enter Tryz.func49,Tryz.ntmps49
  go_wp2_with fail
  generalize ((w.alloc (.cells #[.bool s,.slice p xs.length cp] 34)).alloc (.cells #[.bool s,.slice q xs.length cq] 34))=wa at*
  go_loopw [5] (fun i wr=>∃k:Nat,k<=xs.length/\i= .int .i64 k/\Ext wa wr) (fun i _=>xs.length-(intOf i).toNat)
  case atStart=>exact⟨0,Nat.zero_le _,rfl,Ext.refl _⟩
  obtain⟨k,hk,rfl,he⟩:=hrel;have gl:=HG.out _ he;have HE:=zH he;clear he;by_cases hlt:k<xs.length
  · obtain⟨b,o,rfl,hb⟩:=H3.out (by omega)
    obtain⟨b2,o2,rfl,hb2⟩:=H4.out (by omega);have c0:=(HW.out.trans HE.out).get (hb k hlt);have c1:=(HW.out.trans HE.out).get (hb2 k hlt);clear hb hb2;generalize (xs.getD k 0:Nat)=d at c0 c1
    go_wp2_with fail
    go_quiet (fail)
    go_wp2_with fail
    go_roundw
    case rel=>exact⟨k+1,hlt,by go_num,HE.out.drewN _⟩
    case measure=>simp[intOf];omega
  go_wp2_with fail
  go_ret
  exact⟨rfl,HW.out.trans HE.out⟩
theorem same17G_any (a b:RV)(z1 z2:Int)(w:World)(ha1:IntC w a.n (.slice a.p a.l a.c) z1)(ha2:IntC w a.m (.slice a.p2 a.l2 a.c2) z2)(hb1:IntC w b.n (.slice b.p b.l b.c) z1)(hb2:IntC w b.m (.slice b.p2 b.l2 b.c2) z2)(hl1:Nm.nl z1.natAbs<=1000000)(hl2:Nm.nl z2.natAbs<=1000000):
    Calls Tryz.prog 16 #[.agg #[.bool a.n,.slice a.p a.l a.c,.bool a.m,.slice a.p2 a.l2 a.c2],.agg #[.bool b.n,.slice b.p b.l b.c,.bool b.m,.slice b.p2 b.l2 b.c2]] w fun e w'=>e= .returned (.bool true)/\Ext w w':=by
  have H1:=zH (fun W (x:Ext w W)=>same17I_any a.n b.n _ _ z1 W (ha1.ext x) (hb1.ext x) hl1);have H2:=zH (fun W (x:Ext w W)=>same17I_any a.m b.m _ _ z2 W (ha2.ext x) (hb2.ext x) hl2);have HG:=zH (show∀x,Ext ((w.alloc (.cells #[.bool a.n,.slice a.p a.l a.c,.bool a.m,.slice a.p2 a.l2 a.c2] 36)).alloc (.cells #[.bool b.n,.slice b.p b.l b.c,.bool b.m,.slice b.p2 b.l2 b.c2] 36)) x->
      x.cell? ⟨w.heap.size,0,none⟩=some (.bool a.n)/\x.cell? ⟨w.heap.size,1,none⟩=some (.slice a.p a.l a.c)/\x.cell? ⟨w.heap.size,2,none⟩=some (.bool a.m)/\x.cell? ⟨w.heap.size,3,none⟩=some (.slice a.p2 a.l2 a.c2)/\
      x.cell? ⟨w.heap.size+1,0,none⟩=some (.bool b.n)/\x.cell? ⟨w.heap.size+1,1,none⟩=some (.slice b.p b.l b.c)/\x.cell? ⟨w.heap.size+1,2,none⟩=some (.bool b.m)/\x.cell? ⟨w.heap.size+1,3,none⟩=some (.slice b.p2 b.l2 b.c2)from fun x h=>
    ⟨h.get (by simp),h.get (by simp),h.get (by simp),h.get (by simp),h.get (by simp),h.get (by simp),h.get (by simp),h.get (by simp)⟩)
  have HW:=zH (show Ext w ((w.alloc (.cells #[.bool a.n,.slice a.p a.l a.c,.bool a.m,.slice a.p2 a.l2 a.c2] 36)).alloc (.cells #[.bool b.n,.slice b.p b.l b.c,.bool b.m,.slice b.p2 b.l2 b.c2] 36))from((Ext.refl _).alloc _).alloc _);clear ha1 ha2 hb1 hb2;go_enter Tryz.func16,Tryz.ntmps16
  go_wp2_with fail
  generalize ((w.alloc (.cells #[.bool a.n,.slice a.p a.l a.c,.bool a.m,.slice a.p2 a.l2 a.c2] 36)).alloc (.cells #[.bool b.n,.slice b.p b.l b.c,.bool b.m,.slice b.p2 b.l2 b.c2] 36))=wa at*
  have gl:=HG.out _ (Ext.refl _);go_wp2_with fail
  refine(H1.out _ HW.out).mono ?_;rintro e wx ⟨rfl,hx1⟩;clear gl;have gl:=HG.out _ hx1;go_wp2_with fail
  refine(H2.out _ (HW.out.trans hx1)).mono ?_;rintro e wy ⟨rfl,hx2⟩;go_wp2_with fail
  go_ret
  exact⟨rfl,HW.out.trans (hx1.trans hx2)⟩
theorem same17_any (a b:RV)(q:Rat)(L:Nat)(w:World)(ha:a.Is w q)(hb:b.Is w q)(hq:Nm.rl q<=L)(hL:L<=1000000):
    Calls Tryz.prog 16 #[.agg #[.bool a.n,.slice a.p a.l a.c,.bool a.m,.slice a.p2 a.l2 a.c2],.agg #[.bool b.n,.slice b.p b.l b.c,.bool b.m,.slice b.p2 b.l2 b.c2]] w fun e w'=>e= .returned (.bool true)/\Ext w w':=
  same17G_any a b q.num (q.den:Int) w ha.1 ha.2 hb.1 hb.2 (by have:=Nat.le_max_left (Nm.nl q.num.natAbs) (Nm.nl q.den);unfold Nm.rl at hq;omega) (by have:=Nat.le_max_right (Nm.nl q.num.natAbs) (Nm.nl q.den);unfold Nm.rl at hq;simp only[Int.natAbs_natCast];omega)
theorem IntC.zero (w:World):IntC w false (.slice none 0 0) 0:=by
  refine⟨by decide,none,0,?_⟩;simp[Nm.digs];exact Nm.Dg.nil
end Go.Proofs.YtdkfmkeaaeooeabGreat
namespace Go.Proofs.YtdkfmkeaaeooeabGreat
open Go.ChangeShapes Go.WideShapes Go.ChangeAt Go.RowKit
theorem own:ownKnob Tryz.prog.godebug=none:=by kernel_rfl
theorem laidOut:laidOutB Tryz.prog=true:=by kernel_rfl
theorem cells_int:Tryz.prog.cellsOf 3=1:=by kernel_rfl
theorem cells_pt:Tryz.prog.cellsOf 41=2:=by kernel_rfl
section
variable {H:Type} {enc:TypeId×Value->H} {w:World} {base:Nat} {spare:Nat->Bool} {held:Bool}
theorem pt_open {fuel:Nat}{cs:List Value}{x:DataW H×List MemPlace}(h:DataW.trod enc Tryz.prog w base spare held fuel 41 cs=some x):∃a:Int×Int,cs=[.int .i64 a.1,.int .i64 a.2]:=by
  obtain⟨y0,y1,n,_,hl,h0,h1⟩:=trod_struct2 Tryz.underlying41 h;rw[cells_pt]at hl;rw[cells_int]at h0 h1;obtain⟨a,e0,_,_⟩:=DataW.trod_int Tryz.underlying3 h0;obtain⟨b,e1,_,_⟩:=DataW.trod_int Tryz.underlying3 h1;match cs,hl with
  | [u,v],_=>
    simp at e0 e1;exact⟨(a,b),by rw[e0,e1]⟩
end
end Go.Proofs.YtdkfmkeaaeooeabGreat
namespace Go.Proofs.YtdkfmkeaaeooeabGreat
open Go.ChangeShapes Go.WideShapes Go.ChangeAt Go.RowKit
section
variable {H:Type} {enc:TypeId×Value->H} {P:Program} {w:World} {base:Nat} {spare:Nat->Bool} {held:Bool}
theorem slice_open {t e:TypeId}{fuel:Nat}{cs:List Value}{x:DataW H×List MemPlace}(ht:P.underlying t=some (.slice e))(hs:0<P.cellsOf e)(h:DataW.trod enc P w base spare held fuel t cs=some x):
    ∃ A len cap,cs=[.slice A len cap]/\len<=cap/\cap<=maxLen/\(0<len->∃g off,A=some ⟨g,off,none⟩/\∀i,i<len->∃(cs':List Value) (n:Nat) (y:DataW H×List MemPlace),cs'.length=P.cellsOf e/\
      (∀j u,cs'[j]?=some u->w.cell? ⟨g,off+i*P.cellsOf e+j,none⟩=some u)/\DataW.trod enc P w base spare held n e cs'=some y):=by
  rcases Deep.open_slice ht h with⟨rfl,_⟩|⟨a,len,cap,m,n,D,Pl,rfl,hb,hl,hm,hmm,_,hx⟩
  · exact⟨none,0,0,rfl,Nat.le_refl _,Nat.zero_le _,fun h0=>absurd h0 (by omega)⟩
  refine⟨some a,len,cap,rfl,hl,hm,fun h0=> ?_⟩;have hle:len<=m:=by rw[hmm];split<;>omega
  have hsp:a.spot=none:=by
    obtain⟨cs',h1,h2⟩:=hx 0 (by omega);obtain⟨_,hlen,hcell⟩:=World.cells?_some h1;have g0:=hcell 0 hs;cases hq:a.spot with
    |none=>rfl
    | some s=>
      exfalso;obtain⟨c0,hc0⟩:∃c0,cs'[0]?=some c0:=by
        cases cs' with
        |nil=>simp at hlen;omega
        |cons c _=>exact⟨c,rfl⟩
      rw[hc0]at g0;have e:((a.add (0*P.cellsOf e)).add 0).spot=some s:=by simp[Addr.add,hq]
      unfold World.cell? at g0;rw[e]at g0;revert g0
      split<;>simp
  obtain⟨g,off,sp⟩:=a;obtain rfl:sp=none:=hsp;refine⟨g,off,rfl,fun i hi=> ?_⟩;obtain⟨cs',h1,h2⟩:=hx i (by omega);obtain⟨_,hlen,hcell⟩:=World.cells?_some h1;refine⟨cs',n,_,hlen,fun j u hj=> ?_,h2⟩;have hjl:j<P.cellsOf e:=by
    have:=(List.getElem?_eq_some_iff.1 hj).1;omega
  have g1:=hcell j hjl;rw[hj]at g1;have e:((⟨g,off,none⟩:Addr).add (i*P.cellsOf e)).add j=⟨g,off+i*P.cellsOf e+j,none⟩:=by
    rw[Deep.add_add];unfold Addr.add;by_cases hz:i*P.cellsOf e+j=0
    · rw[if_pos hz]
      congr 1;omega
    rw[if_neg hz];congr 1;show off+(i*P.cellsOf e+j)=off+i*P.cellsOf e+j;omega
  rw[e]at g1;exact g1
end
theorem list_of {α:Type}[Inhabited α](n:Nat)(p:Nat->α->Prop)(h:∀i,i<n->∃x,p i x):∃l:List α,l.length=n/\∀i (d:α),i<n->p i (l.getD i d):=by
  obtain⟨f,hf⟩:=Deep.choose_lt (p:=p) h;refine⟨(List.range n).map f,by simp,fun i d hi=> ?_⟩;have e:((List.range n).map f).getD i d=f i:=by simp[List.getD,hi]
  rw[e];exact hf i hi
end Go.Proofs.YtdkfmkeaaeooeabGreat
namespace Go.Proofs.YtdkfmkeaaeooeabGreat
open Go.ChangeShapes Go.WideShapes Go.ChangeAt Go.RowKit
def RV.Raw (w:World)(a:RV):Prop:=∃xs ys,DigS w (.slice a.p a.l a.c) xs/\DigS w (.slice a.p2 a.l2 a.c2) ys
theorem RV.Raw.val {w:World}{a:RV}(h:a.Raw w):∃q:Rat,∀L,a.l<=L->a.l2<=L->a.In L w q:=by
  obtain⟨xs,ys,h1,h2⟩:=h;have e1:a.l=xs.length:=by obtain⟨p,c,e,_⟩:=h1;injection e
  have e2:a.l2=ys.length:=by obtain⟨p,c,e,_⟩:=h2;injection e
  refine⟨Rat.divInt (sg a.n (Nm.val xs)) (sg a.m (Nm.val ys)),fun L k1 k2=> ?_⟩;exact⟨_,_,⟨_,⟨xs,h1,rfl,by omega⟩,rfl⟩,⟨_,⟨ys,h2,rfl,by omega⟩,rfl⟩,rfl⟩
section
variable {H:Type} {enc:TypeId×Value->H} {w:World} {base:Nat} {held:Bool}
end
end Go.Proofs.YtdkfmkeaaeooeabGreat
namespace Go.Proofs.YtdkfmkeaaeooeabGreat
open Go.ChangeShapes Go.WideShapes Go.ChangeAt Go.RowKit
theorem cells_ringQ:Tryz.prog.cellsOf 44=1:=by kernel_rfl
instance:Inhabited RV:=⟨⟨false,none,0,0,false,none,0,0⟩⟩
section
variable {H:Type} {enc:TypeId×Value->H} {w:World} {base:Nat} {held:Bool}
theorem ring_openQ {fuel:Nat}{cs:List Value}{x:DataW H×List MemPlace}(h:DataW.trod enc Tryz.prog w base (fun _=>true) held fuel 44 cs=some x):
  ∃(A:Option Addr) (l:Ring) (cap:Nat),cs=[.slice A l.length cap]/\l.length<=maxLen/\PtsV w (.slice A l.length cap) l:=by
 obtain⟨A,len,cap,rfl,hl,hm,hx⟩:=slice_open Tryz.underlying44 (by rw[cells_pt];decide) h;by_cases h0:0<len
 ·obtain⟨g,off,rfl,hx'⟩:=hx h0
  rw[cells_pt]at hx';obtain⟨l,rfl,hl2⟩:=list_of (α:=Int×Int) len (fun i s=>∀j u,[Value.int .i64 s.1,.int .i64 s.2][j]?=some u->w.cell? ⟨g,off+i*2+j,none⟩=some u) (fun i hi=>by
   obtain⟨cs',n,y,_,h2,h3⟩:=hx' i hi;obtain⟨s,rfl⟩:=pt_open h3;exact⟨s,h2⟩)
  refine⟨_,l,cap,rfl,by omega,_,cap,rfl,fun _=>⟨g,off,rfl,fun i hi=> ?_⟩⟩;have h:=hl2 i (0,0) hi;exact⟨h 0 _ rfl,h 1 _ rfl⟩
 obtain rfl:len=0:=by omega
 exact⟨A,[],cap,rfl,Nat.zero_le _,A,cap,rfl,fun hn=>absurd rfl hn⟩
theorem rings_openQ {fuel:Nat}{cs:List Value}{x:DataW H×List MemPlace}(h:DataW.trod enc Tryz.prog w base (fun _=>true) held fuel 22 cs=some x):
  ∃(A:Option Addr) (l:List Ring) (cap:Nat),cs=[.slice A l.length cap]/\l.length<=maxLen/\RingsV w (.slice A l.length cap) l/\∀r,r∈l->r.length<=maxLen:=by
 obtain⟨A,len,cap,rfl,hl,hm,hx⟩:=slice_open Tryz.underlying22 (by rw[cells_ringQ];decide) h;by_cases h0:0<len
 ·obtain⟨g,off,rfl,hx'⟩:=hx h0
  rw[cells_ringQ]at hx';obtain⟨l,rfl,hl2⟩:=list_of (α:=Ring) len (fun i r=>(∃B cb,w.cell? ⟨g,off+i,none⟩=some (.slice B r.length cb)/\PtsV w (.slice B r.length cb) r)/\r.length<=maxLen) (fun i hi=>by
   obtain⟨cs',n,y,_,h2,h3⟩:=hx' i hi;obtain⟨B,r,cb,rfl,hr,hp⟩:=ring_openQ h3;have:=h2 0 _ rfl;simp only[Nat.mul_one,Nat.add_zero]at this;exact⟨r,⟨B,cb,this,hp⟩,hr⟩)
  refine⟨_,l,cap,rfl,by omega,⟨_,cap,rfl,fun _=>⟨g,off,rfl,fun i x hx=> ?_⟩⟩,fun x hx=> ?_⟩
  ·have h:=(hl2 i [] (List.getElem?_eq_some_iff.1 hx).1).1
   rw[List.getD_eq_getElem?_getD,hx]at h;exact h
  obtain⟨i,hi⟩:=List.mem_iff_getElem?.1 hx;have h:=(hl2 i [] (List.getElem?_eq_some_iff.1 hi).1).2;rw[List.getD_eq_getElem?_getD,hi]at h;exact h
 obtain rfl:len=0:=by omega
 exact⟨A,[],cap,rfl,Nat.zero_le _,⟨A,cap,rfl,fun hn=>absurd hn (by simp)⟩,fun x hx=>by simp at hx⟩
end
end Go.Proofs.YtdkfmkeaaeooeabGreat
namespace Go.Proofs.YtdkfmkeaaeooeabGreat
open Go.RowKit
theorem rings_openC {H:Type}{enc:TypeId×Value->H}{w:World}{base:Nat}{held:Bool}{fuel:Nat}{cs:List Value}{x:DataW H×List MemPlace}(h:DataW.trod enc Tryz.prog w base (fun _=>true) held fuel 22 cs=some x):
  ∃(A:Option Addr) (l:List Ring) (cap:Nat),cs=[.slice A l.length cap]/\l.length<=maxLen/\(RingsV w (.slice A l.length cap) l/\l.length<=cap)/\∀r,r∈l->r.length<=maxLen:=by
 obtain⟨A,l,cap,e,h1,h2,h3⟩:=rings_openQ h;obtain⟨A',len,cap',e',hl,_⟩:=slice_open Tryz.underlying22 (by rw[cells_ringQ];decide) h;have k:=e.symm.trans e';simp only[List.cons.injEq,Value.slice.injEq,and_true]at k;exact⟨A,l,cap,e,h1,⟨h2,by omega⟩,h3⟩
end Go.Proofs.YtdkfmkeaaeooeabGreat
namespace Go.Proofs.YtdkfmkeaaeooeabGreat
open Go.RowKit
attribute [local go_sem ↓] Go.wp_at_zero Go.wp_at_succ run_max_ii run_min_ii
theorem clamp8_any (n lo hi:Int)(w:World)(h1:lo<=n)(h2:n<=hi):Calls Tryz.prog 101 #[.int .i64 n,.int .i64 lo,.int .i64 hi] w fun e w'=>e= .returned (.int .i64 n)/\Ext w w':=by
 go_enter Tryz.func101,Tryz.ntmps101
 have H0:=zH (Hp.start w);go_upto_region 0 with fail
 refine wl ?_;refine zq (.int .i64 0) ?_;go_upto_region 1 with fail
 refine wl ?_;refine qV (.int .i64 n) ?_;refine zq (.int .i64 lo) ?_;refine zp (.bool false) (by exact ezl (e:=(dec_f (by omega)))) ?_;go_upto_region 3 with fail
 refine wl ?_;refine qV (.int .i64 n) ?_;refine zq (.int .i64 hi) ?_;refine zp (.bool false) (by exact ezg (e:=(dec_f (by omega)))) ?_;go_upto_region 5 with fail
 refine wl ?_;refine qV (.int .i64 n) ?_;refine zq (.int .i64 n) ?_;go_wp2_with fail
 go_ret
 exact⟨rfl,H0.out.ext⟩
theorem hold11_any (p:Int×Int)(w:World)(h:okP p):Calls Tryz.prog 61 #[.agg #[.int .i64 p.1,.int .i64 p.2]] w fun e w'=>e= .returned (.agg #[.int .i64 p.1,.int .i64 p.2])/\Ext w w':=by
 have op:=okP_out h;go_enter Tryz.func61,Tryz.ntmps61
 have H0:=zH (Hp.start w);go_upto_region 0 with fail
 refine wl ?_;refine aA' 41 [.int .i64 p.1,.int .i64 p.2] H0.out ?_;intro X10 w11 H12 _;refine aA' 41 [.int .i64 0,.int .i64 0] H12.out ?_;intro X15 w16 H17 _;go_upto_region 1 with fail
 refine wp_region_held_drew (S:=fun x=>Fr (fun kz=>kz=X15) w16 x) kR (Fr.of_ext zb) (fun _=> ?_);have H20:=zH (H17.out.step (Ext.refl w16).drew);refine zx 0 (bs 8 1) (.pointer (some ⟨X10,0,none⟩)) (Fr.of_ext zb) ?_;refine md_ld1 (g:=X10) (o:=0) (v:= .int .i64 p.1) (i:=1) (listed':=(bs 8 3)) rR kR kR kR (by intro _ _ _ h;exact h) rR (fun x hx=>Fr.cell hx (show World.cell? w16 ⟨X10,0,none⟩=some (.int .i64 p.1)from cell_of_range (H17.out.range (i:=0) rR 0 1)) (H17.out.offBlk (i:=0) (j:=1) rR rR dC rR)) (by intro x hq;go_simp<;>with_reducible rfl) (Fr.of_ext zb) kR ?_;try simp only[Act.put,zA,zB,zC]
 refine zx 3 (bs 8 11) (.pointer (some ⟨X10,1,none⟩)) (Fr.of_ext zb) ?_;refine md_ld1 (g:=X10) (o:=1) (v:= .int .i64 p.2) (i:=4) (listed':=(bs 8 27)) rR kR kR kR (by intro _ _ _ h;exact h) rR (fun x hx=>Fr.cell hx (show World.cell? w16 ⟨X10,1,none⟩=some (.int .i64 p.2)from cell_of_range (H17.out.range (i:=0) rR 1 1)) (H17.out.offBlk (i:=0) (j:=1) rR rR dC rR)) (by intro x hq;go_simp<;>with_reducible rfl) (Fr.of_ext zb) kR ?_;try simp only[Act.put,zA,zB,zC]
 refine mC 2 (bs 8 31) (clamp8_any p.1 (-1048576) 1048576 _ (by omega) (by omega)) ?_;rintro e w24 ⟨rfl,hx⟩;have H25:=zH (H20.out.step hx);have S28:=zH (show Fr (fun kz=>kz=X15) w16 w24 from(Fr.of_ext zb).trans (Fr.of_ext hx));clear hx;refine zm S28.out ?_;refine mC 5 (bs 8 63) (clamp8_any p.2 (-1048576) 1048576 _ (by omega) (by omega)) ?_;rintro e w29 ⟨rfl,hx⟩;have H30:=zH (H25.out.step hx);have S33:=zH (S28.out.trans (Fr.of_ext hx));clear hx;refine zm S33.out ?_;refine zx 6 (bs 8 127) (.agg #[.int .i64 p.1,.int .i64 p.2]) S33.out ?_;refine md_st (i:=7) (listed':=(bs 8 255)) rR kR rR kR _ _ _ rR H30.out (ix:=1) rR 0 [.int .i64 p.1,.int .i64 p.2] rR rR (by simp) kR (by simp[Value.oneCell']) (by simp[NoUL]) ?_;intro w35 hh hd ho;have H36:=hN hh;have S38:=zH (Fr.trans_new S33.out ho (fun j hj=> .inl (by simpa using hj.symm)));clear hh hd ho;refine⟨S38.out,?_⟩
 (try simp only[Act.put])
 refine wpAnyH_done kR ?_ _;go_wp2_with fail
 refine bodyPost_ret (v:= .agg #[.int .i64 p.1,.int .i64 p.2]) ?_ rfl ⟨rfl,H36.out.ext⟩;exact results_cell1 rfl rfl ((H36.out.blk (i:=1) rR).loadVar rfl rfl rR)
theorem sub11_any (p q:Int×Int)(w:World)(hp:okP p)(hq:okP q):
  Calls Tryz.prog 31 #[.agg #[.int .i64 p.1,.int .i64 p.2],.agg #[.int .i64 q.1,.int .i64 q.2]] w fun e w'=>e= .returned (.agg #[.int .i64 (dv q p).1,.int .i64 (dv q p).2])/\Ext w w':=by
 have op:=okP_out hp;have oq:=okP_out hq;go_enter Tryz.func31,Tryz.ntmps31
 have H0:=zH (Hp.start w);go_upto_region 0 with fail
 refine wl ?_;refine aA' 41 [.int .i64 p.1,.int .i64 p.2] H0.out ?_;intro X39 w40 H41 _;refine aA' 41 [.int .i64 q.1,.int .i64 q.2] H41.out ?_;intro X44 w45 H46 _;refine aA' 41 [.int .i64 0,.int .i64 0] H46.out ?_;intro X49 w50 H51 _;go_upto_region 1 with fail
 refine zy ?_;have H54:=zH (H51.out.step (Ext.refl w50).drew);refine zJ2 H51.out zb (bs 8 5) 0 2 _ _ ?_;refine FN.go2 (j1:=⟨4,some 5,41,[.int .i64 0,.int .i64 0]⟩) (j2:=⟨5,some 6,41,[.int .i64 0,.int .i64 0]⟩) (b:=w50) ?_ zb;refine gN 1 (bs 8 7) (fk (fk trivial)) zb.size (fun xq hxq=>hold11_any p _ hp) (by rintro x_ e x2_ ⟨rfl,hx⟩;exact hx) ?_;rintro xq e w56 hxq ⟨rfl,hx⟩;replace hx:=hxq.trans hx;clear hxq;have H57:=zH (H54.out.step hx);have S59:=zH (zb.trans hx);clear hx;refine⟨_,rfl,?_⟩;try simp only[Act.put,zA,zB,zC]
 refine gN 3 (bs 8 15) (fk (fk trivial)) S59.out.size (fun xq hxq=>hold11_any q _ hq) (by rintro x_ e x2_ ⟨rfl,hx⟩;exact hx) ?_;rintro xq e w60 hxq ⟨rfl,hx⟩;replace hx:=hxq.trans hx;clear hxq;have H61:=zH (H57.out.step hx);have S63:=zH (S59.out.trans hx);clear hx;refine⟨_,rfl,?_⟩;try simp only[Act.put,zA,zB,zC]
 refine gE2 (bs 8 63) (fk (fk trivial)) S63.out.size H51.out H61.out ?_;intro X64 X65 w66 hx hh hg0 hg1 hs;have H67:=hN hh;have S69:=zH (show Ext w50 w66 from hs);have G70:=zH (show w50.heap.size<=X64 from hg0);have G71:=zH (show w50.heap.size<=X65 from hg1);clear hh hx hs hg0 hg1;try simp only[Act.put,zA,zB,zC]
 refine bS 3 6 (bs 8 127) [.int .i64 p.1,.int .i64 p.2] H67.out S69.out G70.out ?_;intro w72 H73 _ S75;refine bS 4 7 (bs 8 255) [.int .i64 q.1,.int .i64 q.2] H73.out S75.out G71.out ?_;intro w76 H77 _ S79;refine wpAnyH_done kR ?_ _;go_upto_region 2 with fail
 refine wl ?_;refine zI4 H77.out _ _ _ _ ?_;refine zp (.int .i64 (p.1-q.1)) (by exact ez2 (by omega)) ?_;refine zI4 H77.out _ _ _ _ ?_;refine zp (.int .i64 (p.2-q.2)) (by exact ez2 (by omega)) ?_;refine zq (.agg #[.int .i64 (p.1-q.1),.int .i64 (p.2-q.2)]) ?_;refine aS' 2 [.int .i64 (p.1-q.1),.int .i64 (p.2-q.2)] H77.out ?_;intro w87 H88 _;go_wp2_with fail
 refine bodyPost_ret (v:= .agg #[.int .i64 (dv q p).1,.int .i64 (dv q p).2]) ?_ rfl ⟨rfl,H88.out.ext⟩;exact results_cell1 rfl rfl ((H88.out.blk (i:=2) rR).loadVar rfl rfl rR)
section
open Region
variable {P:Program} {md:Region.Mode} {l:List Oper} {Q:Exit->Act->World->Prop} {S:World->Prop} {b w:World} {fuel:Nat} {listed:Array Bool} {a:Act}
end
theorem on17_any (a b:Int×Int)(rx ry:RV)(x y:Rat)(w:World)(hx:rx.Is w x)(hy:ry.Is w y)(hxl:Nm.rl x<=300)(hyl:Nm.rl y<=300)(ha:okP a)(hb:okP b)(hon:onC a b x y):
  Calls Tryz.prog 9 #[.agg #[.int .i64 a.1,.int .i64 a.2],.agg #[.int .i64 b.1,.int .i64 b.2],.agg #[.bool rx.n,.slice rx.p rx.l rx.c,.bool rx.m,.slice rx.p2 rx.l2 rx.c2],.agg #[.bool ry.n,.slice ry.p ry.l ry.c,.bool ry.m,.slice ry.p2 ry.l2 ry.c2]] w fun e w'=>e= .returned (.bool true)/\Ext w w':=by
 have HX:=zH hx;have HY:=zH hy;have BX:=zH hxl;have BY:=zH hyl;have HON:=zH hon;have oa:=okP_out ha;have ob:=okP_out hb;have od:=dv_bd ha hb;clear hx hy hxl hyl hon;go_enter Tryz.func9,Tryz.ntmps9
 have H0:=zH (Hp.start w);go_upto_region 0 with fail
 refine wl ?_;refine aA' 41 [.int .i64 a.1,.int .i64 a.2] H0.out ?_;intro X224 w225 H226 _;refine aA' 41 [.int .i64 b.1,.int .i64 b.2] H226.out ?_;intro X229 w230 H231 _;refine aA' 36 (rc rx) H231.out ?_;intro X234 w235 H236 _;refine aA' 36 (rc ry) H236.out ?_;intro X239 w240 H241 _;refine zq (.bool false) ?_;go_upto_region 1 with fail
 refine wl ?_;refine zI2 H241.out _ _ ?_;refine aC H241.out (sub11_any b a _ hb ha) ?_;intro w245 H246 _;refine aA' 41 [.int .i64 0,.int .i64 0] H246.out ?_;intro X248 w249 H250 _;refine aS' 4 [.int .i64 ((dv a b).1),.int .i64 ((dv a b).2)] H250.out ?_;intro w253 H254 _;go_upto_region 2 with fail
 refine zy ?_;have H256:=zH (H254.out.step (Ext.refl w253).drew);refine zJ2 H254.out zb (bs 14 3) 0 1 _ _ ?_;refine md_ld1 (g:=X224) (o:=0) (v:= .int .i64 a.1) (i:=2) (listed':=(bs 14 7)) rR kR kR kR (by intro _ _ _ h;exact h) rR (fun x hx=>Ext.get hx (show World.cell? w253 ⟨X224,0,none⟩=some (.int .i64 a.1)from cell_of_range (H254.out.range (i:=0) rR 0 1))) (by intro x hq;go_simp<;>with_reducible rfl) zb kR ?_;refine zJ3 H254.out zb (bs 14 231) 5 6 7 _ _ _ ?_;refine FN.go2 (j1:=⟨10,some 10,36,[.bool false,.slice none 0 0,.bool false,.slice none 0 0]⟩) (j2:=⟨11,some 11,36,[.bool false,.slice none 0 0,.bool false,.slice none 0 0]⟩) (b:=w253) ?_ zb;refine gN 3 (bs 14 239) (fk (fk trivial)) zb.size (fun xq hxq=>q03From a.1 _ (by omega) (by omega)) (by rintro x_ e x2_ ⟨c_,rfl,hc_,hx⟩;exact hx) ?_;rintro xq e w260 hxq ⟨c_,rfl,hc_,hx⟩;replace hx:=hxq.trans hx;clear hxq;have H262:=zH (H256.out.step hx);have S264:=zH (zb.trans hx);obtain⟨r261,rfl,hr_⟩:=hc_;have R261:=zH hr_;have B261:=zH (rl_i64 a.1 (by omega) (by omega));clear hr_ hx;refine⟨_,rfl,?_⟩;try simp only[Act.put,zA,zB,zC]
 refine gN 4 (bs 14 255) (fk (fk trivial)) S264.out.size (fun xq hxq=>q03Sub (L:=60000) (RV.Is.nin (HX.out.dig (H262.out.dig0.trans (Dig.of_ext hxq))) (Nat.le_trans BX.out (by omega))) (RV.Is.nin (R261.out.dig (Dig.of_ext hxq)) (Nat.le_trans B261.out (by omega))) (by omega)) (by rintro x_ e x2_ ⟨c_,rfl,hc_,hx⟩;exact hx) ?_;rintro xq e w265 hxq ⟨c_,rfl,hc_,hx⟩;replace hx:=hxq.trans hx;clear hxq;have H267:=zH (H262.out.step hx);have S269:=zH (S264.out.trans hx);obtain⟨r266,rfl,hr_⟩:=hc_;have R266:=zH hr_;clear hr_;have B266:=zH (show Nm.rl (x-(((a.1):Int):Rat))<=300+2+1 from by have h1:=BX.out;have h2:=B261.out;have h3:=Nm.rl_sub x (((a.1):Int):Rat);omega);clear hx;refine⟨_,rfl,?_⟩;try simp only[Act.put,zA,zB,zC]
 refine gN 8 (bs 14 511) (fk (fk trivial)) S269.out.size (fun xq hxq=>q03From a.2 _ (by omega) (by omega)) (by rintro x_ e x2_ ⟨c_,rfl,hc_,hx⟩;exact hx) ?_;rintro xq e w270 hxq ⟨c_,rfl,hc_,hx⟩;replace hx:=hxq.trans hx;clear hxq;have H272:=zH (H267.out.step hx);have D272:=zH (Dig.of_ext hx);have S274:=zH (S269.out.trans hx);obtain⟨r271,rfl,hr_⟩:=hc_;have R271:=zH hr_;have B271:=zH (rl_i64 a.2 (by omega) (by omega));clear hr_ hx;refine⟨_,rfl,?_⟩;try simp only[Act.put,zA,zB,zC]
 refine gN 9 (bs 14 1023) (fk (fk trivial)) S274.out.size (fun xq hxq=>q03Sub (L:=60000) (RV.Is.nin (HY.out.dig (H272.out.dig0.trans (Dig.of_ext hxq))) (Nat.le_trans BY.out (by omega))) (RV.Is.nin (R271.out.dig (Dig.of_ext hxq)) (Nat.le_trans B271.out (by omega))) (by omega)) (by rintro x_ e x2_ ⟨c_,rfl,hc_,hx⟩;exact hx) ?_;rintro xq e w275 hxq ⟨c_,rfl,hc_,hx⟩;replace hx:=hxq.trans hx;clear hxq;have H277:=zH (H272.out.step hx);have D277:=zH (Dig.of_ext hx);have S279:=zH (S274.out.trans hx);obtain⟨r276,rfl,hr_⟩:=hc_;have R276:=zH hr_;clear hr_;have B276:=zH (show Nm.rl (y-(((a.2):Int):Rat))<=300+2+1 from by have h1:=BY.out;have h2:=B271.out;have h3:=Nm.rl_sub y (((a.2):Int):Rat);omega);clear hx;refine⟨_,rfl,?_⟩;try simp only[Act.put,zA,zB,zC]
 refine gE2 (bs 14 4095) (fk (fk trivial)) S279.out.size H254.out H277.out ?_;intro X280 X281 w282 hx hh hg0 hg1 hs;have H283:=hN hh;have D283:=zH (Dig.of_ext hx);have S285:=zH (show Ext w253 w282 from hs);have G286:=zH (show w253.heap.size<=X280 from hg0);have G287:=zH (show w253.heap.size<=X281 from hg1);clear hh hx hs hg0 hg1;try simp only[Act.put,zA,zB,zC]
 refine bS 5 12 (bs 14 8191) (rc r266) H283.out S285.out G286.out ?_;intro w288 H289 D289 S291;refine bS 6 13 (bs 14 16383) (rc r276) H289.out S291.out G287.out ?_;intro w292 H293 D293 S295;refine wpAnyH_done kR ?_ _;go_upto_region 3 with fail
 refine zy ?_;have H296:=zH (H293.out.step (Ext.refl w292).drew);have D296:=zH (Dig.of_ext (w:=w292) zb);refine zJ2 H293.out zb (bs 12 3) 0 1 _ _ ?_;refine md_ld1 (g:=X248) (o:=1) (v:= .int .i64 ((dv a b).2)) (i:=2) (listed':=(bs 12 7)) rR kR kR kR (by intro _ _ _ h;exact h) rR (fun x hx=>Ext.get hx (show World.cell? w292 ⟨X248,1,none⟩=some (.int .i64 ((dv a b).2))from cell_of_range (H293.out.range (i:=4) rR 1 1))) (by intro x hq;go_simp<;>with_reducible rfl) zb kR ?_;refine zJ3 H293.out zb (bs 12 231) 5 6 7 _ _ _ ?_;refine mC 3 (bs 12 239) (q03From ((dv a b).2) _ (by omega) (by omega)) ?_;rintro e w300 ⟨c_,rfl,hc_,hx⟩;have H302:=zH (H296.out.step hx);have D302:=zH (show Dig w292.drew w300 from Dig.of_ext hx);have S304:=zH (zb.trans hx);obtain⟨r301,rfl,hr_⟩:=hc_;have R301:=zH hr_;have B301:=zH (rl_i64 ((dv a b).2) (by omega) (by omega));clear hr_ hx;refine zm S304.out ?_;have DD307:=tD (tD (tD (tD (tD (tD D272 D277) D283) D289) D293) D296) D302;refine mC 4 (bs 12 255) (q03Mul (L:=60000) (RV.Is.nin (R266.out.dig DD307.out) (Nat.le_trans B266.out (by omega))) (RV.Is.nin R301.out (Nat.le_trans B301.out (by omega))) (by omega)) ?_;rintro e w305 ⟨c_,rfl,hc_,hx⟩;have H308:=zH (H302.out.step hx);have D308:=zH (Dig.of_ext hx);have S310:=zH (S304.out.trans hx);obtain⟨r306,rfl,hr_⟩:=hc_;have R306:=zH hr_;clear hr_;have B306:=zH (show Nm.rl ((x-(((a.1):Int):Rat))*((((dv a b).2):Int):Rat))<=(300+2+1)+2 from by have h1:=B266.out;have h2:=B301.out;have h3:=Nm.rl_mul (x-(((a.1):Int):Rat)) ((((dv a b).2):Int):Rat);omega);clear hx;refine zm S310.out ?_;refine mC 8 (bs 12 511) (q03From ((dv a b).1) _ (by omega) (by omega)) ?_;rintro e w311 ⟨c_,rfl,hc_,hx⟩;have H313:=zH (H308.out.step hx);have D313:=zH (Dig.of_ext hx);have S315:=zH (S310.out.trans hx);obtain⟨r312,rfl,hr_⟩:=hc_;have R312:=zH hr_;have B312:=zH (rl_i64 ((dv a b).1) (by omega) (by omega));clear hr_ hx;refine zm S315.out ?_;have DD318:=tD (tD (tD (tD (tD (tD D283 D289) D293) D296) D302) D308) D313;refine mC 9 (bs 12 1023) (q03Mul (L:=60000) (RV.Is.nin (R276.out.dig DD318.out) (Nat.le_trans B276.out (by omega))) (RV.Is.nin R312.out (Nat.le_trans B312.out (by omega))) (by omega)) ?_;rintro e w316 ⟨c_,rfl,hc_,hx⟩;have H319:=zH (H313.out.step hx);have D319:=zH (Dig.of_ext hx);have S321:=zH (S315.out.trans hx);obtain⟨r317,rfl,hr_⟩:=hc_;have R317:=zH hr_;clear hr_;have B317:=zH (show Nm.rl ((y-(((a.2):Int):Rat))*((((dv a b).1):Int):Rat))<=(300+2+1)+2 from by have h1:=B276.out;have h2:=B312.out;have h3:=Nm.rl_mul (y-(((a.2):Int):Rat)) ((((dv a b).1):Int):Rat);omega);clear hx;refine zm S321.out ?_;have DD323:=tD D313 D319;refine mC 10 (bs 12 2047) (q03Cmp (L:=60000) (RV.Is.nin (R306.out.dig DD323.out) (Nat.le_trans B306.out (by omega))) (RV.Is.nin R317.out (Nat.le_trans B317.out (by omega))) (by omega)) ?_;rintro e w322 ⟨rfl,hx⟩;have H324:=zH (H319.out.step hx);have S326:=zH (S321.out.trans hx);clear hx;refine zm S326.out ?_;refine zu 11 (bs 12 4095) (v:= .bool false) S326.out ?_ (hv:=by intro w hSw;exact ezn (e:=(dec_f (fun hh=>hh (rcmp_eq_i.2 HON.out.1)))));refine wpAnyH_done kR ?_ _;go_upto_region 5 with fail
 refine zy ?_;have H328:=zH (H324.out.step (Ext.refl w322).drew);refine zJ6 H324.out zb (bs 43 63) 0 1 2 3 4 5 _ _ _ _ _ (.int .i64 (min a.1 b.1)) ?_;refine mC 6 (bs 43 127) (q03From (min a.1 b.1) _ (by omega) (by omega)) ?_;rintro e w333 ⟨c_,rfl,hc_,hx⟩;have H335:=zH (H328.out.step hx);have S337:=zH (zb.trans hx);obtain⟨r334,rfl,hr_⟩:=hc_;have R334:=zH hr_;have B334:=zH (rl_i64 (min a.1 b.1) (by omega) (by omega));clear hr_ hx;refine zm S337.out ?_;refine mC 7 (bs 43 255) (q03Cmp (L:=60000) (RV.Is.nin (HX.out.dig H335.out.dig0) (Nat.le_trans BX.out (by omega))) (RV.Is.nin R334.out (Nat.le_trans B334.out (by omega))) (by omega)) ?_;rintro e w338 ⟨rfl,hx⟩;have H339:=zH (H335.out.step hx);have S341:=zH (S337.out.trans hx);clear hx;refine zm S341.out ?_;refine zu 8 (bs 43 511) (v:= .bool true) S341.out ?_ (hv:=by intro w hSw;exact ezo (e:=(dec_t (rcmp_ge_i.2 HON.out.2.1.1))));refine zJ7 H324.out S341.out (bs 43 65535) 9 10 11 12 13 14 15 (.bool true) _ _ _ _ _ (.int .i64 (max a.1 b.1)) ?_;refine mC 16 (bs 43 131071) (q03From (max a.1 b.1) _ (by omega) (by omega)) ?_;rintro e w347 ⟨c_,rfl,hc_,hx⟩;have H349:=zH (H339.out.step hx);have S351:=zH (S341.out.trans hx);obtain⟨r348,rfl,hr_⟩:=hc_;have R348:=zH hr_;have B348:=zH (rl_i64 (max a.1 b.1) (by omega) (by omega));clear hr_ hx;refine zm S351.out ?_;refine mC 17 (bs 43 262143) (q03Cmp (L:=60000) (RV.Is.nin (HX.out.dig H349.out.dig0) (Nat.le_trans BX.out (by omega))) (RV.Is.nin R348.out (Nat.le_trans B348.out (by omega))) (by omega)) ?_;rintro e w352 ⟨rfl,hx⟩;have H353:=zH (H349.out.step hx);have S355:=zH (S351.out.trans hx);clear hx;refine zm S355.out ?_;refine zu 18 (bs 43 524287) (v:= .bool true) S355.out ?_ (hv:=by intro w hSw;exact eze (e:=(dec_t (rcmp_le_i.2 HON.out.2.1.2))));refine zJ8 H324.out S355.out (bs 43 134217727) 19 20 21 22 23 24 25 26 (.bool true) (.bool true) _ _ _ _ _ (.int .i64 (min a.2 b.2)) ?_;refine mC 27 (bs 43 268435455) (q03From (min a.2 b.2) _ (by omega) (by omega)) ?_;rintro e w362 ⟨c_,rfl,hc_,hx⟩;have H364:=zH (H353.out.step hx);have S366:=zH (S355.out.trans hx);obtain⟨r363,rfl,hr_⟩:=hc_;have R363:=zH hr_;have B363:=zH (rl_i64 (min a.2 b.2) (by omega) (by omega));clear hr_ hx;refine zm S366.out ?_;refine mC 28 (bs 43 536870911) (q03Cmp (L:=60000) (RV.Is.nin (HY.out.dig H364.out.dig0) (Nat.le_trans BY.out (by omega))) (RV.Is.nin R363.out (Nat.le_trans B363.out (by omega))) (by omega)) ?_;rintro e w367 ⟨rfl,hx⟩;have H368:=zH (H364.out.step hx);have S370:=zH (S366.out.trans hx);clear hx;refine zm S370.out ?_;refine zu 29 (bs 43 1073741823) (v:= .bool true) S370.out ?_ (hv:=by intro w hSw;exact ezo (e:=(dec_t (rcmp_ge_i.2 HON.out.2.2.1))));refine zJ8 H324.out S370.out (bs 43 274877906943) 30 31 32 33 34 35 36 37 (.bool true) (.bool true) _ _ _ _ _ (.int .i64 (max a.2 b.2)) ?_;refine mC 38 (bs 43 549755813887) (q03From (max a.2 b.2) _ (by omega) (by omega)) ?_;rintro e w377 ⟨c_,rfl,hc_,hx⟩;have H379:=zH (H368.out.step hx);have S381:=zH (S370.out.trans hx);obtain⟨r378,rfl,hr_⟩:=hc_;have R378:=zH hr_;have B378:=zH (rl_i64 (max a.2 b.2) (by omega) (by omega));clear hr_ hx;refine zm S381.out ?_;refine mC 39 (bs 43 1099511627775) (q03Cmp (L:=60000) (RV.Is.nin (HY.out.dig H379.out.dig0) (Nat.le_trans BY.out (by omega))) (RV.Is.nin R378.out (Nat.le_trans B378.out (by omega))) (by omega)) ?_;rintro e w382 ⟨rfl,hx⟩;have H383:=zH (H379.out.step hx);have S385:=zH (S381.out.trans hx);clear hx;refine zm S385.out ?_;refine zu 40 (bs 43 2199023255551) (v:= .bool true) S385.out ?_ (hv:=by intro w hSw;exact eze (e:=(dec_t (rcmp_le_i.2 HON.out.2.2.2))));refine zJ2 (Hp.start _) S385.out (bs 43 8796093022207) 41 42 (.bool true) (.bool true) ?_;refine wpAnyH_done kR ?_ _;go_wp2_with fail
 go_ret
 exact⟨rfl,H383.out.ext⟩
end Go.Proofs.YtdkfmkeaaeooeabGreat
namespace Go.Proofs.YtdkfmkeaaeooeabGreat
end Go.Proofs.YtdkfmkeaaeooeabGreat
namespace Go.Proofs.YtdkfmkeaaeooeabGreat
open Go.RowKit
section
variable {P:Program} {ρ:Operand->Value} {o:Oper} {w:World} {g n c k size:Nat} {z:Int} {t e:TypeId} {x y:Operand}
end
section
variable {w:World} {b g n c:Nat} {T:TypeId} {es:List R1E}
end
theorem edgO_len (rs:List Ring):(edgesOf rs).length<=4096:=by
  unfold edgesOf;refine Nat.le_trans (edgesV_len _) ?_;split
  · rename_i h;exact okR_tot h
  decide
theorem edgO_ok (rs:List Ring):∀e,e∈edgesOf rs->okP e.1/\okP e.2:=by
  unfold edgesOf;split
  · rename_i h;exact fun e he=>edges_ok h e he
  intro e he;simp[edgesV]at he
section
variable {w0 w w':World} {m:List Ent}
end
end Go.Proofs.YtdkfmkeaaeooeabGreat
namespace Go.Proofs.YtdkfmkeaaeooeabGreat
open Go.RowKit
attribute [local go_sem ↓] Go.wp_at_zero Go.wp_at_succ run_max_ii run_min_ii
end Go.Proofs.YtdkfmkeaaeooeabGreat
