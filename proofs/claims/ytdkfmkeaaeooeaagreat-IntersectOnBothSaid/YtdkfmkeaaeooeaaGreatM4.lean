/- Contracts that the claim stands on: XVec17 to XEvP. -/
import Derived.Deep.LoopGhost
import Derived.Deep.DeepCutAuto
import Derived.RangeFuncNested
import Derived.RangeFuncBound
import Derived.RangeFuncCalls
import Derived.RangeFuncLeaves
import Derived.Shelf.Abstract
import Derived.Shelf.RegionOpen
import Derived.OwnWalkIn
import Derived.TacticsInMore
import Derived.LoopNIn
import Derived.LoopIn
import Derived.Maps.AppendAt
import Derived.OrdersIn
import Derived.Test.YtdkfmkeaaeooeaaGreatM3
set_option maxRecDepth 100000
set_option maxHeartbeats 4000000
namespace Go.Proofs.YtdkfmkeaaeooeaaGreat
open Go.RowKit
section
attribute [local go_sem ↓] Go.wp_at_zero Go.wp_at_succ run_max_ii run_min_ii
def lessB (a b:Int×Int):Bool:=decide (a.2<b.2)||(decide (a.2=b.2)&&decide (a.1<b.1))
def dv (a b:Int×Int):Int×Int:=(b.1-a.1,b.2-a.2)
def cr (u v:Int×Int):Int:=u.1*v.2-u.2*v.1
abbrev okP (p:Int×Int):Prop:=okPt p.1 p.2=true
theorem okP_out {p:Int×Int}(h:okP p):(-1048576<=p.1/\p.1<=1048576)/\(-1048576<=p.2/\p.2<=1048576):=by simpa[okP,okPt]using h
theorem mul_bd {a b:Int}(h1: -2097152<=a/\a<=2097152)(h2: -2097152<=b/\b<=2097152): -4398046511104<=a*b/\a*b<=4398046511104:=by
  have h:(a*b).natAbs<=2097152*2097152:=by rw[Int.natAbs_mul];exact Nat.mul_le_mul (by omega) (by omega)
  omega
theorem dv_bd {a b:Int×Int}(ha:okP a)(hb:okP b):(-2097152<=(dv a b).1/\(dv a b).1<=2097152)/\(-2097152<=(dv a b).2/\(dv a b).2<=2097152):=by
  have h1:=okP_out ha;have h2:=okP_out hb;unfold dv;dsimp only
  omega
theorem cr_bd {u v:Int×Int}(hu:(-2097152<=u.1/\u.1<=2097152)/\(-2097152<=u.2/\u.2<=2097152))(hv:(-2097152<=v.1/\v.1<=2097152)/\(-2097152<=v.2/\v.2<=2097152)): -8796093022208<=cr u v/\cr u v<=8796093022208:=by
  have h1:=mul_bd hu.1 hv.2;have h2:=mul_bd hu.2 hv.1;unfold cr;omega
theorem holdv_any (p:Int×Int)(w:World)(h:okP p):Calls Tryz.prog 40 #[.agg #[.int .i64 p.1,.int .i64 p.2]] w fun e w'=>e= .returned (.agg #[.int .i64 p.1,.int .i64 p.2])/\Ext w w':=by
  have hv2:=okP_out h;have c1:clampI p.1 (-1048576) 1048576=p.1:=by have h:=eq_clamp p.1;rw[decide_eq_true hv2.1]at h;simpa using h
  have c2:clampI p.2 (-1048576) 1048576=p.2:=by have h:=eq_clamp p.2;rw[decide_eq_true hv2.2]at h;simpa using h
  have k:=hold_any p.1 p.2 w;rw[c1,c2]at k;exact k
theorem ev_eqlpt {ρ:Operand->Value}{o:Oper}{w:World}{a b c d:Int}{bb:Bool}{t':TypeId}{x y:Operand}(ho:o.op= .binOp .eql 23 x y t')(hx:ρ x= .agg #[.int .i64 a,.int .i64 b])(hy:ρ y= .agg #[.int .i64 c,.int .i64 d])(h:(a==c&&b==d)=bb):
    (execOp ρ o).run Tryz.prog w= .ok (.value (.bool bb)) w:=by
  subst h;unfold execOp;simp only[ho,hx,hy];simp[go_sem,run_eql_point]
theorem pt_eq {a b:Int×Int}:(a.1==b.1&&a.2==b.2)=true↔a=b:=by
  rw[Bool.and_eq_true,beq_iff_eq,beq_iff_eq];exact⟨fun h=>Prod.ext h.1 h.2,fun h=>by rw[h];exact⟨rfl,rfl⟩⟩
def endL (a b:Int×Int):Int×Int:=if lessB b a=true then b else a
def endH (a b:Int×Int):Int×Int:=if lessB b a=true then a else b
def shL (a b c d:Int×Int):Int×Int:=if lessB (endL a b) (endL c d)=true then endL c d else endL a b
def shH (a b c d:Int×Int):Int×Int:=if lessB (endH c d) (endH a b)=true then endH c d else endH a b
def sharedV (a b c d:Int×Int):(Int×Int)×Int:=if lessB (shH a b c d) (shL a b c d)=true then((0,0),0)else if shL a b c d=shH a b c d then(shL a b c d,1)else((0,0),2)
theorem okL {a b:Int×Int}(ha:okP a)(hb:okP b):okP (endL a b):=by unfold endL;split<;>assumption
theorem okH {a b:Int×Int}(ha:okP a)(hb:okP b):okP (endH a b):=by unfold endH;split<;>assumption
theorem okSL {a b c d:Int×Int}(ha:okP a)(hb:okP b)(hc:okP c)(hd:okP d):okP (shL a b c d):=by unfold shL;split;exact okL hc hd;exact okL ha hb
theorem okSH {a b c d:Int×Int}(ha:okP a)(hb:okP b)(hc:okP c)(hd:okP d):okP (shH a b c d):=by unfold shH;split;exact okH hc hd;exact okH ha hb
theorem results_c1c1t1 {P:Program}{fn:Func}{i j k:Tmp}{t u:TypeId}(h:fn.results=#[.cell i t,.cell j u,.tmp k]){tmps:Array Value}{w:World}{p q:Addr}{v z x:Value}
    (hi:tmps.getD i undef= .pointer (some p))(hj:tmps.getD j undef= .pointer (some q))(h1:(Go.loadVar t p).run P w= .ok v w)(h2:(Go.loadVar u q).run P w= .ok z w)(hk:tmps.getD k undef=x):
    (results fn tmps).run P w= .ok (.tuple #[v,z,x]) w:=by
  simp only[Array.getD_eq_getD_getElem?]at hi hj hk;simp[results,h,hi,hj,hk,h1,h2,asAddr]
theorem vsub_any (p q:Int×Int)(w:World)(hp:okP p)(hq:okP q):
  Calls Tryz.prog 14 #[.agg #[.int .i64 p.1,.int .i64 p.2],.agg #[.int .i64 q.1,.int .i64 q.2]] w fun e w'=>e= .returned (.agg #[.int .i64 (dv q p).1,.int .i64 (dv q p).2])/\Ext w w':=by
 have op:=okP_out hp;have oq:=okP_out hq;go_enter Tryz.func14,Tryz.ntmps14
 have H0:=zH (Hp.start w);go_upto_region 0 with fail
 refine wl ?_;refine aA' 23 [.int .i64 p.1,.int .i64 p.2] H0.out ?_;intro X1 w2 H3 _;refine aA' 23 [.int .i64 q.1,.int .i64 q.2] H3.out ?_;intro X6 w7 H8 _;refine aA' 23 [.int .i64 0,.int .i64 0] H8.out ?_;intro X11 w12 H13 _;go_upto_region 1 with fail
 refine wp_region_held_drew (S:=fun x=>(fun x_=>Hp w x_ [.blk X1 23 [.int .i64 p.1,.int .i64 p.2],.blk X6 23 [.int .i64 q.1,.int .i64 q.2],.blk X11 23 [.int .i64 0,.int .i64 0]]) x) kR (H13.out.step zb) (fun _=> ?_);have H16:=zH (H13.out.step (Ext.refl w12).drew);refine mR 0 (bs 6 1) X1 (0) [.int .i64 p.1,.int .i64 p.2] (fun x hx=>hx.range (i:=0) rR 0 2) Tryz.underlying23 (H13.out.step zb) ?_;refine zr 2 (bs 6 5) X6 (0) [.int .i64 q.1,.int .i64 q.2] (fun x hx=>hx.range (i:=1) rR 0 2) Tryz.underlying23 (H13.out.step zb) ?_;refine mC 1 (bs 6 7) (holdv_any p _ hp) ?_;rintro e w18 ⟨rfl,hx⟩;have H19:=zH (H16.out.step hx);have S21:=zH (show(fun x_=>Hp w x_ [.blk X1 23 [.int .i64 p.1,.int .i64 p.2],.blk X6 23 [.int .i64 q.1,.int .i64 q.2],.blk X11 23 [.int .i64 0,.int .i64 0]]) w18 from(H13.out.step zb).step hx);clear hx;refine⟨_,rfl,S21.out,?_⟩;try simp only[Act.put,zA,zB,zC]
 refine mC 3 (bs 6 15) (holdv_any q _ hq) ?_;rintro e w22 ⟨rfl,hx⟩;have H23:=zH (H19.out.step hx);have S25:=zH (S21.out.step hx);clear hx;refine⟨_,rfl,S25.out,?_⟩;try simp only[Act.put,zA,zB,zC]
 refine md_st (i:=4) (listed':=(bs 6 31)) rR kR rR kR _ _ _ rR H23.out (ix:=0) rR 0 [.int .i64 p.1,.int .i64 p.2] rR rR (by simp) kR (by simp[Value.oneCell']) (by simp[NoUL]) ?_;intro w26 hh hd ho;have H27:=hN hh;have S29:=zH (show(fun x_=>Hp w x_ [.blk X1 23 [.int .i64 p.1,.int .i64 p.2],.blk X6 23 [.int .i64 q.1,.int .i64 q.2],.blk X11 23 [.int .i64 0,.int .i64 0]]) w26 from H27.out);clear hh hd ho;refine⟨S29.out,?_⟩
 (try simp only[Act.put])
 refine md_st (i:=5) (listed':=(bs 6 63)) rR kR rR kR _ _ _ rR H27.out (ix:=1) rR 0 [.int .i64 q.1,.int .i64 q.2] rR rR (by simp) kR (by simp[Value.oneCell']) (by simp[NoUL]) ?_;intro w30 hh hd ho;have H31:=hN hh;have S33:=zH (show(fun x_=>Hp w x_ [.blk X1 23 [.int .i64 p.1,.int .i64 p.2],.blk X6 23 [.int .i64 q.1,.int .i64 q.2],.blk X11 23 [.int .i64 0,.int .i64 0]]) w30 from H31.out);clear hh hd ho;refine⟨S33.out,?_⟩
 (try simp only[Act.put])
 refine wpAnyH_done kR ?_ _;go_upto_region 2 with fail
 refine wl ?_;refine zI4 H31.out _ _ _ _ ?_;refine zp (.int .i64 (p.1-q.1)) (by exact ez2 (by omega)) ?_;refine zI4 H31.out _ _ _ _ ?_;refine zp (.int .i64 (p.2-q.2)) (by exact ez2 (by omega)) ?_;refine zq (.agg #[.int .i64 (p.1-q.1),.int .i64 (p.2-q.2)]) ?_;refine aS' 2 [.int .i64 (p.1-q.1),.int .i64 (p.2-q.2)] H31.out ?_;intro w41 H42 _;go_wp2_with fail
 refine bodyPost_ret (v:= .agg #[.int .i64 (dv q p).1,.int .i64 (dv q p).2]) ?_ rfl ⟨rfl,H42.out.ext⟩;exact results_cell1 rfl rfl ((H42.out.blk (i:=2) rR).loadVar rfl rfl rR)
theorem vless_any (p q:Int×Int)(w:World)(hp:okP p)(hq:okP q):
  Calls Tryz.prog 47 #[.agg #[.int .i64 p.1,.int .i64 p.2],.agg #[.int .i64 q.1,.int .i64 q.2]] w fun e w'=>e= .returned (.bool (lessB p q))/\Ext w w':=by
 have op:=okP_out hp;have oq:=okP_out hq;go_enter Tryz.func47,Tryz.ntmps47
 have H0:=zH (Hp.start w);go_upto_region 0 with fail
 refine wl ?_;refine aA' 23 [.int .i64 p.1,.int .i64 p.2] H0.out ?_;intro X44 w45 H46 _;refine aA' 23 [.int .i64 q.1,.int .i64 q.2] H46.out ?_;intro X49 w50 H51 _;refine zq (.bool false) ?_;go_upto_region 1 with fail
 refine wp_region_held_drew (S:=fun x=>(fun x_=>Hp w x_ [.blk X44 23 [.int .i64 p.1,.int .i64 p.2],.blk X49 23 [.int .i64 q.1,.int .i64 q.2]]) x) kR (H51.out.step zb) (fun _=> ?_);have H55:=zH (H51.out.step (Ext.refl w50).drew);refine mR 0 (bs 6 1) X44 (0) [.int .i64 p.1,.int .i64 p.2] (fun x hx=>hx.range (i:=0) rR 0 2) Tryz.underlying23 (H51.out.step zb) ?_;refine zr 2 (bs 6 5) X49 (0) [.int .i64 q.1,.int .i64 q.2] (fun x hx=>hx.range (i:=1) rR 0 2) Tryz.underlying23 (H51.out.step zb) ?_;refine mC 1 (bs 6 7) (holdv_any p _ hp) ?_;rintro e w57 ⟨rfl,hx⟩;have H58:=zH (H55.out.step hx);have S60:=zH (show(fun x_=>Hp w x_ [.blk X44 23 [.int .i64 p.1,.int .i64 p.2],.blk X49 23 [.int .i64 q.1,.int .i64 q.2]]) w57 from(H51.out.step zb).step hx);clear hx;refine⟨_,rfl,S60.out,?_⟩;try simp only[Act.put,zA,zB,zC]
 refine mC 3 (bs 6 15) (holdv_any q _ hq) ?_;rintro e w61 ⟨rfl,hx⟩;have H62:=zH (H58.out.step hx);have S64:=zH (S60.out.step hx);clear hx;refine⟨_,rfl,S64.out,?_⟩;try simp only[Act.put,zA,zB,zC]
 refine md_st (i:=4) (listed':=(bs 6 31)) rR kR rR kR _ _ _ rR H62.out (ix:=0) rR 0 [.int .i64 p.1,.int .i64 p.2] rR rR (by simp) kR (by simp[Value.oneCell']) (by simp[NoUL]) ?_;intro w65 hh hd ho;have H66:=hN hh;have S68:=zH (show(fun x_=>Hp w x_ [.blk X44 23 [.int .i64 p.1,.int .i64 p.2],.blk X49 23 [.int .i64 q.1,.int .i64 q.2]]) w65 from H66.out);clear hh hd ho;refine⟨S68.out,?_⟩
 (try simp only[Act.put])
 refine md_st (i:=5) (listed':=(bs 6 63)) rR kR rR kR _ _ _ rR H66.out (ix:=1) rR 0 [.int .i64 q.1,.int .i64 q.2] rR rR (by simp) kR (by simp[Value.oneCell']) (by simp[NoUL]) ?_;intro w69 hh hd ho;have H70:=hN hh;have S72:=zH (show(fun x_=>Hp w x_ [.blk X44 23 [.int .i64 p.1,.int .i64 p.2],.blk X49 23 [.int .i64 q.1,.int .i64 q.2]]) w69 from H70.out);clear hh hd ho;refine⟨S72.out,?_⟩
 (try simp only[Act.put])
 refine wpAnyH_done kR ?_ _;rcases emH (p.2<q.2)with C1|C1
 ·go_upto_region 2 with fail
  refine wl ?_;refine zI4 H70.out _ _ _ _ ?_;refine zp (.bool true) (by exact ezl (e:=(dec_t C1.out))) ?_;refine zI8 (Hp.start _) (.bool true) _ _ _ _ _ _ _ ?_;refine zI7 (Hp.start _) _ _ _ _ _ (.bool true) (.bool true) ?_;go_wp2_with fail
  go_ret
  exact⟨by rw[show lessB p q=true from by unfold lessB;simp[C1.out]];rfl,H70.out.ext⟩
 rcases emH (p.2=q.2)with C2|C2
 ·rcases emH (p.1<q.1)with C3|C3
  ·go_upto_region 2 with fail
   refine wl ?_;refine zI4 H70.out _ _ _ _ ?_;refine zp (.bool false) (by exact ezl (e:=(dec_f C1.out))) ?_;refine zI5 H70.out (.bool false) _ _ _ _ ?_;refine zp (.bool true) (by exact ezq (e:=(dec_t C2.out))) ?_;refine zI5 H70.out (.bool true) _ _ _ _ ?_;refine zp (.bool true) (by exact ezl (e:=(dec_t C3.out))) ?_;refine zI3 (Hp.start _) (.bool true) (.bool true) (.bool true) ?_;go_wp2_with fail
   go_ret
   exact⟨by rw[show lessB p q=true from by unfold lessB;simp[C2.out,C3.out]];rfl,H70.out.ext⟩
  go_upto_region 2 with fail
  refine wl ?_;refine zI4 H70.out _ _ _ _ ?_;refine zp (.bool false) (by exact ezl (e:=(dec_f C1.out))) ?_;refine zI5 H70.out (.bool false) _ _ _ _ ?_;refine zp (.bool true) (by exact ezq (e:=(dec_t C2.out))) ?_;refine zI5 H70.out (.bool true) _ _ _ _ ?_;refine zp (.bool false) (by exact ezl (e:=(dec_f C3.out))) ?_;refine zI3 (Hp.start _) (.bool false) (.bool false) (.bool false) ?_;go_wp2_with fail
  go_ret
  exact⟨by rw[show lessB p q=false from by unfold lessB;simp[C2.out,C3.out]];rfl,H70.out.ext⟩
 go_upto_region 2 with fail
 refine wl ?_;refine zI4 H70.out _ _ _ _ ?_;refine zp (.bool false) (by exact ezl (e:=(dec_f C1.out))) ?_;refine zI5 H70.out (.bool false) _ _ _ _ ?_;refine zp (.bool false) (by exact ezq (e:=(dec_f C2.out))) ?_;refine zI8 (Hp.start _) (.bool false) _ _ _ _ _ (.bool false) (.bool false) ?_;refine zq (.bool false) ?_;go_wp2_with fail
 go_ret
 exact⟨by rw[show lessB p q=false from by unfold lessB;simp[C1.out,C2.out]];rfl,H70.out.ext⟩
theorem icross_any (u v:Int×Int)(w:World)(hu:(-2097152<=u.1/\u.1<=2097152)/\(-2097152<=u.2/\u.2<=2097152))(hv:(-2097152<=v.1/\v.1<=2097152)/\(-2097152<=v.2/\v.2<=2097152)):
  Calls Tryz.prog 15 #[.agg #[.int .i64 u.1,.int .i64 u.2],.agg #[.int .i64 v.1,.int .i64 v.2]] w fun e w'=>e= .returned (.int .i64 (cr u v))/\Ext w w':=by
 have m1:=mul_bd hu.1 hv.2;have m2:=mul_bd hu.2 hv.1;go_enter Tryz.func15,Tryz.ntmps15
 have H0:=zH (Hp.start w);go_upto_region 0 with fail
 refine wl ?_;refine aA' 23 [.int .i64 u.1,.int .i64 u.2] H0.out ?_;intro X121 w122 H123 _;refine aA' 23 [.int .i64 v.1,.int .i64 v.2] H123.out ?_;intro X126 w127 H128 _;refine zq (.int .i64 0) ?_;go_upto_region 1 with fail
 refine wl ?_;refine zI4 H128.out _ _ _ _ ?_;refine zp (.int .i64 (u.1*v.2)) (by exact ez3 (by omega)) ?_;refine zI4 H128.out _ _ _ _ ?_;refine zp (.int .i64 (u.2*v.1)) (by exact ez3 (by omega)) ?_;refine zp (.int .i64 ((u.1*v.2)-(u.2*v.1))) (by exact ez2 (by omega)) ?_;refine zq (.int .i64 ((u.1*v.2)-(u.2*v.1))) ?_;go_wp2_with fail
 go_ret
 exact⟨rfl,H128.out.ext⟩
theorem ends_any (a b:Int×Int)(w:World)(ha:okP a)(hb:okP b):
  Calls Tryz.prog 46 #[.agg #[.int .i64 a.1,.int .i64 a.2],.agg #[.int .i64 b.1,.int .i64 b.2]] w fun e w'=>e= .returned (.tuple #[.agg #[.int .i64 (endL a b).1,.int .i64 (endL a b).2],.agg #[.int .i64 (endH a b).1,.int .i64 (endH a b).2]])/\Ext w w':=by
 go_enter Tryz.func46,Tryz.ntmps46
 have H0:=zH (Hp.start w);go_upto_region 0 with fail
 refine wl ?_;refine aA' 23 [.int .i64 a.1,.int .i64 a.2] H0.out ?_;intro X140 w141 H142 _;refine aA' 23 [.int .i64 b.1,.int .i64 b.2] H142.out ?_;intro X145 w146 H147 _;refine aA' 23 [.int .i64 0,.int .i64 0] H147.out ?_;intro X150 w151 H152 _;refine aA' 23 [.int .i64 0,.int .i64 0] H152.out ?_;intro X155 w156 H157 _;rcases emH (lessB b a=true)with CL|CL
 ·go_upto_region 1 with fail
  refine wl ?_;refine zI2 H157.out _ _ ?_;refine zc (vless_any b a _ hb ha) ?_;rintro e w161 ⟨rfl,hx⟩;have H162:=zH (H157.out.step hx);clear hx;refine⟨.bool true,by rw[CL.out],?_⟩;try simp only[Act.put,zA,zB,zC]
  go_upto_region 2 with fail
  refine wp_region_held_drew (S:=fun x=>Fr (fun kz=>kz=X150\/kz=X155) w161 x) kR (Fr.of_ext zb) (fun _=> ?_);have H164:=zH (H162.out.step (Ext.refl w161).drew);refine mR 0 (bs 4 1) X145 (0) [.int .i64 b.1,.int .i64 b.2] (fun x hx=>Fr.range hx (show World.rangeAt w161 X145 (0) [.int .i64 b.1,.int .i64 b.2]from(H162.out.range (i:=1) rR 0 2)) (fun hk=>hk.elim (H162.out.offBlk (i:=1) (j:=2) rR rR dC rR) (H162.out.offBlk (i:=1) (j:=3) rR rR dC rR))) Tryz.underlying23 (Fr.of_ext zb) ?_;refine zr 1 (bs 4 3) X140 (0) [.int .i64 a.1,.int .i64 a.2] (fun x hx=>Fr.range hx (show World.rangeAt w161 X140 (0) [.int .i64 a.1,.int .i64 a.2]from(H162.out.range (i:=0) rR 0 2)) (fun hk=>hk.elim (H162.out.offBlk (i:=0) (j:=2) rR rR dC rR) (H162.out.offBlk (i:=0) (j:=3) rR rR dC rR))) Tryz.underlying23 (Fr.of_ext zb) ?_;refine md_st (i:=2) (listed':=(bs 4 7)) rR kR rR kR _ _ _ rR H164.out (ix:=2) rR 0 [.int .i64 b.1,.int .i64 b.2] rR rR (by simp) kR (by simp[Value.oneCell']) (by simp[NoUL]) ?_;intro w166 hh hd ho;have H167:=hN hh;have S169:=zH (show Fr (fun kz=>kz=X150\/kz=X155) w161 w166 from Fr.trans_new (Fr.of_ext zb) ho (fun j hj=> .inl (.inl (by injection hj with hj;exact hj.symm))));clear hh hd ho;refine⟨S169.out,?_⟩
  (try simp only[Act.put])
  refine md_st (i:=3) (listed':=(bs 4 15)) rR kR rR kR _ _ _ rR H167.out (ix:=3) rR 0 [.int .i64 a.1,.int .i64 a.2] rR rR (by simp) kR (by simp[Value.oneCell']) (by simp[NoUL]) ?_;intro w170 hh hd ho;have H171:=hN hh;have S173:=zH (Fr.trans_new S169.out ho (fun j hj=> .inl (.inr (by injection hj with hj;exact hj.symm))));clear hh hd ho;refine⟨S173.out,?_⟩
  (try simp only[Act.put])
  refine wpAnyH_done kR ?_ _;go_wp2_with fail
  refine bodyPost_ret (v:= .tuple #[.agg #[.int .i64 b.1,.int .i64 b.2],.agg #[.int .i64 a.1,.int .i64 a.2]]) ?_ rfl ⟨by unfold endL endH;rw[if_pos CL.out,if_pos CL.out],H171.out.ext⟩;exact results_cell2 rfl rfl rfl ((H171.out.blk (i:=2) rR).loadVar rfl rfl rR) ((H171.out.blk (i:=3) rR).loadVar rfl rfl rR)
 go_upto_region 1 with fail
 refine wl ?_;refine zI2 H157.out _ _ ?_;refine zc (vless_any b a _ hb ha) ?_;rintro e w174 ⟨rfl,hx⟩;have H175:=zH (H157.out.step hx);clear hx;refine⟨.bool false,by rw[Bool.eq_false_iff.2 CL.out],?_⟩;try simp only[Act.put,zA,zB,zC]
 go_upto_region 3 with fail
 refine wp_region_held_drew (S:=fun x=>Fr (fun kz=>kz=X150\/kz=X155) w174 x) kR (Fr.of_ext zb) (fun _=> ?_);have H177:=zH (H175.out.step (Ext.refl w174).drew);refine mR 0 (bs 4 1) X140 (0) [.int .i64 a.1,.int .i64 a.2] (fun x hx=>Fr.range hx (show World.rangeAt w174 X140 (0) [.int .i64 a.1,.int .i64 a.2]from(H175.out.range (i:=0) rR 0 2)) (fun hk=>hk.elim (H175.out.offBlk (i:=0) (j:=2) rR rR dC rR) (H175.out.offBlk (i:=0) (j:=3) rR rR dC rR))) Tryz.underlying23 (Fr.of_ext zb) ?_;refine zr 1 (bs 4 3) X145 (0) [.int .i64 b.1,.int .i64 b.2] (fun x hx=>Fr.range hx (show World.rangeAt w174 X145 (0) [.int .i64 b.1,.int .i64 b.2]from(H175.out.range (i:=1) rR 0 2)) (fun hk=>hk.elim (H175.out.offBlk (i:=1) (j:=2) rR rR dC rR) (H175.out.offBlk (i:=1) (j:=3) rR rR dC rR))) Tryz.underlying23 (Fr.of_ext zb) ?_;refine md_st (i:=2) (listed':=(bs 4 7)) rR kR rR kR _ _ _ rR H177.out (ix:=2) rR 0 [.int .i64 a.1,.int .i64 a.2] rR rR (by simp) kR (by simp[Value.oneCell']) (by simp[NoUL]) ?_;intro w179 hh hd ho;have H180:=hN hh;have S182:=zH (show Fr (fun kz=>kz=X150\/kz=X155) w174 w179 from Fr.trans_new (Fr.of_ext zb) ho (fun j hj=> .inl (.inl (by injection hj with hj;exact hj.symm))));clear hh hd ho;refine⟨S182.out,?_⟩
 (try simp only[Act.put])
 refine md_st (i:=3) (listed':=(bs 4 15)) rR kR rR kR _ _ _ rR H180.out (ix:=3) rR 0 [.int .i64 b.1,.int .i64 b.2] rR rR (by simp) kR (by simp[Value.oneCell']) (by simp[NoUL]) ?_;intro w183 hh hd ho;have H184:=hN hh;have S186:=zH (Fr.trans_new S182.out ho (fun j hj=> .inl (.inr (by injection hj with hj;exact hj.symm))));clear hh hd ho;refine⟨S186.out,?_⟩
 (try simp only[Act.put])
 refine wpAnyH_done kR ?_ _;go_wp2_with fail
 refine bodyPost_ret (v:= .tuple #[.agg #[.int .i64 a.1,.int .i64 a.2],.agg #[.int .i64 b.1,.int .i64 b.2]]) ?_ rfl ⟨by unfold endL endH;rw[if_neg CL.out,if_neg CL.out],H184.out.ext⟩;exact results_cell2 rfl rfl rfl ((H184.out.blk (i:=2) rR).loadVar rfl rfl rR) ((H184.out.blk (i:=3) rR).loadVar rfl rfl rR)
theorem shared_any (a b c d:Int×Int)(w:World)(ha:okP a)(hb:okP b)(hc:okP c)(hd:okP d):
  Calls Tryz.prog 20 #[.agg #[.int .i64 a.1,.int .i64 a.2],.agg #[.int .i64 b.1,.int .i64 b.2],.agg #[.int .i64 c.1,.int .i64 c.2],.agg #[.int .i64 d.1,.int .i64 d.2]] w fun e w'=>e= .returned (.tuple #[.agg #[.int .i64 (sharedV a b c d).1.1,.int .i64 (sharedV a b c d).1.2],.int .i64 (sharedV a b c d).2])/\Ext w w':=by
 go_enter Tryz.func20,Tryz.ntmps20
 have H0:=zH (Hp.start w);go_upto_region 0 with fail
 refine wl ?_;refine aA' 23 [.int .i64 a.1,.int .i64 a.2] H0.out ?_;intro X1 w2 H3 _;refine aA' 23 [.int .i64 b.1,.int .i64 b.2] H3.out ?_;intro X6 w7 H8 _;refine aA' 23 [.int .i64 c.1,.int .i64 c.2] H8.out ?_;intro X11 w12 H13 _;refine aA' 23 [.int .i64 d.1,.int .i64 d.2] H13.out ?_;intro X16 w17 H18 _;refine aA' 23 [.int .i64 0,.int .i64 0] H18.out ?_;intro X21 w22 H23 _;refine zq (.int .i64 0) ?_;go_upto_region 1 with fail
 refine wl ?_;refine zI2 H23.out _ _ ?_;refine aC H23.out (ends_any a b _ ha hb) ?_;intro w27 H28 _;refine zI3 (Hp.start _) _ _ _ ?_;refine aS' 0 [.int .i64 ((endL a b).1),.int .i64 ((endL a b).2)] H28.out ?_;intro w33 H34 _;refine aS' 1 [.int .i64 ((endH a b).1),.int .i64 ((endH a b).2)] H34.out ?_;intro w36 H37 _;go_upto_region 2 with fail
 refine wl ?_;refine zI2 H37.out _ _ ?_;refine aC H37.out (ends_any c d _ hc hd) ?_;intro w39 H40 _;refine zI3 (Hp.start _) _ _ _ ?_;refine aS' 2 [.int .i64 ((endL c d).1),.int .i64 ((endL c d).2)] H40.out ?_;intro w45 H46 _;refine aS' 3 [.int .i64 ((endH c d).1),.int .i64 ((endH c d).2)] H46.out ?_;intro w48 H49 _;go_upto_region 3 with fail
 refine wl ?_;refine zI2 H49.out _ _ ?_;refine aC H49.out (vless_any (endL a b) (endL c d) _ (okL ha hb) (okL hc hd)) ?_;intro w51 H52 _;go_upto_if 24 with fail
 go_cut [] (fun wx=>Hp w wx [.blk X1 23 [.int .i64 ((shL a b c d).1),.int .i64 ((shL a b c d).2)],.blk X6 23 [.int .i64 ((endH a b).1),.int .i64 ((endH a b).2)],.blk X11 23 [.int .i64 ((endL c d).1),.int .i64 ((endL c d).2)],.blk X16 23 [.int .i64 ((endH c d).1),.int .i64 ((endH c d).2)],.blk X21 23 [.int .i64 0,.int .i64 0]]/\Dig w51 wx)
 case first=>
  by_cases cj:lessB (endL a b) (endL c d)=true
  ·rw[cj]
   go_upto_region 4 with fail
   refine wl ?_;refine zI1 H52.out _ ?_;refine aS' 0 [.int .i64 ((endL c d).1),.int .i64 ((endL c d).2)] H52.out ?_;intro w54 H55 D55;go_wp2_with fail
   go_meet
   exact⟨(by rw[show shL a b c d=endL c d from if_pos cj];exact H55.out),D55.out⟩
  rw[Bool.eq_false_iff.2 cj];go_wp2_with fail
  go_meet
  exact⟨(by rw[show shL a b c d=endL a b from if_neg cj];exact H52.out),(Dig.refl _)⟩
 obtain⟨hh_,hd_⟩:=hcut;generalize wc=w57 at*
 have H59:=zH hh_;have D59:=zH hd_;clear hh_ hd_;go_upto_region 5 with fail
 refine wl ?_;refine zd X16 (0) [.int .i64 ((endH c d).1),.int .i64 ((endH c d).2)] (H59.out.range (i:=3) rR 0 2) Tryz.underlying23 ?_;refine zd X6 (0) [.int .i64 ((endH a b).1),.int .i64 ((endH a b).2)] (H59.out.range (i:=1) rR 0 2) Tryz.underlying23 ?_;refine aC H59.out (vless_any (endH c d) (endH a b) _ (okH hc hd) (okH ha hb)) ?_;intro w60 H61 _;go_upto_if 28 with fail
 go_cut [] (fun wx=>Hp w wx [.blk X1 23 [.int .i64 ((shL a b c d).1),.int .i64 ((shL a b c d).2)],.blk X6 23 [.int .i64 ((shH a b c d).1),.int .i64 ((shH a b c d).2)],.blk X11 23 [.int .i64 ((endL c d).1),.int .i64 ((endL c d).2)],.blk X16 23 [.int .i64 ((endH c d).1),.int .i64 ((endH c d).2)],.blk X21 23 [.int .i64 0,.int .i64 0]]/\Dig w60 wx)
 case first=>
  by_cases cj:lessB (endH c d) (endH a b)=true
  ·rw[cj]
   go_upto_region 6 with fail
   refine wl ?_;refine zd X16 (0) [.int .i64 ((endH c d).1),.int .i64 ((endH c d).2)] (H61.out.range (i:=3) rR 0 2) Tryz.underlying23 ?_;refine aS' 1 [.int .i64 ((endH c d).1),.int .i64 ((endH c d).2)] H61.out ?_;intro w63 H64 D64;go_wp2_with fail
   go_meet
   exact⟨(by rw[show shH a b c d=endH c d from if_pos cj];exact H64.out),D64.out⟩
  rw[Bool.eq_false_iff.2 cj];go_wp2_with fail
  go_meet
  exact⟨(by rw[show shH a b c d=endH a b from if_neg cj];exact H61.out),(Dig.refl _)⟩
 obtain⟨hh_,hd_⟩:=hcut;generalize wc=w66 at*
 have H68:=zH hh_;have D68:=zH hd_;clear hh_ hd_;rcases emH (lessB (shH a b c d) (shL a b c d)=true)with C3|C3
 ·go_upto_region 7 with fail
  refine wl ?_;refine zd X6 (0) [.int .i64 ((shH a b c d).1),.int .i64 ((shH a b c d).2)] (H68.out.range (i:=1) rR 0 2) Tryz.underlying23 ?_;refine zd X1 (0) [.int .i64 ((shL a b c d).1),.int .i64 ((shL a b c d).2)] (H68.out.range (i:=0) rR 0 2) Tryz.underlying23 ?_;refine zc (vless_any (shH a b c d) (shL a b c d) _ (okSH ha hb hc hd) (okSL ha hb hc hd)) ?_;rintro e w70 ⟨rfl,hx⟩;have H71:=zH (H68.out.step hx);clear hx;refine⟨.bool true,by rw[C3.out],?_⟩;try simp only[Act.put,zA,zB,zC]
  refine zq (.bool true) ?_;go_upto_region 8 with fail
  refine wl ?_;refine zI1 (Hp.start _) _ ?_;refine aS' 4 [.int .i64 0,.int .i64 0] H71.out ?_;intro w75 H76 _;refine zq (.int .i64 0) ?_;go_wp2_with fail
  refine bodyPost_ret (v:= .tuple #[.agg #[.int .i64 0,.int .i64 0],.int .i64 0]) ?_ rfl ⟨by rw[show sharedV a b c d=((0,0),0)from by unfold sharedV;exact if_pos C3.out],H76.out.ext⟩;exact results_c1t1 rfl rfl ((H76.out.blk (i:=4) rR).loadVar rfl rfl rR) rfl
 go_upto_region 7 with fail
 refine wl ?_;refine zd X6 (0) [.int .i64 ((shH a b c d).1),.int .i64 ((shH a b c d).2)] (H68.out.range (i:=1) rR 0 2) Tryz.underlying23 ?_;refine zd X1 (0) [.int .i64 ((shL a b c d).1),.int .i64 ((shL a b c d).2)] (H68.out.range (i:=0) rR 0 2) Tryz.underlying23 ?_;refine zc (vless_any (shH a b c d) (shL a b c d) _ (okSH ha hb hc hd) (okSL ha hb hc hd)) ?_;rintro e w79 ⟨rfl,hx⟩;have H80:=zH (H68.out.step hx);clear hx;refine⟨.bool false,by rw[Bool.eq_false_iff.2 C3.out],?_⟩;try simp only[Act.put,zA,zB,zC]
 refine zq (.bool false) ?_;rcases emH (shL a b c d=shH a b c d)with C4|C4
 ·go_upto_region 9 with fail
  refine wl ?_;refine zd X1 (0) [.int .i64 ((shL a b c d).1),.int .i64 ((shL a b c d).2)] (H80.out.range (i:=0) rR 0 2) Tryz.underlying23 ?_;refine zd X6 (0) [.int .i64 ((shH a b c d).1),.int .i64 ((shH a b c d).2)] (H80.out.range (i:=1) rR 0 2) Tryz.underlying23 ?_;refine zp (.bool true) (by exact ev_eqlpt rR rR rR (pt_eq.2 C4.out)) ?_;refine zq (.bool true) ?_;go_upto_region 10 with fail
  refine wl ?_;refine zd X1 (0) [.int .i64 ((shL a b c d).1),.int .i64 ((shL a b c d).2)] (H80.out.range (i:=0) rR 0 2) Tryz.underlying23 ?_;refine aS' 4 [.int .i64 ((shL a b c d).1),.int .i64 ((shL a b c d).2)] H80.out ?_;intro w86 H87 _;refine zq (.int .i64 1) ?_;go_wp2_with fail
  refine bodyPost_ret (v:= .tuple #[.agg #[.int .i64 (shL a b c d).1,.int .i64 (shL a b c d).2],.int .i64 1]) ?_ rfl ⟨by rw[show sharedV a b c d=(shL a b c d,1)from by unfold sharedV;rw[if_neg C3.out];exact if_pos C4.out],H87.out.ext⟩;exact results_c1t1 rfl rfl ((H87.out.blk (i:=4) rR).loadVar rfl rfl rR) rfl
 go_upto_region 9 with fail
 refine wl ?_;refine zd X1 (0) [.int .i64 ((shL a b c d).1),.int .i64 ((shL a b c d).2)] (H80.out.range (i:=0) rR 0 2) Tryz.underlying23 ?_;refine zd X6 (0) [.int .i64 ((shH a b c d).1),.int .i64 ((shH a b c d).2)] (H80.out.range (i:=1) rR 0 2) Tryz.underlying23 ?_;refine zp (.bool false) (by exact ev_eqlpt rR rR rR (Bool.eq_false_iff.2 (fun h_=>C4.out (pt_eq.1 h_)))) ?_;refine zq (.bool false) ?_;go_upto_region 11 with fail
 refine wl ?_;refine zI1 (Hp.start _) _ ?_;refine aS' 4 [.int .i64 0,.int .i64 0] H80.out ?_;intro w93 H94 _;refine zq (.int .i64 2) ?_;go_wp2_with fail
 refine bodyPost_ret (v:= .tuple #[.agg #[.int .i64 0,.int .i64 0],.int .i64 2]) ?_ rfl ⟨by rw[show sharedV a b c d=((0,0),2)from by unfold sharedV;rw[if_neg C3.out];exact if_neg C4.out],H94.out.ext⟩;exact results_c1t1 rfl rfl ((H94.out.blk (i:=4) rR).loadVar rfl rfl rR) rfl
end
section
section
variable {P:Program} {l:List Oper} {Q:Exit->Act->World->Prop} {md:Region.Mode} {S:World->Prop} {j i:Nat} {dj:Option Tmp} {T:TypeId} {zs:List Value} {b w0:World} {m:List Ent} {fuel:Nat} {listed li lj lij:Array Bool} {a:Act} {w:World} {oi oj:Oper} {v:Value}
def Fl (P:Program)(md:Region.Mode)(l:List Oper)(Q:Exit->Act->World->Prop)(S:World->Prop)(j:Nat)(dj:Option Tmp)(T:TypeId)(zs:List Value)(b w0:World)(m:List Ent)(fuel:Nat)(listed:Array Bool)(a:Act)(w:World):Prop:=
  wpAnyH P md l.toArray Q S (fuel+1) listed a w/\
  ∀X y,Ext w y->Hp w0 y (m++[.blk X T zs])->S y->b.heap.size<=X->wpAnyH P md l.toArray Q S fuel (listed.setIfInBounds j true) (a.put dj (.pointer (some ⟨X,0,none⟩))) y
theorem Fl.go (h:Fl P md l Q S j dj T zs b w0 m fuel listed a w):wpAnyH P md l.toArray Q S (fuel+1) listed a w:=h.1
def offSlot (l:List Oper)(o:Oper)(dj:Option Tmp):Bool:=match dj with|none=>true|some d=> !(o.looksAt l.toArray).contains d&&o.dst != some d
theorem offSlot_spec {o:Oper}(h:offSlot l o dj=true):(∀d,dj=some d->d∉o.looksAt l.toArray)/\∀d,dj=some d->o.dst≠some d:=by
  cases dj with
  |none=>exact⟨fun d h=>(by cases h),fun d h=>(by cases h)⟩
  | some d=>
    unfold offSlot at h;simp at h;refine⟨fun d' e=> ?_,fun d' e=> ?_⟩
    · injection e with e;subst e;exact h.1
    injection e with e;subst e;exact h.2
theorem fl_take (hi:l[i]?=some oi)(hs:Region.noSelect l.toArray=true)(hf:Region.free md l.toArray listed i=true)(hr:(Region.ready md l.toArray listed).contains i=true)(hlj:listed.setIfInBounds j true=lj)
  (hf2:Region.free md l.toArray lj i=true)(hr2:(Region.ready md l.toArray lj).contains i=true)(hij:i≠j)(hoff:offSlot l oi dj=true)
  (hQ:∀c a w,Q (.panic c) (a.put oi.dst v) w->Q (.panic c) a w)(hy:YieldsIf P l.toArray S oi v a)(hS:S w)(hl:listed.setIfInBounds i true=li)
  (h:Fl P md l Q S j dj T zs b w0 m fuel li (a.put oi.dst v) w):Fl P md l Q S j dj T zs b w0 m (fuel+1) listed a w:=by
 obtain⟨o1,o2⟩:=offSlot_spec hoff;have hsel:=fun cs b=>Region.noSelect_spec hs i oi cs b (by rw[List.getElem?_toArray];exact hi)
 refine⟨wpAnyH_take_l hi hs hf hr hQ hy hS (by rw[hl];exact h.1),fun X y x hH hSy hX=> ?_⟩;have h2:=h.2 X y x hH hSy hX;rw[Act.put_comm a v _ (fun d e=>fun e2=>(o2 d e2) e)]at h2;rw[hlj];refine wpAnyH_take_l hi hs hf2 hr2 hQ (hy.of_same (execOp_put oi hsel a dj _ o1) (wanted_put oi a dj _ o1)) hSy ?_;rw[<-hlj,Array.setIfInBounds_comm _ _ (Ne.symm hij),hl];exact h2
theorem fl_call {f:FuncId}{args:Array Value}{Φ:World->Ending->World->Prop}(hi:l[i]?=some oi)(hj:l[j]?=some oj)(hs:Region.noSelect l.toArray=true)(hlj:listed.setIfInBounds j true=lj)
  (hr:((Region.ready md l.toArray listed).all fun k=>k==i||k==j)=true)(hne:(Region.ready md l.toArray listed).isEmpty=false)(hr2:Region.ready md l.toArray lj=[i])(hij:i≠j)(hoff:offSlot l oi dj=true)(hdj:oj.dst=dj)(hgj:oj.guard=none)
  (hvj:∀(ρ:Operand->Value) (x:World),(execOp ρ oj).run P x= .ok (.value (.pointer (some ⟨x.heap.size,0,none⟩))) (x.alloc (.cells zs.toArray T)))
  (hSx:∀x y,S x->Ext x y->S y)(hb:b.heap.size<=w.heap.size)(hH:Hp w0 w m)(hn:NoUL zs)(hSw:S w)
  (hw:Region.wanted oi (yielded l.toArray a.tmps)=true)(hv:∀x:World,(execOp a.eval oi).run P x= .ok (.enter f args) x)(hl:listed.setIfInBounds i true=li)
  (hc0:∀x,Ext w x->Calls P f args x (Φ x))(hE:∀x e x',Φ x e x'->Ext x x')
  (h0:∀x e x',Ext w x->Φ x e x'->∃v,e= .returned v/\Fl P md l Q S j dj T zs b w0 m fuel li (a.put oi.dst v) x'):Fl P md l Q S j dj T zs b w0 m (fuel+1) listed a w:=by
 have hc:∀x,Ext w x->Calls P f args x fun e x'=>Φ x e x'/\Ext x x':=fun x hx=>(hc0 x hx).mono fun e x' h1=>⟨h1,hE x e x' h1⟩
 have h:=fun(x:World) (e:Ending) (x':World) (h1:Ext w x) (h2:Φ x e x') (_:Ext x x')=>h0 x e x' h1 h2
 obtain⟨o1,o2⟩:=offSlot_spec hoff;have hsel:=fun cs b=>Region.noSelect_spec hs i oi cs b (by rw[List.getElem?_toArray];exact hi)
 have done:∀X y,Ext w y->Hp w0 y (m++[.blk X T zs])->S y->b.heap.size<=X->wpAnyH P md l.toArray Q S (fuel+1) (listed.setIfInBounds j true) (a.put dj (.pointer (some ⟨X,0,none⟩))) y:=by
  intro X y x hHy hSy hX;rw[hlj];refine md_call hi hr2 (by rw[wanted_put oi a dj _ o1];exact hw) (by rw[execOp_put oi hsel a dj _ o1];exact hv y) (hc y x) rfl ?_;rintro e y' ⟨h1,h2⟩;obtain⟨v,rfl,hf⟩:=h y e y' x h1 h2;refine⟨v,rfl,hSx _ _ hSy h2,?_⟩;have h3:=hf.2 X y' (Ext.refl _) (hHy.step h2) (hSx _ _ hSy h2) hX;rw[Act.put_comm a v _ (fun d e=>fun e2=>(o2 d e2) e)]at h3;rw[<-hlj,Array.setIfInBounds_comm _ _ (Ne.symm hij),hl];exact h3
 refine⟨?_,done⟩;have x1:Ext w (w.alloc (.cells zs.toArray T)):=(Ext.refl w).alloc _;refine wpAnyH_ready rfl (fun e=>by rw[e]at hne;cases hne) (fun k hk=> ?_);have hk2:=List.all_eq_true.1 hr k hk;simp only[Bool.or_eq_true,beq_iff_eq]at hk2;rcases hk2 with rfl|rfl
 ·refine wpOp_step (by rw[List.getElem?_toArray];exact hi) (fun K' hK=> ?_)
  rw[if_pos hw];refine wp_call_op (hv w) (hc w (Ext.refl w)) ?_;rintro e x' ⟨h1,h2⟩;obtain⟨v,rfl,hf⟩:=h w e x' (Ext.refl w) h1 h2;refine⟨v,rfl,hK _ _ ⟨hSx _ _ hSw h2,?_⟩⟩;rw[hl];exact hf.1
 refine wpOp_step (by rw[List.getElem?_toArray];exact hj) (fun K' hK=> ?_);rw[if_pos (by simp[Region.wanted,hgj])];unfold Oper.wp;rw[hvj];refine hK _ _ ⟨hSx _ _ hSw x1,?_⟩;rw[hdj];exact done _ _ x1 (hH.alloc T zs hn) (hSx _ _ hSw x1) hb
theorem fl_end (hj:l[j]?=some oj)(hr:Region.ready md l.toArray listed=[j])(hdj:oj.dst=dj)(hgj:oj.guard=none)
  (hvj:∀(ρ:Operand->Value) (x:World),(execOp ρ oj).run P x= .ok (.value (.pointer (some ⟨x.heap.size,0,none⟩))) (x.alloc (.cells zs.toArray T)))
  (hSx:∀x y,S x->Ext x y->S y)(hb:b.heap.size<=w.heap.size)(hH:Hp w0 w m)(hn:NoUL zs)(hSw:S w)(hl:listed.setIfInBounds j true=lj)
  (h:∀X y,Ext w y->Hp w0 y (m++[.blk X T zs])->S y->b.heap.size<=X->wpAnyH P md l.toArray Q S fuel lj (a.put dj (.pointer (some ⟨X,0,none⟩))) y):Fl P md l Q S j dj T zs b w0 m fuel listed a w:=by
 have x1:Ext w (w.alloc (.cells zs.toArray T)):=(Ext.refl w).alloc _;refine⟨md_one hj hr (by simp[Region.wanted,hgj]) (hvj _ w) (hSx _ _ hSw x1) hl ?_,fun X y x hHy hSy hX=>by rw[hl];exact h X y x hHy hSy hX⟩;rw[hdj];exact h _ _ x1 (hH.alloc T zs hn) (hSx _ _ hSw x1) hb
end
section
variable {P:Program} {l:List Oper} {S:World->Prop} {oi:Oper} {a:Act}
theorem y_val {v:Value}(hw:Region.wanted oi (yielded l.toArray a.tmps)=true)(hv:∀w,S w->(execOp a.eval oi).run P w= .ok (.value v) w):YieldsIf P l.toArray S oi v a:= .inl ⟨hw,hv⟩
end
/-! A load of a variable that the region's last operation turns: it may come up anywhere among the calls. -/
section
variable {P:Program} {l:List Oper} {Q:Exit->Act->World->Prop} {md:Region.Mode} {S:World->Prop} {j i:Nat} {dj:Option Tmp} {u:Value} {b:World} {fuel:Nat} {listed li lj lij:Array Bool} {a:Act} {w:World} {oi oj:Oper} {v:Value}
end
/-! Two slices appended to in one statement. -/
section
variable {P:Program} {l:List Oper} {Q:Exit->Act->World->Prop} {md:Region.Mode} {S:World->Prop} {i j ix jx X:Nat} {oi oj:Oper} {fuel:Nat} {listed listed':Array Bool} {a:Act} {w w0:World} {m:List Ent}
end
section
variable {P:Program} {l:List Oper} {Q:Exit->Act->World->Prop} {md:Region.Mode} {S:World->Prop} {j i:Nat} {dj:Option Tmp} {T:TypeId} {zs:List Value} {b w0:World} {m:List Ent} {fuel:Nat} {listed li lj lij:Array Bool} {a:Act} {w:World} {oi oj:Oper} {v:Value}
theorem gK {a':Act}(i:Nat)(lj li:Array Bool)(v:Value)(hS:S w)(h:Fl P md l Q S j dj T zs b w0 m fuel li a' w)(hi:l[i]?=some oi:=by rfl)(hs:Region.noSelect l.toArray=true:=by kernel_rfl)(hf:Region.free md l.toArray listed i=true:=by kernel_rfl)(hr:(Region.ready md l.toArray listed).contains i=true:=by kernel_rfl)(hlj:listed.setIfInBounds j true=lj:=by kernel_rfl)(hf2:Region.free md l.toArray lj i=true:=by kernel_rfl)(hr2:(Region.ready md l.toArray lj).contains i=true:=by kernel_rfl)(hij:i≠j:=by decide)(hoff:offSlot l oi dj=true:=by kernel_rfl)(hQ:∀c a w,Q (.panic c) (a.put oi.dst v) w->Q (.panic c) a w:=by intro _ _ _ h;exact h)(hw:Region.wanted oi (yielded l.toArray a.tmps)=true:=by rfl)(hv:∀w,S w->(execOp a.eval oi).run P w= .ok (.value v) w:=by intro w hSw;go_simp<;>with_reducible rfl)(hl:listed.setIfInBounds i true=li:=by kernel_rfl)(ha:a.put oi.dst v=a':=by (try simp only[Act.put,zA,zB,zC]);rfl):Fl P md l Q S j dj T zs b w0 m (fuel+1) listed a w:=by subst ha;exact fl_take hi hs hf hr hlj hf2 hr2 hij hoff hQ (y_val hw hv) hS hl h
theorem gL {f:FuncId}{args:Array Value}{Φ:World->Ending->World->Prop}(i:Nat)(lj li:Array Bool)(hb:b.heap.size<=w.heap.size)(hH:Hp w0 w m)(hSw:S w)(hc0:∀x,Ext w x->Calls P f args x (Φ x))(hE:∀x e x',Φ x e x'->Ext x x')(h0:∀x e x',Ext w x->Φ x e x'->∃v,e= .returned v/\Fl P md l Q S j dj T zs b w0 m fuel li (a.put oi.dst v) x')(hi:l[i]?=some oi:=by rfl)(hj:l[j]?=some oj:=by rfl)(hs:Region.noSelect l.toArray=true:=by kernel_rfl)(hlj:listed.setIfInBounds j true=lj:=by kernel_rfl)(hr:((Region.ready md l.toArray listed).all fun k=>k==i||k==j)=true:=by kernel_rfl)(hne:(Region.ready md l.toArray listed).isEmpty=false:=by kernel_rfl)(hr2:Region.ready md l.toArray lj=[i]:=by kernel_rfl)(hij:i≠j:=by decide)(hoff:offSlot l oi dj=true:=by kernel_rfl)(hdj:oj.dst=dj:=by rfl)(hgj:oj.guard=none:=by rfl)(hvj:∀(ρ:Operand->Value) (x:World),(execOp ρ oj).run P x= .ok (.value (.pointer (some ⟨x.heap.size,0,none⟩))) (x.alloc (.cells zs.toArray T)):=by intro r_ x_;go_simp)(hSx:∀x y,S x->Ext x y->S y:=by intro x y h1 h2;exact h1.trans h2)(hn:NoUL zs:=by simp[NoUL,rz,rc])(hw:Region.wanted oi (yielded l.toArray a.tmps)=true:=by rfl)(hv:∀x:World,(execOp a.eval oi).run P x= .ok (.enter f args) x:=by intro x_;go_simp)(hl:listed.setIfInBounds i true=li:=by kernel_rfl):Fl P md l Q S j dj T zs b w0 m (fuel+1) listed a w:=fl_call hi hj hs hlj hr hne hr2 hij hoff hdj hgj hvj hSx hb hH hn hSw hw hv hl hc0 hE h0
theorem gE (lj:Array Bool)(hb:b.heap.size<=w.heap.size)(hH:Hp w0 w m)(hSw:S w)(h:∀X y,Ext w y->Hp w0 y (m++[.blk X T zs])->S y->b.heap.size<=X->wpAnyH P md l.toArray Q S fuel lj (a.put dj (.pointer (some ⟨X,0,none⟩))) y)(hj:l[j]?=some oj:=by rfl)(hr:Region.ready md l.toArray listed=[j]:=by kernel_rfl)(hdj:oj.dst=dj:=by rfl)(hgj:oj.guard=none:=by rfl)(hvj:∀(ρ:Operand->Value) (x:World),(execOp ρ oj).run P x= .ok (.value (.pointer (some ⟨x.heap.size,0,none⟩))) (x.alloc (.cells zs.toArray T)):=by intro r_ x_;go_simp)(hSx:∀x y,S x->Ext x y->S y:=by intro x y h1 h2;exact h1.trans h2)(hn:NoUL zs:=by simp[NoUL,rz,rc])(hl:listed.setIfInBounds j true=lj:=by kernel_rfl):Fl P md l Q S j dj T zs b w0 m fuel listed a w:=fl_end hj hr hdj hgj hvj hSx hb hH hn hSw hl h
theorem gG {w':World}(j:Nat)(dj:Option Tmp)(T:TypeId)(zs:List Value)(b:World)(_H:Hp w0 w' m)(h:Fl P md l Q S j dj T zs b w0 m fuel listed a w):wpAnyH P md l.toArray Q S (fuel+1) listed a w:=h.1
end
end
section
structure FJ where
  i:Nat
  d:Option Tmp
  T:TypeId
  zs:List Value
def lP:List FJ->List Bool->Array Bool->Array Bool
  |j::J,true::p,l=>lP J p (l.setIfInBounds j.i true)
  |_::J,false::p,l=>lP J p l
  | [],_,l=>l
  |_::_,[],l=>l
def aD:List FJ->List (Option Nat)->Act->Act
  |j::J,some X::D,a=>aD J D (a.put j.d (.pointer (some ⟨X,0,none⟩)))
  |_::J,none::D,a=>aD J D a
  | [],_,a=>a
  |_::_,[],a=>a
def cN:List (Option Nat)->Nat
  | []=>0
  |none::D=>cN D+1
  |some _::D=>cN D
def gD (b y:World):List FJ->List (Option Nat)->Prop
  |j::J,some X::D=>(Blk y X j.T j.zs.toArray/\b.heap.size<=X/\some X∉D)/\gD b y J D
  |_::J,none::D=>gD b y J D
  | [],_=>True
  |_::_,[]=>True
def pats:Nat->List (List Bool)
  |0=>[[]]
  |n+1=>(pats n).map (true:: ·)++(pats n).map (false:: ·)
theorem mem_pats:∀(p:List Bool),p∈pats p.length
  | []=>List.mem_singleton.2 rfl
  |true::p=>List.mem_append.2 (.inl (List.mem_map.2 ⟨p,mem_pats p,rfl⟩))
  |false::p=>List.mem_append.2 (.inr (List.mem_map.2 ⟨p,mem_pats p,rfl⟩))
def unm:List FJ->List Bool->List Nat
  |_::J,true::p=>unm J p
  |j::J,false::p=>j.i::unm J p
  | [],_=>[]
  |_::_,[]=>[]
def nd:List FJ->Bool
  | []=>true
  |j::J=>J.all (fun k=>k.i != j.i&&k.d != j.d)&&nd J
section
variable {P:Program} {l:List Oper} {Q:Exit->Act->World->Prop} {md:Region.Mode} {S:World->Prop} {b w:World} {J:List FJ} {i:Nat} {fuel:Nat} {listed li:Array Bool} {a:Act} {oi:Oper} {v:Value}
theorem lP_set:∀{J:List FJ} {p:List Bool} {L:Array Bool} {i:Nat},(∀j,j∈J->j.i≠i)->(lP J p L).setIfInBounds i true=lP J p (L.setIfInBounds i true)
  | [],p,L,i,_=>by cases p<;>rfl
  |j::J,[],L,i,_=>rfl
  | j::J,true::p,L,i,h=>by
    show(lP J p (L.setIfInBounds j.i true)).setIfInBounds i true=lP J p ((L.setIfInBounds i true).setIfInBounds j.i true);rw[lP_set fun k hk=>h k (List.mem_cons_of_mem _ hk),Array.setIfInBounds_comm _ _ (h j (List.mem_cons_self ..))]
  |j::J,false::p,L,i,h=>lP_set (J:=J) fun k hk=>h k (List.mem_cons_of_mem _ hk)
theorem aD_put:∀{J:List FJ} {D:List (Option Nat)} {a:Act} {d:Option Tmp} {v:Value},(∀j,j∈J->∀t,j.d=some t->d≠some t)->(aD J D a).put d v=aD J D (a.put d v)
  | [],D,a,d,v,_=>by cases D<;>rfl
  |j::J,[],a,d,v,_=>rfl
  | j::J,some X::D,a,d,v,h=>by
    show(aD J D (a.put j.d _)).put d v=aD J D ((a.put d v).put j.d _);rw[aD_put fun k hk=>h k (List.mem_cons_of_mem _ hk),Act.put_comm a _ _ (h j (List.mem_cons_self ..))]
  |j::J,none::D,a,d,v,h=>aD_put (J:=J) fun k hk=>h k (List.mem_cons_of_mem _ hk)
theorem lP_make:∀{J:List FJ} {D:List (Option Nat)} {L:Array Bool} {q:Nat} {j:FJ} {X:Nat},nd J=true->J[q]?=some j->D[q]?=some none->(lP J (D.map Option.isSome) L).setIfInBounds j.i true=lP J ((D.set q (some X)).map Option.isSome) L
 | [],D,L,q,j,X,_,h,_=>by simp at h
 |k::J,[],L,q,j,X,_,_,h=>by simp at h
 |k::J,x::D,L,0,j,X,hn,h,h2=>by
  have hk:k=j:=by simpa using h
  have hx:x=none:=by simpa using h2
  subst hk;subst hx;unfold nd at hn;rw[Bool.and_eq_true]at hn;show(lP J (D.map Option.isSome) L).setIfInBounds k.i true=lP J (D.map Option.isSome) (L.setIfInBounds k.i true);exact lP_set fun z hz=>by
   have:=List.all_eq_true.1 hn.1 z hz;simp at this;exact this.1
 |k::J,x::D,L,q+1,j,X,hn,h,h2=>by
  have h:J[q]?=some j:=by simpa using h
  have h2:D[q]?=some none:=by simpa using h2
  unfold nd at hn;rw[Bool.and_eq_true]at hn;cases x with
  |none=>exact lP_make (J:=J) (D:=D) hn.2 h h2
  |some Y=>exact lP_make (L:=L.setIfInBounds k.i true) hn.2 h h2
theorem aD_make:∀{J:List FJ} {D:List (Option Nat)} {a:Act} {q:Nat} {j:FJ} {X:Nat},nd J=true->J[q]?=some j->D[q]?=some none->(aD J D a).put j.d (.pointer (some ⟨X,0,none⟩))=aD J (D.set q (some X)) a
 | [],D,a,q,j,X,_,h,_=>by simp at h
 |k::J,[],a,q,j,X,_,_,h=>by simp at h
 |k::J,x::D,a,0,j,X,hn,h,h2=>by
  have hk:k=j:=by simpa using h
  have hx:x=none:=by simpa using h2
  subst hk;subst hx;unfold nd at hn;rw[Bool.and_eq_true]at hn;show(aD J D a).put k.d _=aD J D (a.put k.d _);exact aD_put fun z hz t ht e=>by
   have:=List.all_eq_true.1 hn.1 z hz;simp at this;exact this.2 (by rw[ht,e])
 |k::J,x::D,a,q+1,j,X,hn,h,h2=>by
  have h:J[q]?=some j:=by simpa using h
  have h2:D[q]?=some none:=by simpa using h2
  unfold nd at hn;rw[Bool.and_eq_true]at hn;cases x with
  |none=>exact aD_make (J:=J) (D:=D) hn.2 h h2
  |some Y=>exact aD_make (a:=a.put k.d _) hn.2 h h2
theorem cN_make:∀{D:List (Option Nat)} {q X:Nat},D[q]?=some none->cN (D.set q (some X))+1=cN D
  | [],q,X,h=>by simp at h
  | x::D,0,X,h=>by
    have hx:x=none:=by simpa using h
    subst hx;rfl
  | x::D,q+1,X,h=>by
    have h:D[q]?=some none:=by simpa using h
    have:=cN_make (X:=X) h;cases x<;>simp only[List.set_cons_succ,cN]<;>omega
theorem gD_ext {b y y':World}(x:Ext y y'):∀{J:List FJ} {D:List (Option Nat)},gD b y J D->gD b y' J D
  | [],D,_=>by cases D<;>trivial
  |j::J,[],_=>trivial
  |j::J,some X::D,h=>⟨⟨h.1.1.ext x,h.1.2⟩,gD_ext x h.2⟩
  |j::J,none::D,h=>gD_ext (J:=J) x h
theorem gD_lt {b y:World}:∀{J:List FJ} {D:List (Option Nat)} {X:Nat},D.length=J.length->gD b y J D->some X∈D->X<y.heap.size
  | [],D,X,hl,_,hX=>by
    have:D=[]:=List.eq_nil_of_length_eq_zero hl;rw[this]at hX;simp at hX
  |j::J,[],X,_,_,hX=>by simp at hX
  | j::J,some Y::D,X,hl,h,hX=>by
    rcases List.mem_cons.1 hX with e|hX
    · injection e with e;subst e;exact h.1.1.lt
    exact gD_lt (by simpa using hl) h.2 hX
  | j::J,none::D,X,hl,h,hX=>by
    rcases List.mem_cons.1 hX with e|hX
    · cases e
    exact gD_lt (J:=J) (by simpa using hl) h hX
theorem gD_make {b y:World}{j:FJ}{X:Nat}(hb:Blk y X j.T j.zs.toArray)(hX:b.heap.size<=X):∀{J:List FJ} {D:List (Option Nat)} {q:Nat},J[q]?=some j->D[q]?=some none->gD b y J D->(∀Y,some Y∈D->Y<X)->gD b y J (D.set q (some X))
 | [],D,q,h,_,_,_=>by simp at h
 |k::J,[],q,_,h,_,_=>by simp at h
 |k::J,x::D,0,h,h2,hg,hl=>by
  have hk:k=j:=by simpa using h
  have hx:x=none:=by simpa using h2
  subst hk;subst hx;exact⟨⟨hb,hX,fun e=>by have:=hl X (List.mem_cons_of_mem _ e);omega⟩,hg⟩
 |k::J,x::D,q+1,h,h2,hg,hl=>by
  have h:J[q]?=some j:=by simpa using h
  have h2:D[q]?=some none:=by simpa using h2
  cases x with
  |none=>exact gD_make (J:=J) hb hX h h2 hg fun Y hY=>hl Y (List.mem_cons_of_mem _ hY)
  |some Z=>
   refine⟨⟨hg.1.1,hg.1.2.1,fun e=> ?_⟩,gD_make hb hX h h2 hg.2 fun Y hY=>hl Y (List.mem_cons_of_mem _ hY)⟩;rcases List.mem_or_eq_of_mem_set e with e|e
   ·exact hg.1.2.2 e
   injection e with e
   have:=hl Z (List.mem_cons_self ..);omega
theorem unm_mem:∀{J:List FJ} {D:List (Option Nat)} {k:Nat},D.length=J.length->k∈unm J (D.map Option.isSome)->∃(q:Nat) (j:FJ),J[q]?=some j/\D[q]?=some none/\j.i=k
  | [],D,k,_,h=>by cases D<;>simp[unm]at h
  |j::J,[],k,hl,_=>by simp at hl
  | j::J,some X::D,k,hl,h=>by
    obtain⟨q,z,h1,h2,h3⟩:=unm_mem (J:=J) (D:=D) (by simpa using hl) h;exact⟨q+1,z,by simpa using h1,by simpa using h2,h3⟩
  | j::J,none::D,k,hl,h=>by
    rcases List.mem_cons.1 h with rfl|h
    · exact⟨0,j,rfl,rfl,rfl⟩
    obtain⟨q,z,h1,h2,h3⟩:=unm_mem (J:=J) (D:=D) (by simpa using hl) h;exact⟨q+1,z,by simpa using h1,by simpa using h2,h3⟩
def FOk (P:Program)(l:List Oper):List FJ->Prop
  | []=>True
  |j::J=>(∃oj,l[j.i]?=some oj/\oj.dst=j.d/\oj.guard=none/\NoUL j.zs/\∀(ρ:Operand->Value) (x:World),(execOp ρ oj).run P x= .ok (.value (.pointer (some ⟨x.heap.size,0,none⟩))) (x.alloc (.cells j.zs.toArray j.T)))/\FOk P l J
theorem FOk.get:∀{J:List FJ} {q:Nat} {j:FJ},FOk P l J->J[q]?=some j->∃oj,l[j.i]?=some oj/\oj.dst=j.d/\oj.guard=none/\NoUL j.zs/\∀(ρ:Operand->Value) (x:World),(execOp ρ oj).run P x= .ok (.value (.pointer (some ⟨x.heap.size,0,none⟩))) (x.alloc (.cells j.zs.toArray j.T))
  | [],q,j,_,h=>by simp at h
  | k::J,0,j,hk,h=>by
    have e:k=j:=by simpa using h
    subst e;exact hk.1
  |k::J,q+1,j,hk,h=>FOk.get hk.2 (by simpa using h)
def FN (P:Program)(md:Region.Mode)(l:List Oper)(Q:Exit->Act->World->Prop)(S:World->Prop)(J:List FJ)(b:World)(fuel:Nat)(listed:Array Bool)(a:Act)(w:World):Prop:=
  ∀(D:List (Option Nat)) (y:World),D.length=J.length->Ext w y->gD b y J D->S y->wpAnyH P md l.toArray Q S (fuel+cN D) (lP J (D.map Option.isSome) listed) (aD J D a) y
theorem FN.go2 {j1 j2:FJ}(h:FN P md l Q S [j1,j2] b fuel listed a w)(hS:S w):wpAnyH P md l.toArray Q S (fuel+2) listed a w:=h [none,none] w rfl (Ext.refl _) trivial hS
theorem FN.go3 {j1 j2 j3:FJ}(h:FN P md l Q S [j1,j2,j3] b fuel listed a w)(hS:S w):wpAnyH P md l.toArray Q S (fuel+3) listed a w:=h [none,none,none] w rfl (Ext.refl _) trivial hS
theorem FN.go4 {j1 j2 j3 j4:FJ}(h:FN P md l Q S [j1,j2,j3,j4] b fuel listed a w)(hS:S w):wpAnyH P md l.toArray Q S (fuel+4) listed a w:=h [none,none,none,none] w rfl (Ext.refl _) trivial hS
theorem off_eval (hs:Region.noSelect l.toArray=true)(hi:l[i]?=some oi):∀{J:List FJ} {D:List (Option Nat)} {a:Act},(J.all fun j=>offSlot l oi j.d)=true->execOp (aD J D a).eval oi=execOp a.eval oi/\Region.wanted oi (yielded l.toArray (aD J D a).tmps)=Region.wanted oi (yielded l.toArray a.tmps)
  | [],D,a,_=>by cases D<;>exact⟨rfl,rfl⟩
  |j::J,[],a,_=>⟨rfl,rfl⟩
  | j::J,some X::D,a,h=>by
    have hsel:=fun cs b=>Region.noSelect_spec hs i oi cs b (by rw[List.getElem?_toArray];exact hi)
    rw[List.all_cons,Bool.and_eq_true]at h;obtain⟨o1,_⟩:=offSlot_spec h.1;obtain⟨h1,h2⟩:=off_eval hs hi (D:=D) (a:=a.put j.d (.pointer (some ⟨X,0,none⟩))) h.2;exact⟨h1.trans (execOp_put oi hsel a j.d _ o1),h2.trans (wanted_put oi a j.d _ o1)⟩
  | j::J,none::D,a,h=>by
    rw[List.all_cons,Bool.and_eq_true]at h;exact off_eval hs hi (J:=J) h.2
theorem off_dst (h:(J.all fun j=>offSlot l oi j.d)=true):∀j,j∈J->∀t,j.d=some t->oi.dst≠some t:=fun j hj t ht=>(offSlot_spec (List.all_eq_true.1 h j hj)).2 t ht
theorem idx_ne (h:(J.all fun j=>j.i != i)=true):∀j,j∈J->j.i≠i:=fun j hj=>by simpa using List.all_eq_true.1 h j hj
theorem fn_take (hi:l[i]?=some oi)(hs:Region.noSelect l.toArray=true)(hchk:((pats J.length).all fun p=>Region.free md l.toArray (lP J p listed) i&&(Region.ready md l.toArray (lP J p listed)).contains i)=true)
  (hne:(J.all fun j=>j.i != i)=true)(hoff:(J.all fun j=>offSlot l oi j.d)=true)(hQ:∀c a w,Q (.panic c) (a.put oi.dst v) w->Q (.panic c) a w)(hy:YieldsIf P l.toArray S oi v a)(hl:listed.setIfInBounds i true=li)
  (h:FN P md l Q S J b fuel li (a.put oi.dst v) w):FN P md l Q S J b (fuel+1) listed a w:=by
 intro D y hD x hg hSy;have h2:=h D y hD x hg hSy;have hp:D.map Option.isSome∈pats J.length:=by have:=mem_pats (D.map Option.isSome);rwa[List.length_map,hD]at this
 have hc:=List.all_eq_true.1 hchk _ hp;rw[Bool.and_eq_true]at hc;obtain⟨e1,e2⟩:=off_eval hs hi (D:=D) (a:=a) hoff;rw[show fuel+1+cN D=fuel+cN D+1 by omega];refine wpAnyH_take_l hi hs hc.1 hc.2 hQ (hy.of_same e1 e2) hSy ?_;rw[lP_set (idx_ne hne),aD_put (off_dst hoff),hl];exact h2
theorem fn_call {f:FuncId}{args:Array Value}{Φ:World->Ending->World->Prop}(hi:l[i]?=some oi)(hs:Region.noSelect l.toArray=true)
  (hchk:((pats J.length).all fun p=> !(Region.ready md l.toArray (lP J p listed)).isEmpty&&(Region.ready md l.toArray (lP J p listed)).all fun k=>k==i||(unm J p).contains k)=true)
  (hne:(J.all fun j=>j.i != i)=true)(hoff:(J.all fun j=>offSlot l oi j.d)=true)(hnd:nd J=true)(hJ:FOk P l J)
  (hSx:∀x y,S x->Ext x y->S y)(hb:b.heap.size<=w.heap.size)
  (hw:Region.wanted oi (yielded l.toArray a.tmps)=true)(hv:∀x:World,(execOp a.eval oi).run P x= .ok (.enter f args) x)(hl:listed.setIfInBounds i true=li)
  (hc0:∀x,Ext w x->Calls P f args x (Φ x))(hE:∀x e x',Φ x e x'->Ext x x')
  (h0:∀x e x',Ext w x->Φ x e x'->∃v,e= .returned v/\FN P md l Q S J b fuel li (a.put oi.dst v) x'):FN P md l Q S J b (fuel+1) listed a w:=by
 have key:∀(n:Nat) (D:List (Option Nat)) (y:World),cN D=n->D.length=J.length->Ext w y->gD b y J D->S y->wpAnyH P md l.toArray Q S (fuel+1+cN D) (lP J (D.map Option.isSome) listed) (aD J D a) y:=by
  intro n;induction n using Nat.strongRecOn with
  |ind n ih=>
  intro D y hn hD x hg hSy;rw[show fuel+1+cN D=fuel+cN D+1 by omega];have hp:D.map Option.isSome∈pats J.length:=by have:=mem_pats (D.map Option.isSome);rwa[List.length_map,hD]at this
  have hc:=List.all_eq_true.1 hchk _ hp;rw[Bool.and_eq_true]at hc;obtain⟨e1,e2⟩:=off_eval hs hi (D:=D) (a:=a) hoff;refine wpAnyH_ready rfl (fun e=>by rw[e]at hc;exact absurd hc.1 dC) (fun k hk=> ?_);have hk2:=List.all_eq_true.1 hc.2 k hk;simp only[Bool.or_eq_true,beq_iff_eq,List.contains_iff_mem]at hk2;rcases hk2 with rfl|hk2
  ·refine wpOp_step (by rw[List.getElem?_toArray];exact hi) (fun K' hK=> ?_)
   rw[if_pos (by rw[e2];exact hw)];refine wp_call_op (by rw[e1];exact hv y) (hc0 y x) ?_;intro e x' h1;obtain⟨v,rfl,hf⟩:=h0 y e x' x h1;have hx:=hE _ _ _ h1;refine⟨v,rfl,hK _ _ ⟨hSx _ _ hSy hx,?_⟩⟩;rw[lP_set (idx_ne hne),aD_put (off_dst hoff),hl];exact hf D x' hD (Ext.refl _) (gD_ext hx hg) (hSx _ _ hSy hx)
  obtain⟨q,j,hjq,hDq,rfl⟩:=unm_mem hD hk2;obtain⟨oj,ho,hd,hgd,hnu,hvj⟩:=hJ.get hjq;have x1:Ext y (y.alloc (.cells j.zs.toArray j.T)):=(Ext.refl y).alloc _;refine wpOp_step (by rw[List.getElem?_toArray];exact ho) (fun K' hK=> ?_);rw[if_pos (by simp[Region.wanted,hgd])];unfold Oper.wp;rw[hvj];refine hK _ _ ⟨hSx _ _ hSy x1,?_⟩;rw[hd,lP_make (X:=y.heap.size) hnd hjq hDq,aD_make hnd hjq hDq];have hcn:=cN_make (X:=y.heap.size) hDq;have hlt:cN (D.set q (some y.heap.size))<n:=by omega
  have h3:=ih _ hlt (D.set q (some y.heap.size)) _ rfl (by rw[List.length_set];exact hD) (x.trans x1) (gD_make (Blk.new y _ _) (Nat.le_trans hb x.size) hjq hDq (gD_ext x1 hg) (fun Y hY=>gD_lt hD hg hY)) (hSx _ _ hSy x1);rw[show fuel+1+cN (D.set q (some y.heap.size))=fuel+cN D by omega]at h3;exact h3
 exact fun D y hD x hg hSy=>key _ D y rfl hD x hg hSy
theorem fn_end (hchk:((pats J.length).all fun p=>p.all id||(!(Region.ready md l.toArray (lP J p listed)).isEmpty&&(Region.ready md l.toArray (lP J p listed)).all fun k=>(unm J p).contains k))=true)
  (hnd:nd J=true)(hJ:FOk P l J)(hSx:∀x y,S x->Ext x y->S y)(hb:b.heap.size<=w.heap.size)
  (h:∀(D:List (Option Nat)) (y:World),D.length=J.length->cN D=0->Ext w y->gD b y J D->S y->wpAnyH P md l.toArray Q S fuel (lP J (D.map Option.isSome) listed) (aD J D a) y):FN P md l Q S J b fuel listed a w:=by
 have allsome:∀D:List (Option Nat),(D.map Option.isSome).all id=true->cN D=0:=by
  intro D;induction D with
  |nil=>intro _;rfl
  |cons x D ih=>
   intro hh;cases x with
   |none=>simp at hh
   |some X=>exact ih (by simpa using hh)
 have key:∀(n:Nat) (D:List (Option Nat)) (y:World),cN D=n->D.length=J.length->Ext w y->gD b y J D->S y->wpAnyH P md l.toArray Q S (fuel+cN D) (lP J (D.map Option.isSome) listed) (aD J D a) y:=by
  intro n;induction n using Nat.strongRecOn with
  |ind n ih=>
  intro D y hn hD x hg hSy;by_cases h0:cN D=0
  ·rw[h0]
   exact h D y hD h0 x hg hSy
  have hp:D.map Option.isSome∈pats J.length:=by have:=mem_pats (D.map Option.isSome);rwa[List.length_map,hD]at this
  have hc:=List.all_eq_true.1 hchk _ hp;rw[Bool.or_eq_true,Bool.and_eq_true]at hc;rcases hc with hc|hc
  ·exact absurd (allsome D hc) h0
  obtain⟨c,hcc⟩:∃c,cN D=c+1:=⟨cN D-1,by omega⟩;rw[hcc,show fuel+(c+1)=fuel+c+1 by omega];refine wpAnyH_ready rfl (fun e=>by rw[e]at hc;exact absurd hc.1 dC) (fun k hk=> ?_);have hk2:=List.all_eq_true.1 hc.2 k hk;rw[List.contains_iff_mem]at hk2;obtain⟨q,j,hjq,hDq,rfl⟩:=unm_mem hD hk2;obtain⟨oj,ho,hd,hgd,hnu,hvj⟩:=hJ.get hjq;have x1:Ext y (y.alloc (.cells j.zs.toArray j.T)):=(Ext.refl y).alloc _;refine wpOp_step (by rw[List.getElem?_toArray];exact ho) (fun K' hK=> ?_);rw[if_pos (by simp[Region.wanted,hgd])];unfold Oper.wp;rw[hvj];refine hK _ _ ⟨hSx _ _ hSy x1,?_⟩;rw[hd,lP_make (X:=y.heap.size) hnd hjq hDq,aD_make hnd hjq hDq];have hcn:=cN_make (X:=y.heap.size) hDq;have hlt:cN (D.set q (some y.heap.size))<n:=by omega
  have h3:=ih _ hlt (D.set q (some y.heap.size)) _ rfl (by rw[List.length_set];exact hD) (x.trans x1) (gD_make (Blk.new y _ _) (Nat.le_trans hb x.size) hjq hDq (gD_ext x1 hg) (fun Y hY=>gD_lt hD hg hY)) (hSx _ _ hSy x1);rw[show cN (D.set q (some y.heap.size))=c by omega]at h3;exact h3
 exact fun D y hD x hg hSy=>key _ D y rfl hD x hg hSy
theorem Hp.addFree {w0 w:World}{m:List Ent}{g:Nat}{t:TypeId}{cs:List Value}(h:Hp w0 w m)(hb:Blk w g t cs.toArray)(hf:∀(q k:Nat) (e:Ent),m[q]?=some e->e.own=some k->k≠g)(hg:w0.heap.size<=g)(hn:NoUL cs):Hp w0 w (m++[.blk g t cs]):=
  h.add ⟨hg,hb,hn⟩ (fun i f hf2 k hk e=>by
    injection e with e
    exact hf i k f hf2 hk e.symm)
theorem cN_two {D:List (Option Nat)}(hl:D.length=2)(h:cN D=0):∃X Y,D=[some X,some Y]:=by
  match D,hl,h with
  | [some X,some Y],_,_=>exact⟨X,Y,rfl⟩
  | [none,_],_,h=>simp[cN]at h
  | [some _,none],_,h=>simp[cN]at h
theorem cN_three {D:List (Option Nat)}(hl:D.length=3)(h:cN D=0):∃X Y Z,D=[some X,some Y,some Z]:=by
  match D,hl,h with
  | [some X,some Y,some Z],_,_=>exact⟨X,Y,Z,rfl⟩
  | [none,_,_],_,h=>simp[cN]at h
  | [some _,none,_],_,h=>simp[cN]at h
  | [some _,some _,none],_,h=>simp[cN]at h
theorem fn_end2 {j1 j2:FJ}{w0:World}{m:List Ent}{lt:Array Bool}(hchk:((pats 2).all fun p=>p.all id||(!(Region.ready md l.toArray (lP [j1,j2] p listed)).isEmpty&&(Region.ready md l.toArray (lP [j1,j2] p listed)).all fun k=>(unm [j1,j2] p).contains k))=true)
  (hnd:nd [j1,j2]=true)(hJ:FOk P l [j1,j2])(hSx:∀x y,S x->Ext x y->S y)(hb:b.heap.size<=w.heap.size)(hB:Hp w0 b m)(hH:Hp w0 w m)(hlt:lP [j1,j2] [true,true] listed=lt)
  (h:∀X Y y,Ext w y->Hp w0 y (m++[.blk X j1.T j1.zs]++[.blk Y j2.T j2.zs])->b.heap.size<=X->b.heap.size<=Y->S y->wpAnyH P md l.toArray Q S fuel lt ((a.put j1.d (.pointer (some ⟨X,0,none⟩))).put j2.d (.pointer (some ⟨Y,0,none⟩))) y):FN P md l Q S [j1,j2] b fuel listed a w:=by
 refine fn_end hchk hnd hJ hSx hb (fun D y hD hc x hg hSy=> ?_);obtain⟨X,Y,rfl⟩:=cN_two hD hc;obtain⟨⟨b1,z1,n1⟩,⟨b2,z2,_⟩,_⟩:=hg;have hlt':lP [j1,j2] (List.map Option.isSome [some X,some Y]) listed=lt:=hlt;rw[hlt'];have z0:=hB.ext.size;refine h X Y y x ?_ z1 z2 hSy;obtain⟨_,_,_,_,nu1,_⟩:=hJ.1;obtain⟨_,_,_,_,nu2,_⟩:=hJ.2.1;have h1:=(hH.step x).addFree b1 (fun q k e hq hk=>by have:=hB.lt hq hk;omega) (Nat.le_trans z0 z1) nu1;refine h1.addFree b2 (fun q k e hq hk=> ?_) (Nat.le_trans z0 z2) nu2;rcases List.mem_append.1 (List.mem_of_getElem? hq)with hm|hm
 ·obtain⟨q2,hq2⟩:=List.mem_iff_getElem?.1 hm
  have:=hB.lt hq2 hk;omega
 rw[List.mem_singleton]at hm;subst hm;injection hk with hk
 subst hk;intro e2;subst e2;exact n1 (List.mem_singleton.2 rfl)
theorem fn_end3 {j1 j2 j3:FJ}{w0:World}{m:List Ent}{lt:Array Bool}(hchk:((pats 3).all fun p=>p.all id||(!(Region.ready md l.toArray (lP [j1,j2,j3] p listed)).isEmpty&&(Region.ready md l.toArray (lP [j1,j2,j3] p listed)).all fun k=>(unm [j1,j2,j3] p).contains k))=true)
  (hnd:nd [j1,j2,j3]=true)(hJ:FOk P l [j1,j2,j3])(hSx:∀x y,S x->Ext x y->S y)(hb:b.heap.size<=w.heap.size)(hB:Hp w0 b m)(hH:Hp w0 w m)(hlt:lP [j1,j2,j3] [true,true,true] listed=lt)
  (h:∀X Y Z y,Ext w y->Hp w0 y (m++[.blk X j1.T j1.zs]++[.blk Y j2.T j2.zs]++[.blk Z j3.T j3.zs])->b.heap.size<=X->b.heap.size<=Y->b.heap.size<=Z->S y->wpAnyH P md l.toArray Q S fuel lt (((a.put j1.d (.pointer (some ⟨X,0,none⟩))).put j2.d (.pointer (some ⟨Y,0,none⟩))).put j3.d (.pointer (some ⟨Z,0,none⟩))) y):FN P md l Q S [j1,j2,j3] b fuel listed a w:=by
 refine fn_end hchk hnd hJ hSx hb (fun D y hD hc x hg hSy=> ?_);obtain⟨X,Y,Z,rfl⟩:=cN_three hD hc;obtain⟨⟨b1,z1,n1⟩,⟨b2,z2,n2⟩,⟨b3,z3,_⟩,_⟩:=hg;have hlt':lP [j1,j2,j3] (List.map Option.isSome [some X,some Y,some Z]) listed=lt:=hlt;rw[hlt'];have z0:=hB.ext.size;refine h X Y Z y x ?_ z1 z2 z3 hSy;obtain⟨_,_,_,_,nu1,_⟩:=hJ.1;obtain⟨_,_,_,_,nu2,_⟩:=hJ.2.1;obtain⟨_,_,_,_,nu3,_⟩:=hJ.2.2.1;have h1:=(hH.step x).addFree b1 (fun q k e hq hk=>by have:=hB.lt hq hk;omega) (Nat.le_trans z0 z1) nu1;have h2:Hp w0 y (m++[.blk X j1.T j1.zs]++[.blk Y j2.T j2.zs]):=by
  refine h1.addFree b2 (fun q k e hq hk=> ?_) (Nat.le_trans z0 z2) nu2;rcases List.mem_append.1 (List.mem_of_getElem? hq)with hm|hm
  ·obtain⟨q2,hq2⟩:=List.mem_iff_getElem?.1 hm
   have:=hB.lt hq2 hk;omega
  rw[List.mem_singleton]at hm;subst hm;injection hk with hk
  subst hk;intro e2;subst e2;exact n1 (by simp)
 refine h2.addFree b3 (fun q k e hq hk=> ?_) (Nat.le_trans z0 z3) nu3;rcases List.mem_append.1 (List.mem_of_getElem? hq)with hm|hm
 ·rcases List.mem_append.1 hm with hm|hm
  ·obtain⟨q2,hq2⟩:=List.mem_iff_getElem?.1 hm
   have:=hB.lt hq2 hk;omega
  rw[List.mem_singleton]at hm;subst hm;injection hk with hk
  subst hk;intro e2;subst e2;exact n1 (by simp)
 rw[List.mem_singleton]at hm;subst hm;injection hk with hk
 subst hk;intro e2;subst e2;exact n2 (by simp)
end
section
variable {P:Program} {l:List Oper} {Q:Exit->Act->World->Prop} {md:Region.Mode} {S:World->Prop} {b w:World} {J:List FJ} {i:Nat} {fuel:Nat} {listed li:Array Bool} {a:Act} {oi:Oper} {v:Value}
theorem gT {a':Act}(i:Nat)(li:Array Bool)(v:Value)(h:FN P md l Q S J b fuel li a' w)(hi:l[i]?=some oi:=by rfl)(hs:Region.noSelect l.toArray=true:=by kernel_rfl)(hchk:((pats J.length).all fun p=>Region.free md l.toArray (lP J p listed) i&&(Region.ready md l.toArray (lP J p listed)).contains i)=true:=by kernel_rfl)(hne:(J.all fun j=>j.i != i)=true:=by kernel_rfl)(hoff:(J.all fun j=>offSlot l oi j.d)=true:=by kernel_rfl)(hQ:∀c a w,Q (.panic c) (a.put oi.dst v) w->Q (.panic c) a w:=by intro _ _ _ h;exact h)(hw:Region.wanted oi (yielded l.toArray a.tmps)=true:=by rfl)(hv:∀w,S w->(execOp a.eval oi).run P w= .ok (.value v) w:=by intro w hSw;go_simp<;>with_reducible rfl)(hl:listed.setIfInBounds i true=li:=by kernel_rfl)(ha:a.put oi.dst v=a':=by (try simp only[Act.put,zA,zB,zC]);rfl):FN P md l Q S J b (fuel+1) listed a w:=by subst ha;exact fn_take hi hs hchk hne hoff hQ (y_val hw hv) hl h
theorem gN {f:FuncId}{args:Array Value}{Φ:World->Ending->World->Prop}(i:Nat)(li:Array Bool)(hJ:FOk P l J)(hb:b.heap.size<=w.heap.size)(hc0:∀x,Ext w x->Calls P f args x (Φ x))(hE:∀x e x',Φ x e x'->Ext x x')(h0:∀x e x',Ext w x->Φ x e x'->∃v,e= .returned v/\FN P md l Q S J b fuel li (a.put oi.dst v) x')(hi:l[i]?=some oi:=by rfl)(hs:Region.noSelect l.toArray=true:=by kernel_rfl)(hchk:((pats J.length).all fun p=> !(Region.ready md l.toArray (lP J p listed)).isEmpty&&(Region.ready md l.toArray (lP J p listed)).all fun k=>k==i||(unm J p).contains k)=true:=by kernel_rfl)(hne:(J.all fun j=>j.i != i)=true:=by kernel_rfl)(hoff:(J.all fun j=>offSlot l oi j.d)=true:=by kernel_rfl)(hnd:nd J=true:=by kernel_rfl)(hSx:∀x y,S x->Ext x y->S y:=by intro x y h1 h2;exact h1.trans h2)(hw:Region.wanted oi (yielded l.toArray a.tmps)=true:=by rfl)(hv:∀x:World,(execOp a.eval oi).run P x= .ok (.enter f args) x:=by intro x_;go_simp)(hl:listed.setIfInBounds i true=li:=by kernel_rfl):FN P md l Q S J b (fuel+1) listed a w:=fn_call hi hs hchk hne hoff hnd hJ hSx hb hw hv hl hc0 hE h0
theorem fk {j:FJ}{oj:Oper}(t:FOk P l J)(h1:l[j.i]?=some oj:=by rfl)(h2:oj.dst=j.d:=by rfl)(h3:oj.guard=none:=by rfl)(h4:NoUL j.zs:=by simp[NoUL])(h5:∀(ρ:Operand->Value) (x:World),(execOp ρ oj).run P x= .ok (.value (.pointer (some ⟨x.heap.size,0,none⟩))) (x.alloc (.cells j.zs.toArray j.T)):=by intro r_ x_;go_simp):FOk P l (j::J):=⟨⟨oj,h1,h2,h3,h4,h5⟩,t⟩
theorem gE2 {j1 j2:FJ}{w0:World}{m:List Ent}(lt:Array Bool)(hJ:FOk P l [j1,j2])(hb:b.heap.size<=w.heap.size)(hB:Hp w0 b m)(hH:Hp w0 w m)(h:∀X Y y,Ext w y->Hp w0 y (m++[.blk X j1.T j1.zs]++[.blk Y j2.T j2.zs])->b.heap.size<=X->b.heap.size<=Y->S y->wpAnyH P md l.toArray Q S fuel lt ((a.put j1.d (.pointer (some ⟨X,0,none⟩))).put j2.d (.pointer (some ⟨Y,0,none⟩))) y)(hchk:((pats 2).all fun p=>p.all id||(!(Region.ready md l.toArray (lP [j1,j2] p listed)).isEmpty&&(Region.ready md l.toArray (lP [j1,j2] p listed)).all fun k=>(unm [j1,j2] p).contains k))=true:=by kernel_rfl)(hnd:nd [j1,j2]=true:=by kernel_rfl)(hSx:∀x y,S x->Ext x y->S y:=by intro x y h1 h2;exact h1.trans h2)(hlt:lP [j1,j2] [true,true] listed=lt:=by kernel_rfl):FN P md l Q S [j1,j2] b fuel listed a w:=fn_end2 hchk hnd hJ hSx hb hB hH hlt h
theorem gE3 {j1 j2 j3:FJ}{w0:World}{m:List Ent}(lt:Array Bool)(hJ:FOk P l [j1,j2,j3])(hb:b.heap.size<=w.heap.size)(hB:Hp w0 b m)(hH:Hp w0 w m)(h:∀X Y Z y,Ext w y->Hp w0 y (m++[.blk X j1.T j1.zs]++[.blk Y j2.T j2.zs]++[.blk Z j3.T j3.zs])->b.heap.size<=X->b.heap.size<=Y->b.heap.size<=Z->S y->wpAnyH P md l.toArray Q S fuel lt (((a.put j1.d (.pointer (some ⟨X,0,none⟩))).put j2.d (.pointer (some ⟨Y,0,none⟩))).put j3.d (.pointer (some ⟨Z,0,none⟩))) y)(hchk:((pats 3).all fun p=>p.all id||(!(Region.ready md l.toArray (lP [j1,j2,j3] p listed)).isEmpty&&(Region.ready md l.toArray (lP [j1,j2,j3] p listed)).all fun k=>(unm [j1,j2,j3] p).contains k))=true:=by kernel_rfl)(hnd:nd [j1,j2,j3]=true:=by kernel_rfl)(hSx:∀x y,S x->Ext x y->S y:=by intro x y h1 h2;exact h1.trans h2)(hlt:lP [j1,j2,j3] [true,true,true] listed=lt:=by kernel_rfl):FN P md l Q S [j1,j2,j3] b fuel listed a w:=fn_end3 hchk hnd hJ hSx hb hB hH hlt h
end
end
section
attribute [local go_sem ↓] Go.wp_at_zero Go.wp_at_succ run_max_ii run_min_ii
end
section
attribute [local go_sem ↓] Go.wp_at_zero Go.wp_at_succ run_eql_point run_neq_point run_max_ii run_min_ii
theorem translate0_tr (u:Value)(rs:List Ring)(w:World)(hu:RingsV w u rs)(hv:okR rs=true)(hn:rs.length<=1048576):
  Calls Tryz.prog 60 #[u,.agg #[.int .i64 0,.int .i64 0]] w fun e w'=>∃v,e= .returned v/\Tr w.heap.size w' v rs/\Ext w w':=by
 have HT:=zH (okR_tot hv);have hrl:∀r,r∈rs->r.length<=4096:=fun r hr=>by
  obtain⟨k,hk⟩:=List.mem_iff_getElem?.1 hr;have h1:=tot_succ hk;have h2:=tot_take rs (k+1);have h3:=HT.out;omega
 have HRL:=zH hrl;have HV:=zH hv;have HC:=zH (fun W (hW:Ext w W)=>polyValid_any u rs W (hu.ext hW) hn (fun r hr=>Nat.le_trans (hrl r hr) (by decide)));have HU:=zH hu;obtain⟨Au,cu,rfl,_⟩:=hu;obtain⟨i0,hi,hz0,hz1,hz2⟩:=info_parts infoPt;have HI:=zH (And.intro hi (And.intro hz0 (And.intro hz1 hz2)));clear hi hz0 hz1 hz2 hrl;obtain⟨i1,hi,hz0,hz1,hz2⟩:=info_parts infoSl;have HJ:=zH (And.intro hi (And.intro hz0 (And.intro hz1 hz2)));clear hi hz0 hz1 hz2 hv;go_enter Tryz.func60,Tryz.ntmps60
 have hB:=Blk.new w 23 #[.int .i64 0,.int .i64 0];have hE:Ext w (w.alloc (.cells #[.int .i64 0,.int .i64 0] 23)):=(Ext.refl _).alloc _;go_upto_if 13 with(go_at_call 49;refine(HC.out _ hE).mono ?_;rintro e w1 ⟨rfl,hx1⟩)
 have hb0:(!okR rs)=false:=by rw[HV.out];rfl
 rw[hb0];have HX1:=zH (hE.trans hx1);have HB1:=zH (hB.ext hx1);clear hB hE hx1;generalize hX3:w.heap.size=X3 at HB1⊢
 have HX3:=zH hX3;clear hX3;go_wp2_with fail
 go_loopg [5,16] rs.length (fun c v i wr=>∃(k:Nat) (v2:Value),k<=rs.length/\c=rs.length-k/\i= .int .i64 k/\v2=v/\Tr w.heap.size wr v2 (rs.take k)/\Ext w wr/\Blk wr X3 23 #[.int .i64 0,.int .i64 0]/\v2.ownBlock≠some X3)
 case atStart=>exact⟨0,_,Nat.zero_le _,rfl,rfl,rfl,⟨[],RowN.nil _ _ _ _,rfl,fun i r h=>by simp at h⟩,HX1.out,HB1.out,by simp[Value.ownBlock]⟩
 clear HX1 HB1;obtain⟨k,v,hk,rfl,rfl,rfl,htr,hx,hb3,hvx⟩:=hrel;have HTR:=zH htr;have HX:=zH hx;have HB:=zH hb3;have HVX:=zH hvx;clear htr hx hb3 hvx;by_cases hlt:k<rs.length
 ·have hlt2:(k:Int)<(rs.length:Int):=by omega
  obtain⟨r,hr⟩:∃r,rs[k]?=some r:=⟨_,List.getElem?_eq_getElem hlt⟩;have hru:∃g off,Au=some ⟨g,off,none⟩/\∃B cb,w.cell? ⟨g,off+k,none⟩=some (.slice B r.length cb)/\PtsV w (.slice B r.length cb) r:=by
   obtain⟨A2,c2,hv2,h2⟩:=HU.out;injection hv2 with e1 _ _
   obtain⟨g,off,h3,h4⟩:=h2 (by omega);obtain⟨B,cb,h5,h6⟩:=h4 k r hr;exact⟨g,off,e1.trans h3,B,cb,h5,h6⟩
  obtain⟨g,off,rfl,B,cb,hc1,hp1⟩:=hru;have c1:=HX.out.get hc1;have HP:=zH (hp1.ext HX.out);have HRK:=zH hr;have hr4:=HRL.out r (List.mem_of_getElem? hr);have HLT:=zH hlt;have HTK:=zH (show rs.take (k+1)=rs.take k++[r]by rw[List.take_succ_eq_append_getElem hlt];congr 1;obtain⟨_,h⟩:=List.getElem?_eq_some_iff.1 hr;rw[h]);have hkl:(rs.take k).length=k:=by rw[List.length_take];omega
  have HKL:=zH hkl;clear hc1 hp1 hr hlt hkl;generalize wr=W0 at*
  go_wp2_with fail
  go_loopg [8,22] r.length (fun c u i wx=>∃(j:Nat) (u2:Value),j<=r.length/\c=r.length-j/\i= .int .i64 j/\u2=u/\RowN wx W0.heap.size 23 2 u2 (r.take j).length (ptCells (r.take j))/\Ext W0 wx)
  case atStart=>exact⟨0,_,Nat.zero_le _,rfl,rfl,rfl,RowN.nil _ _ _ _,Ext.refl _⟩
  clear c1;obtain⟨j,v8,hj,rfl,rfl,rfl,hrow,hx2⟩:=hrel;have HROW:=zH hrow;have HX2:=zH hx2;clear hrow hx2;by_cases hjl:j<r.length
  ·have hjl2:(j:Int)<(r.length:Int):=by omega
   obtain⟨p,hp⟩:∃p,r[j]?=some p:=⟨_,List.getElem?_eq_getElem hjl⟩;have hgb:∃gb ob,B=some ⟨gb,ob,none⟩/\wr.cell? ⟨gb,ob+j*2,none⟩=some (.int .i64 p.1)/\wr.cell? ⟨gb,ob+j*2+1,none⟩=some (.int .i64 p.2):=by
    obtain⟨A2,c2,hv2,h2⟩:=HP.out;injection hv2 with e1 _ _
    obtain⟨gb,ob,h3,h4⟩:=h2 (by rintro rfl;simp at hjl);obtain⟨h5,h6⟩:=(h4.ext HX2.out) j hjl;have hgd:r.getD j (0,0)=p:=by obtain⟨_,h⟩:=List.getElem?_eq_some_iff.1 hp;simp[List.getD,hjl,h]
    rw[hgd]at h5 h6;exact⟨gb,ob,e1.trans h3,h5,h6⟩
   obtain⟨gb,ob,rfl,q1,q2⟩:=hgb;have HPK:=zH (okR_pt HV.out HRK.out hp);have HJL:=zH hjl;have HTJ:=zH (show r.take (j+1)=r.take j++[p]by rw[List.take_succ_eq_append_getElem hjl];congr 1;obtain⟨_,h⟩:=List.getElem?_eq_some_iff.1 hp;rw[h]);have hjk:(r.take j).length=j:=by rw[List.length_take];omega
   have HJK:=zH hjk;have HRG:=zH (show World.rangeAt wr gb (ob+j*2) [.int .i64 p.1,.int .i64 p.2]from fun i v hv=>by
    match i,hv with
    |0,hv=>simp at hv;rw[<-hv];exact q1
    |1,hv=>simp at hv;rw[<-hv];exact q2)
   rw[hjk]at HROW;clear hp hjl q1 q2 hjk;go_upto_region 10 with fail
   refine wp_region_lit ?_;refine zq (.pointer (some ⟨gb,ob+j*2,none⟩)) ?_;refine wpList_if (by rfl) (wp_load_mid _ _ (by rfl) gb (ob+j*2) (by rfl) [.int .i64 p.1,.int .i64 p.2] _ HRG.out Tryz.underlying23 (by rfl) (by kernel_rfl) ?_);try simp only[Act.put,zA,zB,zC]
   refine zp (w':=wr.alloc (.cells #[.int .i64 0,.int .i64 0] 23)) (.pointer (some ⟨wr.heap.size,0,none⟩)) (by go_simp) ?_;refine pO #[.int .i64 p.1,.int .i64 p.2] (Blk.new wr _ _) rfl (by kernel_rfl) (all_oneCell_toArray (one_pt p)) ?_
   (try simp only[Act.put])
   obtain⟨xq1,xq2⟩:=new_var wr 23 #[.int .i64 0,.int .i64 0] #[.int .i64 p.1,.int .i64 p.2] rfl;generalize (wr.alloc (.cells #[.int .i64 0,.int .i64 0] 23)).setCells wr.heap.size 0 (#[.int .i64 p.1,.int .i64 p.2]:Array Value).toList=w4 at*
   generalize wr.heap.size=X10 at*
   have HX4:=zH (HX2.out.trans xq1);have HB10:=zH xq2;have HROW4:=zH (HROW.out.ext xq1);clear xq1 xq2 HRG HROW;go_upto_region 11 with fail
   refine wp_region_lit ?_;refine zq (v8) ?_;refine pL HB10.out Tryz.underlying23 (by kernel_rfl) ?_;try simp only[Act.put,zA,zB,zC]
   refine pL (HB.out.ext HX4.out) Tryz.underlying23 (by kernel_rfl) ?_;try simp only[Act.put,zA,zB,zC]
   refine mv_call (by rfl) (by go_simp) (add0_any p.1 p.2 _ HPK.out) ?_;rintro e w5 ⟨rfl,hx⟩;have HEw5:=zH (show Ext w4 w5 from((Ext.refl w4)).trans hx);clear hx;refine⟨_,rfl,?_⟩;try simp only[Act.put,zA,zB,zC]
   have hAE:Ext w4 (w5.alloc (.cells #[.int .i64 p.1,.int .i64 p.2] 23)):=HEw5.out.alloc _;have hbz:=(HX4.out.trans hAE).size;have hj4:j<=4096:=by omega
   refine zp (w':=(w5.alloc (.cells #[.int .i64 p.1,.int .i64 p.2] 23))) (.slice (some ⟨w5.heap.size,0,none⟩) 1 1) (by go_simp) ?_;refine wpList_if (by rfl) (wp_append_rowF _ _ 54 (by rfl) W0.heap.size 23 i0 _ 2 16 Tryz.underlying54 HI.out.1 HI.out.2.1 HI.out.2.2.1 HI.out.2.2.2 rfl (by decide) noUL_zpt _ j (ptCells (r.take j)) (by rfl) (HROW4.out.ext hAE) ⟨w5.heap.size,0,none⟩ 1 1 [.int .i64 p.1,.int .i64 p.2] (by rfl) rfl (two_new _ _ _ _) (one_pt p) (noUL_pt p) (by decide) (by unfold maxLen;omega) (by omega) hbz ?_);intro gx cx w8 hf h2 h3 h4;try simp only[Act.put,zA,zB,zC]
   have HSN:=zH (show RowN w8 W0.heap.size 23 2 (.slice (some ⟨gx,0,none⟩) (j+1) cx) (r.take (j+1)).length (ptCells (r.take (j+1)))by rw[HTJ.out,ptCells_snoc,List.length_append,HJK.out];exact h2);have HXn:=zH (show Ext W0 w8 from(HX4.out.trans hAE).grown h3 (fun j hj=>(HROW4.out.ext hAE).block j hj));clear h2 h3 h4 hf hAE hbz;refine zp (w':=w8) (.slice (some ⟨gx,0,none⟩) (j+1) cx) (by go_simp) ?_;go_wp2_with fail
   go_roundg (r.length-(j+1))
   case measure=>have:=HJL.out;omega
   case rel=>exact⟨j+1,_,HJL.out,rfl,by go_num,rfl,HSN.out,HXn.out⟩
  obtain rfl:j=r.length:=by omega
  have hge:¬(r.length:Int)<(r.length:Int):=by omega
  obtain⟨Bn,cn,rfl,hpt,hbn⟩:=RowN.pts (ps:=r) (by have h:=HROW.out;rwa[List.take_of_length_le (Nat.le_refl _)]at h);have HPT:=zH hpt;have HBN:=zH hbn;have HTR2:=zH (HTR.out.ext HX2.out);have HX3':=zH (HX.out.trans HX2.out);have HB2:=zH (HB.out.ext HX2.out);have HLB:=zH (show∀A,Bn=some A->A.block<wr.heap.size from fun A hA=>by
   subst hA;obtain⟨_,⟨hv,_⟩|⟨g2,c2,r2,hv,_,hB2,_⟩⟩:=HROW.out
   ·cases hv
   injection hv with e1 _ _;injection e1 with e1;rw[e1];exact hB2.lt)
  have HVB:=zH (show∀j,v.ownBlock=some j->j<W0.heap.size from fun j hj=>by
   obtain⟨vs,h1,_⟩:=HTR.out;obtain⟨_,⟨rfl,_⟩|⟨g2,c2,r2,rfl,_,hB2,_⟩⟩:=h1
   ·simp[Value.ownBlock]at hj
   simp[Value.ownBlock]at hj;rw[<-hj];exact hB2.lt)
  clear hpt hbn HROW;go_upto_region 13 with fail
  refine wp_region_lit ?_;refine qV (v) ?_;refine zq (.slice Bn r.length cn) ?_;have hAE:Ext wr (wr.alloc (.cells #[.slice Bn r.length cn] 54)):=(Ext.refl _).alloc _;obtain⟨vs,hv1,hv2,hv3⟩:=HTR2.out.ext hAE;have hbz:=(HX3'.out.trans hAE).size;have hk4:k<=1048576:=by have:=HLT.out;omega
  refine zp (w':=(wr.alloc (.cells #[.slice Bn r.length cn] 54))) (.slice (some ⟨wr.heap.size,0,none⟩) 1 1) (by go_simp) ?_;refine wpList_if (by rfl) (wp_append_rowF _ _ 55 (by rfl) w.heap.size 54 i1 _ 1 24 Tryz.underlying55 HJ.out.1 HJ.out.2.1 HJ.out.2.2.1 HJ.out.2.2.2 rfl (by decide) noUL_zsl _ k vs (by rfl) (by have h:=hv1;rwa[HKL.out]at h) ⟨wr.heap.size,0,none⟩ 1 1 [.slice Bn r.length cn] (by rfl) rfl (one_new _ _ _) (by simp[Value.oneCell']) (by intro x hx q;simp at hx;rw[hx];simp) (by decide) (by unfold maxLen;omega) (by omega) hbz ?_);intro gx cx w8 hf h2 h3 h4;try simp only[Act.put,zA,zB,zC]
  skip
  have hsn:=Tr.snoc (HTR2.out.ext hAE) HKL.out (r:=r) (s:= .slice Bn r.length cn) rfl (HPT.out.ext hAE) (fun A hA=>⟨fun e=>by have q1:=HVB.out _ e;have q2:=HBN.out A hA;omega,Nat.lt_of_lt_of_le (HLB.out A hA) hAE.size⟩) (fun A hA=>by have q2:=HBN.out A hA;have q3:=HX.out.size;omega) vs ⟨vs,hv1,hv2,rfl,hv3⟩ h2 h3 hf;have HSN:=zH (show Tr w.heap.size w8 (.slice (some ⟨gx,0,none⟩) (k+1) cx) (rs.take (k+1))by rw[HTK.out];exact hsn);have HXn:=zH (show Ext w w8 from(HX3'.out.trans hAE).grown h3 (fun j hj=>hv1.block j hj));have HBn:=zH ((HB2.out.ext hAE).grown h3 HVX.out);have HVn:=zH (show(Value.slice (some ⟨gx,0,none⟩) (k+1) cx).ownBlock≠some X3 from fun e=>by simp[Value.ownBlock]at e;rcases hf with hf|hf;exact HVX.out (by rw[<-e];exact hf);have:=HB2.out.lt;have:=hAE.size;omega);clear h2 h3 h4 hf hAE hbz hsn hv1 hv2 hv3;refine zp (w':=w8) (.slice (some ⟨gx,0,none⟩) (k+1) cx) (by go_simp) ?_;go_wp2_with fail
  go_roundg (rs.length-(k+1))
  case measure=>have:=HLT.out;omega
  case rel=>exact⟨k+1,_,HLT.out,rfl,by go_num,rfl,HSN.out,HXn.out,HBn.out,HVn.out⟩
 obtain rfl:k=rs.length:=by omega
 have hge:¬(rs.length:Int)<(rs.length:Int):=by omega
 have HR:=zH (show Tr w.heap.size wr v rs from by have h:=HTR.out;rwa[List.take_of_length_le (Nat.le_refl _)]at h);go_wp2_with fail
 go_ret
 exact⟨_,rfl,HR.out,HX.out⟩
end
section
def edgeAt (r:Ring)(i:Nat):Option ((Int×Int)×(Int×Int)):=
  match r[i]?,r[(i+1)%r.length]?with
  |some a,some b=>if a=b then none else some (a,b)
  |_,_=>none
def ringEn (r:Ring)(n:Nat):List ((Int×Int)×(Int×Int)):=(List.range n).filterMap (edgeAt r)
def edgesV (rs:List Ring):List ((Int×Int)×(Int×Int)):=rs.flatMap fun r=>ringEn r r.length
theorem edgeAt_some {r:Ring}{i:Nat}{a b:Int×Int}(ha:r[i]?=some a)(hb:r[(i+1)%r.length]?=some b):edgeAt r i=if a=b then none else some (a,b):=by
  unfold edgeAt;rw[ha,hb]
theorem ringEn_succ_none {r:Ring}{n:Nat}(h:edgeAt r n=none):ringEn r (n+1)=ringEn r n:=by
  unfold ringEn;rw[List.range_succ,List.filterMap_append];simp[h]
theorem ringEn_succ_some {r:Ring}{n:Nat}{e:(Int×Int)×(Int×Int)}(h:edgeAt r n=some e):ringEn r (n+1)=ringEn r n++[e]:=by
  unfold ringEn;rw[List.range_succ,List.filterMap_append];simp[h]
theorem ringEn_le {r:Ring}{n m:Nat}(h:n<=m):ringEn r n<+:ringEn r m:=by
  unfold ringEn;obtain⟨d,rfl⟩:=Nat.exists_eq_add_of_le h;rw[List.range_add,List.filterMap_append];exact List.prefix_append _ _
theorem edgesV_take {rs:List Ring}{k:Nat}{r:Ring}(h:rs[k]?=some r):edgesV (rs.take (k+1))=edgesV (rs.take k)++ringEn r r.length:=by
  unfold edgesV;rw[List.take_add_one,h];simp
theorem edgesV_prefix (rs:List Ring)(k:Nat):edgesV (rs.take k)<+:edgesV rs:=by
  conv=>rhs;rw[<-List.take_append_drop k rs]
  unfold edgesV;rw[List.flatMap_append];exact List.prefix_append _ _
theorem edges_pre {rs:List Ring}{k n:Nat}{r:Ring}(h:rs[k]?=some r)(hn:n<=r.length):edgesV (rs.take k)++ringEn r n<+:edgesV rs:=by
  refine List.IsPrefix.trans ?_ (edgesV_prefix rs (k+1));rw[edgesV_take h];exact(List.prefix_append_right_inj _).2 (ringEn_le hn)
theorem ringEn_len (r:Ring)(n:Nat):(ringEn r n).length<=n:=by
  unfold ringEn;have:=List.length_filterMap_le (edgeAt r) (List.range n);simpa using this
theorem foldl_len (rs:List Ring):∀n:Nat,rs.foldl (fun n r=>n+r.length) n=n+rs.foldl (fun n r=>n+r.length) 0:=by
  induction rs with
  |nil=>intro n;simp
  |cons r rs ih=>intro n;rw[List.foldl_cons,List.foldl_cons,ih (n+r.length),ih (0+r.length)];omega
theorem edgesV_len (rs:List Ring):(edgesV rs).length<=tot rs:=by
  unfold tot;induction rs with
  |nil=>simp[edgesV]
  | cons r rs ih=>
    have h1:=ringEn_len r r.length;have h2:edgesV (r::rs)=ringEn r r.length++edgesV rs:=by simp[edgesV]
    rw[h2,List.length_append,List.foldl_cons,foldl_len];omega
end
section
attribute [local go_sem ↓] Go.wp_at_zero Go.wp_at_succ run_eql_point run_neq_point
end
section
attribute [local go_sem ↓] Go.wp_at_zero Go.wp_at_succ run_max_ii run_min_ii
end
section
attribute [local go_sem ↓] Go.wp_at_zero Go.wp_at_succ
end
section
attribute [local go_sem ↓] Go.wp_at_zero Go.wp_at_succ run_max_ii run_min_ii
end
section
abbrev QI:=Rat×Int
end
namespace mrk
attribute [local go_sem ↓] Go.wp_at_zero Go.wp_at_succ run_max_ii run_min_ii
end mrk
section
open Go.RowKit Go.Shelf
section
variable {P:Program} {n l:Nat} {Q:Exit->Act->World->Prop}
theorem rowsIn_of {row:String}{args:Array Value}{w:World}{R:Value->World->Prop}(h:Rows P row args w R):RowsIn (Fence.wide.inRound l) n P row args w R:=fun c cs _=>
  let ⟨v,w',r,s⟩:=h c cs
  ⟨v,w',r,stepsIn_wide.2 s⟩
theorem opIn_of {o:Oper}{a:Act}{w:World}{K:Act->World->Prop}(ho:∀c,o.op≠ .defer c)(_hQ:¬LetsOut Q)(h:o.wp P a w K Q):o.wpIn (Fence.wide.inRound l) n P a w K Q:=by
 unfold Oper.wp at h;refine⟨fun _ _=>trivial,?_⟩;rw[Oper.semAt_eq _ _ _ ho];generalize (execOp a.eval o).run P w=r at h
 cases r with
 |ok x w'=>
  cases x<;>simp only[Oper.upon]at h<;>simp only[Oper.uponIn];case value=>exact h
  case skip=>exact h
  case defer=>exact h
  case enter=>exact⟨fun hd=>by simp[Fence.wide]at hd,CallsIn.inRound l (callsIn_wide.2 h)⟩
  case row=>exact⟨fun hd=>by simp[Fence.wide]at hd,rowsIn_of h⟩
 |halt x w'=>cases x<;>simp only[Oper.upon]at h<;>simp only[Oper.uponIn]<;>exact h
def noDefer (ops:List Oper):Bool:=ops.all fun o=>match o.op with| .defer _=>false|_=>true
theorem noDefer_spec {ops:List Oper}(h:noDefer ops=true){o:Oper}(ho:o∈ops):∀c,o.op≠ .defer c:=by
  intro c e;have:=List.all_eq_true.1 h o ho;rw[e]at this;cases this
theorem anyIn_of {md:Region.Mode}{ops:Array Oper}(hd:noDefer ops.toList=true)(hQ:¬LetsOut Q):∀(fuel:Nat) (listed:Array Bool) (a:Act) (w:World),wpAny P md ops Q fuel listed a w->wpAnyIn (Fence.wide.inRound l) n P md ops Q fuel listed a w
  |0,_,_,_,h=>h
  | fuel+1,listed,a,w,h=>⟨h.1,fun i hi=>by
    have h2:=h.2 i hi;unfold wpOp at h2;unfold wpOpIn;cases ho:ops[i]?with
    |none=>rw[ho]at h2;exact anyIn_of hd hQ fuel _ _ _ h2
    | some o=>
      rw[ho]at h2;simp only at h2⊢;split
      · rename_i hw
        rw[if_pos hw]at h2;rcases h2 with h2|⟨_,h3⟩
        · exact Oper.wpIn_mono (fun a' w' h4=>anyIn_of hd hQ fuel _ _ _ h4) (opIn_of (noDefer_spec hd (by
            have h5:=Array.mem_of_getElem? ho;exact h5.1)) hQ h2)
        exact absurd h3 hQ
      rename_i hw;rw[if_neg hw]at h2;exact⟨fun _ _=>trivial,anyIn_of hd hQ fuel _ _ _ h2⟩⟩
theorem listIn_of {ops:Array Oper}(hQ:¬LetsOut Q):∀(rest:List Oper) (_:noDefer rest=true) (a:Act) (w:World),wpList P ops Q rest a w->wpListIn (Fence.wide.inRound l) n P ops Q rest a w
 | [],_,_,_,h=>h
 |o::rest,hd,a,w,h=>by
  unfold wpList at h;unfold wpListIn;have hd2:noDefer rest=true:=by
   unfold noDefer at hd⊢;rw[List.all_cons,Bool.and_eq_true]at hd;exact hd.2
  split
  ·rename_i hw
   rw[if_pos hw]at h;rcases h with h|⟨_,h3⟩
   ·exact Oper.wpIn_mono (fun a' w' h4=>listIn_of hQ rest hd2 a' w' h4) (opIn_of (noDefer_spec hd (by simp)) hQ h)
   exact absurd h3 hQ
  rename_i hw;rw[if_neg hw]at h;exact⟨fun _ _=>trivial,listIn_of hQ rest hd2 _ _ h⟩
theorem wpIn_region_held_drew {id:Nat}{ops:Array Oper}{S:World->Prop}{a:Act}{w:World}(hm:P.follows .mixedOrders=true)(hd:noDefer ops.toList=true)(hQ:¬LetsOut Q)(hS:S w.drew)
    (h:S w.drew->wpAnyH P .any ops Q S ops.size (Array.replicate ops.size false) a w.drew):(Code.region id ops true).wpIn (Fence.wide.inRound l) n P Q a w:=
  wpIn_region_any hm (anyIn_of hd hQ _ _ _ _ (wpAny_of_held _ _ _ _ (h hS)))
theorem wpIn_region_plain {id:Nat}{ops:List Oper}{a:Act}{w:World}(hd:noDefer ops=true)(hQ:¬LetsOut Q)(h:wpList P ops.toArray Q ops a w):(Code.region id ops.toArray false).wpIn (Fence.wide.inRound l) n P Q a w:=
  wpIn_region_lit (listIn_of hQ _ hd _ _ h)
end
end
section
structure MkE where
  a:RV
  q:Rat
  up:Int
def MkE.cells (e:MkE):List Value:=[.bool e.a.n,.slice e.a.p e.a.l e.a.c,.bool e.a.m,.slice e.a.p2 e.a.l2 e.a.c2,.int .i64 e.up]
theorem MkE.len (e:MkE):e.cells.length=5:=rfl
theorem MkE.one (e:MkE):∀v,v∈e.cells->v.oneCell'=true:=by simp[MkE.cells,Value.oneCell']
theorem MkE.noU (e:MkE):NoUL e.cells:=by simp[NoUL,MkE.cells]
def MkE.vl (e:MkE):QI:=(e.q,e.up)
def MkE.Ok (L:Nat)(w:World)(e:MkE):Prop:=e.a.Is w e.q/\Nm.rl e.q<=L/\ -1<=e.up/\e.up<=1
theorem MkE.Ok.dig {L:Nat}{w w':World}{e:MkE}(h:e.Ok L w)(d:Dig w w'):e.Ok L w':=⟨h.1.dig d,h.2⟩
theorem Dig.kept {w w':World}{r:Option Nat}(hg:w.grownBy w' r)(hr:∀k,r=some k->∃o:Obj,w.heap[k]?=some o/\o.isCells=false):Dig w w':=by
 intro v xs h;obtain⟨p,cap,rfl,hc,hd,hp⟩:=h;refine⟨p,cap,rfl,hc,hd,fun h0=> ?_⟩;obtain⟨b,o,rfl,hb⟩:=hp h0;refine⟨b,o,rfl,fun i hi=> ?_⟩;have h1:=hb i hi;have hne:¬(some b=r):=fun e=>by
  obtain⟨ob,h2,h3⟩:=hr b e.symm;cases ob with
  |cells cs t fz=>cases h3
  |_=>simp[World.cell?,h2]at h1
 rw[World.cell?_of_block (hg.block b (World.block_lt_of_cell? w ⟨b,o+i,none⟩ h1) hne)];exact h1
theorem Hp.kept {w0 w w':World}{m:List Ent}{r:Option Nat}(h:Hp w0 w m)(hg:w.grownBy w' r)(hr:∀k,r=some k->w0.heap.size<=k/\∃o:Obj,w.heap[k]?=some o/\o.isCells=false):Hp w0 w' m:=by
 refine⟨h.ext.grown hg (fun k hk=>(hr k hk).1),fun i e he=>(h.all i e he).kept hg (fun k hk hrk=> ?_),h.apart⟩;obtain⟨o,h2,h3⟩:=(hr k hrk).2;cases e with
 |blk g t cs=>
  injection hk with hk
  subst hk;have:=h.blk he;unfold Blk at this;rw[h2]at this;injection this with this
  rw[this]at h3;cases h3
 |row t size v n xs=>
  obtain⟨h4,⟨rfl,_⟩|⟨g,cap,rest,rfl,a,hb,c⟩⟩:=h.row he
  ·simp[Ent.own,Value.ownBlock]at hk
  have hk:g=k:=by simpa[Ent.own,Value.ownBlock]using hk
  subst hk;unfold Blk at hb;rw[h2]at hb;injection hb with hb
  rw[hb]at h3;cases h3
end
section
open Go.RowKit Go.Shelf
attribute [local go_sem] Oper.semAt_some
attribute [local go_sem ↓] Go.wp_at_zero Go.wp_at_succ run_eql_point run_neq_point run_max_ii run_min_ii
def ptVal2 (x:Int×Int):Value:= .agg #[.int .i64 x.1,.int .i64 x.2]
def RingsO (ok:Nat->Prop)(w:World)(v:Value)(rs:List Ring):Prop:=
  ∃(A:Option Addr) (cap:Nat),v= .slice A rs.length cap/\(0<rs.length->∃g off,A=some ⟨g,off,none⟩/\ok g/\∀i r,rs[i]?=some r->∃B cb,w.cell? ⟨g,off+i,none⟩=some (.slice B r.length cb)/\PtsV w (.slice B r.length cb) r/\∀A,B=some A->ok A.block)
theorem edges1_in (m:Nat)(hm:1<=m)(l Bx N:Nat)(G:Nat->Prop)(u:Value)(rs:List Ring)(J Jx:List ((Int×Int)×(Int×Int))->World->Prop)(w:World)
  (hcb:w.cell? ⟨Bx,0,none⟩=some u)(_hGb:¬G Bx)(hR:RingsO (fun k=>¬G k) w u rs)(hrl:∀r,r∈rs->r.length<=4096)(hrs:rs.length<=1048576)
  (hJ:∀s A B,J s A->Ext A B->J s B)
  (hY:∀pre x W,J pre W->pre.length<N->x∈edgesV rs->YieldAt Fence.wide (m-1) Tryz.prog l #[ptVal2 x.1,ptVal2 x.2] W fun e W'=>(e= .returned (.bool true)/\J (pre++[x]) W'/\Fr G W W')\/(e= .returned (.bool false)/\Jx (pre++[x]) W'))
  (hN:(edgesV rs).length<=N)(h0:J [] w):
  CallsIn Fence.wide m Tryz.prog 61 #[.func (.yield l) #[] #[],.pointer (some ⟨Bx,0,none⟩)] w fun e W'=>(∃v,e= .returned v)/\
   ((∃ys,ys=edgesV rs/\J ys W')\/(∃pre,pre<+:edgesV rs/\Jx pre W')):=by
 obtain⟨A,cap,rfl,hA⟩:=hR;have HA:=zH hA;have HJ:=zH hJ;have HY:=zH hY;have HRL:=zH hrl;clear hA hJ hY hrl;refine callsIn_of_wp Tryz.func61 rfl trivial ?_ rfl;simp only[Tryz.ntmps61,List.size_toArray,List.length_cons,List.length_nil,Nat.reduceAdd,Nat.reduceSub,Array.replicate_succ,Array.replicate_zero,List.push_toArray,List.append_toArray,List.nil_append,List.cons_append];gi_wp2
 gi_loopw [10] (fun i wr=>∃k:Nat,k<=rs.length/\i= .int .i64 k/\Fr G w wr/\J (edgesV (rs.take k)) wr) (fun i _=>rs.length-(intOf i).toNat)
 case atStart=>exact⟨0,Nat.zero_le _,rfl,Fr.of_ext (Ext.refl _),h0⟩
 obtain⟨k,hk,rfl,hfr,hj⟩:=hrel;have HFR:=zH hfr;have HJ1:=zH hj;clear hfr hj;by_cases hlt:k<rs.length
 ·obtain⟨r,hr⟩:∃r,rs[k]?=some r:=⟨_,List.getElem?_eq_getElem hlt⟩
  obtain⟨g,off,rfl,hg,h1⟩:=HA.out (by omega);obtain⟨B,cb,hc1,hp1,hB⟩:=h1 k r hr;have c1:=HFR.out.cell hc1 hg;have hlt2:(k:Int)<(rs.length:Int):=by omega
  have HP:=zH hp1;have HB:=zH hB;have HR:=zH hr;have hr4:=HRL.out r (List.mem_of_getElem? hr);clear h1 hc1 hp1 hB hr;gi_wp2
  generalize wr=W0 at*
  gi_loopw [16] (fun i wr=>∃j:Nat,j<=r.length/\i= .int .i64 j/\Fr G W0 wr/\J (edgesV (rs.take k)++ringEn r j) wr) (fun i _=>r.length-(intOf i).toNat)
  case atStart=>exact⟨0,Nat.zero_le _,rfl,Fr.of_ext (Ext.refl _),by have h:=HJ1.out;rwa[show ringEn r 0=[]from rfl,List.append_nil]⟩
  obtain⟨j,hjl,rfl,hfr,hj⟩:=hrel;have HF2:=zH hfr;have HJ2:=zH hj;clear hfr hj;by_cases hjt:j<r.length
  ·have hjt2:(j:Int)<(r.length:Int):=by omega
   obtain⟨a,ha⟩:∃a,r[j]?=some a:=⟨_,List.getElem?_eq_getElem hjt⟩;have hmod:(j+1)%r.length<r.length:=Nat.mod_lt _ (by omega);obtain⟨b,hb⟩:∃b,r[(j+1)%r.length]?=some b:=⟨_,List.getElem?_eq_getElem hmod⟩;have hEA:=zH (edgeAt_some ha hb);have hpts:∃g2 off2,B=some ⟨g2,off2,none⟩/\¬G g2/\PtsAt w g2 off2 r:=by
    obtain⟨A2,c2,hv2,h2⟩:=HP.out;injection hv2 with e1 _ _
    obtain⟨g2,off2,h3,h4⟩:=h2 (fun e=>by rw[e]at hjt;simp at hjt);exact⟨g2,off2,e1.trans h3,HB.out _ (e1.trans h3),h4⟩
   obtain⟨g2,off2,rfl,hg2,hpa⟩:=hpts;have HFW:=zH (HFR.out.trans HF2.out);have hga:∀i p,r[i]?=some p->r.getD i (0,0)=p:=fun i p h=>by rw[List.getD_eq_getElem?_getD,h];rfl
   have hpj:=hpa j hjt;have hpm:=hpa _ hmod;rw[hga j a ha]at hpj;rw[hga _ b hb]at hpm;have x0:=HFW.out.cell hpj.1 hg2;have x1:=HFW.out.cell hpj.2 hg2;have y0:=HFW.out.cell hpm.1 hg2;have y1:=HFW.out.cell hpm.2 hg2;have wj:IntKind.i64.wrap ((j:Int)+1)=(j:Int)+1:=by rw[IntKind.wrap_i64];omega
   have hrem:((j:Int)+1).tmod (r.length:Int)=(((j+1)%r.length:Nat):Int):=by rw[Int.tmod_eq_emod_of_nonneg (by omega)];simp
   have HHA:=zH ha;have HHB:=zH hb;clear hpa hpj hpm ha hb hga;generalize hM:(j+1)%r.length=M at*
   clear hM;obtain⟨a0,a1⟩:=a;obtain⟨b0,b1⟩:=b;dsimp only at x0 x1 y0 y1
   by_cases hab:(a0,a1)=(b0,b1)
   ·injection hab with e0 e1
    subst e0;subst e1;have hne:(a0==a0&&a1==a1)=true:=by simp
    have HED:=zH (hEA.out.trans (if_pos rfl));have y0a:=((Ext.refl wr).alloc (.cells #[.int .i64 a0,.int .i64 a1] 23)).get y0;have y1a:=((Ext.refl wr).alloc (.cells #[.int .i64 a0,.int .i64 a1] 23)).get y1;have hx2:Ext wr ((wr.alloc (.cells #[.int .i64 a0,.int .i64 a1] 23)).alloc (.cells #[.int .i64 a0,.int .i64 a1] 23)):=((Ext.refl wr).alloc _).alloc _;gi_wp2
    refine⟨fun _ h=>(by cases h),?_⟩;gi_wp2
    go_roundw
    case rel=>exact⟨j+1,hjt,by go_num,HF2.out.trans (Fr.of_ext hx2),by rw[ringEn_succ_none HED.out];exact HJ.out _ _ _ HJ2.out hx2⟩
    case measure=>simp[intOf];omega
   have hne:(a0==b0&&a1==b1)=false:=by
    rw[Bool.and_eq_false_iff,beq_eq_false_iff_ne,beq_eq_false_iff_ne];by_cases h0:a0=b0
    ·exact .inr fun h1=>hab (by rw[h0,h1])
    exact .inl h0
   have HED:=zH (hEA.out.trans (if_neg hab));clear hab;have y0a:=((Ext.refl wr).alloc (.cells #[.int .i64 a0,.int .i64 a1] 23)).get y0;have y1a:=((Ext.refl wr).alloc (.cells #[.int .i64 a0,.int .i64 a1] 23)).get y1;have hx2:Ext wr ((wr.alloc (.cells #[.int .i64 a0,.int .i64 a1] 23)).alloc (.cells #[.int .i64 b0,.int .i64 b1] 23)):=((Ext.refl wr).alloc _).alloc _;have hlen:(edgesV (rs.take k)++ringEn r j).length<N:=by
    have h1:=(edges_pre HR.out (show j+1<=r.length by omega)).length_le;rw[ringEn_succ_some HED.out]at h1;simp at h1⊢;omega
   obtain⟨fn,tmps,assign,body,hy,hRd⟩:=HY.out _ ((a0,a1),(b0,b1)) _ (HJ.out _ _ _ HJ2.out hx2) hlen (by
    have h1:=edges_pre HR.out (show j+1<=r.length by omega);rw[ringEn_succ_some HED.out]at h1;exact h1.subset (by simp))
   dsimp only[ptVal2]at hy
   gi_wp2
   refine hRd.mono ?_;rintro e W3 (⟨rfl,hJ3,hk3⟩|⟨rfl,hJx3⟩)
   ·gi_wp2
    go_roundw
    case rel=>exact⟨j+1,hjt,by go_num,(HF2.out.trans (Fr.of_ext hx2)).trans hk3,by rw[ringEn_succ_some HED.out,<-List.append_assoc];exact hJ3⟩
    case measure=>simp[intOf];omega
   gi_wp2
   refine bodyPost_ret (results_none rfl _ _ _) rfl ?_;exact⟨⟨_,rfl⟩,.inr ⟨_,by have h:=edges_pre HR.out (show j+1<=r.length by omega);rwa[ringEn_succ_some HED.out,<-List.append_assoc]at h,hJx3⟩⟩
  have hjn:¬(j:Int)<(r.length:Int):=by omega
  gi_wp2
  go_roundw
  case rel=>exact⟨k+1,by omega,by go_num,HFR.out.trans HF2.out,by rw[edgesV_take HR.out];have h:=HJ2.out;rwa[show j=r.length by omega]at h⟩
  case measure=>simp[intOf];omega
 gi_wp2
 go_end0
 have e:k=rs.length:=by omega
 subst e;exact⟨⟨_,rfl⟩,.inl ⟨_,rfl,by have h:=HJ1.out;rwa[List.take_of_length_le (Nat.le_refl _)]at h⟩⟩
end
section
attribute [local go_sem ↓] Go.wp_at_zero Go.wp_at_succ run_eql_point run_neq_point run_max_ii run_min_ii
theorem RingsO.ext {ok:Nat->Prop}{w w':World}{v:Value}{rs:List Ring}(h:RingsO ok w v rs)(x:Ext w w'):RingsO ok w' v rs:=by
  obtain⟨A,cap,h1,h2⟩:=h;refine⟨A,cap,h1,fun h0=> ?_⟩;obtain⟨g,off,h3,h4,h5⟩:=h2 h0;refine⟨g,off,h3,h4,fun i r hr=> ?_⟩;obtain⟨B,cb,h6,h7,h8⟩:=h5 i r hr;exact⟨B,cb,x.get h6,h7.ext x,h8⟩
theorem RingsO.imp {ok ok':Nat->Prop}{w:World}{v:Value}{rs:List Ring}(h:RingsO ok w v rs)(hi:∀k,ok k->ok' k):RingsO ok' w v rs:=by
  obtain⟨A,cap,h1,h2⟩:=h;refine⟨A,cap,h1,fun h0=> ?_⟩;obtain⟨g,off,h3,h4,h5⟩:=h2 h0;refine⟨g,off,h3,hi _ h4,fun i r hr=> ?_⟩;obtain⟨B,cb,h6,h7,h8⟩:=h5 i r hr;exact⟨B,cb,h6,h7,fun A hA=>hi _ (h8 A hA)⟩
theorem Tr.ringsO {b0:Nat}{w:World}{v:Value}{rs:List Ring}(h:Tr b0 w v rs):RingsO (fun k=>b0<=k/\k<w.heap.size) w v rs:=by
 obtain⟨vs,h1,h2,h3⟩:=h;obtain⟨_,⟨rfl,hz⟩|⟨g,cap,rest,rfl,hb,hB,_⟩⟩:=h1
 ·exact⟨none,0,by rw[hz],fun h=>by omega⟩
 refine⟨_,cap,rfl,fun _=>⟨g,0,rfl,⟨hb,hB.lt⟩,fun i r hr=> ?_⟩⟩;obtain⟨B,cb,h4,h5,h6,h7⟩:=h3 i r hr;refine⟨B,cb,?_,h5,fun A hA=>⟨h7 A hA,(h6 A hA).2⟩⟩;rw[Nat.zero_add,hB.cell,List.getElem?_toArray,List.getElem?_append_left (by have:=(List.getElem?_eq_some_iff.1 h4).1;exact this)];exact h4
theorem RingsO.nil (ok:Nat->Prop)(w:World):RingsO ok w (.slice none 0 0) []:=⟨none,0,rfl,fun h=>by simp at h⟩
theorem translate_no (u:Value)(rs:List Ring)(w:World)(hu:RingsV w u rs)(hv:okR rs=false)(hn:rs.length<=1048576)(hr:∀r,r∈rs->r.length<=1048576):
  Calls Tryz.prog 60 #[u,.agg #[.int .i64 0,.int .i64 0]] w fun e w'=>e= .returned (.slice none 0 0)/\Ext w w':=by
 have HC:=zH (fun W (hW:Ext w W)=>polyValid_any u rs W (hu.ext hW) hn hr);have HV:=zH hv;obtain⟨Au,cu,rfl,_⟩:=hu;clear hv hr;go_enter Tryz.func60,Tryz.ntmps60
 have hE:Ext w (w.alloc (.cells #[.int .i64 0,.int .i64 0] 23)):=(Ext.refl _).alloc _;go_upto_if 13 with(go_at_call 49;refine(HC.out _ hE).mono ?_;rintro e w1 ⟨rfl,hx1⟩)
 have hb0:(!okR rs)=true:=by rw[HV.out];rfl
 rw[hb0];go_wp2_with fail
 go_ret
 exact⟨rfl,hE.trans hx1⟩
theorem edges_any (u:Value)(rs:List Ring)(w:World)(hu:RingsV w u rs)(hn:rs.length<=1048576)(hr:∀r,r∈rs->r.length<=1048576):
  Calls Tryz.prog 26 #[u] w fun e w'=>∃Bx v,e= .returned (.func (.func 61) #[] #[.pointer (some ⟨Bx,0,none⟩)])/\w.heap.size<=Bx/\Bx<w'.heap.size/\
   w'.cell? ⟨Bx,0,none⟩=some v/\RingsO (fun k=>w.heap.size<=k/\k<w'.heap.size) w' v (if okR rs=true then rs else[])/\Ext w w':=by
 have HC:Calls Tryz.prog 60 #[u,.agg #[.int .i64 0,.int .i64 0]] w fun e w'=>∃A n c,e= .returned (.slice A n c)/\RingsO (fun k=>w.heap.size<=k/\k<w'.heap.size) w' (.slice A n c) (if okR rs=true then rs else[])/\Ext w w':=by
  by_cases h:okR rs=true
  ·rw[if_pos h]
   refine(translate0_tr u rs w hu h hn).mono ?_;rintro e w' ⟨v,rfl,h2,h3⟩;have h4:=h2.ringsO;obtain⟨A,c,rfl,_⟩:=id h4;exact⟨A,_,c,rfl,h4,h3⟩
  rw[if_neg h];refine(translate_no u rs w hu (by simpa using h) hn hr).mono ?_;rintro e w' ⟨rfl,h3⟩;exact⟨none,0,0,rfl,RingsO.nil _ _,h3⟩
 generalize (if okR rs=true then rs else[])=qs at HC⊢
 have HC2:=zH HC;clear HC hu hr;go_enter Tryz.func26,Tryz.ntmps26
 go_wp2_with (go_at_call 60;refine HC2.out.mono ?_;rintro e w1 ⟨A,n,c,rfl,hR,hx⟩)
 go_ret
 have hx2:Ext w1 (w1.alloc (.cells #[.slice A n c] 55)):=(Ext.refl _).alloc _;refine⟨_,_,rfl,hx.size,by simp,?_,(hR.ext hx2).imp (fun k h=>⟨h.1,Nat.lt_of_lt_of_le h.2 hx2.size⟩),hx.trans hx2⟩;exact(Blk.new w1 _ _).cell 0
end
section
open Go.RowKit Go.Shelf
attribute [local go_sem] Oper.semAt_some
abbrev Edge:=(Int×Int)×(Int×Int)
def okE (e:Edge):Prop:=okPt e.1.1 e.1.2=true/\okPt e.2.1 e.2.2=true
abbrev OkE:={e:Edge//okE e}
def encE (x:OkE):Array Value:=#[ptVal2 x.1.1,ptVal2 x.1.2]
theorem edges_ok {rs:List Ring}(h:okR rs=true):∀e,e∈edgesV rs->okE e:=by
 intro e he;obtain⟨r,hr,h2⟩:=List.mem_flatMap.1 he;obtain⟨i,_,h3⟩:=List.mem_filterMap.1 h2;unfold okR at h;rw[Bool.and_eq_true]at h;have h4:=List.all_eq_true.1 h.2 r hr;unfold okAll at h4;have hp:∀(j:Nat) (p:Int×Int),r[j]?=some p->okPt p.1 p.2=true:=fun j p hj=>List.all_eq_true.1 h4 p (List.mem_of_getElem? hj)
 unfold edgeAt at h3;split at h3
 ·rename_i a b ha hb
  split at h3
  ·cases h3
  injection h3 with h3
  subst h3;exact⟨hp _ _ ha,hp _ _ hb⟩
 cases h3
theorem Fr.putObj {G:Nat->Prop}(W:World)(l:Nat)(o':Obj)(h:G l\/W.heap.size<=l):Fr G W (W.putObj l o'):=
  Fr.trans_new (Fr.of_ext (Ext.refl W)) (grownBy_putObj' W l o') (fun j hj=>by injection hj with hj;subst hj;exact h)
theorem edges_loop {n p0 p1:Nat}{g:Operand}{assign body:Code}{Q:Exit->Act->World->Prop}{a:Act}{W1:World}(hn:2<=n)(G:Nat->Prop)(Bx:Nat)(u:Value)(rs:List Ring)
  (hg:a.eval g= .func (.func 61) #[] #[.pointer (some ⟨Bx,0,none⟩)])(hcb:W1.cell? ⟨Bx,0,none⟩=some u)(hGb:¬G Bx)(hR:RingsO (fun k=>¬G k) W1 u rs)(hrs:rs.length<=1048576)(hok:okR rs=true)
  (hG:∀k,W1.heap.size<=k->G k)
  (I:List OkE->World->Prop)(hI:OwnFrom W1.heap.size I)(h0:I [] W1)(Ax:OkE->Act->World->Prop)(hAx:∀x a',OwnFrom W1.heap.size (fun(_:Unit) W=>Ax x a' W))
  (hassign:∀(l:Nat) (pre:List OkE) (x:OkE) (W:World) (K:Act->World->Prop),I pre W->(∀a' W',KeepsFrom W1.heap.size W W'->Fr G W W'->I pre W'->Ax x a' W'->K a' W')->
   assign.wpIn (Fence.wide.inRound l) (n-1-1) Tryz.prog (Exit.then K (fun _ _ _=>False)) {tmps:=(a.tmps.setIfInBounds p0 (ptVal2 x.1.1)).setIfInBounds p1 (ptVal2 x.1.2),defers:=[]} W)
  (hbody:∀(l:Nat) (pre:List OkE) (x:OkE) (a':Act) (W:World),I pre W->Ax x a' W->pre.length<4096->
   body.wpIn (Fence.wide.inRound l) (n-1-1) Tryz.prog (ownPostG W1.heap.size (Fr G) I (fun _ _ _=>False) (pre++[x]) W) a' W)
  (hdone:∀(D:Nat) (xs:List OkE) (W:World),W1.heap.size<=D->xs.map Subtype.val=edgesV rs->I xs W->W.heap[D]?=some (.deferred (some []))->Q .normal {a with defers:={target:= .collected D,args:=#[]}::a.defers} W):
  (Code.rangeFunc g #[p0,p1] assign body).wpIn Fence.wide n Tryz.prog Q a W1:=by
 have hseq:SeqStopsK Fence.wide (n-1) Tryz.prog 61 #[.pointer (some ⟨Bx,0,none⟩)] encE (Fr G) (fun xs=>xs.map Subtype.val=edgesV rs) (fun pre=>pre.map Subtype.val<+:edgesV rs) 4096 W1:=by
  intro l J Jx W hW hJa hJxa hY hJ0;have hx:Ext W1 W:=hW;have hRW:=hR.ext hx;have hrl:∀r,r∈rs->r.length<=4096:=fun r hr=>by
   obtain⟨k,hk⟩:=List.mem_iff_getElem?.1 hr;have h1:=tot_succ hk;have h2:=tot_take rs (k+1);have h3:=okR_tot hok;omega
  have hN:(edgesV rs).length<=4096:=Nat.le_trans (edgesV_len rs) (okR_tot hok);have hEx:∀(s:List OkE) (A B:World),J s A->Ext A B->J s B:=fun s A B h x=>hJa s A B none h (grown_of_ext _ x) (fun r e=>by cases e)
  refine(edges1_in (n-1) (by omega) l Bx 4096 G u rs (fun s W=>∃xs:List OkE,xs.map Subtype.val=s/\J xs W) (fun s W=>∃xs:List OkE,xs.map Subtype.val=s/\Jx xs W) W (hx.get hcb) hGb hRW hrl hrs
   (fun s A B h x=>by obtain⟨xs,h1,h2⟩:=h;exact⟨xs,h1,hEx _ _ _ h2 x⟩) ?_ hN ⟨[],rfl,hJ0⟩).mono ?_
  ·rintro pre x W2 ⟨xs,rfl,h2⟩ hlen hmem
   refine(hY xs ⟨x,edges_ok hok x hmem⟩ W2 h2 (by simpa using hlen)).mono ?_;rintro e W3 (⟨rfl,h3,h4⟩|⟨rfl,h3⟩)
   ·exact .inl ⟨rfl,⟨_,by simp,h3⟩,h4⟩
   exact .inr ⟨rfl,⟨_,by simp,h3⟩⟩
  rintro e W2 ⟨h1,⟨ys,rfl,xs,h2,h3⟩|⟨pre,h2,xs,h3,h4⟩⟩
  ·exact⟨h1,.inl ⟨xs,h2,h3⟩⟩
  exact⟨h1,.inr ⟨xs,by show xs.map Subtype.val<+:edgesV rs;rw[h3];exact h2,h4⟩⟩
 refine wpIn_rangeFunc_ownH rfl (by omega) (gf:=61) (lb:=#[.pointer (some ⟨Bx,0,none⟩)]) hg trivial (enters_of Tryz.func61 kR rfl)
  hseq (fun h k=>Fr.trans h k) (fun W l o o' hl _ _ _=>Fr.putObj W l o' (.inl (hG l hl))) (Below.refl _ _) (fun _=>rfl) I (fun _ _ _=>False) hI (fun _ _ _ _ _ hs _ _=>hs) h0 Ax hAx ?assign ?body ?done ?stop
 case assign=>
  intro l pre x W K hi hK;have e:((#[p0,p1]:Array Tmp).zip (encE x)).foldl (fun t (p,v)=>t.setIfInBounds p v) a.tmps=(a.tmps.setIfInBounds p0 (ptVal2 x.1.1)).setIfInBounds p1 (ptVal2 x.1.2):=by simp[encE]
  rw[e];exact hassign l pre x W K hi hK
 case body=>exact fun l pre x a' W _ _ hi ha hlt=>hbody l pre x a' W hi ha hlt
 case done=>exact fun D xs W hD hs hi hK=>hdone D xs W hD hs hi hK
 case stop=>exact fun D c pre W _ _ h _=>h.elim
theorem KeepsFrom.of_fr {B:Nat}{G:Nat->Prop}{W W':World}(h:Fr G W W')(hG:∀k,G k->∀o:Obj,W.heap[k]?=some o->o.isCells=true):KeepsFrom B W W':=
  ⟨h.size,fun k o _ hk ho=>by
    have hlt:k<W.heap.size:=(Array.getElem?_eq_some_iff.1 hk).1;rw[h.block k hlt (fun g=>by rw[hG k g o hk]at ho;cases ho)];exact hk⟩
theorem Fr.imp {G G':Nat->Prop}{W W':World}(h:Fr G W W')(hG:∀k,G k->G' k):Fr G' W W':=⟨h.os,h.tape,h.output,h.size,fun k hk hn=>h.block k hk (fun g=>hn (hG k g))⟩
theorem Hp.cells {w0 w:World}{m:List Ent}{i k:Nat}{e:Ent}(h:Hp w0 w m)(hi:m[i]?=some e)(hk:e.own=some k):∀o:Obj,w.heap[k]?=some o->o.isCells=true:=by
 intro o ho;cases e with
 |blk g t cs=>
  injection hk with hk
  subst hk;have:=h.blk hi;unfold Blk at this;rw[this]at ho;injection ho with ho
  rw[<-ho];rfl
 |row t size v n xs=>
  obtain⟨h4,⟨rfl,_⟩|⟨g,cap,rest,rfl,a,hb,c⟩⟩:=h.row hi
  ·simp[Ent.own,Value.ownBlock]at hk
  have hk:g=k:=by simpa[Ent.own,Value.ownBlock]using hk
  subst hk;unfold Blk at hb;rw[hb]at ho;injection ho with ho
  rw[<-ho];rfl
def Ent.typ:Ent->TypeId
  | .blk _ t _=>t
  | .row t _ _ _ _=>t
theorem Hp.typ {w0 w:World}{m:List Ent}{i g:Nat}{e:Ent}{T:TypeId}{cs:Array Value}(h:Hp w0 w m)(hi:m[i]?=some e)(hb:Blk w g T cs)(hk:e.own=some g):e.typ=T:=by
 unfold Blk at hb;cases e with
 |blk g' t cs'=>
  injection hk with hk
  subst hk;have:=h.blk hi;unfold Blk at this;rw[this]at hb;injection hb with hb
  injection hb with _ hb _
 |row t size v n xs=>
  obtain⟨h4,⟨rfl,_⟩|⟨g',cap,rest,rfl,a,hb2,c⟩⟩:=h.row hi
  ·simp[Ent.own,Value.ownBlock]at hk
  have hk:g'=g:=by simpa[Ent.own,Value.ownBlock]using hk
  subst hk;unfold Blk at hb2;rw[hb2]at hb;injection hb with hb
  injection hb with _ hb _
theorem Hp.addTyp2 {w0 w:World}{m:List Ent}{X Y:Nat}{T:TypeId}{zs us:List Value}(h:Hp w0 w m)(B1:Blk w X T zs.toArray)(B2:Blk w Y T us.toArray)(hne:X≠Y)(z1:w0.heap.size<=X)(z2:w0.heap.size<=Y)(n1:NoUL zs)(n2:NoUL us)
  (ht:∀e,e∈m->e.typ≠T):Hp w0 w (m++[.blk X T zs]++[.blk Y T us]):=by
 have h1:Hp w0 w (m++[.blk X T zs]):=h.add ⟨z1,B1,n1⟩ (fun i f hf k hk e=>by
  injection e with e
  subst e;exact ht f (List.mem_of_getElem? hf) (h.typ hf B1 hk))
 refine h1.add ⟨z2,B2,n2⟩ (fun i f hf k hk e=> ?_);injection e with e
 subst e;rcases List.mem_append.1 (List.mem_of_getElem? hf)with hm|hm
 ·obtain⟨j,hj⟩:=List.mem_iff_getElem?.1 hm
  exact ht f hm (h.typ hj B2 hk)
 simp at hm;subst hm;injection hk with hk
 exact hne hk
theorem Blk.kept {w w':World}{g:Nat}{t:TypeId}{cs:Array Value}{r:Option Nat}(h:Blk w g t cs)(hg:w.grownBy w' r)(hr:∀k,r=some k->∃o:Obj,w.heap[k]?=some o/\o.isCells=false):Blk w' g t cs:=
  h.grown hg (fun e=>by
    obtain⟨o,h2,h3⟩:=hr g e;unfold Blk at h;rw[h]at h2;injection h2 with h2
    rw[<-h2]at h3;cases h3)
end
section
attribute [local go_sem ↓] Go.wp_at_zero Go.wp_at_succ run_max_ii run_min_ii
theorem ev_rem {P:Program}{ρ:Operand->Value}{o:Oper}{w:World}{A B E:Int}{t t':TypeId}{x y:Operand}(ho:o.op= .binOp .rem t x y t')(hx:ρ x= .int .i64 A)(hy:ρ y= .int .i64 B)(hB:B≠0)(hE:A.tmod B=E)(_h1: -9223372036854775808<=E)(_h2:E<=9223372036854775807):(execOp ρ o).run P w= .ok (.value (.int .i64 E)) w:=by
  unfold execOp;simp only[ho,hx,hy];simp[go_sem,hB,hE]
theorem ev_neqpt {ρ:Operand->Value}{o:Oper}{w:World}{a b c d:Int}{bb:Bool}{t':TypeId}{x y:Operand}(ho:o.op= .binOp .neq 23 x y t')(hx:ρ x= .agg #[.int .i64 a,.int .i64 b])(hy:ρ y= .agg #[.int .i64 c,.int .i64 d])(h:(!(a==c&&b==d))=bb):
    (execOp ρ o).run Tryz.prog w= .ok (.value (.bool bb)) w:=by
  subst h;unfold execOp;simp only[ho,hx,hy];simp[go_sem,run_neq_point]
def edC (e:Edge):List Value:=[.int .i64 e.1.1,.int .i64 e.1.2,.int .i64 e.2.1,.int .i64 e.2.2]
theorem edC_len (e:Edge):(edC e).length=4:=rfl
theorem range_one {w:World}{g o:Nat}{v:Value}(h:w.cell? ⟨g,o,none⟩=some v):w.rangeAt g o [v]:=by
  intro j u hj;match j,hj with
  |0,hj=>injection hj with hj;rw[<-hj];exact h
  |k+1,hj=>simp at hj
theorem ptsLit4 {w0 w:World}{m:List Ent}{X i:Nat}{a b c d:Int×Int}(h:Hp w0 w m)(h1:m[i]?=some (.blk X 23 [.int .i64 a.1,.int .i64 a.2,.int .i64 b.1,.int .i64 b.2,.int .i64 c.1,.int .i64 c.2,.int .i64 d.1,.int .i64 d.2])):PtsV w (.slice (some ⟨X,0,none⟩) 4 4) [a,b,c,d]:=by
 refine⟨_,4,rfl,fun _=>⟨X,0,rfl,fun i hi=> ?_⟩⟩;have hi:i<4:=hi;have:i=0\/i=1\/i=2\/i=3:=by omega
 rcases this with rfl|rfl|rfl|rfl
 ·exact⟨h.cell h1 0 rfl,h.cell h1 1 rfl⟩
 ·exact⟨h.cell h1 2 rfl,h.cell h1 3 rfl⟩
 ·exact⟨h.cell h1 4 rfl,h.cell h1 5 rfl⟩
 exact⟨h.cell h1 6 rfl,h.cell h1 7 rfl⟩
theorem ptsLit2 {w0 w:World}{m:List Ent}{X i:Nat}{a b:Int×Int}(h:Hp w0 w m)(h1:m[i]?=some (.blk X 23 [.int .i64 a.1,.int .i64 a.2,.int .i64 b.1,.int .i64 b.2])):PtsV w (.slice (some ⟨X,0,none⟩) 2 2) [a,b]:=by
  refine⟨_,2,rfl,fun _=>⟨X,0,rfl,fun i hi=> ?_⟩⟩;have hi:i<2:=hi;have:i=0\/i=1:=by omega
  rcases this with rfl|rfl
  · exact⟨h.cell h1 0 rfl,h.cell h1 1 rfl⟩
  exact⟨h.cell h1 2 rfl,h.cell h1 3 rfl⟩
theorem shared_bd (a b c d:Int×Int):0<=(sharedV a b c d).2/\(sharedV a b c d).2<=2:=by
  unfold sharedV;split
  · exact⟨by decide,by decide⟩
  split
  · exact⟨(show(0:Int)<=1 by decide),(show(1:Int)<=2 by decide)⟩
  exact⟨by decide,by decide⟩
theorem shared_ok {a b c d:Int×Int}(ha:okP a)(hb:okP b)(hc:okP c)(hd:okP d):okP (sharedV a b c d).1:=by
  unfold sharedV;split
  · exact(show okPt 0 0=true by decide)
  split
  · exact okSL ha hb hc hd
  exact(show okPt 0 0=true by decide)
def segT (a b c d:Int×Int):Rat:=((cr (dv a c) (dv c d):Int):Rat)/((cr (dv a b) (dv c d):Int):Rat)
def segS (a b c d:Int×Int):Rat:=((cr (dv a c) (dv a b):Int):Rat)/((cr (dv a b) (dv c d):Int):Rat)
def inU (x:Rat):Prop:=¬x<(((0):Int):Rat)/\¬(((1):Int):Rat)<x
instance inU_dec (x:Rat):Decidable (inU x):=inferInstanceAs (Decidable (_/\_))
def lineV (a b c d:Int×Int):Int×Int:=if dv a b=(0,0)then dv c d else dv a b
def segN (a b c d:Int×Int):Int:=
  if cr (dv a b) (dv c d)≠0 then(if inU (segT a b c d)/\inU (segS a b c d)then 1 else 0)
  else if cr (lineV a b c d) (dv a c)≠0\/(lineV a b c d=(0,0)/\a≠c)then 0 else(sharedV a b c d).2
def segX (a b c d:Int×Int):Rat:=if cr (dv a b) (dv c d)≠0 then(a.1:Rat)+segT a b c d*((b.1-a.1:Int):Rat)else(((sharedV a b c d).1.1:Int):Rat)
def segY (a b c d:Int×Int):Rat:=if cr (dv a b) (dv c d)≠0 then(a.2:Rat)+segT a b c d*((b.2-a.2:Int):Rat)else(((sharedV a b c d).1.2:Int):Rat)
def SegRet (a b c d:Int×Int)(w:World)(e:Ending)(w':World):Prop:=
  ((∃r s:RV,segN a b c d=1/\e= .returned (.tuple #[.agg #[.bool r.n,.slice r.p r.l r.c,.bool r.m,.slice r.p2 r.l2 r.c2],.agg #[.bool s.n,.slice s.p s.l s.c,.bool s.m,.slice s.p2 s.l2 s.c2],.int .i64 1])/\r.Is w' (segX a b c d)/\s.Is w' (segY a b c d))\/
    (segN a b c d≠1/\e= .returned (.tuple #[.agg z4,.agg z4,.int .i64 (segN a b c d)])))/\Ext w w'
theorem rl_qq (a b:Int)(h1: -9223372036854775808<=a/\a<=9223372036854775807)(h2: -9223372036854775808<=b/\b<=9223372036854775807):Nm.rl ((a:Rat)/(b:Rat))<=8:=by
  have h:=Nm.rl_div (a:Rat) (b:Rat);have h3:=rl_i64 a h1.1 h1.2;have h4:=rl_i64 b h2.1 h2.2;omega
theorem segments_bad (a b c d:Int×Int)(w:World)(h:okAll [a,b,c,d]=false):
  Calls Tryz.prog 5 #[.agg #[.int .i64 a.1,.int .i64 a.2],.agg #[.int .i64 b.1,.int .i64 b.2],.agg #[.int .i64 c.1,.int .i64 c.2],.agg #[.int .i64 d.1,.int .i64 d.2]] w fun e w'=>e= .returned (.tuple #[.agg z4,.agg z4,.int .i64 0])/\Ext w w':=by
 have HALL:=zH h;go_enter Tryz.func5,Tryz.ntmps5
 have H0:=zH (Hp.start w);go_upto_region 0 with fail
 refine wl ?_;refine aA' 23 [.int .i64 a.1,.int .i64 a.2] H0.out ?_;intro X1 w2 H3 _;refine aA' 23 [.int .i64 b.1,.int .i64 b.2] H3.out ?_;intro X6 w7 H8 _;refine aA' 23 [.int .i64 c.1,.int .i64 c.2] H8.out ?_;intro X11 w12 H13 _;refine aA' 23 [.int .i64 d.1,.int .i64 d.2] H13.out ?_;intro X16 w17 H18 _;refine aA' 30 rz H18.out ?_;intro X21 w22 H23 _;refine aA' 30 rz H23.out ?_;intro X26 w27 H28 _;refine zq (.int .i64 0) ?_;go_upto_region 1 with fail
 refine wl ?_;refine zI4 H28.out _ _ _ _ ?_;refine aL' 4 23 [.int .i64 a.1,.int .i64 a.2,.int .i64 b.1,.int .i64 b.2,.int .i64 c.1,.int .i64 c.2,.int .i64 d.1,.int .i64 d.2] H28.out ?_;intro X32 w33 H34 _;refine zc (may_any (.slice (some ⟨X32,0,none⟩) 4 4) [a,b,c,d] _ (ptsLit4 H34.out (i:=6) rR) (by simp)) ?_;rintro e w36 ⟨rfl,hx⟩;have H37:=zH (H34.out.step hx);clear hx;refine⟨.bool false,by rw[HALL.out],?_⟩;try simp only[Act.put,zA,zB,zC]
 refine zq (.bool true) ?_;go_upto_region 2 with fail
 refine wl ?_;refine zI2 (Hp.start _) _ _ ?_;refine aS' 4 rz H37.out ?_;intro w42 H43 _;refine aS' 5 rz H43.out ?_;intro w45 H46 _;refine zq (.int .i64 0) ?_;go_wp2_with fail
 refine bodyPost_ret (v:= .tuple #[.agg z4,.agg z4,.int .i64 0]) ?_ rfl ⟨rfl,H46.out.ext⟩;exact results_c1c1t1 rfl rfl rfl ((H46.out.blk (i:=4) rR).loadVar rfl rfl rR) ((H46.out.blk (i:=5) rR).loadVar rfl rfl rR) rfl
theorem segments_any (a b c d:Int×Int)(w:World)(ha:okP a)(hb:okP b)(hc:okP c)(hd:okP d):
  Calls Tryz.prog 5 #[.agg #[.int .i64 a.1,.int .i64 a.2],.agg #[.int .i64 b.1,.int .i64 b.2],.agg #[.int .i64 c.1,.int .i64 c.2],.agg #[.int .i64 d.1,.int .i64 d.2]] w (SegRet a b c d w):=by
 have HALL:=zH (show okAll [a,b,c,d]=true from by simp[okAll,ha,hb,hc,hd]);have hn1:=cr_bd (dv_bd ha hb) (dv_bd hc hd);have hn2:=cr_bd (dv_bd ha hc) (dv_bd hc hd);have hn3:=cr_bd (dv_bd ha hc) (dv_bd ha hb);have oa:=okP_out ha;have ob:=okP_out hb;have oc:=okP_out hc;have od:=okP_out hd;go_enter Tryz.func5,Tryz.ntmps5
 have H0:=zH (Hp.start w);go_upto_region 0 with fail
 refine wl ?_;refine aA' 23 [.int .i64 a.1,.int .i64 a.2] H0.out ?_;intro X49 w50 H51 _;refine aA' 23 [.int .i64 b.1,.int .i64 b.2] H51.out ?_;intro X54 w55 H56 _;refine aA' 23 [.int .i64 c.1,.int .i64 c.2] H56.out ?_;intro X59 w60 H61 _;refine aA' 23 [.int .i64 d.1,.int .i64 d.2] H61.out ?_;intro X64 w65 H66 _;refine aA' 30 rz H66.out ?_;intro X69 w70 H71 _;refine aA' 30 rz H71.out ?_;intro X74 w75 H76 _;refine zq (.int .i64 0) ?_;go_upto_region 1 with fail
 refine wl ?_;refine zI4 H76.out _ _ _ _ ?_;refine aL' 4 23 [.int .i64 a.1,.int .i64 a.2,.int .i64 b.1,.int .i64 b.2,.int .i64 c.1,.int .i64 c.2,.int .i64 d.1,.int .i64 d.2] H76.out ?_;intro X80 w81 H82 _;refine zc (may_any (.slice (some ⟨X80,0,none⟩) 4 4) [a,b,c,d] _ (ptsLit4 H82.out (i:=6) rR) (by simp)) ?_;rintro e w84 ⟨rfl,hx⟩;have H85:=zH (H82.out.step hx);clear hx;refine⟨.bool true,by rw[HALL.out],?_⟩;try simp only[Act.put,zA,zB,zC]
 refine zq (.bool false) ?_;go_upto_region 3 with fail
 refine zy ?_;have H88:=zH (H85.out.step (Ext.refl w84).drew);refine zJ6 H85.out zb (bs 15 219) 0 1 3 4 6 7 _ _ _ _ _ _ ?_;refine FN.go3 (j1:=⟨9,some 11,23,[.int .i64 0,.int .i64 0]⟩) (j2:=⟨10,some 12,23,[.int .i64 0,.int .i64 0]⟩) (j3:=⟨11,some 13,23,[.int .i64 0,.int .i64 0]⟩) (b:=w84) ?_ zb;refine gN 2 (bs 15 223) (fk (fk (fk trivial))) zb.size (fun xq hxq=>vsub_any b a _ hb ha) (by rintro x_ e x2_ ⟨rfl,hx⟩;exact hx) ?_;rintro xq e w90 hxq ⟨rfl,hx⟩;replace hx:=hxq.trans hx;clear hxq;have H91:=zH (H88.out.step hx);have S93:=zH (zb.trans hx);clear hx;refine⟨_,rfl,?_⟩;try simp only[Act.put,zA,zB,zC]
 refine gN 5 (bs 15 255) (fk (fk (fk trivial))) S93.out.size (fun xq hxq=>vsub_any d c _ hd hc) (by rintro x_ e x2_ ⟨rfl,hx⟩;exact hx) ?_;rintro xq e w94 hxq ⟨rfl,hx⟩;replace hx:=hxq.trans hx;clear hxq;have H95:=zH (H91.out.step hx);have S97:=zH (S93.out.trans hx);clear hx;refine⟨_,rfl,?_⟩;try simp only[Act.put,zA,zB,zC]
 refine gN 8 (bs 15 511) (fk (fk (fk trivial))) S97.out.size (fun xq hxq=>vsub_any c a _ hc ha) (by rintro x_ e x2_ ⟨rfl,hx⟩;exact hx) ?_;rintro xq e w98 hxq ⟨rfl,hx⟩;replace hx:=hxq.trans hx;clear hxq;have H99:=zH (H95.out.step hx);have S101:=zH (S97.out.trans hx);clear hx;refine⟨_,rfl,?_⟩;try simp only[Act.put,zA,zB,zC]
 refine gE3 (bs 15 4095) (fk (fk (fk trivial))) S101.out.size H85.out H99.out ?_;intro X102 X103 X104 w105 hx hh hg0 hg1 hg2 hs;have H106:=hN hh;have S108:=zH (show Ext w84 w105 from hs);have G109:=zH (show w84.heap.size<=X102 from hg0);have G110:=zH (show w84.heap.size<=X103 from hg1);have G111:=zH (show w84.heap.size<=X104 from hg2);clear hh hx hs hg0 hg1 hg2;try simp only[Act.put,zA,zB,zC]
 refine bS 7 12 (bs 15 8191) [.int .i64 ((dv a b).1),.int .i64 ((dv a b).2)] H106.out S108.out G109.out ?_;intro w112 H113 _ S115;refine bS 8 13 (bs 15 16383) [.int .i64 ((dv c d).1),.int .i64 ((dv c d).2)] H113.out S115.out G110.out ?_;intro w116 H117 _ S119;refine bS 9 14 (bs 15 32767) [.int .i64 ((dv a c).1),.int .i64 ((dv a c).2)] H117.out S119.out G111.out ?_;intro w120 H121 _ S123;refine wpAnyH_done kR ?_ _;go_upto_region 4 with fail
 refine wl ?_;refine zI2 H121.out _ _ ?_;refine aC H121.out (icross_any (dv a b) (dv c d) _ (dv_bd ha hb) (dv_bd hc hd)) ?_;intro w124 H125 _;refine zq (.int .i64 (cr (dv a b) (dv c d))) ?_;rcases emH (cr (dv a b) (dv c d)≠0)with HNZ|HNZ
 ·go_upto_region 5 with fail
  refine wl ?_;refine zq (.int .i64 (cr (dv a b) (dv c d))) ?_;refine zp (.bool true) (by exact ezn (e:=(dec_t HNZ.out))) ?_;go_upto_region 6 with fail
  refine zy ?_;have H131:=zH (H125.out.step (Ext.refl w124).drew);refine zJ6 H125.out zb (bs 14 363) 0 1 3 5 6 8 _ _ (.int .i64 (cr (dv a b) (dv c d))) _ _ (.int .i64 (cr (dv a b) (dv c d))) ?_;refine FN.go2 (j1:=⟨10,some 15,30,[.bool false,.slice none 0 0,.bool false,.slice none 0 0]⟩) (j2:=⟨11,some 16,30,[.bool false,.slice none 0 0,.bool false,.slice none 0 0]⟩) (b:=w124) ?_ zb;refine gN 2 (bs 14 367) (fk (fk trivial)) zb.size (fun xq hxq=>icross_any (dv a c) (dv c d) _ (dv_bd ha hc) (dv_bd hc hd)) (by rintro x_ e x2_ ⟨rfl,hx⟩;exact hx) ?_;rintro xq e w135 hxq ⟨rfl,hx⟩;replace hx:=hxq.trans hx;clear hxq;have H136:=zH (H131.out.step hx);have S138:=zH (zb.trans hx);clear hx;refine⟨_,rfl,?_⟩;try simp only[Act.put,zA,zB,zC]
  refine gN 4 (bs 14 383) (fk (fk trivial)) S138.out.size (fun xq hxq=>by_any (cr (dv a c) (dv c d)) (cr (dv a b) (dv c d)) _ (by omega) (by omega) (by omega) (by omega) HNZ.out) (by rintro x_ e x2_ ⟨c_,rfl,hc_,hx⟩;exact hx) ?_;rintro xq e w139 hxq ⟨c_,rfl,hc_,hx⟩;replace hx:=hxq.trans hx;clear hxq;have H141:=zH (H136.out.step hx);have S143:=zH (S138.out.trans hx);obtain⟨r140,rfl,hr_⟩:=hc_;have R140:=zH hr_;have B140:=zH (rl_qq (cr (dv a c) (dv c d)) (cr (dv a b) (dv c d)) (by omega) (by omega));clear hr_ hx;refine⟨_,rfl,?_⟩;try simp only[Act.put,zA,zB,zC]
  refine gN 7 (bs 14 511) (fk (fk trivial)) S143.out.size (fun xq hxq=>icross_any (dv a c) (dv a b) _ (dv_bd ha hc) (dv_bd ha hb)) (by rintro x_ e x2_ ⟨rfl,hx⟩;exact hx) ?_;rintro xq e w144 hxq ⟨rfl,hx⟩;replace hx:=hxq.trans hx;clear hxq;have H145:=zH (H141.out.step hx);have D145:=zH (Dig.of_ext hx);have S147:=zH (S143.out.trans hx);clear hx;refine⟨_,rfl,?_⟩;try simp only[Act.put,zA,zB,zC]
  refine gN 9 (bs 14 1023) (fk (fk trivial)) S147.out.size (fun xq hxq=>by_any (cr (dv a c) (dv a b)) (cr (dv a b) (dv c d)) _ (by omega) (by omega) (by omega) (by omega) HNZ.out) (by rintro x_ e x2_ ⟨c_,rfl,hc_,hx⟩;exact hx) ?_;rintro xq e w148 hxq ⟨c_,rfl,hc_,hx⟩;replace hx:=hxq.trans hx;clear hxq;have H150:=zH (H145.out.step hx);have D150:=zH (Dig.of_ext hx);have S152:=zH (S147.out.trans hx);obtain⟨r149,rfl,hr_⟩:=hc_;have R149:=zH hr_;have B149:=zH (rl_qq (cr (dv a c) (dv a b)) (cr (dv a b) (dv c d)) (by omega) (by omega));clear hr_ hx;refine⟨_,rfl,?_⟩;try simp only[Act.put,zA,zB,zC]
  refine gE2 (bs 14 4095) (fk (fk trivial)) S152.out.size H125.out H150.out ?_;intro X153 X154 w155 hx hh hg0 hg1 hs;have H156:=hN hh;have D156:=zH (Dig.of_ext hx);have S158:=zH (show Ext w124 w155 from hs);have G159:=zH (show w124.heap.size<=X153 from hg0);have G160:=zH (show w124.heap.size<=X154 from hg1);clear hh hx hs hg0 hg1;try simp only[Act.put,zA,zB,zC]
  refine bS 10 12 (bs 14 8191) (rc r140) H156.out S158.out G159.out ?_;intro w161 H162 D162 S164;refine bS 11 13 (bs 14 16383) (rc r149) H162.out S164.out G160.out ?_;intro w165 H166 D166 S168;refine wpAnyH_done kR ?_ _;go_upto_region 7 with fail
  refine wl ?_;refine zI2 H166.out _ _ ?_;refine aL' 2 30 [.bool r140.n,.slice r140.p r140.l r140.c,.bool r140.m,.slice r140.p2 r140.l2 r140.c2,.bool r149.n,.slice r149.p r149.l r149.c,.bool r149.m,.slice r149.p2 r149.l2 r149.c2] H166.out ?_;intro X169 w170 H171 D171;refine zI2 (Hp.start _) _ _ ?_;go_wp2_with fail
  go_loopg [59] (2) (fun cq v175 wr=>∃(k:Nat),cq=2-k/\v175= .int .i64 (k:Int)/\(k<=2)/\(1<=k->inU (segT a b c d))/\(2<=k->inU (segS a b c d))/\Hp w wr [.blk X49 23 [.int .i64 a.1,.int .i64 a.2],.blk X54 23 [.int .i64 b.1,.int .i64 b.2],.blk X59 23 [.int .i64 c.1,.int .i64 c.2],.blk X64 23 [.int .i64 d.1,.int .i64 d.2],.blk X69 30 [.bool false,.slice none 0 0,.bool false,.slice none 0 0],.blk X74 30 [.bool false,.slice none 0 0,.bool false,.slice none 0 0],.blk X80 23 [.int .i64 a.1,.int .i64 a.2,.int .i64 b.1,.int .i64 b.2,.int .i64 c.1,.int .i64 c.2,.int .i64 d.1,.int .i64 d.2],.blk X102 23 [.int .i64 ((dv a b).1),.int .i64 ((dv a b).2)],.blk X103 23 [.int .i64 ((dv c d).1),.int .i64 ((dv c d).2)],.blk X104 23 [.int .i64 ((dv a c).1),.int .i64 ((dv a c).2)],.blk X153 30 [.bool r140.n,.slice r140.p r140.l r140.c,.bool r140.m,.slice r140.p2 r140.l2 r140.c2],.blk X154 30 [.bool r149.n,.slice r149.p r149.l r149.c,.bool r149.m,.slice r149.p2 r149.l2 r149.c2],.blk X169 30 [.bool r140.n,.slice r140.p r140.l r140.c,.bool r140.m,.slice r140.p2 r140.l2 r140.c2,.bool r149.n,.slice r149.p r149.l r149.c,.bool r149.m,.slice r149.p2 r149.l2 r149.c2]]/\Dig w170 wr)
  case atStart=>exact⟨0,rfl,rfl,(by decide),(fun h_=>absurd h_ (by decide)),(fun h_=>absurd h_ (by decide)),H171.out,Dig.refl _⟩
  obtain⟨k,rfl,rfl,q_HK,q_H0,q_H1,hh_,hd_⟩:=hrel;generalize wr=w176 at*
  have HK:=zH q_HK;clear q_HK;have H0:=zH q_H0;clear q_H0;have H1:=zH q_H1;clear q_H1;have H178:=zH hh_;have D178:=zH hd_;clear hh_ hd_ H171;rcases emH (k<2)with HLT|HLT
  ·have DD180:=tD (tD (tD (tD (tD (tD D145 D150) D156) D162) D166) D171) D178
   have DD181:=tD (tD (tD (tD D156 D162) D166) D171) D178;have hk2_:k=0\/k=1:=by have h_:=HLT.out;omega
   have HK2:=zH hk2_;clear hk2_;obtain⟨rk,hrk_⟩:∃r:RV,r=if k=0 then r140 else r149:=⟨_,rfl⟩
   obtain⟨xk,hxk_⟩:∃x:Rat,x=if k=0 then segT a b c d else segS a b c d:=⟨_,rfl⟩
   have HXK:=zH hxk_;have HRK:=zH (show rk.Is w176 xk from by rcases HK2.out with h_|h_;rw[hrk_,hxk_,if_pos h_,if_pos h_];exact(R140.out.dig DD180.out);rw[hrk_,hxk_,if_neg (by omega),if_neg (by omega)];exact(R149.out.dig DD181.out));have HBK:=zH (show Nm.rl xk<=8 from by rcases HK2.out with h_|h_;rw[hxk_,if_pos h_];exact B140.out;rw[hxk_,if_neg (by omega)];exact B149.out);have HRR:=zH (show World.rangeAt w176 X169 (k*4) [.bool rk.n,.slice rk.p rk.l rk.c,.bool rk.m,.slice rk.p2 rk.l2 rk.c2]from by rcases HK2.out with h_|h_;rw[hrk_,if_pos h_,h_];exact H178.out.range (i:=12) (by rfl) 0 4;have h1_:k=1:=h_;rw[hrk_,if_neg (by omega),h1_];exact H178.out.range (i:=12) (by rfl) 4 4);clear hrk_ hxk_;go_upto_region 8 with fail
   refine wl ?_;refine zp (.bool true) (by exact ezl (e:=(dec_t (by have ob3:=HLT.out;omega)))) ?_;go_upto_region 9 with fail
   refine wl ?_;refine zp (.pointer (some ⟨X169,k*4,none⟩)) (by exact ezi (k:=k) Tryz.underlying47 (l:=HLT.out) (f:=(Nat.zero_add _).symm)) ?_;refine zd X169 (k*4) (rc rk) HRR.out Tryz.underlying30 ?_;refine aA' 30 rz H178.out ?_;intro X184 w185 H186 D186;refine aS' 13 (rc rk) H186.out ?_;intro w189 H190 D190;rcases emH (xk<(((0):Int):Rat))with C1|C1
   ·go_upto_region 10 with fail
    refine zy ?_;have H193:=zH (H190.out.step (Ext.refl w189).drew);have D193:=zH (Dig.of_ext (w:=w189) zb);refine zJ1 H190.out zb (bs 10 1) 0 _ ?_;refine mC 1 (bs 10 3) (pFrom 0 _ (by have ob3:=HLT.out;omega) (by have ob3:=HLT.out;omega)) ?_;rintro e w195 ⟨c_,rfl,hc_,hx⟩;have H197:=zH (H193.out.step hx);have D197:=zH (show Dig w189.drew w195 from Dig.of_ext hx);have S199:=zH (zb.trans hx);obtain⟨r196,rfl,hr_⟩:=hc_;have R196:=zH hr_;have B196:=zH (rl_i64 0 (by have ob3:=HLT.out;omega) (by have ob3:=HLT.out;omega));clear hr_ hx;refine zm S199.out ?_;have DD201:=tD (tD (tD D186 D190) D193) D197;refine mC 2 (bs 10 7) (pCmp (L:=60000) (RV.Is.nin (HRK.out.dig DD201.out) (Nat.le_trans HBK.out (by omega))) (RV.Is.nin R196.out (Nat.le_trans B196.out (by omega))) (by omega)) ?_;rintro e w200 ⟨rfl,hx⟩;have H202:=zH (H197.out.step hx);have S204:=zH (S199.out.trans hx);clear hx;refine zm S204.out ?_;refine zu 3 (bs 10 15) (v:= .bool true) S204.out ?_ (hv:=by intro w hSw;exact ezl (e:=(dec_t (rcmp_lt.2 C1.out))));refine zJ6 (Hp.start _) S204.out (bs 10 1023) 4 5 6 7 8 9 (.bool true) _ _ _ _ (.bool true) ?_;refine wpAnyH_done kR ?_ _;go_upto_region 11 with fail
    refine wl ?_;refine zI2 (Hp.start _) _ _ ?_;refine aS' 4 rz H202.out ?_;intro w210 H211 _;refine aS' 5 rz H211.out ?_;intro w213 H214 _;refine zq (.int .i64 0) ?_;have HSN:=zH (show segN a b c d=0 from by unfold segN;rw[if_pos HNZ.out,if_neg (fun h_=>by have e_:=HXK.out;rcases HK2.out with k_|k_;rw[if_pos k_]at e_;exact h_.1.1 (e_▸C1.out);rw[if_neg (by omega)]at e_;exact h_.2.1 (e_▸C1.out))]);go_wp2_with fail
    refine bodyPost_ret (v:= .tuple #[.agg z4,.agg z4,.int .i64 0]) ?_ rfl ⟨.inr ⟨by rw[HSN.out];decide,by rw[HSN.out]⟩,H214.out.ext⟩;exact results_c1c1t1 rfl rfl rfl ((H214.out.blk (i:=4) rR).loadVar rfl rfl rR) ((H214.out.blk (i:=5) rR).loadVar rfl rfl rR) rfl
   rcases emH ((((1):Int):Rat)<xk)with C2|C2
   ·go_upto_region 10 with fail
    refine zy ?_;have H218:=zH (H190.out.step (Ext.refl w189).drew);have D218:=zH (Dig.of_ext (w:=w189) zb);refine zJ1 H190.out zb (bs 10 1) 0 _ ?_;refine mC 1 (bs 10 3) (pFrom 0 _ (by have ob3:=HLT.out;omega) (by have ob3:=HLT.out;omega)) ?_;rintro e w220 ⟨c_,rfl,hc_,hx⟩;have H222:=zH (H218.out.step hx);have D222:=zH (show Dig w189.drew w220 from Dig.of_ext hx);have S224:=zH (zb.trans hx);obtain⟨r221,rfl,hr_⟩:=hc_;have R221:=zH hr_;have B221:=zH (rl_i64 0 (by have ob3:=HLT.out;omega) (by have ob3:=HLT.out;omega));clear hr_ hx;refine zm S224.out ?_;have DD226:=tD (tD (tD D186 D190) D218) D222;refine mC 2 (bs 10 7) (pCmp (L:=60000) (RV.Is.nin (HRK.out.dig DD226.out) (Nat.le_trans HBK.out (by omega))) (RV.Is.nin R221.out (Nat.le_trans B221.out (by omega))) (by omega)) ?_;rintro e w225 ⟨rfl,hx⟩;have H227:=zH (H222.out.step hx);have D227:=zH (Dig.of_ext hx);have S229:=zH (S224.out.trans hx);clear hx;refine zm S229.out ?_;refine zu 3 (bs 10 15) (v:= .bool false) S229.out ?_ (hv:=by intro w hSw;exact ezl (e:=(dec_f (fun hh=>C1.out (rcmp_lt.1 hh)))));refine zJ2 H190.out S229.out (bs 10 63) 4 5 (.bool false) _ ?_;refine mC 6 (bs 10 127) (pFrom 1 _ (by have ob3:=HLT.out;omega) (by have ob3:=HLT.out;omega)) ?_;rintro e w232 ⟨c_,rfl,hc_,hx⟩;have H234:=zH (H227.out.step hx);have D234:=zH (Dig.of_ext hx);have S236:=zH (S229.out.trans hx);obtain⟨r233,rfl,hr_⟩:=hc_;have R233:=zH hr_;have B233:=zH (rl_i64 1 (by have ob3:=HLT.out;omega) (by have ob3:=HLT.out;omega));clear hr_ hx;refine zm S236.out ?_;have DD238:=tD (tD DD226 D227) D234;refine mC 7 (bs 10 255) (pCmp (L:=60000) (RV.Is.nin (HRK.out.dig DD238.out) (Nat.le_trans HBK.out (by omega))) (RV.Is.nin R233.out (Nat.le_trans B233.out (by omega))) (by omega)) ?_;rintro e w237 ⟨rfl,hx⟩;have H239:=zH (H234.out.step hx);have S241:=zH (S236.out.trans hx);clear hx;refine zm S241.out ?_;refine zu 8 (bs 10 511) (v:= .bool true) S241.out ?_ (hv:=by intro w hSw;exact ezg (e:=(dec_t (rcmp_gt.2 C2.out))));refine zx 9 (bs 10 1023) (.bool true) S241.out ?_;refine wpAnyH_done kR ?_ _;go_upto_region 11 with fail
    refine wl ?_;refine zI2 (Hp.start _) _ _ ?_;refine aS' 4 rz H239.out ?_;intro w246 H247 _;refine aS' 5 rz H247.out ?_;intro w249 H250 _;refine zq (.int .i64 0) ?_;have HSN:=zH (show segN a b c d=0 from by unfold segN;rw[if_pos HNZ.out,if_neg (fun h_=>by have e_:=HXK.out;rcases HK2.out with k_|k_;rw[if_pos k_]at e_;exact h_.1.2 (e_▸C2.out);rw[if_neg (by omega)]at e_;exact h_.2.2 (e_▸C2.out))]);go_wp2_with fail
    refine bodyPost_ret (v:= .tuple #[.agg z4,.agg z4,.int .i64 0]) ?_ rfl ⟨.inr ⟨by rw[HSN.out];decide,by rw[HSN.out]⟩,H250.out.ext⟩;exact results_c1c1t1 rfl rfl rfl ((H250.out.blk (i:=4) rR).loadVar rfl rfl rR) ((H250.out.blk (i:=5) rR).loadVar rfl rfl rR) rfl
   go_upto_region 10 with fail
   refine zy ?_;have H253:=zH (H190.out.step (Ext.refl w189).drew);have D253:=zH (Dig.of_ext (w:=w189) zb);refine zJ1 H190.out zb (bs 10 1) 0 _ ?_;refine mC 1 (bs 10 3) (pFrom 0 _ (by have ob3:=HLT.out;omega) (by have ob3:=HLT.out;omega)) ?_;rintro e w255 ⟨c_,rfl,hc_,hx⟩;have H257:=zH (H253.out.step hx);have D257:=zH (show Dig w189.drew w255 from Dig.of_ext hx);have S259:=zH (zb.trans hx);obtain⟨r256,rfl,hr_⟩:=hc_;have R256:=zH hr_;have B256:=zH (rl_i64 0 (by have ob3:=HLT.out;omega) (by have ob3:=HLT.out;omega));clear hr_ hx;refine zm S259.out ?_;have DD261:=tD (tD (tD D186 D190) D253) D257;refine mC 2 (bs 10 7) (pCmp (L:=60000) (RV.Is.nin (HRK.out.dig DD261.out) (Nat.le_trans HBK.out (by omega))) (RV.Is.nin R256.out (Nat.le_trans B256.out (by omega))) (by omega)) ?_;rintro e w260 ⟨rfl,hx⟩;have H262:=zH (H257.out.step hx);have D262:=zH (Dig.of_ext hx);have S264:=zH (S259.out.trans hx);clear hx;refine zm S264.out ?_;refine zu 3 (bs 10 15) (v:= .bool false) S264.out ?_ (hv:=by intro w hSw;exact ezl (e:=(dec_f (fun hh=>C1.out (rcmp_lt.1 hh)))));refine zJ2 H190.out S264.out (bs 10 63) 4 5 (.bool false) _ ?_;refine mC 6 (bs 10 127) (pFrom 1 _ (by have ob3:=HLT.out;omega) (by have ob3:=HLT.out;omega)) ?_;rintro e w267 ⟨c_,rfl,hc_,hx⟩;have H269:=zH (H262.out.step hx);have D269:=zH (Dig.of_ext hx);have S271:=zH (S264.out.trans hx);obtain⟨r268,rfl,hr_⟩:=hc_;have R268:=zH hr_;have B268:=zH (rl_i64 1 (by have ob3:=HLT.out;omega) (by have ob3:=HLT.out;omega));clear hr_ hx;refine zm S271.out ?_;have DD273:=tD (tD DD261 D262) D269;refine mC 7 (bs 10 255) (pCmp (L:=60000) (RV.Is.nin (HRK.out.dig DD273.out) (Nat.le_trans HBK.out (by omega))) (RV.Is.nin R268.out (Nat.le_trans B268.out (by omega))) (by omega)) ?_;rintro e w272 ⟨rfl,hx⟩;have H274:=zH (H269.out.step hx);have D274:=zH (Dig.of_ext hx);have S276:=zH (S271.out.trans hx);clear hx;refine zm S276.out ?_;refine zu 8 (bs 10 511) (v:= .bool false) S276.out ?_ (hv:=by intro w hSw;exact ezg (e:=(dec_f (fun hh=>C2.out (rcmp_gt.1 hh)))));refine zx 9 (bs 10 1023) (.bool false) S276.out ?_;refine wpAnyH_done kR ?_ _;go_upto_region 12 with fail
   refine wl ?_;refine zp (.int .i64 ((k+1:Nat):Int)) (by exact ez1 (by have ob3:=HLT.out;omega)) ?_;refine zq (.int .i64 ((k+1:Nat):Int)) ?_;have DD281:=tD (tD (tD (tD (tD (tD (tD D178 D186) D190) D253) D257) D262) D269) D274;go_wp2_with fail
   go_roundg (2-(k+1))
   case measure=>exact(by have ob3:=HLT.out;omega)
   case rel=>exact⟨k+1,rfl,(by go_num),(by have h_:=HLT.out;omega),(fun _=>by rcases HK2.out with k_|k_;have e_:=HXK.out;rw[if_pos k_]at e_;rw[<-e_];exact⟨C1.out,C2.out⟩;exact H0.out (by omega)),(fun h2_=>by have e_:=HXK.out;rw[if_neg (by omega)]at e_;rw[<-e_];exact⟨C1.out,C2.out⟩),H274.out.take 13,DD281.out⟩
  obtain rfl:k=2:=by have h_:=HLT.out;have h2_:=HK.out;omega
  have HSN:=zH (show segN a b c d=1 from by unfold segN;rw[if_pos HNZ.out,if_pos ⟨H0.out (by decide),H1.out (by decide)⟩]);go_upto_region 8 with fail
  refine wl ?_;refine zp (.bool false) (by exact ezl (e:=(dec_f dC))) ?_;go_upto_region 13 with fail
  refine wp_region_held_drew (S:=fun x=>Fr (fun kz=>kz=X69\/kz=X74) w176 x) kR (Fr.of_ext zb) (fun _=> ?_);have H283:=zH (H178.out.step (Ext.refl w176).drew);have D283:=zH (Dig.of_ext (w:=w176) zb);refine zx 0 (bs 15 1) (.pointer (some ⟨X49,0,none⟩)) (Fr.of_ext zb) ?_;refine md_ld1 (g:=X49) (o:=0) (v:= .int .i64 a.1) (i:=1) (listed':=(bs 15 3)) rR kR kR kR (by intro _ _ _ h;exact h) rR (fun x hx=>Fr.cell hx (show World.cell? w176 ⟨X49,0,none⟩=some (.int .i64 a.1)from cell_of_range (H178.out.range (i:=0) rR 0 1)) (fun hk=>hk.elim (H178.out.offBlk (i:=0) (j:=4) rR rR dC rR) (H178.out.offBlk (i:=0) (j:=5) rR rR dC rR))) (by intro x hq;go_simp<;>with_reducible rfl) (Fr.of_ext zb) kR ?_;try simp only[Act.put,zA,zB,zC]
  refine zx 2 (bs 15 7) (.pointer (some ⟨X54,0,none⟩)) (Fr.of_ext zb) ?_;refine md_ld1 (g:=X54) (o:=0) (v:= .int .i64 b.1) (i:=3) (listed':=(bs 15 15)) rR kR kR kR (by intro _ _ _ h;exact h) rR (fun x hx=>Fr.cell hx (show World.cell? w176 ⟨X54,0,none⟩=some (.int .i64 b.1)from cell_of_range (H178.out.range (i:=1) rR 0 1)) (fun hk=>hk.elim (H178.out.offBlk (i:=1) (j:=4) rR rR dC rR) (H178.out.offBlk (i:=1) (j:=5) rR rR dC rR))) (by intro x hq;go_simp<;>with_reducible rfl) (Fr.of_ext zb) kR ?_;refine zr 4 (bs 15 31) X153 (0) [.bool r140.n,.slice r140.p r140.l r140.c,.bool r140.m,.slice r140.p2 r140.l2 r140.c2] (fun x hx=>Fr.range hx (show World.rangeAt w176 X153 (0) [.bool r140.n,.slice r140.p r140.l r140.c,.bool r140.m,.slice r140.p2 r140.l2 r140.c2]from(H178.out.range (i:=10) rR 0 4)) (fun hk=>hk.elim (H178.out.offBlk (i:=10) (j:=4) rR rR dC rR) (H178.out.offBlk (i:=10) (j:=5) rR rR dC rR))) Tryz.underlying30 (Fr.of_ext zb) ?_;refine zx 6 (bs 15 95) (.pointer (some ⟨X49,1,none⟩)) (Fr.of_ext zb) ?_;refine md_ld1 (g:=X49) (o:=1) (v:= .int .i64 a.2) (i:=7) (listed':=(bs 15 223)) rR kR kR kR (by intro _ _ _ h;exact h) rR (fun x hx=>Fr.cell hx (show World.cell? w176 ⟨X49,1,none⟩=some (.int .i64 a.2)from cell_of_range (H178.out.range (i:=0) rR 1 1)) (fun hk=>hk.elim (H178.out.offBlk (i:=0) (j:=4) rR rR dC rR) (H178.out.offBlk (i:=0) (j:=5) rR rR dC rR))) (by intro x hq;go_simp<;>with_reducible rfl) (Fr.of_ext zb) kR ?_;try simp only[Act.put,zA,zB,zC]
  refine zx 8 (bs 15 479) (.pointer (some ⟨X54,1,none⟩)) (Fr.of_ext zb) ?_;refine md_ld1 (g:=X54) (o:=1) (v:= .int .i64 b.2) (i:=9) (listed':=(bs 15 991)) rR kR kR kR (by intro _ _ _ h;exact h) rR (fun x hx=>Fr.cell hx (show World.cell? w176 ⟨X54,1,none⟩=some (.int .i64 b.2)from cell_of_range (H178.out.range (i:=1) rR 1 1)) (fun hk=>hk.elim (H178.out.offBlk (i:=1) (j:=4) rR rR dC rR) (H178.out.offBlk (i:=1) (j:=5) rR rR dC rR))) (by intro x hq;go_simp<;>with_reducible rfl) (Fr.of_ext zb) kR ?_;refine zr 10 (bs 15 2015) X153 (0) [.bool r140.n,.slice r140.p r140.l r140.c,.bool r140.m,.slice r140.p2 r140.l2 r140.c2] (fun x hx=>Fr.range hx (show World.rangeAt w176 X153 (0) [.bool r140.n,.slice r140.p r140.l r140.c,.bool r140.m,.slice r140.p2 r140.l2 r140.c2]from(H178.out.range (i:=10) rR 0 4)) (fun hk=>hk.elim (H178.out.offBlk (i:=10) (j:=4) rR rR dC rR) (H178.out.offBlk (i:=10) (j:=5) rR rR dC rR))) Tryz.underlying30 (Fr.of_ext zb) ?_;have DD291:=tD (tD (tD (tD (tD (tD (tD D145 D150) D156) D162) D166) D171) D178) D283;refine mC 5 (bs 15 2047) (along_any 20 a.1 b.1 _ (((cr (dv a c) (dv c d):Int):Rat)/((cr (dv a b) (dv c d):Int):Rat)) _ (RV.Is.nin (R140.out.dig DD291.out) (Nat.le_trans B140.out (by omega))) dC dC ⟨(by omega),(by omega)⟩ ⟨(by omega),(by omega)⟩) ?_;rintro e w289 ⟨c_,rfl,hc_,hx⟩;have H292:=zH (H283.out.step hx);have D292:=zH (show Dig w176.drew w289 from Dig.of_ext hx);have S295:=zH (show Fr (fun kz=>kz=X69\/kz=X74) w176 w289 from(Fr.of_ext zb).trans (Fr.of_ext hx));obtain⟨r290,rfl,hr_⟩:=hc_;have R290:=zH hr_;clear hr_ hx;refine zm S295.out ?_;have DD298:=tD DD291 D292;refine mC 11 (bs 15 4095) (along_any 20 a.2 b.2 _ (((cr (dv a c) (dv c d):Int):Rat)/((cr (dv a b) (dv c d):Int):Rat)) _ (RV.Is.nin (R140.out.dig DD298.out) (Nat.le_trans B140.out (by omega))) dC dC ⟨(by omega),(by omega)⟩ ⟨(by omega),(by omega)⟩) ?_;rintro e w296 ⟨c_,rfl,hc_,hx⟩;have H299:=zH (H292.out.step hx);have D299:=zH (Dig.of_ext hx);have S302:=zH (S295.out.trans (Fr.of_ext hx));obtain⟨r297,rfl,hr_⟩:=hc_;have R297:=zH hr_;clear hr_ hx;refine zm S302.out ?_;refine md_st (i:=12) (listed':=(bs 15 8191)) rR kR rR kR _ _ _ rR H299.out (ix:=4) rR 0 [.bool r290.n,.slice r290.p r290.l r290.c,.bool r290.m,.slice r290.p2 r290.l2 r290.c2] rR rR (by simp) kR (by simp[Value.oneCell']) (by simp[NoUL]) ?_;intro w303 hh hd ho;have H304:=hN hh;have D304:=zH (hd);have S306:=zH (Fr.trans_new S302.out ho (fun j hj=> .inl (.inl (by injection hj with hj;exact hj.symm))));clear hh hd ho;refine⟨S306.out,?_⟩
  (try simp only[Act.put])
  refine md_st (i:=13) (listed':=(bs 15 16383)) rR kR rR kR _ _ _ rR H304.out (ix:=5) rR 0 [.bool r297.n,.slice r297.p r297.l r297.c,.bool r297.m,.slice r297.p2 r297.l2 r297.c2] rR rR (by simp) kR (by simp[Value.oneCell']) (by simp[NoUL]) ?_;intro w307 hh hd ho;have H308:=hN hh;have D308:=zH (hd);have S310:=zH (Fr.trans_new S306.out ho (fun j hj=> .inl (.inr (by injection hj with hj;exact hj.symm))));clear hh hd ho;refine⟨S310.out,?_⟩
  (try simp only[Act.put])
  refine zx 14 (bs 15 32767) (.int .i64 1) S310.out ?_;refine wpAnyH_done kR ?_ _;have DD312:=tD (tD D299 D304) D308;have DD313:=tD D304 D308;go_wp2_with fail
  refine bodyPost_ret (v:= .tuple #[.agg #[.bool r290.n,.slice r290.p r290.l r290.c,.bool r290.m,.slice r290.p2 r290.l2 r290.c2],.agg #[.bool r297.n,.slice r297.p r297.l r297.c,.bool r297.m,.slice r297.p2 r297.l2 r297.c2],.int .i64 1]) ?_ rfl ⟨.inl ⟨r290,r297,HSN.out,rfl,by unfold segX;rw[if_pos HNZ.out];exact(R290.out.dig DD312.out),by unfold segY;rw[if_pos HNZ.out];exact(R297.out.dig DD313.out)⟩,H308.out.ext⟩;exact results_c1c1t1 rfl rfl rfl ((H308.out.blk (i:=4) rR).loadVar rfl rfl rR) ((H308.out.blk (i:=5) rR).loadVar rfl rfl rR) rfl
 go_upto_region 5 with fail
 refine wl ?_;refine zq (.int .i64 (cr (dv a b) (dv c d))) ?_;refine zp (.bool false) (by exact ezn (e:=(dec_f HNZ.out))) ?_;go_upto_region 14 with fail
 refine wl ?_;refine zI1 H125.out _ ?_;refine aA' 23 [.int .i64 0,.int .i64 0] H125.out ?_;intro X316 w317 H318 _;refine aS' 10 [.int .i64 ((dv a b).1),.int .i64 ((dv a b).2)] H318.out ?_;intro w321 H322 _;go_upto_region 15 with fail
 refine wl ?_;refine zI2 H322.out _ _ ?_;refine zp (.bool ((dv a b).1==0&&(dv a b).2==0)) (by exact ev_eqlpt rR rR rR rfl) ?_;go_upto_if 91 with fail
 go_cut [] (fun wx=>Hp w wx [.blk X49 23 [.int .i64 a.1,.int .i64 a.2],.blk X54 23 [.int .i64 b.1,.int .i64 b.2],.blk X59 23 [.int .i64 c.1,.int .i64 c.2],.blk X64 23 [.int .i64 d.1,.int .i64 d.2],.blk X69 30 [.bool false,.slice none 0 0,.bool false,.slice none 0 0],.blk X74 30 [.bool false,.slice none 0 0,.bool false,.slice none 0 0],.blk X80 23 [.int .i64 a.1,.int .i64 a.2,.int .i64 b.1,.int .i64 b.2,.int .i64 c.1,.int .i64 c.2,.int .i64 d.1,.int .i64 d.2],.blk X102 23 [.int .i64 ((dv a b).1),.int .i64 ((dv a b).2)],.blk X103 23 [.int .i64 ((dv c d).1),.int .i64 ((dv c d).2)],.blk X104 23 [.int .i64 ((dv a c).1),.int .i64 ((dv a c).2)],.blk X316 23 [.int .i64 ((lineV a b c d).1),.int .i64 ((lineV a b c d).2)]]/\Dig w321 wx)
 case first=>
  by_cases cj:((dv a b).1==0&&(dv a b).2==0)=true
  ·rw[cj]
   go_upto_region 16 with fail
   refine wl ?_;refine zI1 H322.out _ ?_;refine aS' 10 [.int .i64 ((dv c d).1),.int .i64 ((dv c d).2)] H322.out ?_;intro w326 H327 D327;go_wp2_with fail
   go_meet
   exact⟨(by rw[show lineV a b c d=dv c d from if_pos ((pt_eq (a:=dv a b) (b:=(0,0))).1 cj)];exact H327.out),D327.out⟩
  rw[Bool.eq_false_iff.2 cj];go_wp2_with fail
  go_meet
  exact⟨(by rw[show lineV a b c d=dv a b from if_neg (fun h_=>cj ((pt_eq (a:=dv a b) (b:=(0,0))).2 h_))];exact H322.out),(Dig.refl _)⟩
 obtain⟨hh_,hd_⟩:=hcut;generalize wc=w329 at*
 have H331:=zH hh_;have D331:=zH hd_;clear hh_ hd_;have HL:=zH (show lineV a b c d=lineV a b c d from rfl);have hlb:(-2097152<=(lineV a b c d).1/\(lineV a b c d).1<=2097152)/\(-2097152<=(lineV a b c d).2/\(lineV a b c d).2<=2097152):=by unfold lineV;split;exact dv_bd hc hd;exact dv_bd ha hb
 have hn4:=cr_bd hlb (dv_bd ha hc);rcases emH (cr (lineV a b c d) (dv a c)≠0)with HX|HX
 ·go_upto_region 17 with fail
  refine wl ?_;refine zd X316 (0) [.int .i64 ((lineV a b c d).1),.int .i64 ((lineV a b c d).2)] (H331.out.range (i:=10) rR 0 2) Tryz.underlying23 ?_;refine zd X104 (0) [.int .i64 ((dv a c).1),.int .i64 ((dv a c).2)] (H331.out.range (i:=9) rR 0 2) Tryz.underlying23 ?_;refine aC H331.out (icross_any (lineV a b c d) (dv a c) _ hlb (dv_bd ha hc)) ?_;intro w333 H334 _;refine zp (.bool true) (by exact ezn (e:=(dec_t HX.out))) ?_;refine zI8 (Hp.start _) (.bool true) _ _ _ _ _ _ _ ?_;refine zk ?_;refine zq (.bool true) ?_;go_upto_region 18 with fail
  refine wl ?_;refine zI2 (Hp.start _) _ _ ?_;refine aS' 4 rz H334.out ?_;intro w341 H342 _;refine aS' 5 rz H342.out ?_;intro w344 H345 _;refine zq (.int .i64 0) ?_;have HSN:=zH (show segN a b c d=0 from by unfold segN;rw[if_neg HNZ.out,HL.out];exact if_pos (.inl HX.out));go_wp2_with fail
  refine bodyPost_ret (v:= .tuple #[.agg z4,.agg z4,.int .i64 0]) ?_ rfl ⟨.inr ⟨by rw[HSN.out];decide,by rw[HSN.out]⟩,H345.out.ext⟩;exact results_c1c1t1 rfl rfl rfl ((H345.out.blk (i:=4) rR).loadVar rfl rfl rR) ((H345.out.blk (i:=5) rR).loadVar rfl rfl rR) rfl
 rcases emH (lineV a b c d=(0,0))with HL0|HL0
 ·rcases emH (a≠c)with HAC|HAC
  ·go_upto_region 17 with fail
   refine wl ?_;refine zd X316 (0) [.int .i64 ((lineV a b c d).1),.int .i64 ((lineV a b c d).2)] (H331.out.range (i:=10) rR 0 2) Tryz.underlying23 ?_;refine zd X104 (0) [.int .i64 ((dv a c).1),.int .i64 ((dv a c).2)] (H331.out.range (i:=9) rR 0 2) Tryz.underlying23 ?_;refine aC H331.out (icross_any (lineV a b c d) (dv a c) _ hlb (dv_bd ha hc)) ?_;intro w350 H351 _;refine zp (.bool false) (by exact ezn (e:=(dec_f HX.out))) ?_;refine qV (.bool false) ?_;refine zd X316 (0) [.int .i64 ((lineV a b c d).1),.int .i64 ((lineV a b c d).2)] (H351.out.range (i:=10) rR 0 2) Tryz.underlying23 ?_;refine zI1 (Hp.start _) _ ?_;refine zp (.bool true) (by exact ev_eqlpt rR rR rR ((pt_eq (a:=lineV a b c d) (b:=(0,0))).2 HL0.out)) ?_;refine qV (.bool true) ?_;refine zd X49 (0) [.int .i64 a.1,.int .i64 a.2] (H351.out.range (i:=0) rR 0 2) Tryz.underlying23 ?_;refine zd X59 (0) [.int .i64 c.1,.int .i64 c.2] (H351.out.range (i:=2) rR 0 2) Tryz.underlying23 ?_;refine zp (.bool true) (by exact ev_neqpt rR rR rR (by rw[Bool.not_eq_true',Bool.eq_false_iff];exact fun h_=>HAC.out (pt_eq.1 h_))) ?_;refine zI2 (Hp.start _) (.bool true) (.bool true) ?_;go_upto_region 18 with fail
   refine wl ?_;refine zI2 (Hp.start _) _ _ ?_;refine aS' 4 rz H351.out ?_;intro w363 H364 _;refine aS' 5 rz H364.out ?_;intro w366 H367 _;refine zq (.int .i64 0) ?_;have HSN:=zH (show segN a b c d=0 from by unfold segN;rw[if_neg HNZ.out,HL.out];exact if_pos (.inr ⟨HL0.out,HAC.out⟩));go_wp2_with fail
   refine bodyPost_ret (v:= .tuple #[.agg z4,.agg z4,.int .i64 0]) ?_ rfl ⟨.inr ⟨by rw[HSN.out];decide,by rw[HSN.out]⟩,H367.out.ext⟩;exact results_c1c1t1 rfl rfl rfl ((H367.out.blk (i:=4) rR).loadVar rfl rfl rR) ((H367.out.blk (i:=5) rR).loadVar rfl rfl rR) rfl
  have HR:=zH (show¬(lineV a b c d=(0,0)/\a≠c)from fun h_=>HAC.out h_.2);go_upto_region 17 with fail
  refine wl ?_;refine zd X316 (0) [.int .i64 ((lineV a b c d).1),.int .i64 ((lineV a b c d).2)] (H331.out.range (i:=10) rR 0 2) Tryz.underlying23 ?_;refine zd X104 (0) [.int .i64 ((dv a c).1),.int .i64 ((dv a c).2)] (H331.out.range (i:=9) rR 0 2) Tryz.underlying23 ?_;refine aC H331.out (icross_any (lineV a b c d) (dv a c) _ hlb (dv_bd ha hc)) ?_;intro w370 H371 _;refine zp (.bool false) (by exact ezn (e:=(dec_f HX.out))) ?_;refine qV (.bool false) ?_;refine zd X316 (0) [.int .i64 ((lineV a b c d).1),.int .i64 ((lineV a b c d).2)] (H371.out.range (i:=10) rR 0 2) Tryz.underlying23 ?_;refine zI1 (Hp.start _) _ ?_;refine zp (.bool true) (by exact ev_eqlpt rR rR rR ((pt_eq (a:=lineV a b c d) (b:=(0,0))).2 HL0.out)) ?_;refine qV (.bool true) ?_;refine zd X49 (0) [.int .i64 a.1,.int .i64 a.2] (H371.out.range (i:=0) rR 0 2) Tryz.underlying23 ?_;refine zd X59 (0) [.int .i64 c.1,.int .i64 c.2] (H371.out.range (i:=2) rR 0 2) Tryz.underlying23 ?_;refine zp (.bool false) (by exact ev_neqpt rR rR rR (by rw[Bool.not_eq_false'];exact pt_eq.2 (Classical.not_not.1 HAC.out))) ?_;refine zI2 (Hp.start _) (.bool false) (.bool false) ?_;go_upto_region 19 with fail
  refine wl ?_;refine zd X49 (0) [.int .i64 a.1,.int .i64 a.2] (H371.out.range (i:=0) rR 0 2) Tryz.underlying23 ?_;refine zd X54 (0) [.int .i64 b.1,.int .i64 b.2] (H371.out.range (i:=1) rR 0 2) Tryz.underlying23 ?_;refine zd X59 (0) [.int .i64 c.1,.int .i64 c.2] (H371.out.range (i:=2) rR 0 2) Tryz.underlying23 ?_;refine zd X64 (0) [.int .i64 d.1,.int .i64 d.2] (H371.out.range (i:=3) rR 0 2) Tryz.underlying23 ?_;refine aC H371.out (shared_any a b c d _ ha hb hc hd) ?_;intro w381 H382 _;refine zI3 (Hp.start _) _ _ (.int .i64 ((sharedV a b c d).2)) ?_;refine aA' 23 [.int .i64 0,.int .i64 0] H382.out ?_;intro X387 w388 H389 _;refine aS' 11 [.int .i64 ((sharedV a b c d).1.1),.int .i64 ((sharedV a b c d).1.2)] H389.out ?_;intro w392 H393 _;refine zq (.int .i64 ((sharedV a b c d).2)) ?_;have HSN:=zH (show segN a b c d=(sharedV a b c d).2 from by unfold segN;rw[if_neg HNZ.out,HL.out];exact if_neg (fun h_=>h_.elim (fun h_=>HX.out h_) (fun h_=>HR.out h_)));have hk_:=shared_bd a b c d;rcases emH ((sharedV a b c d).2≠1)with HK1|HK1
  ·go_upto_region 20 with fail
   refine wl ?_;refine zq (.int .i64 ((sharedV a b c d).2)) ?_;refine zp (.bool true) (by exact ezn (e:=(dec_t HK1.out))) ?_;go_upto_region 21 with fail
   refine wl ?_;refine zI3 (Hp.start _) _ _ (.int .i64 ((sharedV a b c d).2)) ?_;refine aS' 4 rz H393.out ?_;intro w402 H403 _;refine aS' 5 rz H403.out ?_;intro w405 H406 _;refine zq (.int .i64 ((sharedV a b c d).2)) ?_;go_wp2_with fail
   refine bodyPost_ret (v:= .tuple #[.agg z4,.agg z4,.int .i64 (sharedV a b c d).2]) ?_ rfl ⟨.inr ⟨by rw[HSN.out];exact HK1.out,by rw[HSN.out]⟩,H406.out.ext⟩;exact results_c1c1t1 rfl rfl rfl ((H406.out.blk (i:=4) rR).loadVar rfl rfl rR) ((H406.out.blk (i:=5) rR).loadVar rfl rfl rR) rfl
  have hk1_:(sharedV a b c d).2=1:=by have h_:=HK1.out;omega
  have hp_:=shared_ok ha hb hc hd;have op_:=okP_out hp_;go_upto_region 20 with fail
  refine wl ?_;refine zq (.int .i64 ((sharedV a b c d).2)) ?_;refine zp (.bool false) (by exact ezn (e:=(dec_f HK1.out))) ?_;go_upto_region 22 with fail
  refine wp_region_held_drew (S:=fun x=>Fr (fun kz=>kz=X69\/kz=X74) w392 x) kR (Fr.of_ext zb) (fun _=> ?_);have H411:=zH (H393.out.step (Ext.refl w392).drew);refine zx 0 (bs 9 1) (.pointer (some ⟨X387,0,none⟩)) (Fr.of_ext zb) ?_;refine md_ld1 (g:=X387) (o:=0) (v:= .int .i64 ((sharedV a b c d).1.1)) (i:=1) (listed':=(bs 9 3)) rR kR kR kR (by intro _ _ _ h;exact h) rR (fun x hx=>Fr.cell hx (show World.cell? w392 ⟨X387,0,none⟩=some (.int .i64 ((sharedV a b c d).1.1))from cell_of_range (H393.out.range (i:=11) rR 0 1)) (fun hk=>hk.elim (H393.out.offBlk (i:=11) (j:=4) rR rR dC rR) (H393.out.offBlk (i:=11) (j:=5) rR rR dC rR))) (by intro x hq;go_simp<;>with_reducible rfl) (Fr.of_ext zb) kR ?_;try simp only[Act.put,zA,zB,zC]
  refine zx 3 (bs 9 11) (.pointer (some ⟨X387,1,none⟩)) (Fr.of_ext zb) ?_;refine md_ld1 (g:=X387) (o:=1) (v:= .int .i64 ((sharedV a b c d).1.2)) (i:=4) (listed':=(bs 9 27)) rR kR kR kR (by intro _ _ _ h;exact h) rR (fun x hx=>Fr.cell hx (show World.cell? w392 ⟨X387,1,none⟩=some (.int .i64 ((sharedV a b c d).1.2))from cell_of_range (H393.out.range (i:=11) rR 1 1)) (fun hk=>hk.elim (H393.out.offBlk (i:=11) (j:=4) rR rR dC rR) (H393.out.offBlk (i:=11) (j:=5) rR rR dC rR))) (by intro x hq;go_simp<;>with_reducible rfl) (Fr.of_ext zb) kR ?_;try simp only[Act.put,zA,zB,zC]
  refine mC 2 (bs 9 31) (pFrom ((sharedV a b c d).1.1) _ (by omega) (by omega)) ?_;rintro e w415 ⟨c_,rfl,hc_,hx⟩;have H417:=zH (H411.out.step hx);have S420:=zH (show Fr (fun kz=>kz=X69\/kz=X74) w392 w415 from(Fr.of_ext zb).trans (Fr.of_ext hx));obtain⟨r416,rfl,hr_⟩:=hc_;have R416:=zH hr_;clear hr_ hx;refine zm S420.out ?_;refine mC 5 (bs 9 63) (pFrom ((sharedV a b c d).1.2) _ (by omega) (by omega)) ?_;rintro e w421 ⟨c_,rfl,hc_,hx⟩;have H423:=zH (H417.out.step hx);have D423:=zH (Dig.of_ext hx);have S426:=zH (S420.out.trans (Fr.of_ext hx));obtain⟨r422,rfl,hr_⟩:=hc_;have R422:=zH hr_;clear hr_ hx;refine zm S426.out ?_;refine md_st (i:=6) (listed':=(bs 9 127)) rR kR rR kR _ _ _ rR H423.out (ix:=4) rR 0 [.bool r416.n,.slice r416.p r416.l r416.c,.bool r416.m,.slice r416.p2 r416.l2 r416.c2] rR rR (by simp) kR (by simp[Value.oneCell']) (by simp[NoUL]) ?_;intro w427 hh hd ho;have H428:=hN hh;have D428:=zH (hd);have S430:=zH (Fr.trans_new S426.out ho (fun j hj=> .inl (.inl (by injection hj with hj;exact hj.symm))));clear hh hd ho;refine⟨S430.out,?_⟩
  (try simp only[Act.put])
  refine md_st (i:=7) (listed':=(bs 9 255)) rR kR rR kR _ _ _ rR H428.out (ix:=5) rR 0 [.bool r422.n,.slice r422.p r422.l r422.c,.bool r422.m,.slice r422.p2 r422.l2 r422.c2] rR rR (by simp) kR (by simp[Value.oneCell']) (by simp[NoUL]) ?_;intro w431 hh hd ho;have H432:=hN hh;have D432:=zH (hd);have S434:=zH (Fr.trans_new S430.out ho (fun j hj=> .inl (.inr (by injection hj with hj;exact hj.symm))));clear hh hd ho;refine⟨S434.out,?_⟩
  (try simp only[Act.put])
  refine zx 8 (bs 9 511) (.int .i64 1) S434.out ?_;refine wpAnyH_done kR ?_ _;have DD436:=tD (tD D423 D428) D432;have DD437:=tD D428 D432;go_wp2_with fail
  refine bodyPost_ret (v:= .tuple #[.agg #[.bool r416.n,.slice r416.p r416.l r416.c,.bool r416.m,.slice r416.p2 r416.l2 r416.c2],.agg #[.bool r422.n,.slice r422.p r422.l r422.c,.bool r422.m,.slice r422.p2 r422.l2 r422.c2],.int .i64 1]) ?_ rfl ⟨.inl ⟨r416,r422,HSN.out.trans hk1_,rfl,by unfold segX;rw[if_neg HNZ.out];exact(R416.out.dig DD436.out),by unfold segY;rw[if_neg HNZ.out];exact(R422.out.dig DD437.out)⟩,H432.out.ext⟩;exact results_c1c1t1 rfl rfl rfl ((H432.out.blk (i:=4) rR).loadVar rfl rfl rR) ((H432.out.blk (i:=5) rR).loadVar rfl rfl rR) rfl
 have HR:=zH (show¬(lineV a b c d=(0,0)/\a≠c)from fun h_=>HL0.out h_.1);go_upto_region 17 with fail
 refine wl ?_;refine zd X316 (0) [.int .i64 ((lineV a b c d).1),.int .i64 ((lineV a b c d).2)] (H331.out.range (i:=10) rR 0 2) Tryz.underlying23 ?_;refine zd X104 (0) [.int .i64 ((dv a c).1),.int .i64 ((dv a c).2)] (H331.out.range (i:=9) rR 0 2) Tryz.underlying23 ?_;refine aC H331.out (icross_any (lineV a b c d) (dv a c) _ hlb (dv_bd ha hc)) ?_;intro w438 H439 _;refine zp (.bool false) (by exact ezn (e:=(dec_f HX.out))) ?_;refine qV (.bool false) ?_;refine zd X316 (0) [.int .i64 ((lineV a b c d).1),.int .i64 ((lineV a b c d).2)] (H439.out.range (i:=10) rR 0 2) Tryz.underlying23 ?_;refine zI1 (Hp.start _) _ ?_;refine zp (.bool false) (by exact ev_eqlpt rR rR rR (Bool.eq_false_iff.2 (fun h_=>HL0.out ((pt_eq (a:=lineV a b c d) (b:=(0,0))).1 h_)))) ?_;refine zI6 (Hp.start _) (.bool false) _ _ _ (.bool false) (.bool false) ?_;go_upto_region 19 with fail
 refine wl ?_;refine zd X49 (0) [.int .i64 a.1,.int .i64 a.2] (H439.out.range (i:=0) rR 0 2) Tryz.underlying23 ?_;refine zd X54 (0) [.int .i64 b.1,.int .i64 b.2] (H439.out.range (i:=1) rR 0 2) Tryz.underlying23 ?_;refine zd X59 (0) [.int .i64 c.1,.int .i64 c.2] (H439.out.range (i:=2) rR 0 2) Tryz.underlying23 ?_;refine zd X64 (0) [.int .i64 d.1,.int .i64 d.2] (H439.out.range (i:=3) rR 0 2) Tryz.underlying23 ?_;refine aC H439.out (shared_any a b c d _ ha hb hc hd) ?_;intro w448 H449 _;refine zI3 (Hp.start _) _ _ (.int .i64 ((sharedV a b c d).2)) ?_;refine aA' 23 [.int .i64 0,.int .i64 0] H449.out ?_;intro X454 w455 H456 _;refine aS' 11 [.int .i64 ((sharedV a b c d).1.1),.int .i64 ((sharedV a b c d).1.2)] H456.out ?_;intro w459 H460 _;refine zq (.int .i64 ((sharedV a b c d).2)) ?_;have HSN:=zH (show segN a b c d=(sharedV a b c d).2 from by unfold segN;rw[if_neg HNZ.out,HL.out];exact if_neg (fun h_=>h_.elim (fun h_=>HX.out h_) (fun h_=>HR.out h_)));have hk_:=shared_bd a b c d;rcases emH ((sharedV a b c d).2≠1)with HK1|HK1
 ·go_upto_region 20 with fail
  refine wl ?_;refine zq (.int .i64 ((sharedV a b c d).2)) ?_;refine zp (.bool true) (by exact ezn (e:=(dec_t HK1.out))) ?_;go_upto_region 21 with fail
  refine wl ?_;refine zI3 (Hp.start _) _ _ (.int .i64 ((sharedV a b c d).2)) ?_;refine aS' 4 rz H460.out ?_;intro w469 H470 _;refine aS' 5 rz H470.out ?_;intro w472 H473 _;refine zq (.int .i64 ((sharedV a b c d).2)) ?_;go_wp2_with fail
  refine bodyPost_ret (v:= .tuple #[.agg z4,.agg z4,.int .i64 (sharedV a b c d).2]) ?_ rfl ⟨.inr ⟨by rw[HSN.out];exact HK1.out,by rw[HSN.out]⟩,H473.out.ext⟩;exact results_c1c1t1 rfl rfl rfl ((H473.out.blk (i:=4) rR).loadVar rfl rfl rR) ((H473.out.blk (i:=5) rR).loadVar rfl rfl rR) rfl
 have hk1_:(sharedV a b c d).2=1:=by have h_:=HK1.out;omega
 have hp_:=shared_ok ha hb hc hd;have op_:=okP_out hp_;go_upto_region 20 with fail
 refine wl ?_;refine zq (.int .i64 ((sharedV a b c d).2)) ?_;refine zp (.bool false) (by exact ezn (e:=(dec_f HK1.out))) ?_;go_upto_region 22 with fail
 refine wp_region_held_drew (S:=fun x=>Fr (fun kz=>kz=X69\/kz=X74) w459 x) kR (Fr.of_ext zb) (fun _=> ?_);have H478:=zH (H460.out.step (Ext.refl w459).drew);refine zx 0 (bs 9 1) (.pointer (some ⟨X454,0,none⟩)) (Fr.of_ext zb) ?_;refine md_ld1 (g:=X454) (o:=0) (v:= .int .i64 ((sharedV a b c d).1.1)) (i:=1) (listed':=(bs 9 3)) rR kR kR kR (by intro _ _ _ h;exact h) rR (fun x hx=>Fr.cell hx (show World.cell? w459 ⟨X454,0,none⟩=some (.int .i64 ((sharedV a b c d).1.1))from cell_of_range (H460.out.range (i:=11) rR 0 1)) (fun hk=>hk.elim (H460.out.offBlk (i:=11) (j:=4) rR rR dC rR) (H460.out.offBlk (i:=11) (j:=5) rR rR dC rR))) (by intro x hq;go_simp<;>with_reducible rfl) (Fr.of_ext zb) kR ?_;try simp only[Act.put,zA,zB,zC]
 refine zx 3 (bs 9 11) (.pointer (some ⟨X454,1,none⟩)) (Fr.of_ext zb) ?_;refine md_ld1 (g:=X454) (o:=1) (v:= .int .i64 ((sharedV a b c d).1.2)) (i:=4) (listed':=(bs 9 27)) rR kR kR kR (by intro _ _ _ h;exact h) rR (fun x hx=>Fr.cell hx (show World.cell? w459 ⟨X454,1,none⟩=some (.int .i64 ((sharedV a b c d).1.2))from cell_of_range (H460.out.range (i:=11) rR 1 1)) (fun hk=>hk.elim (H460.out.offBlk (i:=11) (j:=4) rR rR dC rR) (H460.out.offBlk (i:=11) (j:=5) rR rR dC rR))) (by intro x hq;go_simp<;>with_reducible rfl) (Fr.of_ext zb) kR ?_;try simp only[Act.put,zA,zB,zC]
 refine mC 2 (bs 9 31) (pFrom ((sharedV a b c d).1.1) _ (by omega) (by omega)) ?_;rintro e w482 ⟨c_,rfl,hc_,hx⟩;have H484:=zH (H478.out.step hx);have S487:=zH (show Fr (fun kz=>kz=X69\/kz=X74) w459 w482 from(Fr.of_ext zb).trans (Fr.of_ext hx));obtain⟨r483,rfl,hr_⟩:=hc_;have R483:=zH hr_;clear hr_ hx;refine zm S487.out ?_;refine mC 5 (bs 9 63) (pFrom ((sharedV a b c d).1.2) _ (by omega) (by omega)) ?_;rintro e w488 ⟨c_,rfl,hc_,hx⟩;have H490:=zH (H484.out.step hx);have D490:=zH (Dig.of_ext hx);have S493:=zH (S487.out.trans (Fr.of_ext hx));obtain⟨r489,rfl,hr_⟩:=hc_;have R489:=zH hr_;clear hr_ hx;refine zm S493.out ?_;refine md_st (i:=6) (listed':=(bs 9 127)) rR kR rR kR _ _ _ rR H490.out (ix:=4) rR 0 [.bool r483.n,.slice r483.p r483.l r483.c,.bool r483.m,.slice r483.p2 r483.l2 r483.c2] rR rR (by simp) kR (by simp[Value.oneCell']) (by simp[NoUL]) ?_;intro w494 hh hd ho;have H495:=hN hh;have D495:=zH (hd);have S497:=zH (Fr.trans_new S493.out ho (fun j hj=> .inl (.inl (by injection hj with hj;exact hj.symm))));clear hh hd ho;refine⟨S497.out,?_⟩
 (try simp only[Act.put])
 refine md_st (i:=7) (listed':=(bs 9 255)) rR kR rR kR _ _ _ rR H495.out (ix:=5) rR 0 [.bool r489.n,.slice r489.p r489.l r489.c,.bool r489.m,.slice r489.p2 r489.l2 r489.c2] rR rR (by simp) kR (by simp[Value.oneCell']) (by simp[NoUL]) ?_;intro w498 hh hd ho;have H499:=hN hh;have D499:=zH (hd);have S501:=zH (Fr.trans_new S497.out ho (fun j hj=> .inl (.inr (by injection hj with hj;exact hj.symm))));clear hh hd ho;refine⟨S501.out,?_⟩
 (try simp only[Act.put])
 refine zx 8 (bs 9 511) (.int .i64 1) S501.out ?_;refine wpAnyH_done kR ?_ _;have DD503:=tD (tD D490 D495) D499;have DD504:=tD D495 D499;go_wp2_with fail
 refine bodyPost_ret (v:= .tuple #[.agg #[.bool r483.n,.slice r483.p r483.l r483.c,.bool r483.m,.slice r483.p2 r483.l2 r483.c2],.agg #[.bool r489.n,.slice r489.p r489.l r489.c,.bool r489.m,.slice r489.p2 r489.l2 r489.c2],.int .i64 1]) ?_ rfl ⟨.inl ⟨r483,r489,HSN.out.trans hk1_,rfl,by unfold segX;rw[if_neg HNZ.out];exact(R483.out.dig DD503.out),by unfold segY;rw[if_neg HNZ.out];exact(R489.out.dig DD504.out)⟩,H499.out.ext⟩;exact results_c1c1t1 rfl rfl rfl ((H499.out.blk (i:=4) rR).loadVar rfl rfl rR) ((H499.out.blk (i:=5) rR).loadVar rfl rfl rR) rfl
def AtRet (C:Prop)(q:Rat)(w:World)(e:Ending)(w':World):Prop:=
  ((∃r:RV,C/\e= .returned (.tuple #[.agg #[.bool r.n,.slice r.p r.l r.c,.bool r.m,.slice r.p2 r.l2 r.c2],.bool true])/\r.Is w' q)\/
    (¬C/\e= .returned (.tuple #[.agg z4,.bool false])))/\Ext w w'
def i64P (p:Int×Int):Prop:=(-9223372036854775808<=p.1/\p.1<=9223372036854775807)/\(-9223372036854775808<=p.2/\p.2<=9223372036854775807)
theorem okP.i64 {p:Int×Int}(h:okP p):i64P p:=by have h:=okP_out h;unfold i64P;omega
def yatC (a b:Int×Int)(x:Int):Prop:=okP a/\okP b/\a.1≠b.1/\min a.1 b.1<=x/\x<=max a.1 b.1
def yatQ (a b:Int×Int)(x:Int):Rat:=(a.2:Rat)+((x-a.1:Int):Rat)/((b.1-a.1:Int):Rat)*((b.2-a.2:Int):Rat)
def xatC (a b:Int×Int)(y:Rat):Prop:=okP a/\okP b/\a.2≠b.2/\((min a.2 b.2:Int):Rat)<=y/\y<=((max a.2 b.2:Int):Rat)
def xatQ (a b:Int×Int)(y:Rat):Rat:=(a.1:Rat)+(y-(a.2:Rat))*(((1:Int):Rat)/((b.2-a.2:Int):Rat))*((b.1-a.1:Int):Rat)
theorem okAll2 {a b:Int×Int}:okAll [a,b]=true↔okP a/\okP b:=by simp[okAll,okP]
theorem yat_any (a b:Int×Int)(x:Int)(w:World)(hx0: -9223372036854775808<=x/\x<=9223372036854775807):
  Calls Tryz.prog 10 #[.agg #[.int .i64 a.1,.int .i64 a.2],.agg #[.int .i64 b.1,.int .i64 b.2],.int .i64 x] w (AtRet (yatC a b x) (yatQ a b x) w):=by
 go_enter Tryz.func10,Tryz.ntmps10
 have H0:=zH (Hp.start w);go_upto_region 0 with fail
 refine wl ?_;refine aA' 23 [.int .i64 a.1,.int .i64 a.2] H0.out ?_;intro X1 w2 H3 _;refine aA' 23 [.int .i64 b.1,.int .i64 b.2] H3.out ?_;intro X6 w7 H8 _;refine aA' 30 rz H8.out ?_;intro X11 w12 H13 _;refine zq (.bool false) ?_;rcases emH (okAll [a,b]=true)with HB|HB
 ·have HALL:=HB
  have hok:=okAll2.1 HB.out;have oa:=okP_out hok.1;have ob:=okP_out hok.2;have HOK:=zH hok;rcases emH (a.1=b.1)with C1|C1
  ·go_upto_region 1 with fail
   refine wl ?_;refine zI2 H13.out _ _ ?_;refine aL' 2 23 [.int .i64 a.1,.int .i64 a.2,.int .i64 b.1,.int .i64 b.2] H13.out ?_;intro X19 w20 H21 _;refine zc (may_any (.slice (some ⟨X19,0,none⟩) 2 2) [a,b] _ (ptsLit2 H21.out (i:=3) rR) (by simp)) ?_;rintro e w23 ⟨rfl,hx⟩;have H24:=zH (H21.out.step hx);clear hx;refine⟨.bool true,by rw[HALL.out],?_⟩;try simp only[Act.put,zA,zB,zC]
   refine zI6 H24.out (.bool false) (.bool false) _ _ _ _ ?_;refine zp (.bool true) (by exact ezq (e:=(dec_t C1.out))) ?_;refine zI8 (Hp.start _) (.bool true) (.bool true) _ _ _ _ _ _ ?_;refine zI8 (Hp.start _) _ (.bool true) (.bool true) _ _ _ _ _ ?_;refine zI3 (Hp.start _) _ _ (.bool true) ?_;go_upto_region 2 with fail
   refine wl ?_;refine zq (.agg z4) ?_;refine aS' 2 rz H24.out ?_;intro w37 H38 _;refine zq (.bool false) ?_;go_wp2_with fail
   refine bodyPost_ret (v:= .tuple #[.agg z4,.bool false]) ?_ rfl ⟨.inr ⟨fun h=>h.2.2.1 C1.out,rfl⟩,H38.out.ext⟩;exact results_c1t1 rfl rfl ((H38.out.blk (i:=2) rR).loadVar rfl rfl rR) rfl
  rcases emH (x<min a.1 b.1)with C2|C2
  ·go_upto_region 1 with fail
   refine wl ?_;refine zI2 H13.out _ _ ?_;refine aL' 2 23 [.int .i64 a.1,.int .i64 a.2,.int .i64 b.1,.int .i64 b.2] H13.out ?_;intro X42 w43 H44 _;refine zc (may_any (.slice (some ⟨X42,0,none⟩) 2 2) [a,b] _ (ptsLit2 H44.out (i:=3) rR) (by simp)) ?_;rintro e w46 ⟨rfl,hx⟩;have H47:=zH (H44.out.step hx);clear hx;refine⟨.bool true,by rw[HALL.out],?_⟩;try simp only[Act.put,zA,zB,zC]
   refine zI6 H47.out (.bool false) (.bool false) _ _ _ _ ?_;refine zp (.bool false) (by exact ezq (e:=(dec_f C1.out))) ?_;refine zI8 H47.out (.bool false) (.bool false) (.int .i64 x) _ _ _ _ (.int .i64 (min a.1 b.1)) ?_;refine zp (.bool true) (by exact ezl (e:=(dec_t C2.out))) ?_;refine zI8 (Hp.start _) (.bool true) (.bool true) _ _ _ _ _ _ ?_;refine zk ?_;refine zq (.bool true) ?_;go_upto_region 2 with fail
   refine wl ?_;refine zq (.agg z4) ?_;refine aS' 2 rz H47.out ?_;intro w65 H66 _;refine zq (.bool false) ?_;go_wp2_with fail
   refine bodyPost_ret (v:= .tuple #[.agg z4,.bool false]) ?_ rfl ⟨.inr ⟨fun h=>by have h1:=h.2.2.2.1;have h2:=C2.out;omega,rfl⟩,H66.out.ext⟩;exact results_c1t1 rfl rfl ((H66.out.blk (i:=2) rR).loadVar rfl rfl rR) rfl
  rcases emH (max a.1 b.1<x)with C3|C3
  ·go_upto_region 1 with fail
   refine wl ?_;refine zI2 H13.out _ _ ?_;refine aL' 2 23 [.int .i64 a.1,.int .i64 a.2,.int .i64 b.1,.int .i64 b.2] H13.out ?_;intro X70 w71 H72 _;refine zc (may_any (.slice (some ⟨X70,0,none⟩) 2 2) [a,b] _ (ptsLit2 H72.out (i:=3) rR) (by simp)) ?_;rintro e w74 ⟨rfl,hx⟩;have H75:=zH (H72.out.step hx);clear hx;refine⟨.bool true,by rw[HALL.out],?_⟩;try simp only[Act.put,zA,zB,zC]
   refine zI6 H75.out (.bool false) (.bool false) _ _ _ _ ?_;refine zp (.bool false) (by exact ezq (e:=(dec_f C1.out))) ?_;refine zI8 H75.out (.bool false) (.bool false) (.int .i64 x) _ _ _ _ (.int .i64 (min a.1 b.1)) ?_;refine zp (.bool false) (by exact ezl (e:=(dec_f C2.out))) ?_;refine zI8 H75.out (.bool false) (.bool false) (.int .i64 x) _ _ _ _ (.int .i64 (max a.1 b.1)) ?_;refine zp (.bool true) (by exact ezg (e:=(dec_t C3.out))) ?_;refine zq (.bool true) ?_;go_upto_region 2 with fail
   refine wl ?_;refine zq (.agg z4) ?_;refine aS' 2 rz H75.out ?_;intro w98 H99 _;refine zq (.bool false) ?_;go_wp2_with fail
   refine bodyPost_ret (v:= .tuple #[.agg z4,.bool false]) ?_ rfl ⟨.inr ⟨fun h=>by have h1:=h.2.2.2.2;have h2:=C3.out;omega,rfl⟩,H99.out.ext⟩;exact results_c1t1 rfl rfl ((H99.out.blk (i:=2) rR).loadVar rfl rfl rR) rfl
  go_upto_region 1 with fail
  refine wl ?_;refine zI2 H13.out _ _ ?_;refine aL' 2 23 [.int .i64 a.1,.int .i64 a.2,.int .i64 b.1,.int .i64 b.2] H13.out ?_;intro X102 w103 H104 _;refine zc (may_any (.slice (some ⟨X102,0,none⟩) 2 2) [a,b] _ (ptsLit2 H104.out (i:=3) rR) (by simp)) ?_;rintro e w106 ⟨rfl,hx⟩;have H107:=zH (H104.out.step hx);clear hx;refine⟨.bool true,by rw[HALL.out],?_⟩;try simp only[Act.put,zA,zB,zC]
  refine zI6 H107.out (.bool false) (.bool false) _ _ _ _ ?_;refine zp (.bool false) (by exact ezq (e:=(dec_f C1.out))) ?_;refine zI8 H107.out (.bool false) (.bool false) (.int .i64 x) _ _ _ _ (.int .i64 (min a.1 b.1)) ?_;refine zp (.bool false) (by exact ezl (e:=(dec_f C2.out))) ?_;refine zI8 H107.out (.bool false) (.bool false) (.int .i64 x) _ _ _ _ (.int .i64 (max a.1 b.1)) ?_;refine zp (.bool false) (by exact ezg (e:=(dec_f C3.out))) ?_;refine zq (.bool false) ?_;have HNZ:=zH (show b.1-a.1≠0 from fun h=>C1.out (by omega));have hxb: -1048576<=x/\x<=1048576:=by have h2:=C2.out;have h3:=C3.out;omega
  go_upto_region 3 with fail
  refine wp_region_held_drew (S:=fun x=>Fr (fun kz=>kz=X11) w106 x) kR (Fr.of_ext zb) (fun _=> ?_);have H129:=zH (H107.out.step (Ext.refl w106).drew);refine zx 0 (bs 17 1) (.pointer (some ⟨X1,1,none⟩)) (Fr.of_ext zb) ?_;refine md_ld1 (g:=X1) (o:=1) (v:= .int .i64 a.2) (i:=1) (listed':=(bs 17 3)) rR kR kR kR (by intro _ _ _ h;exact h) rR (fun x hx=>Fr.cell hx (show World.cell? w106 ⟨X1,1,none⟩=some (.int .i64 a.2)from cell_of_range (H107.out.range (i:=0) rR 1 1)) (H107.out.offBlk (i:=0) (j:=2) rR rR dC rR)) (by intro x hq;go_simp<;>with_reducible rfl) (Fr.of_ext zb) kR ?_;try simp only[Act.put,zA,zB,zC]
  refine zx 2 (bs 17 7) (.pointer (some ⟨X6,1,none⟩)) (Fr.of_ext zb) ?_;refine md_ld1 (g:=X6) (o:=1) (v:= .int .i64 b.2) (i:=3) (listed':=(bs 17 15)) rR kR kR kR (by intro _ _ _ h;exact h) rR (fun x hx=>Fr.cell hx (show World.cell? w106 ⟨X6,1,none⟩=some (.int .i64 b.2)from cell_of_range (H107.out.range (i:=1) rR 1 1)) (H107.out.offBlk (i:=1) (j:=2) rR rR dC rR)) (by intro x hq;go_simp<;>with_reducible rfl) (Fr.of_ext zb) kR ?_;try simp only[Act.put,zA,zB,zC]
  refine zx 4 (bs 17 31) (.int .i64 x) (Fr.of_ext zb) ?_;refine zx 5 (bs 17 63) (.pointer (some ⟨X1,0,none⟩)) (Fr.of_ext zb) ?_;refine md_ld1 (g:=X1) (o:=0) (v:= .int .i64 a.1) (i:=6) (listed':=(bs 17 127)) rR kR kR kR (by intro _ _ _ h;exact h) rR (fun x hx=>Fr.cell hx (show World.cell? w106 ⟨X1,0,none⟩=some (.int .i64 a.1)from cell_of_range (H107.out.range (i:=0) rR 0 1)) (H107.out.offBlk (i:=0) (j:=2) rR rR dC rR)) (by intro x hq;go_simp<;>with_reducible rfl) (Fr.of_ext zb) kR ?_;try simp only[Act.put,zA,zB,zC]
  refine zu 7 (bs 17 255) (v:= .int .i64 (x-a.1)) (Fr.of_ext zb) ?_ (hv:=by intro w hSw;exact ez2 (by omega));refine zx 8 (bs 17 511) (.pointer (some ⟨X6,0,none⟩)) (Fr.of_ext zb) ?_;refine md_ld1 (g:=X6) (o:=0) (v:= .int .i64 b.1) (i:=9) (listed':=(bs 17 1023)) rR kR kR kR (by intro _ _ _ h;exact h) rR (fun x hx=>Fr.cell hx (show World.cell? w106 ⟨X6,0,none⟩=some (.int .i64 b.1)from cell_of_range (H107.out.range (i:=1) rR 0 1)) (H107.out.offBlk (i:=1) (j:=2) rR rR dC rR)) (by intro x hq;go_simp<;>with_reducible rfl) (Fr.of_ext zb) kR ?_;try simp only[Act.put,zA,zB,zC]
  refine zx 10 (bs 17 2047) (.pointer (some ⟨X1,0,none⟩)) (Fr.of_ext zb) ?_;refine md_ld1 (g:=X1) (o:=0) (v:= .int .i64 a.1) (i:=11) (listed':=(bs 17 4095)) rR kR kR kR (by intro _ _ _ h;exact h) rR (fun x hx=>Fr.cell hx (show World.cell? w106 ⟨X1,0,none⟩=some (.int .i64 a.1)from cell_of_range (H107.out.range (i:=0) rR 0 1)) (H107.out.offBlk (i:=0) (j:=2) rR rR dC rR)) (by intro x hq;go_simp<;>with_reducible rfl) (Fr.of_ext zb) kR ?_;try simp only[Act.put,zA,zB,zC]
  refine zu 12 (bs 17 8191) (v:= .int .i64 (b.1-a.1)) (Fr.of_ext zb) ?_ (hv:=by intro w hSw;exact ez2 (by omega));refine mC 13 (bs 17 16383) (by_any (x-a.1) (b.1-a.1) _ (by omega) (by omega) (by omega) (by omega) HNZ.out) ?_;rintro e w139 ⟨c_,rfl,hc_,hx⟩;have H141:=zH (H129.out.step hx);have S144:=zH (show Fr (fun kz=>kz=X11) w106 w139 from(Fr.of_ext zb).trans (Fr.of_ext hx));obtain⟨r140,rfl,hr_⟩:=hc_;have R140:=zH hr_;have B140:=zH (rl_qq (x-a.1) (b.1-a.1) (by omega) (by omega));clear hr_ hx;refine zm S144.out ?_;refine mC 14 (bs 17 32767) (along_any 20 a.2 b.2 _ (((x-a.1:Int):Rat)/((b.1-a.1:Int):Rat)) _ (RV.Is.nin R140.out (Nat.le_trans B140.out (by omega))) dC dC ⟨(by omega),(by omega)⟩ ⟨(by omega),(by omega)⟩) ?_;rintro e w145 ⟨c_,rfl,hc_,hx⟩;have H147:=zH (H141.out.step hx);have S150:=zH (S144.out.trans (Fr.of_ext hx));obtain⟨r146,rfl,hr_⟩:=hc_;have R146:=zH hr_;clear hr_ hx;refine zm S150.out ?_;refine md_st (i:=15) (listed':=(bs 17 65535)) rR kR rR kR _ _ _ rR H147.out (ix:=2) rR 0 [.bool r146.n,.slice r146.p r146.l r146.c,.bool r146.m,.slice r146.p2 r146.l2 r146.c2] rR rR (by simp) kR (by simp[Value.oneCell']) (by simp[NoUL]) ?_;intro w151 hh hd ho;have H152:=hN hh;have D152:=zH (hd);have S154:=zH (Fr.trans_new S150.out ho (fun j hj=> .inl (by simpa using hj.symm)));clear hh hd ho;refine⟨S154.out,?_⟩
  (try simp only[Act.put])
  refine zx 16 (bs 17 131071) (.bool true) S154.out ?_;refine wpAnyH_done kR ?_ _;go_wp2_with fail
  refine bodyPost_ret (v:= .tuple #[.agg #[.bool r146.n,.slice r146.p r146.l r146.c,.bool r146.m,.slice r146.p2 r146.l2 r146.c2],.bool true]) ?_ rfl ⟨.inl ⟨r146,⟨HOK.out.1,HOK.out.2,C1.out,by have h2:=C2.out;omega,by have h3:=C3.out;omega⟩,rfl,(R146.out.dig D152.out)⟩,H152.out.ext⟩;exact results_c1t1 rfl rfl ((H152.out.blk (i:=2) rR).loadVar rfl rfl rR) rfl
 have HALL:=zH (Bool.eq_false_iff.2 HB.out);go_upto_region 1 with fail
 refine wl ?_;refine zI2 H13.out _ _ ?_;refine aL' 2 23 [.int .i64 a.1,.int .i64 a.2,.int .i64 b.1,.int .i64 b.2] H13.out ?_;intro X156 w157 H158 _;refine zc (may_any (.slice (some ⟨X156,0,none⟩) 2 2) [a,b] _ (ptsLit2 H158.out (i:=3) rR) (by simp)) ?_;rintro e w160 ⟨rfl,hx⟩;have H161:=zH (H158.out.step hx);clear hx;refine⟨.bool false,by rw[HALL.out],?_⟩;try simp only[Act.put,zA,zB,zC]
 refine zI8 (Hp.start _) (.bool true) (.bool true) _ _ _ _ _ (.bool true) ?_;refine zI8 (Hp.start _) (.bool true) _ _ _ _ _ _ _ ?_;refine zI8 (Hp.start _) (.bool true) (.bool true) _ _ _ _ _ _ ?_;refine zk ?_;refine zq (.bool true) ?_;go_upto_region 2 with fail
 refine wl ?_;refine zq (.agg z4) ?_;refine aS' 2 rz H161.out ?_;intro w171 H172 _;refine zq (.bool false) ?_;go_wp2_with fail
 refine bodyPost_ret (v:= .tuple #[.agg z4,.bool false]) ?_ rfl ⟨.inr ⟨fun h=>HB.out (okAll2.2 ⟨h.1,h.2.1⟩),rfl⟩,H172.out.ext⟩;exact results_c1t1 rfl rfl ((H172.out.blk (i:=2) rR).loadVar rfl rfl rR) rfl
theorem xatf_any (L:Nat)(a b:Int×Int)(ry:RV)(y:Rat)(w:World)(hy:ry.In L w y)(hL:1<=L/\L<=2000)(ha:i64P a)(hb:i64P b):
  Calls Tryz.prog 12 #[.agg #[.int .i64 a.1,.int .i64 a.2],.agg #[.int .i64 b.1,.int .i64 b.2],.agg #[.bool ry.n,.slice ry.p ry.l ry.c,.bool ry.m,.slice ry.p2 ry.l2 ry.c2]] w (AtRet (xatC a b y) (xatQ a b y) w):=by
 have HY:=zH hy;have oi:=ha;have oj:=hb;unfold i64P at oi oj;clear hy ha hb;go_enter Tryz.func12,Tryz.ntmps12
 have H0:=zH (Hp.start w);go_upto_region 0 with fail
 refine wl ?_;refine aA' 23 [.int .i64 a.1,.int .i64 a.2] H0.out ?_;intro X175 w176 H177 _;refine aA' 23 [.int .i64 b.1,.int .i64 b.2] H177.out ?_;intro X180 w181 H182 _;refine aA' 30 (rc ry) H182.out ?_;intro X185 w186 H187 _;refine aA' 30 rz H187.out ?_;intro X190 w191 H192 _;refine zq (.bool false) ?_;go_upto_region 1 with fail
 refine zy ?_;have H196:=zH (H192.out.step (Ext.refl w191).drew);refine zJ8 H192.out zb (bs 16 479) 0 1 2 3 4 6 7 8 _ _ _ _ (.int .i64 (min a.2 b.2)) _ _ _ ?_;refine zJ2 H192.out zb (bs 16 2015) 9 10 _ (.int .i64 (max a.2 b.2)) ?_;refine tuple2 (f:=2) 5 11 12 13 16 22 8 9 30 z4 (fun v w=>∃c,v= .agg c/\NIs w c (((min a.2 b.2):Int):Rat)) (fun v w=>∃c,v= .agg c/\NIs w c (((max a.2 b.2):Int):Rat)) rfl rfl rfl rfl dC dC kR (fun _ hx=>zb.trans hx) (fun _ _ _ h e=>by obtain⟨c,h1,h2⟩:=h;exact⟨c,h1,h2.ext e⟩) (fun _ _ _ h e=>by obtain⟨c,h1,h2⟩:=h;exact⟨c,h1,h2.ext e⟩) ?ht204c1 ?ht204c2 ?ht204c3 ?ht204c4 ?ht204e _ _ _ _ kR rfl;case ht204c1=>
  intro v1 v2 v3 v4 w1 K hxq hSw hK;try simp only[Act.put,zA,zB,zC]
  rw[if_pos (by rfl)];refine wp_call_op (by go_simp) (pFrom (min a.2 b.2) _ (by omega) (by omega)) ?_;rintro e w' ⟨c_,rfl,hc_,hx⟩;refine⟨_,rfl,?_⟩;have hk:=hK.out _ _ ⟨c_,rfl,hc_⟩ hx;try simp only[Act.put,zA,zB,zC]
  simp only[Act.put,zA,zB,zC]at hk;exact hk
 case ht204c2=>
  intro v1 v2 v3 v4 w1 K hxq hSw hK;try simp only[Act.put,zA,zB,zC]
  rw[if_pos (by rfl)];refine wp_call_op (by go_simp) (pFrom (max a.2 b.2) _ (by omega) (by omega)) ?_;rintro e w' ⟨c_,rfl,hc_,hx⟩;refine⟨_,rfl,?_⟩;have hk:=hK.out _ _ ⟨c_,rfl,hc_⟩ hx;try simp only[Act.put,zA,zB,zC]
  simp only[Act.put,zA,zB,zC]at hk;exact hk
 case ht204c3=>
  intro v1 v2 v3 v4 w1 K hxq hSw hK;try simp only[Act.put,zA,zB,zC]
  go_simp
  have hk:=hK.out;simp only[Act.put,zA,zB,zC]at hk;exact hk
 case ht204c4=>
  intro v1 v2 v3 v4 w1 K hxq hSw hK;try simp only[Act.put,zA,zB,zC]
  go_simp
  have hk:=hK.out;simp only[Act.put,zA,zB,zC]at hk;exact hk
 case ht204e=>
 intro v1_ v2_ X207 Y208 w209 hx hSw xp1 xp2 xb1 xb2 xz1 xz2 n12;have hh:=H196.out.add2 hx xb1 xb2 xz1 xz2 n12 (by simp[NoUL]) (by simp[NoUL]);have H210:=hN hh;have S212:=zH (zb.trans hx);have G213:=zH (Nat.le_trans zb.size xz1);have G214:=zH (Nat.le_trans zb.size xz2);obtain⟨c_,rfl,hc_⟩:=xp1;obtain⟨r205,rfl,hr_⟩:=hc_;have R205:=zH hr_;have B205:=zH (rl_i64 (min a.2 b.2) (by omega) (by omega));clear hr_;obtain⟨c_,rfl,hc_⟩:=xp2;obtain⟨r206,rfl,hr_⟩:=hc_;have R206:=zH hr_;have B206:=zH (rl_i64 (max a.2 b.2) (by omega) (by omega));clear hr_ hh hx hSw xb1 xb2 xz1 xz2 n12
 (try simp only[zA,zB,zC])
 refine bS 4 14 (bs 16 32767) (rc r205) H210.out S212.out G213.out ?_;intro w215 H216 D216 S218;refine bS 5 15 (bs 16 65535) (rc r206) H216.out S218.out G214.out ?_;intro w219 H220 D220 S222;refine wpAnyH_done kR ?_ _;rcases emH (okAll [a,b]=true)with HB|HB
 ·have HALL:=HB
  have hok:=okAll2.1 HB.out;have oa:=okP_out hok.1;have ob:=okP_out hok.2;have HOK:=zH hok;rcases emH (a.2=b.2)with C1|C1
  ·go_upto_region 2 with fail
   refine wl ?_;refine zI2 H220.out _ _ ?_;refine aL' 2 23 [.int .i64 a.1,.int .i64 a.2,.int .i64 b.1,.int .i64 b.2] H220.out ?_;intro X225 w226 H227 _;refine zc (may_any (.slice (some ⟨X225,0,none⟩) 2 2) [a,b] _ (ptsLit2 H227.out (i:=6) rR) (by simp)) ?_;rintro e w229 ⟨rfl,hx⟩;have H230:=zH (H227.out.step hx);clear hx;refine⟨.bool true,by rw[HALL.out],?_⟩;try simp only[Act.put,zA,zB,zC]
   refine zI6 H230.out (.bool false) (.bool false) _ _ _ _ ?_;refine zp (.bool true) (by exact ezq (e:=(dec_t C1.out))) ?_;refine zI8 (Hp.start _) (.bool true) (.bool true) _ _ _ _ (.bool true) (.bool true) ?_;refine zI5 (Hp.start _) _ _ _ _ (.bool true) ?_;go_upto_region 3 with fail
   refine wl ?_;refine zq (.agg z4) ?_;refine aS' 3 rz H230.out ?_;intro w243 H244 _;refine zq (.bool false) ?_;go_wp2_with fail
   refine bodyPost_ret (v:= .tuple #[.agg z4,.bool false]) ?_ rfl ⟨.inr ⟨fun h=>h.2.2.1 C1.out,rfl⟩,H244.out.ext⟩;exact results_c1t1 rfl rfl ((H244.out.blk (i:=3) rR).loadVar rfl rfl rR) rfl
  rcases emH (y<(((min a.2 b.2):Int):Rat))with C2|C2
  ·go_upto_region 2 with fail
   refine wl ?_;refine zI2 H220.out _ _ ?_;refine aL' 2 23 [.int .i64 a.1,.int .i64 a.2,.int .i64 b.1,.int .i64 b.2] H220.out ?_;intro X248 w249 H250 D250;refine zc (may_any (.slice (some ⟨X248,0,none⟩) 2 2) [a,b] _ (ptsLit2 H250.out (i:=6) rR) (by simp)) ?_;rintro e w252 ⟨rfl,hx⟩;have H253:=zH (H250.out.step hx);have D253:=zH (Dig.of_ext hx);clear hx;refine⟨.bool true,by rw[HALL.out],?_⟩;try simp only[Act.put,zA,zB,zC]
   refine zI6 H253.out (.bool false) (.bool false) _ _ _ _ ?_;refine zp (.bool false) (by exact ezq (e:=(dec_f C1.out))) ?_;refine zI4 H253.out (.bool false) (.bool false) _ _ ?_;have DD263:=tD (tD (tD D216 D220) D250) D253;refine aC H253.out (pCmp (L:=60000) (RV.In.nin (RV.In.mono (HY.out.dig H253.out.dig0) (by omega))) (RV.Is.nin (R205.out.dig DD263.out) (Nat.le_trans B205.out (by omega))) (by omega)) ?_;intro w262 H264 _;refine zp (.bool true) (by exact ezl (e:=(dec_t (rcmp_lt.2 C2.out)))) ?_;refine zI7 (Hp.start _) (.bool true) (.bool true) _ _ _ _ (.bool true) ?_;go_upto_region 3 with fail
   refine wl ?_;refine zq (.agg z4) ?_;refine aS' 3 rz H264.out ?_;intro w271 H272 _;refine zq (.bool false) ?_;go_wp2_with fail
   refine bodyPost_ret (v:= .tuple #[.agg z4,.bool false]) ?_ rfl ⟨.inr ⟨fun h=>Rat.not_lt.2 h.2.2.2.1 C2.out,rfl⟩,H272.out.ext⟩;exact results_c1t1 rfl rfl ((H272.out.blk (i:=3) rR).loadVar rfl rfl rR) rfl
  rcases emH ((((max a.2 b.2):Int):Rat)<y)with C3|C3
  ·go_upto_region 2 with fail
   refine wl ?_;refine zI2 H220.out _ _ ?_;refine aL' 2 23 [.int .i64 a.1,.int .i64 a.2,.int .i64 b.1,.int .i64 b.2] H220.out ?_;intro X276 w277 H278 D278;refine zc (may_any (.slice (some ⟨X276,0,none⟩) 2 2) [a,b] _ (ptsLit2 H278.out (i:=6) rR) (by simp)) ?_;rintro e w280 ⟨rfl,hx⟩;have H281:=zH (H278.out.step hx);have D281:=zH (Dig.of_ext hx);clear hx;refine⟨.bool true,by rw[HALL.out],?_⟩;try simp only[Act.put,zA,zB,zC]
   refine zI6 H281.out (.bool false) (.bool false) _ _ _ _ ?_;refine zp (.bool false) (by exact ezq (e:=(dec_f C1.out))) ?_;refine zI4 H281.out (.bool false) (.bool false) _ _ ?_;have DD291:=tD (tD (tD D216 D220) D278) D281;refine aC H281.out (pCmp (L:=60000) (RV.In.nin (RV.In.mono (HY.out.dig H281.out.dig0) (by omega))) (RV.Is.nin (R205.out.dig DD291.out) (Nat.le_trans B205.out (by omega))) (by omega)) ?_;intro w290 H292 D292;refine zp (.bool false) (by exact ezl (e:=(dec_f (fun hh=>C2.out (rcmp_lt.1 hh))))) ?_;refine zI4 H292.out (.bool false) (.bool false) _ _ ?_;have DD298:=tD DD291 D292;refine aC H292.out (pCmp (L:=60000) (RV.In.nin (RV.In.mono (HY.out.dig H292.out.dig0) (by omega))) (RV.Is.nin (R206.out.dig DD298.out) (Nat.le_trans B206.out (by omega))) (by omega)) ?_;intro w297 H299 _;refine zp (.bool true) (by exact ezg (e:=(dec_t (rcmp_gt.2 C3.out)))) ?_;refine zq (.bool true) ?_;go_upto_region 3 with fail
   refine wl ?_;refine zq (.agg z4) ?_;refine aS' 3 rz H299.out ?_;intro w304 H305 _;refine zq (.bool false) ?_;go_wp2_with fail
   refine bodyPost_ret (v:= .tuple #[.agg z4,.bool false]) ?_ rfl ⟨.inr ⟨fun h=>Rat.not_lt.2 h.2.2.2.2 C3.out,rfl⟩,H305.out.ext⟩;exact results_c1t1 rfl rfl ((H305.out.blk (i:=3) rR).loadVar rfl rfl rR) rfl
  go_upto_region 2 with fail
  refine wl ?_;refine zI2 H220.out _ _ ?_;refine aL' 2 23 [.int .i64 a.1,.int .i64 a.2,.int .i64 b.1,.int .i64 b.2] H220.out ?_;intro X308 w309 H310 D310;refine zc (may_any (.slice (some ⟨X308,0,none⟩) 2 2) [a,b] _ (ptsLit2 H310.out (i:=6) rR) (by simp)) ?_;rintro e w312 ⟨rfl,hx⟩;have H313:=zH (H310.out.step hx);have D313:=zH (Dig.of_ext hx);clear hx;refine⟨.bool true,by rw[HALL.out],?_⟩;try simp only[Act.put,zA,zB,zC]
  refine zI6 H313.out (.bool false) (.bool false) _ _ _ _ ?_;refine zp (.bool false) (by exact ezq (e:=(dec_f C1.out))) ?_;refine zI4 H313.out (.bool false) (.bool false) _ _ ?_;have DD323:=tD (tD (tD D216 D220) D310) D313;refine aC H313.out (pCmp (L:=60000) (RV.In.nin (RV.In.mono (HY.out.dig H313.out.dig0) (by omega))) (RV.Is.nin (R205.out.dig DD323.out) (Nat.le_trans B205.out (by omega))) (by omega)) ?_;intro w322 H324 D324;refine zp (.bool false) (by exact ezl (e:=(dec_f (fun hh=>C2.out (rcmp_lt.1 hh))))) ?_;refine zI4 H324.out (.bool false) (.bool false) _ _ ?_;have DD330:=tD DD323 D324;refine aC H324.out (pCmp (L:=60000) (RV.In.nin (RV.In.mono (HY.out.dig H324.out.dig0) (by omega))) (RV.Is.nin (R206.out.dig DD330.out) (Nat.le_trans B206.out (by omega))) (by omega)) ?_;intro w329 H331 _;refine zp (.bool false) (by exact ezg (e:=(dec_f (fun hh=>C3.out (rcmp_gt.1 hh))))) ?_;refine zq (.bool false) ?_;have HNZ:=zH (show b.2-a.2≠0 from fun h=>C1.out (by omega));go_upto_region 4 with fail
  refine zy ?_;have H335:=zH (H331.out.step (Ext.refl w329).drew);refine zJ7 H331.out zb (bs 14 487) 0 1 2 5 6 7 8 _ _ _ _ _ _ _ ?_;refine zu 9 (bs 14 999) (v:= .int .i64 (b.2-a.2)) zb ?_ (hv:=by intro w hSw;exact ez2 (by omega));refine gG 12 (some 10) 30 rz w329 H335.out ?_;refine gL 3 (bs 14 5095) (bs 14 1007) zb.size H335.out zb (fun xq hxq=>pFrom a.2 _ (by omega) (by omega)) (by rintro x_ e x2_ ⟨c_,rfl,hc_,hx⟩;exact hx) ?_;rintro xq e w341 hxq ⟨c_,rfl,hc_,hx⟩;replace hx:=hxq.trans hx;clear hxq;have H343:=zH (H335.out.step hx);have S345:=zH (zb.trans hx);obtain⟨r342,rfl,hr_⟩:=hc_;have R342:=zH hr_;have B342:=zH (rl_i64 a.2 (by omega) (by omega));clear hr_ hx;refine⟨_,rfl,?_⟩;try simp only[Act.put,zA,zB,zC]
  refine gL 4 (bs 14 5103) (bs 14 1023) S345.out.size H343.out S345.out (fun xq hxq=>pSub (L:=60000) (RV.In.nin (RV.In.mono (HY.out.dig (H343.out.dig0.trans (Dig.of_ext hxq))) (by omega))) (RV.Is.nin (R342.out.dig (Dig.of_ext hxq)) (Nat.le_trans B342.out (by omega))) (by omega)) (by rintro x_ e x2_ ⟨c_,rfl,hc_,hx⟩;exact hx) ?_;rintro xq e w346 hxq ⟨c_,rfl,hc_,hx⟩;replace hx:=hxq.trans hx;clear hxq;have H348:=zH (H343.out.step hx);have S350:=zH (S345.out.trans hx);obtain⟨r347,rfl,hr_⟩:=hc_;have R347:=zH hr_;clear hr_;have B347:=zH (show Nm.rl (y-(((a.2):Int):Rat))<=L+2+1 from by have h1:=(show Nm.rl y<=L from by have h:=(HY.out.dig H348.out.dig0).rl;omega);have h2:=B342.out;have h3:=Nm.rl_sub y (((a.2):Int):Rat);omega);clear hx;refine⟨_,rfl,?_⟩;try simp only[Act.put,zA,zB,zC]
  refine gL 10 (bs 14 5119) (bs 14 2047) S350.out.size H348.out S350.out (fun xq hxq=>by_any 1 (b.2-a.2) _ (by omega) (by omega) (by omega) (by omega) HNZ.out) (by rintro x_ e x2_ ⟨c_,rfl,hc_,hx⟩;exact hx) ?_;rintro xq e w351 hxq ⟨c_,rfl,hc_,hx⟩;replace hx:=hxq.trans hx;clear hxq;have H353:=zH (H348.out.step hx);have D353:=zH (Dig.of_ext hx);have S355:=zH (S350.out.trans hx);obtain⟨r352,rfl,hr_⟩:=hc_;have R352:=zH hr_;have B352:=zH (rl_qq 1 (b.2-a.2) (by omega) (by omega));clear hr_ hx;refine⟨_,rfl,?_⟩;try simp only[Act.put,zA,zB,zC]
  refine gL 11 (bs 14 6143) (bs 14 4095) S355.out.size H353.out S355.out (fun xq hxq=>pMul (L:=60000) (RV.Is.nin (R347.out.dig (D353.out.trans (Dig.of_ext hxq))) (Nat.le_trans B347.out (by omega))) (RV.Is.nin (R352.out.dig (Dig.of_ext hxq)) (Nat.le_trans B352.out (by omega))) (by omega)) (by rintro x_ e x2_ ⟨c_,rfl,hc_,hx⟩;exact hx) ?_;rintro xq e w356 hxq ⟨c_,rfl,hc_,hx⟩;replace hx:=hxq.trans hx;clear hxq;have H358:=zH (H353.out.step hx);have S360:=zH (S355.out.trans hx);obtain⟨r357,rfl,hr_⟩:=hc_;have R357:=zH hr_;clear hr_;have B357:=zH (show Nm.rl ((y-(((a.2):Int):Rat))*(((1:Int):Rat)/((b.2-a.2:Int):Rat)))<=(L+2+1)+8 from by have h1:=B347.out;have h2:=B352.out;have h3:=Nm.rl_mul (y-(((a.2):Int):Rat)) (((1:Int):Rat)/((b.2-a.2:Int):Rat));omega);clear hx;refine⟨_,rfl,?_⟩;try simp only[Act.put,zA,zB,zC]
  refine gE (bs 14 8191) S360.out.size H358.out S360.out ?_;intro X361 w362 hx hh hs hge;have H363:=hN hh;have D363:=zH (Dig.of_ext hx);have S365:=zH (show Ext w329 w362 from hs);have G366:=zH (show w329.heap.size<=X361 from hge);clear hh hx hge hs;try simp only[Act.put,zA,zB,zC]
  refine bS 7 13 (bs 14 16383) (rc r357) H363.out S365.out G366.out ?_;intro w367 H368 D368 S370;refine wpAnyH_done kR ?_ _;go_upto_region 5 with fail
  refine wl ?_;refine zI5 H368.out _ _ _ _ _ ?_;have DD375:=tD D363 D368;refine zc (along_any 20000 a.1 b.1 _ ((y-(((a.2):Int):Rat))*(((1:Int):Rat)/((b.2-a.2:Int):Rat))) _ (RV.Is.nin (R357.out.dig DD375.out) (Nat.le_trans B357.out (by omega))) dC dC ⟨(by omega),(by omega)⟩ ⟨(by omega),(by omega)⟩) ?_;rintro e w373 ⟨c_,rfl,hc_,hx⟩;have H376:=zH (H368.out.step hx);obtain⟨r374,rfl,hr_⟩:=hc_;have R374:=zH hr_;clear hr_ hx;refine zn ?_;refine aS' 3 (rc r374) H376.out ?_;intro w378 H379 D379;refine zq (.bool true) ?_;go_wp2_with fail
  refine bodyPost_ret (v:= .tuple #[.agg #[.bool r374.n,.slice r374.p r374.l r374.c,.bool r374.m,.slice r374.p2 r374.l2 r374.c2],.bool true]) ?_ rfl ⟨.inl ⟨r374,⟨HOK.out.1,HOK.out.2,C1.out,Rat.not_lt.1 C2.out,Rat.not_lt.1 C3.out⟩,rfl,(R374.out.dig D379.out)⟩,H379.out.ext⟩;exact results_c1t1 rfl rfl ((H379.out.blk (i:=3) rR).loadVar rfl rfl rR) rfl
 have HALL:=zH (Bool.eq_false_iff.2 HB.out);go_upto_region 2 with fail
 refine wl ?_;refine zI2 H220.out _ _ ?_;refine aL' 2 23 [.int .i64 a.1,.int .i64 a.2,.int .i64 b.1,.int .i64 b.2] H220.out ?_;intro X382 w383 H384 _;refine zc (may_any (.slice (some ⟨X382,0,none⟩) 2 2) [a,b] _ (ptsLit2 H384.out (i:=6) rR) (by simp)) ?_;rintro e w386 ⟨rfl,hx⟩;have H387:=zH (H384.out.step hx);clear hx;refine⟨.bool false,by rw[HALL.out],?_⟩;try simp only[Act.put,zA,zB,zC]
 refine zI8 (Hp.start _) (.bool true) (.bool true) _ _ _ _ _ (.bool true) ?_;refine zI8 (Hp.start _) (.bool true) _ _ _ _ (.bool true) (.bool true) _ ?_;refine zI4 (Hp.start _) _ _ _ (.bool true) ?_;go_upto_region 3 with fail
 refine wl ?_;refine zq (.agg z4) ?_;refine aS' 3 rz H387.out ?_;intro w397 H398 _;refine zq (.bool false) ?_;go_wp2_with fail
 refine bodyPost_ret (v:= .tuple #[.agg z4,.bool false]) ?_ rfl ⟨.inr ⟨fun h=>HB.out (okAll2.2 ⟨h.1,h.2.1⟩),rfl⟩,H398.out.ext⟩;exact results_c1t1 rfl rfl ((H398.out.blk (i:=3) rR).loadVar rfl rfl rR) rfl
end
section
def btw (lo hi:Rat)(q:Rat):List Rat:=if lo<q/\q<hi then[q]else[]
instance yatC_dec (a b:Int×Int) (x:Int):Decidable (yatC a b x):=inferInstanceAs (Decidable (_/\_))
def yatL (e:Edge)(x:Int):List Rat:=if yatC e.1 e.2 x then[yatQ e.1 e.2 x]else[]
def segL (o e:Edge):List Rat:=if segN o.1 o.2 e.1 e.2=1 then[segY o.1 o.2 e.1 e.2]else[]
def evStep (a b:Int×Int)(pre:List Edge)(x:Edge):List Rat:=
  (yatL x a.1).flatMap (btw a.2 b.2)++(yatL x b.1).flatMap (btw a.2 b.2)++pre.flatMap (fun o=>(segL o x).flatMap (btw a.2 b.2))
def evC (a b:Int×Int):List Edge->List Edge->List Rat
  |_,[]=>[]
  |pre,x::l=>evStep a b pre x++evC a b (pre++[x]) l
theorem evC_snoc (a b:Int×Int)(x:Edge):∀(l p:List Edge),evC a b p (l++[x])=evC a b p l++evStep a b (p++l) x
  | [],p=>by simp[evC]
  | y::l,p=>by
    have h:=evC_snoc a b x l (p++[y]);simp only[List.cons_append,evC];rw[h,List.append_assoc,List.append_assoc];rfl
def evP (a b:Int×Int)(rs:List Ring):List Rat:=rs.flatMap fun r=>r.flatMap fun p=>btw a.2 b.2 (p.2:Rat)
def evOk (a b:Int×Int)(rs:List Ring):Prop:=okR rs=true/\okP a/\okP b/\a.2<b.2
instance evOk_dec (a b:Int×Int) (rs:List Ring):Decidable (evOk a b rs):=inferInstanceAs (Decidable (_/\_))
def evL (a b:Int×Int)(rs:List Ring):List Rat:=if evOk a b rs then[(a.2:Rat),(b.2:Rat)]++evP a b rs++evC a b [] (edgesV rs)else[]
theorem ringP_snoc {r:Ring}{k:Nat}{p:Int×Int}(h:r[k]?=some p)(f:Int×Int->List Rat):(r.take (k+1)).flatMap f=(r.take k).flatMap f++f p:=by
  rw[List.take_add_one,h,List.flatMap_append];simp
theorem rl_yat {a b:Int×Int}{x:Int}(ha:okP a)(hb:okP b)(hx: -1048576<=x/\x<=1048576):Nm.rl (yatQ a b x)<=20:=by
  have h1:=okP_out ha;have h2:=okP_out hb;have h3:=rl_qq (x-a.1) (b.1-a.1) (by omega) (by omega);have h4:=rl_i64 (b.2-a.2) (by omega) (by omega);have h5:=rl_i64 a.2 (by omega) (by omega);have h6:=Nm.rl_mul (((x-a.1:Int):Rat)/((b.1-a.1:Int):Rat)) ((b.2-a.2:Int):Rat);have h7:=Nm.rl_add (a.2:Rat) (((x-a.1:Int):Rat)/((b.1-a.1:Int):Rat)*((b.2-a.2:Int):Rat));unfold yatQ;omega
theorem rl_segT {a b c d:Int×Int}(ha:okP a)(hb:okP b)(hc:okP c)(hd:okP d):Nm.rl (segT a b c d)<=8:=by
  have h1:=cr_bd (dv_bd ha hc) (dv_bd hc hd);have h2:=cr_bd (dv_bd ha hb) (dv_bd hc hd);exact rl_qq _ _ (by omega) (by omega)
theorem rl_segXY {a b c d:Int×Int}(ha:okP a)(hb:okP b)(hc:okP c)(hd:okP d):Nm.rl (segX a b c d)<=20/\Nm.rl (segY a b c d)<=20:=by
 have h1:=okP_out ha;have h2:=okP_out hb;have ht:=rl_segT ha hb hc hd;have hs:=okP_out (shared_ok ha hb hc hd);have k1:=rl_i64 (b.1-a.1) (by omega) (by omega);have k2:=rl_i64 (b.2-a.2) (by omega) (by omega);have k3:=rl_i64 a.1 (by omega) (by omega);have k4:=rl_i64 a.2 (by omega) (by omega);have k5:=rl_i64 (sharedV a b c d).1.1 (by omega) (by omega);have k6:=rl_i64 (sharedV a b c d).1.2 (by omega) (by omega);have m1:=Nm.rl_mul (segT a b c d) ((b.1-a.1:Int):Rat);have m2:=Nm.rl_mul (segT a b c d) ((b.2-a.2:Int):Rat);have a1:=Nm.rl_add (a.1:Rat) (segT a b c d*((b.1-a.1:Int):Rat));have a2:=Nm.rl_add (a.2:Rat) (segT a b c d*((b.2-a.2:Int):Rat));unfold segX segY;constructor
 ·split<;>omega
 split<;>omega
end
end Go.Proofs.YtdkfmkeaaeooeaaGreat
