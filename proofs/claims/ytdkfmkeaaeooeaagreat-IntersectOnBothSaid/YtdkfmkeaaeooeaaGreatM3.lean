/- Contracts that the claim stands on: XExA to XApS. -/
import Derived.Deep.MidRow
import Derived.Deep.AppendLies
import Derived.Deep.LoopGhost
import Derived.Deep.DeepCutAuto
import Derived.Deep.Upon
import Derived.Test.YtdkfmkeaaeooeaaGreatM2
set_option maxRecDepth 100000
set_option maxHeartbeats 4000000
namespace Go.Proofs.YtdkfmkeaaeooeaaGreat
open Go.RowKit
section
attribute [local go_sem ↓] Go.wp_at_zero Go.wp_at_succ run_max_ii run_min_ii
structure RV where
  n:Bool
  p:Option Addr
  l:Nat
  c:Nat
  m:Bool
  p2:Option Addr
  l2:Nat
  c2:Nat
def RV.In (L:Nat)(w:World)(a:RV)(q:Rat):Prop:=RatIn L w a.n (.slice a.p a.l a.c) a.m (.slice a.p2 a.l2 a.c2) q
def RV.Is (w:World)(a:RV)(q:Rat):Prop:=RatC w a.n (.slice a.p a.l a.c) a.m (.slice a.p2 a.l2 a.c2) q
theorem RV.In.ext {L:Nat}{w w':World}{a:RV}{q:Rat}(h:a.In L w q)(e:Ext w w'):a.In L w' q:=RatIn.ext h e
theorem RV.Is.ext {w w':World}{a:RV}{q:Rat}(h:a.Is w q)(e:Ext w w'):a.Is w' q:=RatC.ext h e
theorem RV.Is.isIn {L:Nat}{w:World}{a:RV}{q:Rat}(h:a.Is w q)(hl:Nm.rl q<=L):a.In L w q:=RatC.isIn h hl
theorem RV.In.rl {L:Nat}{w:World}{a:RV}{q:Rat}(h:a.In L w q):Nm.rl q<=max L 1:=RatIn.rl h
theorem RV.In.mono {L M:Nat}{w:World}{a:RV}{q:Rat}(h:a.In L w q)(hl:L<=M):a.In M w q:=by
  obtain⟨y,z,h1,h2,h3⟩:=h;exact⟨y,z,h1.mono hl,h2.mono hl,h3⟩
theorem RV.Is.own {w w':World}{a:RV}{q:Rat}(h:a.Is w q){g:Nat}{t:TypeId}{cs:Array Value}(hb:Blk w g t cs)(hn:NoU cs)(o:Own g w w'):a.Is w' q:=RatC.own h hb hn o
def RV.zero:RV:=⟨false,none,0,0,false,none,0,0⟩
def RetV (q:Rat)(w:World)(e:Ending)(w':World):Prop:=∃a:RV,e= .returned (.agg #[.bool a.n,.slice a.p a.l a.c,.bool a.m,.slice a.p2 a.l2 a.c2])/\a.Is w' q/\Ext w w'
theorem RetR.v {q:Rat}{w w':World}{e:Ending}(h:RetR q w e w'):RetV q w e w':=by
  obtain⟨n,u,m,v,rfl,hc,he⟩:=h;obtain⟨p,l,c,p2,l2,c2,rfl,rfl⟩:=hc.form;exact⟨⟨n,p,l,c,m,p2,l2,c2⟩,rfl,hc,he⟩
theorem noU_of (cs:List Value)(h:∀v∈cs,∀x:Int,v≠ .int .u32 x):NoU cs.toArray:=by
  intro i x hi;rw[List.getElem?_toArray]at hi;exact h _ (List.mem_of_getElem? hi) x rfl
section
variable {L:Nat} {w:World} {a b:RV} {q r:Rat}
theorem xadd (h:a.In L w q)(h':b.In L w r)(hL:L<=70000):Calls Tryz.prog 45 #[.agg #[.bool a.n,.slice a.p a.l a.c,.bool a.m,.slice a.p2 a.l2 a.c2],.agg #[.bool b.n,.slice b.p b.l b.c,.bool b.m,.slice b.p2 b.l2 b.c2]] w (RetV (q+r) w):=(radd_any _ _ _ _ _ _ _ _ L q r w h h' hL).mono fun _ _ h=>RetR.v h
theorem xsub (h:a.In L w q)(h':b.In L w r)(hL:L<=70000):Calls Tryz.prog 36 #[.agg #[.bool a.n,.slice a.p a.l a.c,.bool a.m,.slice a.p2 a.l2 a.c2],.agg #[.bool b.n,.slice b.p b.l b.c,.bool b.m,.slice b.p2 b.l2 b.c2]] w (RetV (q-r) w):=(rsub_any _ _ _ _ _ _ _ _ L q r w h h' hL).mono fun _ _ h=>RetR.v h
theorem xmul (h:a.In L w q)(h':b.In L w r)(hL:L<=70000):Calls Tryz.prog 35 #[.agg #[.bool a.n,.slice a.p a.l a.c,.bool a.m,.slice a.p2 a.l2 a.c2],.agg #[.bool b.n,.slice b.p b.l b.c,.bool b.m,.slice b.p2 b.l2 b.c2]] w (RetV (q*r) w):=(rmul_any _ _ _ _ _ _ _ _ L q r w h h' hL).mono fun _ _ h=>RetR.v h
end
end
section
attribute [local go_sem ↓] Go.wp_at_zero Go.wp_at_succ run_max_ii run_min_ii
end
section
section
variable {P:Program} {l:List Oper} {Q:Exit->Act->World->Prop} {md:Region.Mode} {S:World->Prop}
theorem wpAnyH_take_l {i:Nat}{oi:Oper}{v:Value}{fuel:Nat}{listed:Array Bool}{a:Act}{w:World}(hi:l[i]?=some oi)
    (hs:Region.noSelect l.toArray=true)(hf:Region.free md l.toArray listed i=true)(hr:(Region.ready md l.toArray listed).contains i=true)
    (hQ:∀c a w,Q (.panic c) (a.put oi.dst v) w->Q (.panic c) a w)(hy:YieldsIf P l.toArray S oi v a)(hS:S w)
    (h:wpAnyH P md l.toArray Q S fuel (listed.setIfInBounds i true) (a.put oi.dst v) w):wpAnyH P md l.toArray Q S (fuel+1) listed a w:=
  wpAnyH_take (by rw[List.getElem?_toArray];exact hi) hs hf hr hQ hy hS h
theorem wpAnyH_skip_l {i:Nat}{oi:Oper}{fuel:Nat}{listed:Array Bool}{a:Act}{w:World}(hi:l[i]?=some oi)
    (hs:Region.noSelect l.toArray=true)(hf:Region.free md l.toArray listed i=true)(hr:(Region.ready md l.toArray listed).contains i=true)
    (hQ:∀c a w,Q (.panic c) (a.put oi.dst undef) w->Q (.panic c) a w)(hn:Region.wanted oi (yielded l.toArray a.tmps)=false)(hS:S w)
    (h:wpAnyH P md l.toArray Q S fuel (listed.setIfInBounds i true) (a.put oi.dst undef) w):wpAnyH P md l.toArray Q S (fuel+1) listed a w:=
  wpAnyH_take (by rw[List.getElem?_toArray];exact hi) hs hf hr hQ (Or.inr ⟨hn,rfl⟩) hS h
theorem wpAnyH_one_l {i:Nat}{oi:Oper}{fuel:Nat}{listed:Array Bool}{a:Act}{w:World}(hi:l[i]?=some oi)
    (hr:Region.ready md l.toArray listed=[i])
    (h:∀K':Act->World->Prop,Shut (∀a w,S w->(S w->wpAnyH P md l.toArray Q S fuel (listed.setIfInBounds i true) a w)->K' a w)->if Region.wanted oi (yielded l.toArray a.tmps)=true then Oper.wp P oi a w K' Q else K' (a.put oi.dst undef) w):
    wpAnyH P md l.toArray Q S (fuel+1) listed a w:=
  wpAnyH_ready hr (by simp) (AllReadyH.cons (by rw[List.getElem?_toArray];exact hi) h AllReadyH.nil)
end
end
section
def both (p:Bool->Bool):Bool:=p false&&p true
theorem both_spec {p:Bool->Bool}(h:both p=true)(b:Bool):p b=true:=by
  unfold both at h;rw[Bool.and_eq_true]at h;cases b
  · exact h.1
  exact h.2
theorem set_chain4_1 {α:Type}(xs:Array α)(i1 i2 i3 i4:Nat)(b1 b2 b3 b4 c:α)(h2:i2≠i1)(h3:i3≠i1)(h4:i4≠i1):(((((xs.setIfInBounds i1 b1).setIfInBounds i2 b2).setIfInBounds i3 b3).setIfInBounds i4 b4).setIfInBounds i1 c)=((((xs.setIfInBounds i1 c).setIfInBounds i2 b2).setIfInBounds i3 b3).setIfInBounds i4 b4):=by
  rw[Array.setIfInBounds_comm _ _ h4,Array.setIfInBounds_comm _ _ h3,Array.setIfInBounds_comm _ _ h2,Array.setIfInBounds_setIfInBounds]
theorem set_chain4_2 {α:Type}(xs:Array α)(i1 i2 i3 i4:Nat)(b1 b2 b3 b4 c:α)(h3:i3≠i2)(h4:i4≠i2):(((((xs.setIfInBounds i1 b1).setIfInBounds i2 b2).setIfInBounds i3 b3).setIfInBounds i4 b4).setIfInBounds i2 c)=((((xs.setIfInBounds i1 b1).setIfInBounds i2 c).setIfInBounds i3 b3).setIfInBounds i4 b4):=by
  rw[Array.setIfInBounds_comm _ _ h4,Array.setIfInBounds_comm _ _ h3,Array.setIfInBounds_setIfInBounds]
theorem set_chain4_3 {α:Type}(xs:Array α)(i1 i2 i3 i4:Nat)(b1 b2 b3 b4 c:α)(h4:i4≠i3):(((((xs.setIfInBounds i1 b1).setIfInBounds i2 b2).setIfInBounds i3 b3).setIfInBounds i4 b4).setIfInBounds i3 c)=((((xs.setIfInBounds i1 b1).setIfInBounds i2 b2).setIfInBounds i3 c).setIfInBounds i4 b4):=by
  rw[Array.setIfInBounds_comm _ _ h4,Array.setIfInBounds_setIfInBounds]
theorem set_chain4_4 {α:Type}(xs:Array α)(i1 i2 i3 i4:Nat)(b1 b2 b3 b4 c:α):(((((xs.setIfInBounds i1 b1).setIfInBounds i2 b2).setIfInBounds i3 b3).setIfInBounds i4 b4).setIfInBounds i4 c)=((((xs.setIfInBounds i1 b1).setIfInBounds i2 b2).setIfInBounds i3 b3).setIfInBounds i4 c):=by
  rw[Array.setIfInBounds_setIfInBounds]
def chk2 (md:Region.Mode)(l:List Oper)(listed:Array Bool)(i1 i2 i3 i4:Nat):Bool:=
  both fun b1=>both fun b2=>both fun b3=>both fun b4=>(b1&&b2&&b3&&b4)|| !((!b2||b1))||(((Region.ready md l.toArray ((((listed.setIfInBounds i1 b1).setIfInBounds i2 b2).setIfInBounds i3 b3).setIfInBounds i4 b4)).all fun i=>(i==i1&& !b1)||(i==i2&& !b2&&b1)||(i==i3&& !b3)||(i==i4&& !b4))&& !(Region.ready md l.toArray ((((listed.setIfInBounds i1 b1).setIfInBounds i2 b2).setIfInBounds i3 b3).setIfInBounds i4 b4)).isEmpty)
theorem cons2_1 (b1 b2:Bool)(h:((!b2||b1))=true)(h1:b1=false):((!b2||true))=true:=by
  revert h h1
  cases b1<;>cases b2<;>simp
theorem cons2_2 (b1 b2:Bool)(h:((!b2||b1))=true)(h1:b2=false)(h2:b1=true):((!true||b1))=true:=by
  revert h h1 h2
  cases b1<;>cases b2<;>simp
theorem tuple2 {P:Program}{md:Region.Mode}{l:List Oper}{Q:Exit->Act->World->Prop}{S:World->Prop}{f:Nat}{listed:Array Bool}{a:Act}{w0:World}(i1 i2 i3 i4 d1 d2 d3 d4:Nat){o1 o2 o3 o4:Oper}(T:TypeId)(zs:Array Value)(Φ1 Φ2:Value->World->Prop)
    (hi1:l[i1]?=some o1)
    (hi2:l[i2]?=some o2)
    (hi3:l[i3]?=some o3)
    (hi4:l[i4]?=some o4)
    (hni: [i1,i2,i3,i4].Nodup)(hnd: [d1,d2,d3,d4].Nodup)
    (hchk:chk2 md l listed i1 i2 i3 i4=true)
    (hS:∀w,Ext w0 w->S w)
    (hΦ1:∀v w w',Φ1 v w->Ext w w'->Φ1 v w')
    (hΦ2:∀v w w',Φ2 v w->Ext w w'->Φ2 v w')
    (hc1:∀(v1 v2 v3 v4:Value) (w:World) (K:Act->World->Prop),Ext w0 w->S w->Shut (∀v w',Φ1 v w'->Ext w w'->K (({a with tmps:=((((a.tmps.setIfInBounds d1 v1).setIfInBounds d2 v2).setIfInBounds d3 v3).setIfInBounds d4 v4)}:Act).put (some d1) v) w')->if Region.wanted o1 (yielded l.toArray ({a with tmps:=((((a.tmps.setIfInBounds d1 v1).setIfInBounds d2 v2).setIfInBounds d3 v3).setIfInBounds d4 v4)}:Act).tmps)=true then Oper.wp P o1 ({a with tmps:=((((a.tmps.setIfInBounds d1 v1).setIfInBounds d2 v2).setIfInBounds d3 v3).setIfInBounds d4 v4)}:Act) w K Q else K (({a with tmps:=((((a.tmps.setIfInBounds d1 v1).setIfInBounds d2 v2).setIfInBounds d3 v3).setIfInBounds d4 v4)}:Act).put o1.dst undef) w)
    (hc2:∀(v1 v2 v3 v4:Value) (w:World) (K:Act->World->Prop),Ext w0 w->S w->Shut (∀v w',Φ2 v w'->Ext w w'->K (({a with tmps:=((((a.tmps.setIfInBounds d1 v1).setIfInBounds d2 v2).setIfInBounds d3 v3).setIfInBounds d4 v4)}:Act).put (some d2) v) w')->if Region.wanted o2 (yielded l.toArray ({a with tmps:=((((a.tmps.setIfInBounds d1 v1).setIfInBounds d2 v2).setIfInBounds d3 v3).setIfInBounds d4 v4)}:Act).tmps)=true then Oper.wp P o2 ({a with tmps:=((((a.tmps.setIfInBounds d1 v1).setIfInBounds d2 v2).setIfInBounds d3 v3).setIfInBounds d4 v4)}:Act) w K Q else K (({a with tmps:=((((a.tmps.setIfInBounds d1 v1).setIfInBounds d2 v2).setIfInBounds d3 v3).setIfInBounds d4 v4)}:Act).put o2.dst undef) w)
    (hc3:∀(v1 v2 v3 v4:Value) (w:World) (K:Act->World->Prop),Ext w0 w->S w->Shut (K (({a with tmps:=((((a.tmps.setIfInBounds d1 v1).setIfInBounds d2 v2).setIfInBounds d3 v3).setIfInBounds d4 v4)}:Act).put (some d3) (.pointer (some ⟨w.heap.size,0,none⟩))) (w.alloc (.cells zs T)))->if Region.wanted o3 (yielded l.toArray ({a with tmps:=((((a.tmps.setIfInBounds d1 v1).setIfInBounds d2 v2).setIfInBounds d3 v3).setIfInBounds d4 v4)}:Act).tmps)=true then Oper.wp P o3 ({a with tmps:=((((a.tmps.setIfInBounds d1 v1).setIfInBounds d2 v2).setIfInBounds d3 v3).setIfInBounds d4 v4)}:Act) w K Q else K (({a with tmps:=((((a.tmps.setIfInBounds d1 v1).setIfInBounds d2 v2).setIfInBounds d3 v3).setIfInBounds d4 v4)}:Act).put o3.dst undef) w)
    (hc4:∀(v1 v2 v3 v4:Value) (w:World) (K:Act->World->Prop),Ext w0 w->S w->Shut (K (({a with tmps:=((((a.tmps.setIfInBounds d1 v1).setIfInBounds d2 v2).setIfInBounds d3 v3).setIfInBounds d4 v4)}:Act).put (some d4) (.pointer (some ⟨w.heap.size,0,none⟩))) (w.alloc (.cells zs T)))->if Region.wanted o4 (yielded l.toArray ({a with tmps:=((((a.tmps.setIfInBounds d1 v1).setIfInBounds d2 v2).setIfInBounds d3 v3).setIfInBounds d4 v4)}:Act).tmps)=true then Oper.wp P o4 ({a with tmps:=((((a.tmps.setIfInBounds d1 v1).setIfInBounds d2 v2).setIfInBounds d3 v3).setIfInBounds d4 v4)}:Act) w K Q else K (({a with tmps:=((((a.tmps.setIfInBounds d1 v1).setIfInBounds d2 v2).setIfInBounds d3 v3).setIfInBounds d4 v4)}:Act).put o4.dst undef) w)
    (hend:∀(v1 v2:Value) (X1 X2:Nat) (w:World),Ext w0 w->S w->Φ1 v1 w->Φ2 v2 w->Blk w X1 T zs->Blk w X2 T zs->w0.heap.size<=X1->w0.heap.size<=X2->X1≠X2->wpAnyH P md l.toArray Q S f ((((listed.setIfInBounds i1 true).setIfInBounds i2 true).setIfInBounds i3 true).setIfInBounds i4 true) ({a with tmps:=((((a.tmps.setIfInBounds d1 v1).setIfInBounds d2 v2).setIfInBounds d3 (.pointer (some ⟨X1,0,none⟩))).setIfInBounds d4 (.pointer (some ⟨X2,0,none⟩)))}:Act) w)
    (u1 u2 u3 u4:Value)
    (hl:listed=((((listed.setIfInBounds i1 false).setIfInBounds i2 false).setIfInBounds i3 false).setIfInBounds i4 false))(ha:a=({a with tmps:=((((a.tmps.setIfInBounds d1 u1).setIfInBounds d2 u2).setIfInBounds d3 u3).setIfInBounds d4 u4)}:Act))
    :wpAnyH P md l.toArray Q S (f+4) listed a w0:=by
  have e2_1:i2≠i1:=by intro h;simp[h]at hni
  have g2_1:d2≠d1:=by intro h;simp[h]at hnd
  have e3_1:i3≠i1:=by intro h;simp[h]at hni
  have g3_1:d3≠d1:=by intro h;simp[h]at hnd
  have e3_2:i3≠i2:=by intro h;simp[h]at hni
  have g3_2:d3≠d2:=by intro h;simp[h]at hnd
  have e4_1:i4≠i1:=by intro h;simp[h]at hni
  have g4_1:d4≠d1:=by intro h;simp[h]at hnd
  have e4_2:i4≠i2:=by intro h;simp[h]at hni
  have g4_2:d4≠d2:=by intro h;simp[h]at hnd
  have e4_3:i4≠i3:=by intro h;simp[h]at hni
  have g4_3:d4≠d3:=by intro h;simp[h]at hnd
  clear hni hnd;have hall:∀b1 b2 b3 b4:Bool,(b1&&b2&&b3&&b4)=false->((!b2||b1))=true->(∀i∈Region.ready md l.toArray ((((listed.setIfInBounds i1 b1).setIfInBounds i2 b2).setIfInBounds i3 b3).setIfInBounds i4 b4),(i=i1/\b1=false)\/(i=i2/\b2=false/\b1=true)\/(i=i3/\b3=false)\/(i=i4/\b4=false))/\Region.ready md l.toArray ((((listed.setIfInBounds i1 b1).setIfInBounds i2 b2).setIfInBounds i3 b3).setIfInBounds i4 b4)≠ []:=by
    intro b1 b2 b3 b4 h0 h0c;have h1:=(both_spec (both_spec (both_spec (both_spec hchk b1) b2) b3) b4);rw[h0,h0c,Bool.not_true,Bool.false_or,Bool.false_or,Bool.and_eq_true]at h1;refine⟨fun i hi=> ?_,fun h2=> ?_⟩
    · have h3:=List.all_eq_true.1 h1.1 i hi
      simpa[or_assoc,and_assoc]using h3
    have h3:=h1.2;rw[h2]at h3;cases h3
  clear hchk;have H:∀(m:Nat) (b1 b2 b3 b4:Bool) (v1 v2 v3 v4:Value) (w:World),(!b1).toNat+(!b2).toNat+(!b3).toNat+(!b4).toNat=m->((!b2||b1))=true->Ext w0 w->(b1=true->Φ1 v1 w)->(b2=true->Φ2 v2 w)->(b3=true->∃X,v3= .pointer (some ⟨X,0,none⟩)/\Blk w X T zs/\w0.heap.size<=X)->(b4=true->∃X,v4= .pointer (some ⟨X,0,none⟩)/\Blk w X T zs/\w0.heap.size<=X)->(b3=true->b4=true->v3≠v4)->wpAnyH P md l.toArray Q S (f+m) ((((listed.setIfInBounds i1 b1).setIfInBounds i2 b2).setIfInBounds i3 b3).setIfInBounds i4 b4) ({a with tmps:=((((a.tmps.setIfInBounds d1 v1).setIfInBounds d2 v2).setIfInBounds d3 v3).setIfInBounds d4 v4)}:Act) w:=by
    intro m;induction m with
    | zero=>
      intro b1 b2 b3 b4 v1 v2 v3 v4 w hm hcons hx F1 F2 F3 F4 D3_4;obtain rfl:b1=true:=by cases b1<;>simp at hm⊢
      obtain rfl:b2=true:=by cases b2<;>simp at hm⊢
      obtain rfl:b3=true:=by cases b3<;>simp at hm⊢
      obtain rfl:b4=true:=by cases b4<;>simp at hm⊢
      obtain⟨X1,rfl,B3,z3⟩:=F3 rfl;obtain⟨X2,rfl,B4,z4⟩:=F4 rfl;exact hend _ _ _ _ w hx (hS _ hx) (F1 rfl) (F2 rfl) B3 B4 z3 z4 (fun h=>D3_4 rfl rfl (by rw[h]))
    | succ m ih=>
      intro b1 b2 b3 b4 v1 v2 v3 v4 w hm hcons hx F1 F2 F3 F4 D3_4;have hnot:(b1&&b2&&b3&&b4)=false:=by
        cases hb:(b1&&b2&&b3&&b4)
        · rfl
        exfalso;simp only[Bool.and_eq_true]at hb;simp[hb]at hm
      obtain⟨hr,hne⟩:=hall b1 b2 b3 b4 hnot hcons;refine⟨fun h0=>absurd h0 hne,fun i hi=> ?_⟩;rcases hr i hi with⟨hik,rfl⟩|⟨hik,rfl,rfl⟩|⟨hik,rfl⟩|⟨hik,rfl⟩
      · rw[hik]
        refine wpOp_step (by rw[List.getElem?_toArray];exact hi1) (fun K' hK=>hc1 v1 v2 v3 v4 w K' hx (hS _ hx) ?_);refine fun v w' hv he=>hK _ _ ⟨hS _ (hx.trans he),?_⟩
        rw[show∀(u:Value),({a with tmps:=((((a.tmps.setIfInBounds d1 v1).setIfInBounds d2 v2).setIfInBounds d3 v3).setIfInBounds d4 v4)}:Act).put (some d1) u=({a with tmps:=((((a.tmps.setIfInBounds d1 u).setIfInBounds d2 v2).setIfInBounds d3 v3).setIfInBounds d4 v4)}:Act)from fun u=>by show({a with tmps:=_}:Act)=_;rw[set_chain4_1 _ d1 d2 d3 d4 _ _ _ _ _ g2_1 g3_1 g4_1]];rw[set_chain4_1 _ i1 i2 i3 i4 _ _ _ _ _ e2_1 e3_1 e4_1];exact ih true b2 b3 b4 v v2 v3 v4 _ (by simp at hm⊢;omega) (cons2_1 _ _ hcons rfl) (hx.trans he) (fun _=>hv) (fun h=>hΦ2 _ _ _ (F2 h) he) (fun h=>by obtain⟨X,q1,q2,q3⟩:=F3 h;exact⟨X,q1,q2.ext he,q3⟩) (fun h=>by obtain⟨X,q1,q2,q3⟩:=F4 h;exact⟨X,q1,q2.ext he,q3⟩) (D3_4)
      · rw[hik]
        refine wpOp_step (by rw[List.getElem?_toArray];exact hi2) (fun K' hK=>hc2 v1 v2 v3 v4 w K' hx (hS _ hx) ?_);refine fun v w' hv he=>hK _ _ ⟨hS _ (hx.trans he),?_⟩
        rw[show∀(u:Value),({a with tmps:=((((a.tmps.setIfInBounds d1 v1).setIfInBounds d2 v2).setIfInBounds d3 v3).setIfInBounds d4 v4)}:Act).put (some d2) u=({a with tmps:=((((a.tmps.setIfInBounds d1 v1).setIfInBounds d2 u).setIfInBounds d3 v3).setIfInBounds d4 v4)}:Act)from fun u=>by show({a with tmps:=_}:Act)=_;rw[set_chain4_2 _ d1 d2 d3 d4 _ _ _ _ _ g3_2 g4_2]];rw[set_chain4_2 _ i1 i2 i3 i4 _ _ _ _ _ e3_2 e4_2];exact ih true true b3 b4 v1 v v3 v4 _ (by simp at hm⊢;omega) (cons2_2 _ _ hcons rfl rfl) (hx.trans he) (fun h=>hΦ1 _ _ _ (F1 h) he) (fun _=>hv) (fun h=>by obtain⟨X,q1,q2,q3⟩:=F3 h;exact⟨X,q1,q2.ext he,q3⟩) (fun h=>by obtain⟨X,q1,q2,q3⟩:=F4 h;exact⟨X,q1,q2.ext he,q3⟩) (D3_4)
      · rw[hik]
        refine wpOp_step (by rw[List.getElem?_toArray];exact hi3) (fun K' hK=>hc3 v1 v2 v3 v4 w K' hx (hS _ hx) ?_);refine hK _ _ ⟨hS _ (hx.alloc _),?_⟩;rw[show∀(u:Value),({a with tmps:=((((a.tmps.setIfInBounds d1 v1).setIfInBounds d2 v2).setIfInBounds d3 v3).setIfInBounds d4 v4)}:Act).put (some d3) u=({a with tmps:=((((a.tmps.setIfInBounds d1 v1).setIfInBounds d2 v2).setIfInBounds d3 u).setIfInBounds d4 v4)}:Act)from fun u=>by show({a with tmps:=_}:Act)=_;rw[set_chain4_3 _ d1 d2 d3 d4 _ _ _ _ _ g4_3]];rw[set_chain4_3 _ i1 i2 i3 i4 _ _ _ _ _ e4_3];exact ih b1 b2 true b4 v1 v2 _ v4 _ (by simp at hm⊢;omega) hcons (hx.alloc _) (fun h=>hΦ1 _ _ _ (F1 h) ((Ext.refl w).alloc (.cells zs T))) (fun h=>hΦ2 _ _ _ (F2 h) ((Ext.refl w).alloc (.cells zs T))) (fun _=>⟨w.heap.size,rfl,Blk.new w _ _,hx.size⟩) (fun h=>by obtain⟨X,q1,q2,q3⟩:=F4 h;exact⟨X,q1,q2.ext ((Ext.refl w).alloc (.cells zs T)),q3⟩) (fun _ h2=>by obtain⟨X,q1,q2,q3⟩:=F4 h2;have hlt:=Blk.lt q2;rw[q1];intro hh;simp at hh<;>omega)
      rw[hik];refine wpOp_step (by rw[List.getElem?_toArray];exact hi4) (fun K' hK=>hc4 v1 v2 v3 v4 w K' hx (hS _ hx) ?_);refine hK _ _ ⟨hS _ (hx.alloc _),?_⟩;rw[show∀(u:Value),({a with tmps:=((((a.tmps.setIfInBounds d1 v1).setIfInBounds d2 v2).setIfInBounds d3 v3).setIfInBounds d4 v4)}:Act).put (some d4) u=({a with tmps:=((((a.tmps.setIfInBounds d1 v1).setIfInBounds d2 v2).setIfInBounds d3 v3).setIfInBounds d4 u)}:Act)from fun u=>by show({a with tmps:=_}:Act)=_;rw[set_chain4_4 _ d1 d2 d3 d4 _ _ _ _ _]];rw[set_chain4_4 _ i1 i2 i3 i4 _ _ _ _ _];exact ih b1 b2 b3 true v1 v2 v3 _ _ (by simp at hm⊢;omega) hcons (hx.alloc _) (fun h=>hΦ1 _ _ _ (F1 h) ((Ext.refl w).alloc (.cells zs T))) (fun h=>hΦ2 _ _ _ (F2 h) ((Ext.refl w).alloc (.cells zs T))) (fun h=>by obtain⟨X,q1,q2,q3⟩:=F3 h;exact⟨X,q1,q2.ext ((Ext.refl w).alloc (.cells zs T)),q3⟩) (fun _=>⟨w.heap.size,rfl,Blk.new w _ _,hx.size⟩) (fun h2 _=>by obtain⟨X,q1,q2,q3⟩:=F3 h2;have hlt:=Blk.lt q2;rw[q1];intro hh;simp at hh<;>omega)
  rw[hl,ha];exact H 4 false false false false u1 u2 u3 u4 w0 rfl rfl (Ext.refl _) (fun h=>by cases h) (fun h=>by cases h) (fun h=>by cases h) (fun h=>by cases h) (fun h=>by cases h)
end
section
attribute [local go_sem ↓] Go.wp_at_zero Go.wp_at_succ run_max_ii run_min_ii
end
section
theorem heap_setCells (g:Nat):∀(vs:List Value) (o:Nat) (w:World) (t:TypeId) (cs:List Value),w.heap[g]?=some (.cells cs.toArray t (0,0))->o+vs.length<=cs.length->
    (w.setCells g o vs).heap[g]?=some (.cells (cs.take o++vs++cs.drop (o+vs.length)).toArray t (0,0))
  | [],o,w,t,cs,h,_=>by simpa[World.setCells]using h
  | v::r,o,w,t,cs,h,hl=>by
    rw[World.setCells];have h2:(w.setCell ⟨g,o,none⟩ v).heap[g]?=some (.cells (cs.set o v).toArray t (0,0)):=by
      have h3:=Blk.set_ (w:=w) (g:=g) (t:=t) (cs:=cs.toArray) h o v;simpa[Blk]using h3
    rw[heap_setCells g r (o+1) _ t (cs.set o v) h2 (by simp at hl⊢;omega)];congr 3;have hlt:o<cs.length:=by simp at hl;omega
    apply List.ext_getElem?;intro i;simp only[List.length_cons,List.append_assoc,List.getElem?_append,List.length_take,List.length_set,List.getElem?_take,List.getElem?_set,List.getElem?_drop];have e:o+1+r.length=o+(r.length+1):=by omega
    have m:min o cs.length=o:=by omega
    have m1:min (o+1) cs.length=o+1:=by omega
    rw[m,m1];by_cases h1:i<o
    · rw[if_pos (by omega),if_pos (by omega),if_pos h1,if_pos h1,if_neg (by omega)]
    by_cases h2:i=o
    · subst h2
      simp[hlt]
    rw[if_neg (by omega),if_neg h1];obtain⟨k,rfl⟩:∃k,i=o+1+k:=⟨i-(o+1),by omega⟩;have q1:o+1+k-(o+1)=k:=by omega
    have q2:o+1+k-o=k+1:=by omega
    rw[q1,q2];by_cases h3:k<r.length
    · rw[if_pos h3,if_pos (by first|omega|(simp;omega))];simp
    rw[if_neg h3,if_neg (by first|omega|(simp;omega)),if_neg (by omega)];congr 1;first|omega|(simp;omega)
theorem Blk.setCells {w:World}{g:Nat}{t:TypeId}{cs:Array Value}(h:Blk w g t cs)(vs:Array Value)(hl:vs.size=cs.size):Blk (w.setCells g 0 vs.toList) g t vs:=by
  have h2:=heap_setCells g vs.toList 0 w t cs.toList (by simpa[Blk]using h) (by simp[hl]);unfold Blk;rw[h2,List.drop_of_length_le (by simp[hl])];simp
theorem Own.setCells_l {g:Nat}:∀(vs:List Value) (o:Nat) {a w:World},Own g a w->Own g a (w.setCells g o vs)
  | [],_,_,_,h=>h
  |v::r,o,_,_,h=>by rw[World.setCells];exact Own.setCells_l r (o+1) (h.set_at o none v)
theorem Own.setCells (w:World)(g:Nat)(vs:Array Value):Own g w (w.setCells g 0 vs.toList):=Own.setCells_l _ _ (Own.refl g w)
theorem Blk.range {w:World}{g:Nat}{t:TypeId}{cs:Array Value}(h:Blk w g t cs):w.rangeAt g 0 cs.toList:=fun j v hv=>by
  rw[Nat.zero_add,h.cell j];simpa using hv
theorem Blk.thereN {w:World}{g:Nat}{t:TypeId}{cs:Array Value}(h:Blk w g t cs):w.there g 0 cs.size:=fun j hj=>by
  rw[Nat.zero_add,h.cell j,h.frozen j];simp[hj]
theorem Blk.loadVar {P:Program}{w:World}{g:Nat}{t ty:TypeId}{cs:Array Value}{d:TypeDesc}(h:Blk w g t cs)(hu:P.underlying ty=some d)(hd:d.isRow=true)(hi:(P.info? ty).map (·.size)=some cs.size):
    (Go.loadVar ty ⟨g,0,none⟩).run P w= .ok (.agg cs) w:=by
  have h2:=run_loadVar_mid (P:=P) w g 0 ty cs.toList d h.range hu hd (by simpa using hi);simpa using h2
theorem wp_store_blk {P:Program}{op:Oper}{a:Act}{w:World}{K:Act->World->Prop}{Q:Exit->Act->World->Prop}(ty:TypeId)(x y:Operand)(ho:op.op= .store ty x y)
    (g:Nat)(t:TypeId)(cs0 cs:Array Value)(hx:a.eval x= .pointer (some ⟨g,0,none⟩))(hy:a.eval y= .agg cs)(hb:Blk w g t cs0)(hl:cs.size=cs0.size)
    (hi:(P.info? ty).map (·.size)=some cs.size)(h1:cs.all (·.oneCell')=true)
    (h:K (a.put op.dst undef) (w.setCells g 0 cs.toList)):op.wp P a w K Q:=
  wp_store_mid ty x y ho g 0 cs hx hy (by rw[hl];exact hb.thereN) hi h1 h
theorem wpAnyH_store_l {P:Program}{l:List Oper}{Q:Exit->Act->World->Prop}{md:Region.Mode}{S:World->Prop}{i:Nat}{oi:Oper}{fuel:Nat}{listed:Array Bool}{a:Act}{w:World}(hi:l[i]?=some oi)
    (hr:Region.ready md l.toArray listed=[i])(hg:oi.guard=none)(ty:TypeId)(x y:Operand)(ho:oi.op= .store ty x y)
    (g:Nat)(t:TypeId)(cs0 cs:Array Value)(hx:a.eval x= .pointer (some ⟨g,0,none⟩))(hy:a.eval y= .agg cs)(hb:Blk w g t cs0)(hl:cs.size=cs0.size)
    (hz:(P.info? ty).map (·.size)=some cs.size)(h1:cs.all (·.oneCell')=true)(hS:S (w.setCells g 0 cs.toList))
    (h:wpAnyH P md l.toArray Q S fuel (listed.setIfInBounds i true) (a.put oi.dst undef) (w.setCells g 0 cs.toList)):wpAnyH P md l.toArray Q S (fuel+1) listed a w:=
  wpAnyH_one_l hi hr (fun K hK=>by
    rw[if_pos (by simp only[Region.wanted,hg])];exact wp_store_blk ty x y ho g t cs0 cs hx hy hb hl hz h1 (hK.out _ _ hS (fun _=>h)))
theorem Own.then_ext' {g:Nat}{a b c:World}(h:Ext a b)(k:Own g b c):Own g a c:=
  ⟨k.os.trans h.os,k.tape.trans h.tape,k.output.trans h.output,Nat.le_trans h.size k.size,fun i hi hn=>(k.block i (Nat.lt_of_lt_of_le hi h.size) hn).trans (h.block i hi)⟩
theorem results_cell2 {P:Program}{fn:Func}{i j:Tmp}{t u:TypeId}(h:fn.results=#[.cell i t,.cell j u]){tmps:Array Value}{w:World}{p q:Addr}{v z:Value}
    (hi:tmps.getD i undef= .pointer (some p))(hj:tmps.getD j undef= .pointer (some q))(h1:(Go.loadVar t p).run P w= .ok v w)(h2:(Go.loadVar u q).run P w= .ok z w):
    (results fn tmps).run P w= .ok (.tuple #[v,z]) w:=by
  simp only[Array.getD_eq_getD_getElem?]at hi hj;simp[results,h,hi,hj,h1,h2,asAddr]
theorem results_cell1 {P:Program}{fn:Func}{i:Tmp}{t:TypeId}(h:fn.results=#[.cell i t]){tmps:Array Value}{w:World}{p:Addr}{v:Value}
    (hi:tmps.getD i undef= .pointer (some p))(h1:(Go.loadVar t p).run P w= .ok v w):
    (results fn tmps).run P w= .ok v w:=by
  simp only[Array.getD_eq_getD_getElem?]at hi;simp[results,h,hi,h1,asAddr]
end
section
attribute [local go_sem ↓] Go.wp_at_zero Go.wp_at_succ run_max_ii run_min_ii
def RV.short (a:RV):Bool:=decide (a.l<=6)&&decide (a.l2<=6)
theorem RetRE.v {q:Rat}{w w':World}{e:Ending}(h:RetRE q 0 w e w'):∃a:RV,e= .returned (.tuple #[.agg #[.bool a.n,.slice a.p a.l a.c,.bool a.m,.slice a.p2 a.l2 a.c2],.int .i64 0])/\a.Is w' q/\Ext w w':=by
  obtain⟨n,u,m,v,rfl,hc,he⟩:=h;obtain⟨p,l,c,p2,l2,c2,rfl,rfl⟩:=hc.form;exact⟨⟨n,p,l,c,m,p2,l2,c2⟩,rfl,hc,he⟩
end
section
def NIn (L:Nat)(w:World)(cs:Array Value)(q:Rat):Prop:=∃a:RV,cs=#[.bool a.n,.slice a.p a.l a.c,.bool a.m,.slice a.p2 a.l2 a.c2]/\a.In L w q
def NIs (w:World)(cs:Array Value)(q:Rat):Prop:=∃a:RV,cs=#[.bool a.n,.slice a.p a.l a.c,.bool a.m,.slice a.p2 a.l2 a.c2]/\a.Is w q
theorem NIn.ext {L:Nat}{w w':World}{cs:Array Value}{q:Rat}(h:NIn L w cs q)(e:Ext w w'):NIn L w' cs q:=by obtain⟨a,h1,h2⟩:=h;exact⟨a,h1,h2.ext e⟩
theorem NIs.ext {w w':World}{cs:Array Value}{q:Rat}(h:NIs w cs q)(e:Ext w w'):NIs w' cs q:=by obtain⟨a,h1,h2⟩:=h;exact⟨a,h1,h2.ext e⟩
theorem NIs.isIn {L:Nat}{w:World}{cs:Array Value}{q:Rat}(h:NIs w cs q)(hl:Nm.rl q<=L):NIn L w cs q:=by obtain⟨a,h1,h2⟩:=h;exact⟨a,h1,h2.isIn hl⟩
theorem NIn.mono {L M:Nat}{w:World}{cs:Array Value}{q:Rat}(h:NIn L w cs q)(hl:L<=M):NIn M w cs q:=by obtain⟨a,h1,h2⟩:=h;exact⟨a,h1,h2.mono hl⟩
theorem NIn.rl {L:Nat}{w:World}{cs:Array Value}{q:Rat}(h:NIn L w cs q)(h1:1<=L):Nm.rl q<=L:=by obtain⟨a,_,h2⟩:=h;have:=h2.rl;omega
theorem NIn.size {L:Nat}{w:World}{cs:Array Value}{q:Rat}(h:NIn L w cs q):cs.size=4:=by obtain⟨a,rfl,_⟩:=h;rfl
theorem NIs.size {w:World}{cs:Array Value}{q:Rat}(h:NIs w cs q):cs.size=4:=by obtain⟨a,rfl,_⟩:=h;rfl
theorem NIs.one {w:World}{cs:Array Value}{q:Rat}(h:NIs w cs q):cs.all (·.oneCell')=true:=by obtain⟨a,rfl,_⟩:=h;exact all_oneCell_toArray (by simp[Value.oneCell'])
def PtIs (w:World)(cs:Array Value)(A0 A1:Rat):Prop:=∃a0 a1:RV,cs=#[.bool a0.n,.slice a0.p a0.l a0.c,.bool a0.m,.slice a0.p2 a0.l2 a0.c2,.bool a1.n,.slice a1.p a1.l a1.c,.bool a1.m,.slice a1.p2 a1.l2 a1.c2]/\a0.Is w A0/\a1.Is w A1
theorem PtIs.ext {w:World}{cs:Array Value}{A0 A1:Rat}{w':World}(h:PtIs w cs A0 A1)(x:Ext w w'):PtIs w' cs A0 A1:=by obtain⟨a0,a1,e,h0,h1⟩:=h;exact⟨a0,a1,e,h0.ext x,h1.ext x⟩
theorem PtIs.size {w:World}{cs:Array Value}{A0 A1:Rat}(h:PtIs w cs A0 A1):cs.size=8:=by obtain⟨a0,a1,e,h0,h1⟩:=h;rw[e];rfl
theorem PtIs.one {w:World}{cs:Array Value}{A0 A1:Rat}(h:PtIs w cs A0 A1):cs.all (·.oneCell')=true:=by obtain⟨a0,a1,e,h0,h1⟩:=h;rw[e];exact all_oneCell_toArray (by simp[Value.oneCell'])
theorem PtIs.map {w:World}{cs:Array Value}{A0 A1:Rat}{w':World}(h:PtIs w cs A0 A1)(x:∀(r:RV) (q:Rat),r.Is w q->r.Is w' q):PtIs w' cs A0 A1:=by obtain⟨a0,a1,e,h0,h1⟩:=h;exact⟨a0,a1,e,x _ _ h0,x _ _ h1⟩
theorem PtIs.c0 {w:World}{cs:Array Value}{A0 A1:Rat}(h:PtIs w cs A0 A1):NIs w (cs.extract 0 (0+4)) A0:=by obtain⟨a0,a1,e,h0,h1⟩:=h;exact⟨a0,by rw[e];rfl,h0⟩
theorem PtIs.c1 {w:World}{cs:Array Value}{A0 A1:Rat}(h:PtIs w cs A0 A1):NIs w (cs.extract 4 (4+4)) A1:=by obtain⟨a0,a1,e,h0,h1⟩:=h;exact⟨a1,by rw[e];rfl,h1⟩
section
variable {L:Nat} {w:World} {cs ct:Array Value}
end
end
section
theorem wp_call_op {P:Program}{op:Oper}{a:Act}{w:World}{K:Act->World->Prop}{Q:Exit->Act->World->Prop}{f:FuncId}{args:Array Value}{Φ:Ending->World->Prop}
    (hv:(execOp a.eval op).run P w= .ok (.enter f args) w)(hc:Calls P f args w Φ)(h:∀e w',Φ e w'->∃v,e= .returned v/\K (a.put op.dst v) w'):op.wp P a w K Q:=by
  unfold Oper.wp;rw[hv];simp only[Oper.upon];refine Calls.mono hc fun e w' he=> ?_
  obtain⟨v,rfl,hk⟩:=h e w' he;exact hk
section
variable {P:Program} {ops:Array Oper} {rest:List Oper} {op:Oper} {a:Act} {w w':World} {Q:Exit->Act->World->Prop} {v:Value}
theorem wpList_if (hw:Region.wanted op (yielded ops a.tmps)=true)(h:op.wp P a w (wpList P ops Q rest) Q):wpList P ops Q (op::rest) a w:=by
  rw[wpList,if_pos hw];exact .inl h
theorem mv_skip (hw:Region.wanted op (yielded ops a.tmps)=false)(h:wpList P ops Q rest (a.put op.dst undef) w):wpList P ops Q (op::rest) a w:=by
  rw[wpList,if_neg (by rw[hw];exact Bool.false_ne_true)];exact h
theorem mv_val (hw:Region.wanted op (yielded ops a.tmps)=true)(hv:(execOp a.eval op).run P w= .ok (.value v) w')(h:wpList P ops Q rest (a.put op.dst v) w'):wpList P ops Q (op::rest) a w:=
  wpList_if hw (by unfold Oper.wp;rw[hv];exact h)
theorem mv_call {f:FuncId}{args:Array Value}{Φ:Ending->World->Prop}(hw:Region.wanted op (yielded ops a.tmps)=true)(hv:(execOp a.eval op).run P w= .ok (.enter f args) w)(hc:Calls P f args w Φ)
    (h:∀e w',Φ e w'->∃v,e= .returned v/\wpList P ops Q rest (a.put op.dst v) w'):wpList P ops Q (op::rest) a w:=wpList_if hw (wp_call_op hv hc h)
theorem mv_load (hw:Region.wanted op (yielded ops a.tmps)=true)(ty:TypeId)(x:Operand)(ho:op.op= .load ty x)(g:Nat)(t:TypeId)(cs:Array Value)(d:TypeDesc)(hx:a.eval x= .pointer (some ⟨g,0,none⟩))(hb:Blk w g t cs)
    (hu:P.underlying ty=some d)(hd:d.isRow=true)(hi:(P.info? ty).map (·.size)=some cs.size)(h:wpList P ops Q rest (a.put op.dst (.agg cs)) w):wpList P ops Q (op::rest) a w:=
  wpList_if hw (wp_load_mid ty x ho g 0 hx cs.toList d hb.range hu hd (by simpa using hi) (by simpa using h))
theorem mv_store (hw:Region.wanted op (yielded ops a.tmps)=true)(ty:TypeId)(x y:Operand)(ho:op.op= .store ty x y)(g:Nat)(t:TypeId)(cs0 cs:Array Value)(hx:a.eval x= .pointer (some ⟨g,0,none⟩))(hy:a.eval y= .agg cs)
    (hb:Blk w g t cs0)(hl:cs.size=cs0.size)(hi:(P.info? ty).map (·.size)=some cs.size)(h1:cs.all (·.oneCell')=true)
    (h:wpList P ops Q rest (a.put op.dst undef) (w.setCells g 0 cs.toList)):wpList P ops Q (op::rest) a w:=
  wpList_if hw (wp_store_blk ty x y ho g t cs0 cs hx hy hb hl hi h1 h)
theorem Blk.part {w:World}{g:Nat}{t:TypeId}{cs:Array Value}(h:Blk w g t cs)(o n:Nat):w.rangeAt g o (cs.extract o (o+n)).toList:=World.rangeAt_of_block h o n
end
section
variable {P:Program} {l:List Oper} {Q:Exit->Act->World->Prop} {md:Region.Mode} {S:World->Prop} {i:Nat} {oi:Oper} {fuel:Nat} {listed listed':Array Bool} {a:Act} {w w':World} {v:Value}
theorem new_var (w:World)(T:TypeId)(zs cs:Array Value)(hl:cs.size=zs.size):Ext w ((w.alloc (.cells zs T)).setCells w.heap.size 0 cs.toList)/\Blk ((w.alloc (.cells zs T)).setCells w.heap.size 0 cs.toList) w.heap.size T cs:=
  ⟨(Own.setCells _ _ cs).ext ((Ext.refl w).alloc _) (Nat.le_refl _),Blk.setCells (Blk.new_at w _ rfl _ _) cs hl⟩
theorem md_val (hi:l[i]?=some oi)(hs:Region.noSelect l.toArray=true)(hf:Region.free md l.toArray listed i=true)(hr:(Region.ready md l.toArray listed).contains i=true)
    (hQ:∀c a w,Q (.panic c) (a.put oi.dst v) w->Q (.panic c) a w)(hw:Region.wanted oi (yielded l.toArray a.tmps)=true)(hv:∀w,S w->(execOp a.eval oi).run P w= .ok (.value v) w)(hS:S w)
    (hl:listed.setIfInBounds i true=listed')(h:wpAnyH P md l.toArray Q S fuel listed' (a.put oi.dst v) w):wpAnyH P md l.toArray Q S (fuel+1) listed a w:=
  wpAnyH_take_l hi hs hf hr hQ (Or.inl ⟨hw,hv⟩) hS (by rw[hl];exact h)
theorem md_load (hi:l[i]?=some oi)(hs:Region.noSelect l.toArray=true)(hf:Region.free md l.toArray listed i=true)(hr:(Region.ready md l.toArray listed).contains i=true)
    (ty:TypeId)(x:Operand)(ho:oi.op= .load ty x)(g:Nat)(t:TypeId)(cs:Array Value)(d:TypeDesc)
    (hQ:∀c a w,Q (.panic c) (a.put oi.dst (.agg cs)) w->Q (.panic c) a w)(hw:Region.wanted oi (yielded l.toArray a.tmps)=true)(hx:a.eval x= .pointer (some ⟨g,0,none⟩))(hb:∀w,S w->Blk w g t cs)
    (hu:P.underlying ty=some d)(hd:d.isRow=true)(hz:(P.info? ty).map (·.size)=some cs.size)(hS:S w)
    (hl:listed.setIfInBounds i true=listed')(h:wpAnyH P md l.toArray Q S fuel listed' (a.put oi.dst (.agg cs)) w):wpAnyH P md l.toArray Q S (fuel+1) listed a w:=
  wpAnyH_take_l (v:= .agg cs) hi hs hf hr hQ (by
    have h2:=yieldsIf_load_mid (P:=P) (ops:=l.toArray) (S:=S) hw ty x ho g 0 hx cs.toList d (fun w hw=>(hb w hw).range) hu hd (by simpa using hz);simpa using h2) hS (by rw[hl];exact h)
theorem md_skip (hi:l[i]?=some oi)(hs:Region.noSelect l.toArray=true)(hf:Region.free md l.toArray listed i=true)(hr:(Region.ready md l.toArray listed).contains i=true)
    (hQ:∀c a w,Q (.panic c) (a.put oi.dst undef) w->Q (.panic c) a w)(hn:Region.wanted oi (yielded l.toArray a.tmps)=false)(hS:S w)
    (hl:listed.setIfInBounds i true=listed')(h:wpAnyH P md l.toArray Q S fuel listed' (a.put oi.dst undef) w):wpAnyH P md l.toArray Q S (fuel+1) listed a w:=
  wpAnyH_skip_l hi hs hf hr hQ hn hS (by rw[hl];exact h)
theorem md_call {f:FuncId}{args:Array Value}{Φ:Ending->World->Prop}(hi:l[i]?=some oi)(hr:Region.ready md l.toArray listed=[i])(hw:Region.wanted oi (yielded l.toArray a.tmps)=true)
    (hv:(execOp a.eval oi).run P w= .ok (.enter f args) w)(hc:Calls P f args w Φ)(hl:listed.setIfInBounds i true=listed')
    (h:∀e w',Φ e w'->∃v,e= .returned v/\S w'/\wpAnyH P md l.toArray Q S fuel listed' (a.put oi.dst v) w'):wpAnyH P md l.toArray Q S (fuel+1) listed a w:=
  wpAnyH_one_l hi hr (fun K hK=>by
    rw[if_pos hw];refine wp_call_op hv hc fun e w' he=> ?_
    obtain⟨v,hv,hS,hh⟩:=h e w' he;exact⟨v,hv,hK.out _ _ hS (fun _=>by rw[hl];exact hh)⟩)
theorem md_one (hi:l[i]?=some oi)(hr:Region.ready md l.toArray listed=[i])(hw:Region.wanted oi (yielded l.toArray a.tmps)=true)
    (hv:(execOp a.eval oi).run P w= .ok (.value v) w')(hS:S w')(hl:listed.setIfInBounds i true=listed')
    (h:wpAnyH P md l.toArray Q S fuel listed' (a.put oi.dst v) w'):wpAnyH P md l.toArray Q S (fuel+1) listed a w:=
  wpAnyH_one_l hi hr (fun K hK=>by
    rw[if_pos hw];unfold Oper.wp;rw[hv];exact hK.out _ _ hS (fun _=>by rw[hl];exact h))
theorem md_store (hi:l[i]?=some oi)(hr:Region.ready md l.toArray listed=[i])(hg:oi.guard=none)(ty:TypeId)(x y:Operand)(ho:oi.op= .store ty x y)
    (g:Nat)(t:TypeId)(cs0 cs:Array Value)(hx:a.eval x= .pointer (some ⟨g,0,none⟩))(hy:a.eval y= .agg cs)(hb:Blk w g t cs0)(hl0:cs.size=cs0.size)
    (hz:(P.info? ty).map (·.size)=some cs.size)(h1:cs.all (·.oneCell')=true)(hS:S (w.setCells g 0 cs.toList))(hl:listed.setIfInBounds i true=listed')
    (h:wpAnyH P md l.toArray Q S fuel listed' (a.put oi.dst undef) (w.setCells g 0 cs.toList)):wpAnyH P md l.toArray Q S (fuel+1) listed a w:=
  wpAnyH_store_l hi hr hg ty x y ho g t cs0 cs hx hy hb hl0 hz h1 hS (by rw[hl];exact h)
end
theorem Blk.setPart {w:World}{g:Nat}{t:TypeId}{cs:List Value}(h:Blk w g t cs.toArray)(o:Nat)(vs:List Value)(hl:o+vs.length<=cs.length):Blk (w.setCells g o vs) g t (cs.take o++vs++cs.drop (o+vs.length)).toArray:=heap_setCells g vs o w t cs h hl
theorem Blk.therePart {w:World}{g:Nat}{t:TypeId}{cs:List Value}(h:Blk w g t cs.toArray)(o n:Nat)(hl:o+n<=cs.length):w.there g o n:=fun j hj=>by
  rw[h.cell,h.frozen];simp;omega
theorem run_storeVar_cell {P:Program}(w:World)(b o:Nat)(ty:TypeId)(v:Value)(ht:w.there b o 1)(hi:(P.info? ty).map (·.size)=some 1)(hc:v.cells=#[v])(h1:v.oneCell'=true):
  (storeVar ty ⟨b,o,none⟩ v).run P w= .ok () (w.setCells b o [v]):=by
 have:=run_storeCells_cells (P:=P) b o [v] 0 w (fun j hj=>by simpa using(ht j (by simpa using hj)).1) (fun j hj=>by simpa using(ht j (by simpa using hj)).2)
  (fun u hu=>by simp at hu;rw[hu];exact h1)
 cases hq:P.info? ty with
 |none=>simp[hq]at hi
 |some i=>
  have hs:i.size=1:=by simpa[hq]using hi
  simp only[Nat.add_zero]at this;simp[storeVar,sizeOf,typeInfo,hq,hc,hs,this]
def bl:Nat->Nat->List Bool
  |0,_=>[]
  |n+1,m=>(m%2==1)::bl n (m/2)
abbrev bs (n m:Nat):Array Bool:=(bl n m).toArray
abbrev z4:Array Value:=#[.bool false,.slice none 0 0,.bool false,.slice none 0 0]
abbrev z8:Array Value:=#[.bool false,.slice none 0 0,.bool false,.slice none 0 0,.bool false,.slice none 0 0,.bool false,.slice none 0 0]
section
variable {P:Program} {l:List Oper} {Q:Exit->Act->World->Prop} {md:Region.Mode} {S:World->Prop} {oi:Oper} {fuel:Nat} {listed:Array Bool} {a:Act} {w:World} {v:Value} {ty:TypeId} {x:Operand} {t:TypeId} {d:TypeDesc} {g:Nat} {cs:Array Value} {ops:Array Oper} {rest:List Oper} {op:Oper}
theorem mV (i:Nat)(listed':Array Bool)(hS:S w)(h:wpAnyH P md l.toArray Q S fuel listed' (a.put oi.dst v) w)(hi:l[i]?=some oi:=by rfl)(hs:Region.noSelect l.toArray=true:=by kernel_rfl)(hf:Region.free md l.toArray listed i=true:=by kernel_rfl)(hr:(Region.ready md l.toArray listed).contains i=true:=by kernel_rfl)(hQ:∀c a w,Q (.panic c) (a.put oi.dst v) w->Q (.panic c) a w:=by intro _ _ _ h;exact h)(hw:Region.wanted oi (yielded l.toArray a.tmps)=true:=by rfl)(hv:∀w,S w->(execOp a.eval oi).run P w= .ok (.value v) w:=by intro w hSw;(try dsimp only at hSw);go_simp<;>with_reducible rfl)(hl:listed.setIfInBounds i true=listed':=by kernel_rfl):wpAnyH P md l.toArray Q S (fuel+1) listed a w:=md_val hi hs hf hr hQ hw hv hS hl h
theorem mL (i:Nat)(listed':Array Bool)(hb:∀w,S w->Blk w g t cs)(hu:P.underlying ty=some d)(hz:(P.info? ty).map (·.size)=some cs.size)(hS:S w)(h:wpAnyH P md l.toArray Q S fuel listed' (a.put oi.dst (.agg cs)) w)(hi:l[i]?=some oi:=by rfl)(hs:Region.noSelect l.toArray=true:=by kernel_rfl)(hf:Region.free md l.toArray listed i=true:=by kernel_rfl)(hr:(Region.ready md l.toArray listed).contains i=true:=by kernel_rfl)(ho:oi.op= .load ty x:=by rfl)(hQ:∀c a w,Q (.panic c) (a.put oi.dst (.agg cs)) w->Q (.panic c) a w:=by intro _ _ _ h;exact h)(hw:Region.wanted oi (yielded l.toArray a.tmps)=true:=by rfl)(hx:a.eval x= .pointer (some ⟨g,0,none⟩):=by rfl)(hd:d.isRow=true:=by rfl)(hl:listed.setIfInBounds i true=listed':=by kernel_rfl):wpAnyH P md l.toArray Q S (fuel+1) listed a w:=md_load hi hs hf hr ty x ho g t cs d hQ hw hx hb hu hd hz hS hl h
theorem mC {f:FuncId}{args:Array Value}{Φ:Ending->World->Prop}(i:Nat)(listed':Array Bool)(hc:Calls P f args w Φ)(h:∀e w',Φ e w'->∃v,e= .returned v/\S w'/\wpAnyH P md l.toArray Q S fuel listed' (a.put oi.dst v) w')(hi:l[i]?=some oi:=by rfl)(hr:Region.ready md l.toArray listed=[i]:=by kernel_rfl)(hw:Region.wanted oi (yielded l.toArray a.tmps)=true:=by rfl)(hv:(execOp a.eval oi).run P w= .ok (.enter f args) w:=by go_simp)(hl:listed.setIfInBounds i true=listed':=by kernel_rfl):wpAnyH P md l.toArray Q S (fuel+1) listed a w:=md_call hi hr hw hv hc hl h
theorem pV {w':World}(h:wpList P ops Q rest (a.put op.dst v) w')(hw:Region.wanted op (yielded ops a.tmps)=true:=by rfl)(hv:(execOp a.eval op).run P w= .ok (.value v) w':=by go_simp<;>with_reducible rfl):wpList P ops Q (op::rest) a w:=mv_val hw hv h
theorem qV (v:Value)(h:wpList P ops Q rest (a.put op.dst v) w)(hw:Region.wanted op (yielded ops a.tmps)=true:=by rfl)(hv:(execOp a.eval op).run P w= .ok (.value v) w:=by go_simp<;>with_reducible rfl):wpList P ops Q (op::rest) a w:=mv_val hw hv h
theorem mX (i:Nat)(listed':Array Bool)(v:Value)(hS:S w)(h:wpAnyH P md l.toArray Q S fuel listed' (a.put oi.dst v) w)(hi:l[i]?=some oi:=by rfl)(hs:Region.noSelect l.toArray=true:=by kernel_rfl)(hf:Region.free md l.toArray listed i=true:=by kernel_rfl)(hr:(Region.ready md l.toArray listed).contains i=true:=by kernel_rfl)(hQ:∀c a w,Q (.panic c) (a.put oi.dst v) w->Q (.panic c) a w:=by intro _ _ _ h;exact h)(hw:Region.wanted oi (yielded l.toArray a.tmps)=true:=by rfl)(hv:∀w,S w->(execOp a.eval oi).run P w= .ok (.value v) w:=by intro w hSw;go_simp<;>with_reducible rfl)(hl:listed.setIfInBounds i true=listed':=by kernel_rfl):wpAnyH P md l.toArray Q S (fuel+1) listed a w:=md_val hi hs hf hr hQ hw hv hS hl h
theorem mO (i:Nat)(listed':Array Bool){y:Operand}{cs0:Array Value}(cs:Array Value)(hb:Blk w g t cs0)(hl0:cs.size=cs0.size)(hz:(P.info? ty).map (·.size)=some cs.size)(h1:cs.all (·.oneCell')=true)(hS:S (w.setCells g 0 cs.toList))(h:wpAnyH P md l.toArray Q S fuel listed' (a.put oi.dst undef) (w.setCells g 0 cs.toList))(hi:l[i]?=some oi:=by rfl)(hr:Region.ready md l.toArray listed=[i]:=by kernel_rfl)(hg:oi.guard=none:=by rfl)(ho:oi.op= .store ty x y:=by rfl)(hx:a.eval x= .pointer (some ⟨g,0,none⟩):=by rfl)(hy:a.eval y= .agg cs:=by rfl)(hl:listed.setIfInBounds i true=listed':=by kernel_rfl):wpAnyH P md l.toArray Q S (fuel+1) listed a w:=md_store hi hr hg ty x y ho g t cs0 cs hx hy hb hl0 hz h1 hS hl h
theorem pL (hb:Blk w g t cs)(hu:P.underlying ty=some d)(hi:(P.info? ty).map (·.size)=some cs.size)(h:wpList P ops Q rest (a.put op.dst (.agg cs)) w)(hw:Region.wanted op (yielded ops a.tmps)=true:=by rfl)(ho:op.op= .load ty x:=by rfl)(hx:a.eval x= .pointer (some ⟨g,0,none⟩):=by rfl)(hd:d.isRow=true:=by rfl):wpList P ops Q (op::rest) a w:=mv_load hw ty x ho g t cs d hx hb hu hd hi h
theorem pO {y:Operand}{cs0:Array Value}(cs:Array Value)(hb:Blk w g t cs0)(hl:cs.size=cs0.size)(hi:(P.info? ty).map (·.size)=some cs.size)(h1:cs.all (·.oneCell')=true)(h:wpList P ops Q rest (a.put op.dst undef) (w.setCells g 0 cs.toList))(hw:Region.wanted op (yielded ops a.tmps)=true:=by rfl)(ho:op.op= .store ty x y:=by rfl)(hx:a.eval x= .pointer (some ⟨g,0,none⟩):=by rfl)(hy:a.eval y= .agg cs:=by rfl):wpList P ops Q (op::rest) a w:=mv_store hw ty x y ho g t cs0 cs hx hy hb hl hi h1 h
theorem tr {a:World}{b:World}{c:World}(h:Hid (Ext a b))(k:Hid (Ext b c)):Hid (Ext a c):=zH (h.out.trans k.out)
end
end
section
def NoUL (l:List Value):Prop:=∀x∈l,∀k:Int,x≠ .int .u32 k
theorem NoUL.app {a b:List Value}(h:NoUL a)(k:NoUL b):NoUL (a++b):=fun x hx=>by
  rcases List.mem_append.1 hx with hx|hx
  · exact h x hx
  exact k x hx
theorem NoUL.left {a b:List Value}(h:NoUL (a++b)):NoUL a:=fun x hx=>h x (List.mem_append_left _ hx)
theorem NoUL.right {a b:List Value}(h:NoUL (a++b)):NoUL b:=fun x hx=>h x (List.mem_append_right _ hx)
theorem NoUL.drop {a:List Value}(h:NoUL a)(n:Nat):NoUL (a.drop n):=fun x hx=>h x (List.mem_of_mem_drop hx)
theorem NoUL.arr {a:List Value}(h:NoUL a):NoU a.toArray:=noU_of _ h
theorem noUL_zero (z:Array Value)(n:Nat)(hs:0<z.size)(h:NoUL z.toList):NoUL (Builtin.zeroCells z n).toList:=by
  intro x hx k;unfold Builtin.zeroCells at hx;simp only[Array.toList_map,List.mem_map]at hx;obtain⟨i,_,rfl⟩:=hx;have hlt:i%z.size<z.size:=Nat.mod_lt _ hs;rw[getElem!_pos z _ hlt];exact h _ (by simp) k
def RowN (w:World)(base:Nat)(e:TypeId)(size:Nat)(v:Value)(n:Nat)(xs:List Value):Prop:=
  xs.length=n*size/\(v= .slice none 0 0/\n=0\/
    ∃g cap rest,v= .slice (some ⟨g,0,none⟩) n cap/\base<=g/\Blk w g e (xs++rest).toArray/\n<=cap/\cap<=maxLen/\xs.length+rest.length=cap*size/\NoUL (xs++rest))
theorem RowN.nil (w:World)(base:Nat)(e:TypeId)(size:Nat):RowN w base e size (.slice none 0 0) 0 []:=⟨by simp,.inl ⟨rfl,rfl⟩⟩
theorem RowN.ext {w w':World}{base:Nat}{e:TypeId}{size:Nat}{v:Value}{n:Nat}{xs:List Value}(h:RowN w base e size v n xs)(x:Ext w w'):RowN w' base e size v n xs:=by
  obtain⟨h1,h2|⟨g,cap,rest,a,b,c,d⟩⟩:=h
  · exact⟨h1,.inl h2⟩
  exact⟨h1,.inr ⟨g,cap,rest,a,b,c.ext x,d⟩⟩
theorem RowN.block {w:World}{base:Nat}{e:TypeId}{size:Nat}{v:Value}{n:Nat}{xs:List Value}(h:RowN w base e size v n xs):∀k,v.ownBlock=some k->base<=k:=by
  intro k hk;obtain⟨h1,⟨rfl,_⟩|⟨g,cap,rest,rfl,b,_⟩⟩:=h
  · simp[Value.ownBlock]at hk
  simp[Value.ownBlock]at hk;omega
theorem RowN.own {w w':World}{base:Nat}{e:TypeId}{size:Nat}{v:Value}{n:Nat}{xs:List Value}(h:RowN w base e size v n xs){X:Nat}(o:Own X w w')(hne:∀k,v.ownBlock=some k->k≠X):RowN w' base e size v n xs:=by
  obtain⟨h1,h2|⟨g,cap,rest,rfl,b,c,d⟩⟩:=h
  · exact⟨h1,.inl h2⟩
  exact⟨h1,.inr ⟨g,cap,rest,rfl,b,c.own o (hne g (by simp[Value.ownBlock])),d⟩⟩
theorem own_setRow (w:World)(g:Nat)(cs:Array Value):Own g w (w.setRow g cs):=
  ⟨rfl,rfl,rfl,by simp,fun k _ hk=>setRow_other w g k _ (fun e=>hk (by rw[e]))⟩
theorem run_append_rowN {P:Program}(w:World)(base:Nat)(t ty e:TypeId)(i:TypeInfo)(z:Value)(size bytes:Nat)(ht:P.underlying t=some (.slice e))(hi:P.info? e=some i)(hz:i.zero=some z)
    (hsize:i.size=size)(hby:i.bytes=bytes)(hzs:z.cells.size=size)(hsz:0<size)(hzu:NoUL z.cells.toList)
    (v:Value)(n:Nat)(xs:List Value)(hown:RowN w base e size v n xs)
    (a:Addr)(m c:Nat)(news:List Value)(hl:news.length=m*size)(hnews:∀j u,news[j]?=some u->w.cell? (a.add j)=some u)(h1:∀u∈news,u.oneCell'=true)(hnu:NoUL news)
    (hm:0<m)(h63:n+m<=maxLen)(hbytes:(n+m)*bytes<=140737488355328)(hbase:base<=w.heap.size):
    ∃ v' w',(Builtin.append_ #[t,t] ty #[v,.slice (some a) m c]).run P w= .ok v' w'/\RowN w' base e size v' (n+m) (xs++news)/\w.grownBy w' v.ownBlock/\
      (∀(r:RV) (q:Rat),r.Is w q->r.Is w' q)/\∃g cap,v'= .slice (some ⟨g,0,none⟩) (n+m) cap/\(v.ownBlock=some g\/w.heap.size<=g):=by
  subst hsize;subst hby
  have hsmall:n+m<=9223372036854775807:=by simp only[maxLen]at h63;omega
  have hlen:(xs++news).length=(n+m)*i.size:=by rw[List.length_append,hown.1,hl,Nat.add_mul]
  have hzc:∀k,NoUL (Builtin.zeroCells z.cells k).toList:=fun k=>noUL_zero _ _ (by omega) hzu
  have grown:∀(old:Nat),old<n+m->NoUL xs->∀(row:Option Nat),
      RowN (w.drew.alloc (.cells (xs.toArray++news.toArray++Builtin.zeroCells z.cells (grownCap w (n+m) old e-(n+m))) e)) base e i.size
        (.slice (some ⟨w.heap.size,0,none⟩) (n+m) (grownCap w (n+m) old e)) (n+m) (xs++news)/\
      w.grownBy (w.drew.alloc (.cells (xs.toArray++news.toArray++Builtin.zeroCells z.cells (grownCap w (n+m) old e-(n+m))) e)) row/\
      Ext w (w.drew.alloc (.cells (xs.toArray++news.toArray++Builtin.zeroCells z.cells (grownCap w (n+m) old e-(n+m))) e)):=by
    intro old ho hxu row;have hge:=grownCap_ge w (n+m) old e;have hcm:grownCap w (n+m) old e<=maxLen:=grownCap_le_maxLen w (n+m) old e h63;refine⟨⟨hlen,.inr ⟨w.heap.size,_,(Builtin.zeroCells z.cells (grownCap w (n+m) old e-(n+m))).toList,rfl,hbase,?_,hge,hcm,?_,(hxu.app hnu).app (hzc _)⟩⟩,⟨rfl,rfl,rfl,by simp,fun k hk _=>Below.heap_alloc w.drew _ k hk⟩,((Ext.refl w).drew).alloc _⟩
    · have h:=Blk.new w.drew e (xs.toArray++news.toArray++Builtin.zeroCells z.cells (grownCap w (n+m) old e-(n+m)))
      have e2:(xs++news++(Builtin.zeroCells z.cells (grownCap w (n+m) old e-(n+m))).toList).toArray=xs.toArray++news.toArray++Builtin.zeroCells z.cells (grownCap w (n+m) old e-(n+m)):=by
        apply Array.ext';simp
      rw[e2];exact h
    rw[hlen,Array.length_toList,size_zeroCells,hzs,<-Nat.add_mul];congr 1;omega
  rcases hown.2 with⟨rfl,rfl⟩|⟨g,cap,rest,rfl,hbg,hg,hnc,hcm,hcs,hnr⟩
  · have hx:xs=[]:=List.eq_nil_of_length_eq_zero (by simpa using hown.1)
    subst hx;have hr:=run_append_nil (P:=P) w t ty e i z ht hi hz a m c news hl hnews (by omega) (by omega) (by have hb:=hbytes;simp only[Nat.zero_add]at hb;omega);have hgr:=grown 0 (by omega) (by intro x hx;simp at hx) (Value.ownBlock (.slice none 0 0));simp only[Nat.zero_add,List.nil_append,Array.empty_append]at hgr⊢;exact⟨_,_,hr,hgr.1,hgr.2.1,fun r q h=>h.ext hgr.2.2,_,_,rfl,.inr (Nat.le_refl _)⟩
  by_cases hroom:n+m<=cap
  · have hcur:(xs++rest).toArray.size=cap*i.size:=by simp[hcs]
    have hfit:n*i.size+news.length<=(xs++rest).toArray.size:=by rw[hl,hcur,<-Nat.add_mul];exact Nat.mul_le_mul_right _ hroom
    have hr:=run_append_room (P:=P) w t ty e i ht hi g n cap _ hg a m c news hl hnews h1 hroom hfit;have ho:=own_setRow w g ((xs++rest).toArray.toList.take (n*i.size)++news++(xs++rest).toArray.toList.drop (n*i.size+news.length)).toArray;have e1:(xs++rest).toArray.toList.take (n*i.size)=xs:=by rw[List.toList_toArray,<-hown.1];exact List.take_left
    have e2:(xs++rest).toArray.toList.drop (n*i.size+news.length)=rest.drop news.length:=by
      rw[List.toList_toArray,<-hown.1,List.drop_append,List.drop_of_length_le (by omega),List.nil_append];congr 1;omega
    rw[e1,e2]at hr ho;refine⟨_,_,hr,⟨hlen,.inr ⟨g,cap,rest.drop news.length,rfl,hbg,setRow_heap w g _ _ e _ hg,hroom,hcm,?_,(hnr.left.app hnu).app (hnr.right.drop _)⟩⟩,?_,fun r q h=>h.own hg hnr.arr ho,_,_,rfl,.inl (by simp[Value.ownBlock])⟩
    · rw[List.length_append,List.length_drop]
      have h5:(xs++rest).toArray.size=xs.length+rest.length:=by simp
      have h6:=hown.1;omega
    exact ho
  have holds:∀j u,xs[j]?=some u->w.cell? ((⟨g,0,none⟩:Addr).add j)=some u:=by
    intro j u hj;have e3:(⟨g,0,none⟩:Addr).add j=⟨g,j,none⟩:=by unfold Addr.add;split<;>simp_all
    rw[e3,hg.cell j,List.getElem?_toArray,List.getElem?_append_left (List.getElem?_eq_some_iff.1 hj).1];exact hj
  have hr:=run_append_grow (P:=P) w t ty e i z ht hi hz ⟨g,0,none⟩ n cap xs hown.1 holds a m c news hl hnews (by omega) (by omega) (growslice_fits (by omega) hbytes);have hgr:=grown cap (by omega) hnr.left (Value.ownBlock (.slice (some ⟨g,0,none⟩) n cap));exact⟨_,_,hr,hgr.1,hgr.2.1,fun r q h=>h.ext hgr.2.2,_,_,rfl,.inr (Nat.le_refl _)⟩
theorem wp_append_rowF {P:Program}{w:World}{o:Oper}{a:Act}{K:Act->World->Prop}{Q:Exit->Act->World->Prop}(s x:Operand)(t:TypeId)
    (ho:o.op= .call {callee:= .builtin .append,args:=#[s,x],argTypes:=#[t,t]})
    (base:Nat)(e:TypeId)(i:TypeInfo)(z:Value)(size bytes:Nat)(ht:P.underlying t=some (.slice e))(hi:P.info? e=some i)(hz:i.zero=some z)
    (hsize:i.size=size)(hby:i.bytes=bytes)(hzs:z.cells.size=size)(hsz:0<size)(hzu:NoUL z.cells.toList)
    (v:Value)(n:Nat)(xs:List Value)(hs:a.eval s=v)(hown:RowN w base e size v n xs)
    (ad:Addr)(m c:Nat)(news:List Value)(hx:a.eval x= .slice (some ad) m c)(hl:news.length=m*size)(hnews:∀j u,news[j]?=some u->w.cell? (ad.add j)=some u)(h1:∀u∈news,u.oneCell'=true)(hnu:NoUL news)
    (hm:0<m)(h63:n+m<=maxLen)(hbytes:(n+m)*bytes<=140737488355328)(hbase:base<=w.heap.size)
    (h:∀g cap w',(v.ownBlock=some g\/w.heap.size<=g)->RowN w' base e size (.slice (some ⟨g,0,none⟩) (n+m) cap) (n+m) (xs++news)->w.grownBy w' v.ownBlock->(∀(r:RV) (q:Rat),r.Is w q->r.Is w' q)->K (a.put o.dst (.slice (some ⟨g,0,none⟩) (n+m) cap)) w'):o.wp P a w K Q:=by
  obtain⟨v',w',hr,h2,h3,h4,g,cap,rfl,hf⟩:=run_append_rowN (P:=P) w base t o.type e i z size bytes ht hi hz hsize hby hzs hsz hzu v n xs hown ad m c news hl hnews h1 hnu hm h63 hbytes hbase;unfold Oper.wp execOp;simp only[ho,resolve,invoke,builtin,Sem.run_bind,Sem.run_pure,Result.andThen_ok,List.map_toArray,List.map_cons,List.map_nil,hs,hx,hr];exact h g cap w' hf h2 h3 h4
theorem md_range {P:Program}{l:List Oper}{Q:Exit->Act->World->Prop}{md:Region.Mode}{S:World->Prop}{i:Nat}{oi:Oper}{fuel:Nat}{listed listed':Array Bool}{a:Act}{w:World}
    (hi:l[i]?=some oi)(hs:Region.noSelect l.toArray=true)(hf:Region.free md l.toArray listed i=true)(hr:(Region.ready md l.toArray listed).contains i=true)
    (ty:TypeId)(x:Operand)(ho:oi.op= .load ty x)(g o:Nat)(cs:List Value)(d:TypeDesc)
    (hQ:∀c a w,Q (.panic c) (a.put oi.dst (.agg cs.toArray)) w->Q (.panic c) a w)(hw:Region.wanted oi (yielded l.toArray a.tmps)=true)(hx:a.eval x= .pointer (some ⟨g,o,none⟩))(hb:∀w,S w->w.rangeAt g o cs)
    (hu:P.underlying ty=some d)(hd:d.isRow=true)(hz:(P.info? ty).map (·.size)=some cs.length)(hS:S w)
    (hl:listed.setIfInBounds i true=listed')(h:wpAnyH P md l.toArray Q S fuel listed' (a.put oi.dst (.agg cs.toArray)) w):wpAnyH P md l.toArray Q S (fuel+1) listed a w:=
  wpAnyH_take_l (v:= .agg cs.toArray) hi hs hf hr hQ (yieldsIf_load_mid (P:=P) (ops:=l.toArray) (S:=S) hw ty x ho g o hx cs d hb hu hd hz) hS (by rw[hl];exact h)
theorem Blk.grown {w w':World}{b:Nat}{t:TypeId}{cs:Array Value}{row:Option Nat}(h:Blk w b t cs)(hg:w.grownBy w' row)(hne:row≠some b):Blk w' b t cs:=by
  unfold Blk;rw[hg.block b h.lt (Ne.symm hne)];exact h
section
variable {P:Program} {l:List Oper} {Q:Exit->Act->World->Prop} {md:Region.Mode} {S:World->Prop} {oi:Oper} {fuel:Nat} {listed:Array Bool} {a:Act} {w:World} {a':Act} {v:Value}
theorem mR (i:Nat)(listed':Array Bool){ty:TypeId}{x:Operand}{d:TypeDesc}(g o:Nat)(cs:List Value)(hb:∀w,S w->w.rangeAt g o cs)(hu:P.underlying ty=some d)(hS:S w)(h:wpAnyH P md l.toArray Q S fuel listed' (a.put oi.dst (.agg cs.toArray)) w)(hi:l[i]?=some oi:=by rfl)(hs:Region.noSelect l.toArray=true:=by kernel_rfl)(hf:Region.free md l.toArray listed i=true:=by kernel_rfl)(hr:(Region.ready md l.toArray listed).contains i=true:=by kernel_rfl)(ho:oi.op= .load ty x:=by rfl)(hQ:∀c a w,Q (.panic c) (a.put oi.dst (.agg cs.toArray)) w->Q (.panic c) a w:=by intro _ _ _ h;exact h)(hw:Region.wanted oi (yielded l.toArray a.tmps)=true:=by rfl)(hx:a.eval x= .pointer (some ⟨g,o,none⟩):=by rfl)(hd:d.isRow=true:=by rfl)(hz:(P.info? ty).map (·.size)=some cs.length:=by kernel_rfl)(hl:listed.setIfInBounds i true=listed':=by kernel_rfl):wpAnyH P md l.toArray Q S (fuel+1) listed a w:=md_range hi hs hf hr ty x ho g o cs d hQ hw hx hb hu hd hz hS hl h
theorem zx (i:Nat)(listed':Array Bool)(v:Value)(hS:S w)(h:wpAnyH P md l.toArray Q S fuel listed' a' w)(hi:l[i]?=some oi:=by rfl)(hs:Region.noSelect l.toArray=true:=by kernel_rfl)(hf:Region.free md l.toArray listed i=true:=by kernel_rfl)(hr:(Region.ready md l.toArray listed).contains i=true:=by kernel_rfl)(hQ:∀c a w,Q (.panic c) (a.put oi.dst v) w->Q (.panic c) a w:=by intro _ _ _ h;exact h)(hw:Region.wanted oi (yielded l.toArray a.tmps)=true:=by rfl)(hv:∀w,S w->(execOp a.eval oi).run P w= .ok (.value v) w:=by intro w hSw;go_simp<;>with_reducible rfl)(hl:listed.setIfInBounds i true=listed':=by kernel_rfl)(ha:a.put oi.dst v=a':=by simp only[Act.put,zA,zB,zC]<;>rfl):wpAnyH P md l.toArray Q S (fuel+1) listed a w:=by subst ha;exact md_val hi hs hf hr hQ hw hv hS hl h
theorem zv (i:Nat)(listed':Array Bool)(hS:S w)(h:wpAnyH P md l.toArray Q S fuel listed' a' w)(hi:l[i]?=some oi:=by rfl)(hs:Region.noSelect l.toArray=true:=by kernel_rfl)(hf:Region.free md l.toArray listed i=true:=by kernel_rfl)(hr:(Region.ready md l.toArray listed).contains i=true:=by kernel_rfl)(hQ:∀c a w,Q (.panic c) (a.put oi.dst v) w->Q (.panic c) a w:=by intro _ _ _ h;exact h)(hw:Region.wanted oi (yielded l.toArray a.tmps)=true:=by rfl)(hv:∀w,S w->(execOp a.eval oi).run P w= .ok (.value v) w:=by intro w hSw;(try dsimp only at hSw);go_simp<;>with_reducible rfl)(hl:listed.setIfInBounds i true=listed':=by kernel_rfl)(ha:a.put oi.dst v=a':=by simp only[Act.put,zA,zB,zC]<;>rfl):wpAnyH P md l.toArray Q S (fuel+1) listed a w:=by subst ha;exact md_val hi hs hf hr hQ hw hv hS hl h
theorem zs (i:Nat)(listed':Array Bool)(hS:S w)(h:wpAnyH P md l.toArray Q S fuel listed' a' w)(hi:l[i]?=some oi:=by rfl)(hs:Region.noSelect l.toArray=true:=by kernel_rfl)(hf:Region.free md l.toArray listed i=true:=by kernel_rfl)(hr:(Region.ready md l.toArray listed).contains i=true:=by kernel_rfl)(hQ:∀c a w,Q (.panic c) (a.put oi.dst undef) w->Q (.panic c) a w:=by intro _ _ _ h;exact h)(hn:Region.wanted oi (yielded l.toArray a.tmps)=false:=by rfl)(hl:listed.setIfInBounds i true=listed':=by kernel_rfl)(ha:a.put oi.dst undef=a':=by simp only[Act.put,zA,zB,zC]<;>rfl):wpAnyH P md l.toArray Q S (fuel+1) listed a w:=by subst ha;exact md_skip hi hs hf hr hQ hn hS hl h
theorem zl (i:Nat)(listed':Array Bool){ty:TypeId}{x:Operand}{t:TypeId}{d:TypeDesc}{g:Nat}{cs:Array Value}(hb:∀w,S w->Blk w g t cs)(hu:P.underlying ty=some d)(hz:(P.info? ty).map (·.size)=some cs.size)(hS:S w)(h:wpAnyH P md l.toArray Q S fuel listed' a' w)(hi:l[i]?=some oi:=by rfl)(hs:Region.noSelect l.toArray=true:=by kernel_rfl)(hf:Region.free md l.toArray listed i=true:=by kernel_rfl)(hr:(Region.ready md l.toArray listed).contains i=true:=by kernel_rfl)(ho:oi.op= .load ty x:=by rfl)(hQ:∀c a w,Q (.panic c) (a.put oi.dst (.agg cs)) w->Q (.panic c) a w:=by intro _ _ _ h;exact h)(hw:Region.wanted oi (yielded l.toArray a.tmps)=true:=by rfl)(hx:a.eval x= .pointer (some ⟨g,0,none⟩):=by rfl)(hd:d.isRow=true:=by rfl)(hl:listed.setIfInBounds i true=listed':=by kernel_rfl)(ha:a.put oi.dst (.agg cs)=a':=by simp only[Act.put,zA,zB,zC]<;>rfl):wpAnyH P md l.toArray Q S (fuel+1) listed a w:=by subst ha;exact md_load hi hs hf hr ty x ho g t cs d hQ hw hx hb hu hd hz hS hl h
theorem zr (i:Nat)(listed':Array Bool){ty:TypeId}{x:Operand}{d:TypeDesc}(g o:Nat)(cs:List Value)(hb:∀w,S w->w.rangeAt g o cs)(hu:P.underlying ty=some d)(hS:S w)(h:wpAnyH P md l.toArray Q S fuel listed' a' w)(hi:l[i]?=some oi:=by rfl)(hs:Region.noSelect l.toArray=true:=by kernel_rfl)(hf:Region.free md l.toArray listed i=true:=by kernel_rfl)(hr:(Region.ready md l.toArray listed).contains i=true:=by kernel_rfl)(ho:oi.op= .load ty x:=by rfl)(hQ:∀c a w,Q (.panic c) (a.put oi.dst (.agg cs.toArray)) w->Q (.panic c) a w:=by intro _ _ _ h;exact h)(hw:Region.wanted oi (yielded l.toArray a.tmps)=true:=by rfl)(hx:a.eval x= .pointer (some ⟨g,o,none⟩):=by rfl)(hd:d.isRow=true:=by rfl)(hz:(P.info? ty).map (·.size)=some cs.length:=by kernel_rfl)(hl:listed.setIfInBounds i true=listed':=by kernel_rfl)(ha:a.put oi.dst (.agg cs.toArray)=a':=by simp only[Act.put,zA,zB,zC]<;>rfl):wpAnyH P md l.toArray Q S (fuel+1) listed a w:=by subst ha;exact md_range hi hs hf hr ty x ho g o cs d hQ hw hx hb hu hd hz hS hl h
theorem zq {ops:Array Oper}{rest:List Oper}{op:Oper}(v:Value)(h:wpList P ops Q rest a' w)(hw:Region.wanted op (yielded ops a.tmps)=true:=by rfl)(hv:(execOp a.eval op).run P w= .ok (.value v) w:=by go_simp<;>with_reducible rfl)(ha:a.put op.dst v=a':=by simp only[Act.put,zA,zB,zC]<;>rfl):wpList P ops Q (op::rest) a w:=by subst ha;exact mv_val hw hv h
theorem zp {ops:Array Oper}{rest:List Oper}{op:Oper}{w':World}(v:Value)(hv:(execOp a.eval op).run P w= .ok (.value v) w')(h:wpList P ops Q rest a' w')(hw:Region.wanted op (yielded ops a.tmps)=true:=by rfl)(ha:a.put op.dst v=a':=by simp only[Act.put,zA,zB,zC]<;>rfl):wpList P ops Q (op::rest) a w:=by subst ha;exact mv_val hw hv h
theorem zk {ops:Array Oper}{rest:List Oper}{op:Oper}(h:wpList P ops Q rest a' w)(hn:Region.wanted op (yielded ops a.tmps)=false:=by rfl)(ha:a.put op.dst undef=a':=by simp only[Act.put,zA,zB,zC]<;>rfl):wpList P ops Q (op::rest) a w:=by subst ha;exact mv_skip hn h
theorem zu (i:Nat)(listed':Array Bool)(hS:S w)(h:wpAnyH P md l.toArray Q S fuel listed' a' w)(hi:l[i]?=some oi:=by rfl)(hs:Region.noSelect l.toArray=true:=by kernel_rfl)(hf:Region.free md l.toArray listed i=true:=by kernel_rfl)(hr:(Region.ready md l.toArray listed).contains i=true:=by kernel_rfl)(hv:∀w,S w->(execOp a.eval oi).run P w= .ok (.value v) w)(hQ:∀c a w,Q (.panic c) (a.put oi.dst v) w->Q (.panic c) a w:=by intro _ _ _ h;exact h)(hw:Region.wanted oi (yielded l.toArray a.tmps)=true:=by rfl)(hl:listed.setIfInBounds i true=listed':=by kernel_rfl)(ha:a.put oi.dst v=a':=by simp only[Act.put,zA,zB,zC]<;>rfl):wpAnyH P md l.toArray Q S (fuel+1) listed a w:=by subst ha;exact md_val hi hs hf hr hQ hw hv hS hl h
theorem zo (i:Nat)(listed':Array Bool)(hS:S w)(h:wpAnyH P md l.toArray Q S fuel listed' (a.put oi.dst v) w)(hi:l[i]?=some oi:=by rfl)(hs:Region.noSelect l.toArray=true:=by kernel_rfl)(hf:Region.free md l.toArray listed i=true:=by kernel_rfl)(hr:(Region.ready md l.toArray listed).contains i=true:=by kernel_rfl)(hv:∀w,S w->(execOp a.eval oi).run P w= .ok (.value v) w)(hQ:∀c a w,Q (.panic c) (a.put oi.dst v) w->Q (.panic c) a w:=by intro _ _ _ h;exact h)(hw:Region.wanted oi (yielded l.toArray a.tmps)=true:=by rfl)(hl:listed.setIfInBounds i true=listed':=by kernel_rfl):wpAnyH P md l.toArray Q S (fuel+1) listed a w:=md_val hi hs hf hr hQ hw hv hS hl h
end
end
section
attribute [local go_sem ↓] Go.wp_at_zero Go.wp_at_succ run_max_ii run_min_ii
theorem Own.trans {g:Nat}{a b c:World}(h:Own g a b)(k:Own g b c):Own g a c:=
  ⟨k.os.trans h.os,k.tape.trans h.tape,k.output.trans h.output,Nat.le_trans h.size k.size,fun i hi hn=>(k.block i (Nat.lt_of_lt_of_le hi h.size) hn).trans (h.block i hi hn)⟩
theorem RV.In.own {L:Nat}{w w':World}{a:RV}{q:Rat}(h:a.In L w q){g:Nat}{t:TypeId}{cs:Array Value}(hb:Blk w g t cs)(hn:NoU cs)(o:Own g w w'):a.In L w' q:=by
  obtain⟨y,z,⟨m,⟨xs,d1,k1⟩,e1⟩,⟨n,⟨ys,d2,k2⟩,e2⟩,e⟩:=h;exact⟨y,z,⟨m,⟨xs,d1.own hb hn o,k1⟩,e1⟩,⟨n,⟨ys,d2.own hb hn o,k2⟩,e2⟩,e⟩
theorem xcmp {L:Nat}{w:World}{a b:RV}{q r:Rat}(h:a.In L w q)(h':b.In L w r)(hL:L<=70000):Calls Tryz.prog 17 #[.agg #[.bool a.n,.slice a.p a.l a.c,.bool a.m,.slice a.p2 a.l2 a.c2],.agg #[.bool b.n,.slice b.p b.l b.c,.bool b.m,.slice b.p2 b.l2 b.c2]] w fun e w'=>e= .returned (.int .i64 (rcmp q r))/\Ext w w':=rcmp_any _ _ _ _ _ _ _ _ L q r w h h' hL
def lower (q l:Rat):Rat:=if q<l then q else l
def upper (q h:Rat):Rat:=if h<q then q else h
theorem r3new_any (n m:Bool)(u v:Value)(L:Nat)(y z:Int)(w:World)(hu:IntIn L w n u y)(hv:IntIn L w m v z)(hL:L<=150000)(hz:z≠0):
    Calls Tryz.prog 83 #[.agg #[.bool n,u],.agg #[.bool m,v]] w (RetRE (Rat.divInt y z) 0 w):=by
  obtain⟨p,l,cp,rfl⟩:=hu.form;obtain⟨q,k,cq,rfl⟩:=hv.form;have hE1:Ext w ((((w.alloc (.cells #[.bool n,.slice p l cp] 28)).alloc (.cells #[.bool m,.slice q k cq] 28)).alloc (.cells #[.bool false,.slice none 0 0,.bool false,.slice none 0 0] 30))):=(((Ext.refl _).alloc _).alloc _).alloc _;have HS:=zH (r2sign_any m (.slice q k cq) L z _ (hv.ext hE1) (by omega));have hsz:z.sign≠0:=by rw[Ne,Int.sign_eq_zero_iff_zero];exact hz
  generalize z.sign=s at HS hsz
  have g0:(s==0)=false:=beq_eq_false_iff_ne.2 hsz;have HLW:=zH (fun W (h:Ext w W)=>r3reduce_any n m (.slice p l cp) (.slice q k cq) L y z W (hu.ext h) (hv.ext h) hL hz);have HG:=zH (newRat ((w.alloc (.cells #[.bool n,.slice p l cp] 28)).alloc (.cells #[.bool m,.slice q k cq] 28)));have HST:=zH (fun w1 n1 t1 n2 t2 u0 u1 u2 u3=>stored_rat (w:=((w.alloc (.cells #[.bool n,.slice p l cp] 28)).alloc (.cells #[.bool m,.slice q k cq] 28))) (w1:=w1) (n:=n1) (u:=t1) (m:=n2) (v:=t2) (q:=Rat.divInt y z) (u0:=u0) (u1:=u1) (u2:=u2) (u3:=u3));have HE1:=zH hE1;clear hE1 hu hv hz hsz;have gb:∀w',Ext ((w.alloc (.cells #[.bool n,.slice p l cp] 28)).alloc (.cells #[.bool m,.slice q k cq] 28)) w'->
      w'.cell? ⟨w.heap.size,0,none⟩=some (.bool n)/\w'.cell? ⟨w.heap.size,1,none⟩=some (.slice p l cp)/\w'.cell? ⟨w.heap.size+1,0,none⟩=some (.bool m)/\w'.cell? ⟨w.heap.size+1,1,none⟩=some (.slice q k cq):=fun w' h=>
    ⟨h.get (by simp),h.get (by simp),h.get (by simp),h.get (by simp)⟩
  have HGB:=zH gb;clear gb;go_enter Tryz.func83,Tryz.ntmps83
  go_wp2_with fail
  refine HS.out.mono ?_;rintro e w1 ⟨rfl,he⟩;have g1:=HGB.out _ (((Ext.refl _).alloc _).trans he);go_wp2_with fail
  refine(HLW.out _ (HE1.out.trans he)).mono ?_;rintro e w2 ⟨b1,t1,b2,t2,rfl,hc,he2⟩;have HC:=zH hc;obtain⟨p1,l1,k1,p2,l2,k2,rfl,rfl⟩:=hc.form;have gk:=HG.out _ (he.trans he2);simp only[World.size_alloc]at gk;clear hc g1;go_wp2_with fail
  have st:=HST.out _ _ _ _ _ (.bool b1) (.slice p1 l1 k1) (.bool b2) (.slice p2 l2 k2) (he.trans he2) HC.out;simp only[World.size_alloc]at st;refine bodyPost_ret (v:= .tuple #[.agg #[.bool b1,.slice p1 l1 k1,.bool b2,.slice p2 l2 k2],.int .i64 0]) ?_ rfl ⟨_,_,_,_,rfl,st.1,(((Ext.refl _).alloc _).alloc _).trans st.2⟩;simp[results,Tryz.results83,go_sem, *]
theorem r3fromInts_any (a b:Int)(w:World)(h1: -9223372036854775808<=a)(h2:a<=9223372036854775807)(h3: -9223372036854775808<=b)(h4:b<=9223372036854775807)(hb:b≠0):
    Calls Tryz.prog 48 #[.int .i64 a,.int .i64 b] w (RetRE (Rat.divInt a b) 0 w):=by
  have HF:=zH (fun W=>r2fromInt_any a W h1 h2);have HF1:=zH (fun W=>r2fromInt_any b W h3 h4);have hla:=nl_i64 a h1 h2;have hlb:=nl_i64 b h3 h4;have HN:=zH (fun W n u m v (x:IntC W n u a) (z:IntC W m v b)=>r3new_any n m u v 2 a b W (x.isIn hla) (z.isIn hlb) (by omega) hb);have HG:=zH (newRat w);have HST:=zH (fun w1 n1 t1 n2 t2 u0 u1 u2 u3=>stored_rat (w:=w) (w1:=w1) (n:=n1) (u:=t1) (m:=n2) (v:=t2) (q:=Rat.divInt a b) (u0:=u0) (u1:=u1) (u2:=u2) (u3:=u3));clear h1 h2 h3 h4 hla hlb hb;go_enter Tryz.func48,Tryz.ntmps48
  go_wp2_with fail
  refine(HF.out _).mono ?_;rintro e w1 ⟨b1,t1,rfl,hc1,he1⟩;have HC1:=zH hc1;clear hc1;go_wp2_with fail
  refine(HF1.out _).mono ?_;rintro e w2 ⟨b2,t2,rfl,hc2,he2⟩;have HC2:=zH hc2;clear hc2;go_wp2_with fail
  refine(HN.out _ _ _ _ _ (HC1.out.ext he2) HC2.out).mono ?_;rintro e w3 ⟨n1,u1,n2,u2,rfl,hc,he3⟩;have HC:=zH hc;obtain⟨p1,l1,k1,p2,l2,k2,rfl,rfl⟩:=hc.form;have gk:=HG.out _ ((he1.trans he2).trans he3);clear hc;go_wp2_with fail
  have st:=HST.out _ _ _ _ _ (.bool n1) (.slice p1 l1 k1) (.bool n2) (.slice p2 l2 k2) ((he1.trans he2).trans he3) HC.out;refine bodyPost_ret (v:= .tuple #[.agg #[.bool n1,.slice p1 l1 k1,.bool n2,.slice p2 l2 k2],.int .i64 0]) ?_ rfl ⟨_,_,_,_,rfl,st.1,st.2⟩;simp[results,Tryz.results48,go_sem, *]
end
section
theorem NIs.map {w w':World}{cs:Array Value}{q:Rat}(h:NIs w cs q)(x:∀(r:RV) (q:Rat),r.Is w q->r.Is w' q):NIs w' cs q:=by obtain⟨a,e,h⟩:=h;exact⟨a,e,x _ _ h⟩
theorem NIn.one {L:Nat}{w:World}{cs:Array Value}{q:Rat}(h:NIn L w cs q):cs.all (·.oneCell')=true:=by obtain⟨a,rfl,_⟩:=h;exact all_oneCell_toArray (by simp[Value.oneCell'])
theorem pAdd {L:Nat}{w:World}{cs ct:Array Value}{q r:Rat}(hp:NIn L w cs q)(hq:NIn L w ct r)(hL:L<=70000):
    Calls Tryz.prog 45 #[.agg cs,.agg ct] w fun e w'=>∃c,e= .returned (.agg c)/\NIs w' c (q+r)/\Ext w w':=by
  obtain⟨a,rfl,h1⟩:=hp;obtain⟨b,rfl,h2⟩:=hq;refine(xadd h1 h2 hL).mono fun e w' h=> ?_
  obtain⟨c,rfl,h3,h4⟩:=h;exact⟨_,rfl,⟨c,rfl,h3⟩,h4⟩
theorem pSub {L:Nat}{w:World}{cs ct:Array Value}{q r:Rat}(hp:NIn L w cs q)(hq:NIn L w ct r)(hL:L<=70000):
    Calls Tryz.prog 36 #[.agg cs,.agg ct] w fun e w'=>∃c,e= .returned (.agg c)/\NIs w' c (q-r)/\Ext w w':=by
  obtain⟨a,rfl,h1⟩:=hp;obtain⟨b,rfl,h2⟩:=hq;refine(xsub h1 h2 hL).mono fun e w' h=> ?_
  obtain⟨c,rfl,h3,h4⟩:=h;exact⟨_,rfl,⟨c,rfl,h3⟩,h4⟩
theorem pMul {L:Nat}{w:World}{cs ct:Array Value}{q r:Rat}(hp:NIn L w cs q)(hq:NIn L w ct r)(hL:L<=70000):
    Calls Tryz.prog 35 #[.agg cs,.agg ct] w fun e w'=>∃c,e= .returned (.agg c)/\NIs w' c (q*r)/\Ext w w':=by
  obtain⟨a,rfl,h1⟩:=hp;obtain⟨b,rfl,h2⟩:=hq;refine(xmul h1 h2 hL).mono fun e w' h=> ?_
  obtain⟨c,rfl,h3,h4⟩:=h;exact⟨_,rfl,⟨c,rfl,h3⟩,h4⟩
theorem pCmp {L:Nat}{w:World}{cs ct:Array Value}{q r:Rat}(hp:NIn L w cs q)(hq:NIn L w ct r)(hL:L<=70000):
    Calls Tryz.prog 17 #[.agg cs,.agg ct] w fun e w'=>e= .returned (.int .i64 (rcmp q r))/\Ext w w':=by
  obtain⟨a,rfl,h1⟩:=hp;obtain⟨b,rfl,h2⟩:=hq;exact xcmp h1 h2 hL
theorem pFrom (a:Int)(w:World)(h1: -9223372036854775808<=a)(h2:a<=9223372036854775807):
    Calls Tryz.prog 18 #[.int .i64 a] w fun e w'=>∃c,e= .returned (.agg c)/\NIs w' c (a:Rat)/\Ext w w':=by
  refine(rfromInt_any a w h1 h2).mono fun e w' h=> ?_
  obtain⟨c,rfl,h3,h4⟩:=RetR.v h;exact⟨_,rfl,⟨c,rfl,h3⟩,h4⟩
theorem q03Cmp {L:Nat}{w:World}{cs ct:Array Value}{q r:Rat}(hp:NIn L w cs q)(hq:NIn L w ct r)(hL:L<=60000):
    Calls Tryz.prog 30 #[.agg cs,.agg ct] w fun e w'=>e= .returned (.int .i64 (rcmp q r))/\Ext w w':=by
  obtain⟨a,rfl,h1⟩:=hp;obtain⟨b,rfl,h2⟩:=hq;exact r3cmp_any _ _ _ _ _ _ _ _ L q r w h1 h2 (by omega)
theorem q03From (a:Int)(w:World)(h1: -9223372036854775808<=a)(h2:a<=9223372036854775807):
    Calls Tryz.prog 11 #[.int .i64 a] w fun e w'=>∃c,e= .returned (.agg c)/\NIs w' c (a:Rat)/\Ext w w':=by
  refine(r3fromInt_any a w h1 h2).mono fun e w' h=> ?_
  obtain⟨c,rfl,h3,h4⟩:=RetR.v h;exact⟨_,rfl,⟨c,rfl,h3⟩,h4⟩
theorem q03Sub {L:Nat}{w:World}{cs ct:Array Value}{q r:Rat}(hp:NIn L w cs q)(hq:NIn L w ct r)(hL:L<=60000):
    Calls Tryz.prog 29 #[.agg cs,.agg ct] w fun e w'=>∃c,e= .returned (.agg c)/\NIs w' c (q-r)/\Ext w w':=by
  obtain⟨a,rfl,h1⟩:=hp;obtain⟨b,rfl,h2⟩:=hq;refine(r3sub_any _ _ _ _ _ _ _ _ L q r w h1 h2 (by omega)).mono fun e w' h=> ?_
  obtain⟨c,rfl,h3,h4⟩:=RetR.v h;exact⟨_,rfl,⟨c,rfl,h3⟩,h4⟩
theorem q03Mul {L:Nat}{w:World}{cs ct:Array Value}{q r:Rat}(hp:NIn L w cs q)(hq:NIn L w ct r)(hL:L<=60000):
    Calls Tryz.prog 31 #[.agg cs,.agg ct] w fun e w'=>∃c,e= .returned (.agg c)/\NIs w' c (q*r)/\Ext w w':=by
  obtain⟨a,rfl,h1⟩:=hp;obtain⟨b,rfl,h2⟩:=hq;refine(r3mul_any _ _ _ _ _ _ _ _ L q r w h1 h2 (by omega)).mono fun e w' h=> ?_
  obtain⟨c,rfl,h3,h4⟩:=RetR.v h;exact⟨_,rfl,⟨c,rfl,h3⟩,h4⟩
end
section
attribute [local go_sem ↓] Go.wp_at_zero Go.wp_at_succ run_max_ii run_min_ii
theorem noUn:NoU z4:=noU_of _ (by simp)
theorem NIs.own {w w':World}{cs:Array Value}{q:Rat}(h:NIs w cs q){g:Nat}{t:TypeId}{zs:Array Value}(hb:Blk w g t zs)(hn:NoU zs)(o:Own g w w'):NIs w' cs q:=by
  obtain⟨a,h1,h2⟩:=h;exact⟨a,h1,h2.own hb hn o⟩
theorem rlI (k:Int)(h:k.natAbs<4294967296):Nm.rl (k:Rat)<=1:=by
  unfold Nm.rl;rw[Rat.num_intCast,Rat.den_intCast];have h1:Nm.nl k.natAbs<=1:=Nm.nl_le (by omega);have h2:Nm.nl 1<=1:=Nm.nl_le (by decide);omega
theorem pFromInts (a b:Int)(w:World)(h1: -9223372036854775808<=a)(h2:a<=9223372036854775807)(h3: -9223372036854775808<=b)(h4:b<=9223372036854775807)(hb:b≠0):
    Calls Tryz.prog 41 #[.int .i64 a,.int .i64 b] w fun e w'=>∃c,e= .returned (.tuple #[.agg c,.int .i64 0])/\NIs w' c ((a:Rat)/(b:Rat))/\Ext w w':=by
  refine(rfromInts_any a b w h1 h2 h3 h4 hb).mono fun e w' h=> ?_
  obtain⟨c,rfl,h3,h4⟩:=RetRE.v h;exact⟨_,rfl,⟨c,rfl,by rw[<-Rat.divInt_eq_div];exact h3⟩,h4⟩
set_option maxHeartbeats 8000000 in
theorem by_any (n d:Int)(w:World)(h1: -9223372036854775808<=n)(h2:n<=9223372036854775807)(h3: -9223372036854775808<=d)(h4:d<=9223372036854775807)(hd:d≠0):
  Calls Tryz.prog 16 #[.int .i64 n,.int .i64 d] w fun e w'=>∃c,e= .returned (.agg c)/\NIs w' c ((n:Rat)/(d:Rat))/\Ext w w':=by
 go_enter Tryz.func16,Tryz.ntmps16
 go_upto_region 1 with fail
 have hR0:Blk (w.alloc (.cells z4 30)) (w.heap.size) 30 z4:=Blk.ext (Blk.new_at w _ (by simp) _ _) (Ext.refl _);have hE:Ext w (w.alloc (.cells z4 30)):=((Ext.refl _).alloc _);have gR0:w.heap.size<=w.heap.size:=by omega
 generalize (w.alloc (.cells z4 30))=wa at*
 have E1:Hid (Ext w wa):=hE;have FR0:=zH hR0;clear hE hR0;refine wp_region_lit ?_;refine pV (w':=wa) ?_;try simp only[Act.put,zA,zB,zC]
 refine pV (w':=wa) ?_;try simp only[Act.put,zA,zB,zC]
 refine mv_call (by rfl) (by go_simp) (pFromInts n d _ h1 h2 h3 h4 hd) ?_;rintro e w2 ⟨cf,rfl,hc,hx⟩;have E2:Hid (Ext wa w2):=hx;have Fr:=zH hc;have ZF:=hc.size;have OF:=hc.one;clear hc;clear hx;refine⟨_,rfl,?_⟩;try simp only[Act.put,zA,zB,zC]
 refine pV (w':=w2) ?_;try simp only[Act.put,zA,zB,zC]
 refine pV (w':=w2) ?_;try simp only[Act.put,zA,zB,zC]
 refine pV (w':=w2) ?_;try simp only[Act.put,zA,zB,zC]
 refine zp (w':=w2.alloc (.cells z4 30)) (.pointer (some ⟨w2.heap.size,0,none⟩)) (by go_simp) ?_;refine pO cf (Blk.new w2 _ _) (Eq.trans ZF rfl) (by rw[show(cf:Array Value).size=4 from ZF];kernel_rfl) OF ?_
 (try simp only[Act.put])
 have nV5_R0:w2.heap.size≠w.heap.size:=Nat.ne_of_gt (Blk.lt (FR0.out.ext E2.out));obtain⟨xq1,xq2⟩:=new_var w2 30 z4 cf (Eq.trans ZF rfl);generalize (w2.alloc (.cells z4 30)).setCells w2.heap.size 0 (cf:Array Value).toList=w3 at*
 generalize w2.heap.size=X3 at*
 have E3:Hid (Ext w2 w3):=xq1;have FV5:=zH xq2;clear xq1 xq2;refine pV (w':=w3) ?_;try simp only[Act.put,zA,zB,zC]
 go_upto_region 2 with fail
 refine wp_region_lit ?_;refine pL FV5.out Tryz.underlying30 (by rw[show(cf:Array Value).size=4 from ZF];kernel_rfl) ?_;try simp only[Act.put,zA,zB,zC]
 have o1:=Own.setCells w3 w.heap.size cf;have kb1:=(FR0.out.ext (tr E2 E3).out);refine pO cf kb1 (Eq.trans ZF rfl) (by rw[show(cf:Array Value).size=4 from ZF];kernel_rfl) OF ?_
 (try simp only[Act.put])
 have kc1:=kb1.setCells cf (Eq.trans ZF rfl);go_wp2_with fail
 refine bodyPost_ret (v:= .agg cf) ?_ rfl ⟨_,rfl,((Fr.out.ext E3.out).own kb1 noUn o1),(o1.ext (tr E1 (tr E2 E3)).out gR0)⟩;exact results_cell1 rfl rfl (kc1.loadVar rfl rfl (by rw[ZF];rfl))
set_option maxHeartbeats 8000000 in
theorem along_any (L:Nat)(a b:Int)(ct:Array Value)(T:Rat)(w:World)(hT:NIn L w ct T)(h1L:1<=L)(hL:L<=20000)(ha: -10000000<=a/\a<=10000000)(hb: -10000000<=b/\b<=10000000):
  Calls Tryz.prog 19 #[.int .i64 a,.int .i64 b,.agg ct] w fun e w'=>∃c,e= .returned (.agg c)/\NIs w' c ((a:Rat)+T*((b-a:Int):Rat))/\Ext w w':=by
 have wd:IntKind.i64.wrap (b-a)=b-a:=by rw[IntKind.wrap_i64];omega
 have rT:=hT.rl h1L;have q0:=rlI a (by omega);have q1:=rlI (b-a) (by omega);have q2:=Nm.rl_mul T ((b-a:Int):Rat);have ZT:=hT.size;have FT:=zH hT;clear hT;go_enter Tryz.func19,Tryz.ntmps19
 go_upto_region 1 with fail
 have hbx0:Blk ((w.alloc (.cells ct 30)).alloc (.cells z4 30)) (w.heap.size) 30 ct:=Blk.ext (Blk.new_at w _ (by simp) _ _) ((Ext.refl _).alloc _);have hR0:Blk ((w.alloc (.cells ct 30)).alloc (.cells z4 30)) (w.heap.size+1) 30 z4:=Blk.ext (Blk.new_at (w.alloc (.cells ct 30)) _ (by simp) _ _) (Ext.refl _);have hE:Ext w ((w.alloc (.cells ct 30)).alloc (.cells z4 30)):=(((Ext.refl _).alloc _).alloc _);have gR0:w.heap.size<=w.heap.size+1:=by omega
 have nbx0_R0:w.heap.size≠w.heap.size+1:=by omega
 generalize ((w.alloc (.cells ct 30)).alloc (.cells z4 30))=wa at*
 generalize w.heap.size+1=R0 at*
 have E1:Hid (Ext w wa):=hE;have Fbx0:=zH hbx0;have FR0:=zH hR0;clear hE hbx0 hR0;refine wp_region_held_drew (S:=fun x=>Own R0 wa x) (by kernel_rfl) (Own.of_ext (Ext.refl _).drew) (fun _=> ?_);have E2:=zH (show Ext wa wa.drew from(Ext.refl _).drew);refine mV 0 (bs 10 1) (Own.of_ext E2.out) ?_;refine zl 2 (bs 10 5) (fun x hx=>(Fbx0.out).own hx nbx0_R0) Tryz.underlying30 (by rw[show(ct:Array Value).size=4 from ZT];kernel_rfl) (Own.of_ext E2.out) ?_;refine zv 3 (bs 10 13) (Own.of_ext E2.out) ?_;refine zv 4 (bs 10 29) (Own.of_ext E2.out) ?_;refine zv 5 (bs 10 61) (Own.of_ext E2.out) ?_;refine mC 1 (bs 10 63) (pFrom a _ (by omega) (by omega)) ?_;rintro e w3 ⟨c1,rfl,hc,hx⟩;have E3:Hid (Ext wa.drew w3):=hx;have FFc1:=zH hc;clear hc;clear hx;refine⟨_,rfl,(Own.of_ext (tr E2 E3).out),?_⟩;try simp only[Act.put,zA,zB,zC]
 refine mC 6 (bs 10 127) (pFrom (b-a) _ (by omega) (by omega)) ?_;rintro e w4 ⟨c2,rfl,hc,hx⟩;have E4:Hid (Ext w3 w4):=hx;have FFc2:=zH hc;clear hc;clear hx;refine⟨_,rfl,(Own.of_ext (tr E2 (tr E3 E4)).out),?_⟩;try simp only[Act.put,zA,zB,zC]
 refine mC 7 (bs 10 255) (pMul (L:=L+2) ((FT.out.ext (tr E1 (tr E2 (tr E3 E4))).out).mono (by omega)) (FFc2.out.isIn (by omega)) (by omega)) ?_;rintro e w5 ⟨c3,rfl,hc,hx⟩;have E5:Hid (Ext w4 w5):=hx;have FM:=zH hc;clear hc;clear hx;refine⟨_,rfl,(Own.of_ext (tr E2 (tr E3 (tr E4 E5))).out),?_⟩;try simp only[Act.put,zA,zB,zC]
 refine mC 8 (bs 10 511) (pAdd (L:=2*L+8) ((FFc1.out.ext (tr E4 E5).out).isIn (by omega)) (FM.out.isIn (by omega)) (by omega)) ?_;rintro e w6 ⟨c4,rfl,hc,hx⟩;have E6:Hid (Ext w5 w6):=hx;have Fr:=zH hc;have Z4:=hc.size;have O4:=hc.one;clear hc;clear hx;refine⟨_,rfl,(Own.of_ext (tr E2 (tr E3 (tr E4 (tr E5 E6)))).out),?_⟩;try simp only[Act.put,zA,zB,zC]
 have o1:=Own.setCells w6 R0 c4;have kb1:=(FR0.out.ext (tr E2 (tr E3 (tr E4 (tr E5 E6)))).out);have hs1:Own R0 wa (w6.setCells R0 0 (c4:Array Value).toList):=(Own.then_ext' (tr E2 (tr E3 (tr E4 (tr E5 E6)))).out o1);refine mO 9 (bs 10 1023) c4 kb1 (Eq.trans Z4 rfl) (by rw[show(c4:Array Value).size=4 from Z4];kernel_rfl) O4 hs1 ?_
 (try simp only[Act.put])
 have kc1:=kb1.setCells c4 (Eq.trans Z4 rfl);refine wpAnyH_done (by kernel_rfl) ?_ _;go_wp2_with fail
 refine bodyPost_ret (v:= .agg c4) ?_ rfl ⟨_,rfl,(Fr.out.own kb1 noUn o1),(o1.ext (tr E1 (tr E2 (tr E3 (tr E4 (tr E5 E6))))).out gR0)⟩;exact results_cell1 rfl rfl (kc1.loadVar rfl rfl (by rw[Z4];rfl))
end
section
attribute [local go_sem ↓] Go.wp_at_zero Go.wp_at_succ run_eql_point run_neq_point
def clampI (n lo hi:Int):Int:=if n<lo then lo else if hi<n then hi else n
theorem clamp_any (n lo hi:Int)(w:World):
    Calls Tryz.prog 104 #[.int .i64 n,.int .i64 lo,.int .i64 hi] w fun e w'=>e= .returned (.int .i64 (clampI n lo hi))/\w=w':=by
  go_enter Tryz.func104,Tryz.ntmps104
  go_wp2_with fail
  all_goals go_ret
  all_goals refine⟨ret_int ?_,rfl⟩
  all_goals unfold clampI
  · rw[if_pos ‹_›]
  · rw[if_neg (by omega),if_pos ‹_›]
  rw[if_neg (by omega),if_neg (by omega)]
theorem held_any (n:Int)(w:World):
    Calls Tryz.prog 77 #[.int .i64 n] w fun e w'=>e= .returned (.int .i64 (clampI n (-1048576) 1048576))/\w=w':=by
  go_enter Tryz.func77,Tryz.ntmps77
  go_wp2_with (go_at_call 104;refine(clamp_any _ _ _ _).mono ?_;rintro e w' ⟨rfl,rfl⟩)
  go_ret
  exact⟨rfl,rfl⟩
theorem hold_any (x y:Int)(w:World):
    Calls Tryz.prog 40 #[.agg #[.int .i64 x,.int .i64 y]] w fun e w'=>e= .returned (.agg #[.int .i64 (clampI x (-1048576) 1048576),.int .i64 (clampI y (-1048576) 1048576)])/\Ext w w':=by
  go_enter Tryz.func40,Tryz.ntmps40
  go_wp2_with fail
  go_region_held3 (fun w'=>w'.cell? ⟨w.heap.size,0,none⟩=some (.int .i64 x)/\w'.cell? ⟨w.heap.size,1,none⟩=some (.int .i64 y)) (go_keep)
    (first|(go_at_call 77;refine(held_any _ _).mono ?_;rintro e w' ⟨rfl,rfl⟩))
  go_wp2_with fail
  refine bodyPost_ret (v:= .agg #[.int .i64 (clampI x (-1048576) 1048576),.int .i64 (clampI y (-1048576) 1048576)]) (by simp[results,Tryz.results40,go_sem]) rfl ⟨rfl,?_⟩;exact((((Ext.refl _).alloc _).alloc _).drew)
theorem eq_clamp (x:Int):(clampI x (-1048576) 1048576==x)=decide (-1048576<=x/\x<=1048576):=by
  rw[Bool.eq_iff_iff];unfold clampI;simp only[beq_iff_eq,decide_eq_true_eq];split
  · omega
  split<;>omega
def okPt (x y:Int):Bool:=decide (-1048576<=x/\x<=1048576)&&decide (-1048576<=y/\y<=1048576)
theorem valid_any (x y:Int)(w:World):
    Calls Tryz.prog 39 #[.agg #[.int .i64 x,.int .i64 y]] w fun e w'=>e= .returned (.bool (okPt x y))/\Ext w w':=by
  have h0:∀w',Ext (w.alloc (.cells #[.int .i64 x,.int .i64 y] 23)) w'->w'.cell? ⟨w.heap.size,0,none⟩=some (.int .i64 x):=fun w' h=>h.get (by simp)
  have h1:∀w',Ext (w.alloc (.cells #[.int .i64 x,.int .i64 y] 23)) w'->w'.cell? ⟨w.heap.size,1,none⟩=some (.int .i64 y):=fun w' h=>h.get (by simp)
  go_enter Tryz.func39,Tryz.ntmps39
  go_wp2_with fail
  go_region_held3 (fun w'=>Ext (w.alloc (.cells #[.int .i64 x,.int .i64 y] 23)) w') (first|assumption|exact Ext.drew (Ext.refl _)|(apply Ext.via;assumption;assumption))
    (first|(go_at_call 40;refine(hold_any _ _ _).mono ?_;rintro e w' ⟨rfl,hb⟩))
  go_wp2_with fail
  go_ret
  refine⟨?_,((Ext.refl _).alloc _).trans ‹_›⟩;rw[eq_clamp,eq_clamp];rfl
theorem rvalid_any (x y:Int)(w:World):
    Calls Tryz.prog 4 #[.agg #[.int .i64 x,.int .i64 y]] w fun e w'=>e= .returned (.bool (okPt x y))/\Ext w w':=by
  have hp:∀b,okPt x y=b->(fun(e:Ending) (w':World)=>e= .returned (.bool b)/\Ext w w')=(fun(e:Ending) (w':World)=>e= .returned (.bool (okPt x y))/\Ext w w'):=fun b h=>by rw[h]
  by_cases hx: -1048576<=x
  · by_cases hx2:x<=1048576
    · by_cases hy: -1048576<=y
      · rw[<-hp (decide (y<=1048576)) (by simp[okPt,hx,hx2,hy])]
        clear hp;go_enter Tryz.func4,Tryz.ntmps4
        go_wp2_with fail
        go_ret
        exact⟨rfl,(Ext.refl _).alloc _⟩
      rw[<-hp false (by simp[okPt,hy])];clear hp;go_enter Tryz.func4,Tryz.ntmps4
      go_wp2_with fail
      go_ret
      exact⟨rfl,(Ext.refl _).alloc _⟩
    rw[<-hp false (by simp[okPt,hx2])];clear hp;go_enter Tryz.func4,Tryz.ntmps4
    go_wp2_with fail
    go_ret
    exact⟨rfl,(Ext.refl _).alloc _⟩
  rw[<-hp false (by simp[okPt,hx])];clear hp;go_enter Tryz.func4,Tryz.ntmps4
  go_wp2_with fail
  go_ret
  exact⟨rfl,(Ext.refl _).alloc _⟩
def PtsAt (w:World)(b off:Nat)(ps:List (Int×Int)):Prop:=
  ∀i,i<ps.length->w.cell? ⟨b,off+i*2,none⟩=some (.int .i64 (ps.getD i (0,0)).1)/\w.cell? ⟨b,off+i*2+1,none⟩=some (.int .i64 (ps.getD i (0,0)).2)
theorem PtsAt.ext {w w':World}{b off:Nat}{ps:List (Int×Int)}(h:PtsAt w b off ps)(e:Ext w w'):PtsAt w' b off ps:=
  fun i hi=>⟨e.get (h i hi).1,e.get (h i hi).2⟩
def okAll (ps:List (Int×Int)):Bool:=ps.all fun p=>okPt p.1 p.2
theorem okAll_take_succ (ps:List (Int×Int))(k:Nat)(hk:k<ps.length):
    okAll (ps.take (k+1))=(okAll (ps.take k)&&okPt (ps.getD k (0,0)).1 (ps.getD k (0,0)).2):=by
  unfold okAll;rw[List.take_succ_eq_append_getElem hk,List.all_append];simp[List.getD,hk]
theorem okAll_stop (ps:List (Int×Int))(k:Nat)(hk:k<ps.length)(h:okPt ps[k].1 ps[k].2=false):okAll ps=false:=by
  unfold okAll;rw[List.all_eq_false];exact⟨ps[k],List.getElem_mem hk,by simp[h]⟩
theorem okAll_end (ps:List (Int×Int))(k:Nat)(hk:k<=ps.length)(hge:¬k<ps.length)(h0:okAll (ps.take k)=true):okAll ps=true:=by
  rwa[List.take_of_length_le (by omega)]at h0
end
section
attribute [local go_sem ↓] Go.wp_at_zero Go.wp_at_succ run_eql_point run_neq_point run_max_ii run_min_ii
def PtsV (w:World)(v:Value)(ps:List (Int×Int)):Prop:=
  ∃(A:Option Addr) (cap:Nat),v= .slice A ps.length cap/\(ps≠ []->∃g off,A=some ⟨g,off,none⟩/\PtsAt w g off ps)
theorem PtsV.ext {w w':World}{v:Value}{ps:List (Int×Int)}(h:PtsV w v ps)(e:Ext w w'):PtsV w' v ps:=by
  obtain⟨A,cap,hv,ha⟩:=h;exact⟨A,cap,hv,fun hn=>by obtain⟨g,off,hA,hp⟩:=ha hn;exact⟨g,off,hA,hp.ext e⟩⟩
abbrev Ring:=List (Int×Int)
def RingsV (w:World)(v:Value)(rs:List Ring):Prop:=
  ∃(A:Option Addr) (cap:Nat),v= .slice A rs.length cap/\(0<rs.length->∃g off,A=some ⟨g,off,none⟩/\∀i r,rs[i]?=some r->∃B cb,w.cell? ⟨g,off+i,none⟩=some (.slice B r.length cb)/\PtsV w (.slice B r.length cb) r)
theorem RingsV.ext {w w':World}{v:Value}{rs:List Ring}(h:RingsV w v rs)(e:Ext w w'):RingsV w' v rs:=by
  obtain⟨A,cap,hv,ha⟩:=h;refine⟨A,cap,hv,fun hn=> ?_⟩;obtain⟨g,off,hA,hp⟩:=ha hn;refine⟨g,off,hA,fun i r hr=> ?_⟩;obtain⟨B,cb,h1,h2⟩:=hp i r hr;exact⟨B,cb,e.get h1,h2.ext e⟩
def tot (rs:List Ring):Nat:=rs.foldl (fun n r=>n+r.length) 0
theorem tot_succ {rs:List Ring}{k:Nat}{r:Ring}(h:rs[k]?=some r):tot (rs.take (k+1))=tot (rs.take k)+r.length:=by
  obtain⟨hk,rfl⟩:=List.getElem?_eq_some_iff.1 h;unfold tot;rw[List.take_succ_eq_append_getElem hk,List.foldl_append];rfl
theorem foldl_tot (rs:List Ring)(n:Nat):rs.foldl (fun n r=>n+r.length) n=n+tot rs:=by
  induction rs generalizing n with
  |nil=>rfl
  | cons r rs ih=>
    show rs.foldl (fun n r=>n+r.length) (n+r.length)=n+rs.foldl (fun n r=>n+r.length) (0+r.length);rw[ih,ih (0+r.length)];omega
theorem tot_app (a b:List Ring):tot (a++b)=tot a+tot b:=by
  have h:=foldl_tot b (tot a);rw[<-h];unfold tot;rw[List.foldl_append]
theorem tot_take (rs:List Ring)(k:Nat):tot (rs.take k)<=tot rs:=by
  have h:=tot_app (rs.take k) (rs.drop k);rw[List.take_append_drop]at h;omega
def okR (rs:List Ring):Bool:=decide (tot rs<=4096)&&rs.all okAll
theorem okR_stop {rs:List Ring}{k:Nat}{r:Ring}(h:rs[k]?=some r)(h2:4096<tot (rs.take (k+1))\/okAll r=false):okR rs=false:=by
  unfold okR;rcases h2 with h2|h2
  · have h3:decide (tot rs<=4096)=false:=by
      rw[decide_eq_false_iff_not];have:=tot_take rs (k+1);omega
    rw[h3];rfl
  have h3:rs.all okAll=false:=by
    rw[List.all_eq_false];exact⟨r,List.mem_of_getElem? h,by simp[h2]⟩
  rw[h3,Bool.and_false]
theorem okR_end {rs:List Ring}(h1:tot rs<=4096)(h2:∀i r,i<rs.length->rs[i]?=some r->okAll r=true):okR rs=true:=by
  unfold okR;rw[decide_eq_true h1,Bool.true_and,List.all_eq_true];intro r hr;obtain⟨i,hi⟩:=List.mem_iff_getElem?.1 hr;exact h2 i r (List.getElem?_eq_some_iff.1 hi).1 hi
theorem pvc_any (x y:Int)(w:World):
    Calls Tryz.prog 84 #[.agg #[.int .i64 x,.int .i64 y]] w fun e w'=>e= .returned (.bool (!okPt x y))/\Ext w w':=by
  go_enter Tryz.func84,Tryz.ntmps84
  go_wp2_with (go_at_call 39;refine(valid_any _ _ _).mono ?_;rintro e w2 ⟨rfl,hx⟩)
  go_ret
  exact⟨rfl,((Ext.refl _).alloc _).trans hx⟩
theorem mvc_any (x y:Int)(w:World):
    Calls Tryz.prog 38 #[.agg #[.int .i64 x,.int .i64 y]] w fun e w'=>e= .returned (.bool (!okPt x y))/\Ext w w':=by
  go_enter Tryz.func38,Tryz.ntmps38
  go_wp2_with (go_at_call 39;refine(valid_any _ _ _).mono ?_;rintro e w2 ⟨rfl,hx⟩)
  go_ret
  exact⟨rfl,((Ext.refl _).alloc _).trans hx⟩
theorem pvi_any (u:Value)(ps:List (Int×Int))(w:World)(hu:PtsV w u ps)(hn:ps.length<=1048576):
    Calls Tryz.prog 76 #[u,.func (.func 84) #[] #[]] w fun e w'=>∃z:Int,e= .returned (.int .i64 z)/\(decide (0<=z))=(!okAll ps)/\Ext w w':=by
  obtain⟨A,cu,rfl,hA⟩:=hu;have HA:=zH hA;clear hA;go_enter Tryz.func76,Tryz.ntmps76
  go_wp2_with fail
  go_loopg [8] ps.length (fun c i wr=>∃k:Nat,k<=ps.length/\c=ps.length-k/\i= .int .i64 k/\okAll (ps.take k)=true/\Ext w wr)
  case atStart=>exact⟨0,Nat.zero_le _,rfl,rfl,rfl,Ext.refl _⟩
  obtain⟨k,hk,rfl,rfl,ho,hx⟩:=hrel;have HO:=zH ho;have HX:=zH hx;clear ho hx;by_cases hlt:k<ps.length
  · obtain⟨g,off,rfl,hp⟩:=HA.out (by rintro rfl;simp at hlt)
    obtain⟨c0,c1⟩:=(hp.ext HX.out) k hlt;have HSU:=zH (okAll_take_succ ps k hlt);have HST:=zH (fun h=>okAll_stop ps k hlt h);have hgd:ps.getD k (0,0)=ps[k]:=by simp[List.getD,hlt]
    rw[hgd]at c0 c1 HSU;have hlt2:(k:Int)<(ps.length:Int):=by omega
    have HLT:=zH hlt;generalize ps[k]=x at*
    clear hp hgd hlt;by_cases hx:okPt x.1 x.2=true
    · have hb:(!okPt x.1 x.2)=false:=by rw[hx];rfl
      go_upto_if 16 with(go_at_call 84;refine(pvc_any _ _ _).mono ?_;rintro e w2 ⟨rfl,hx2⟩)
      go_wp2_with fail
      go_roundg (ps.length-(k+1))
      case measure=>have:=HLT.out;omega
      case rel=>exact⟨k+1,HLT.out,rfl,by go_num,by rw[HSU.out,HO.out,hx];rfl,HX.out.trans hx2⟩
    have hb:(!okPt x.1 x.2)=true:=by rw[eq_false_of_ne_true hx];rfl
    go_upto_if 16 with(go_at_call 84;refine(pvc_any _ _ _).mono ?_;rintro e w2 ⟨rfl,hx2⟩)
    go_wp2_with fail
    go_ret
    exact⟨_,rfl,by rw[HST.out (eq_false_of_ne_true hx)];simp,HX.out.trans hx2⟩
  have HE:=zH (okAll_end ps k hk hlt HO.out);have hge:¬(k:Int)<(ps.length:Int):=by omega
  go_wp2_with fail
  go_ret
  exact⟨_,rfl,by rw[HE.out];simp,HX.out⟩
theorem pviC_any (u:Value)(ps:List (Int×Int))(w:World)(hu:PtsV w u ps)(hn:ps.length<=1048576):
    Calls Tryz.prog 37 #[u,.func (.func 84) #[] #[]] w fun e w'=>e= .returned (.bool (!okAll ps))/\Ext w w':=by
  have HC:=zH (pvi_any u ps w hu hn);clear hu;go_enter Tryz.func37,Tryz.ntmps37
  go_wp2_with (go_at_call 76;refine HC.out.mono ?_;rintro e w2 ⟨z,rfl,hz,hx2⟩)
  go_ret
  exact⟨by rw[<-hz];rfl,hx2⟩
theorem mvi_any (u:Value)(ps:List (Int×Int))(w:World)(hu:PtsV w u ps)(hn:ps.length<=1048576):
    Calls Tryz.prog 76 #[u,.func (.func 38) #[] #[]] w fun e w'=>∃z:Int,e= .returned (.int .i64 z)/\(decide (0<=z))=(!okAll ps)/\Ext w w':=by
  obtain⟨A,cu,rfl,hA⟩:=hu;have HA:=zH hA;clear hA;go_enter Tryz.func76,Tryz.ntmps76
  go_wp2_with fail
  go_loopg [8] ps.length (fun c i wr=>∃k:Nat,k<=ps.length/\c=ps.length-k/\i= .int .i64 k/\okAll (ps.take k)=true/\Ext w wr)
  case atStart=>exact⟨0,Nat.zero_le _,rfl,rfl,rfl,Ext.refl _⟩
  obtain⟨k,hk,rfl,rfl,ho,hx⟩:=hrel;have HO:=zH ho;have HX:=zH hx;clear ho hx;by_cases hlt:k<ps.length
  · obtain⟨g,off,rfl,hp⟩:=HA.out (by rintro rfl;simp at hlt)
    obtain⟨c0,c1⟩:=(hp.ext HX.out) k hlt;have HSU:=zH (okAll_take_succ ps k hlt);have HST:=zH (fun h=>okAll_stop ps k hlt h);have hgd:ps.getD k (0,0)=ps[k]:=by simp[List.getD,hlt]
    rw[hgd]at c0 c1 HSU;have hlt2:(k:Int)<(ps.length:Int):=by omega
    have HLT:=zH hlt;generalize ps[k]=x at*
    clear hp hgd hlt;by_cases hx:okPt x.1 x.2=true
    · have hb:(!okPt x.1 x.2)=false:=by rw[hx];rfl
      go_upto_if 16 with(go_at_call 38;refine(mvc_any _ _ _).mono ?_;rintro e w2 ⟨rfl,hx2⟩)
      go_wp2_with fail
      go_roundg (ps.length-(k+1))
      case measure=>have:=HLT.out;omega
      case rel=>exact⟨k+1,HLT.out,rfl,by go_num,by rw[HSU.out,HO.out,hx];rfl,HX.out.trans hx2⟩
    have hb:(!okPt x.1 x.2)=true:=by rw[eq_false_of_ne_true hx];rfl
    go_upto_if 16 with(go_at_call 38;refine(mvc_any _ _ _).mono ?_;rintro e w2 ⟨rfl,hx2⟩)
    go_wp2_with fail
    go_ret
    exact⟨_,rfl,by rw[HST.out (eq_false_of_ne_true hx)];simp,HX.out.trans hx2⟩
  have HE:=zH (okAll_end ps k hk hlt HO.out);have hge:¬(k:Int)<(ps.length:Int):=by omega
  go_wp2_with fail
  go_ret
  exact⟨_,rfl,by rw[HE.out];simp,HX.out⟩
theorem mviC_any (u:Value)(ps:List (Int×Int))(w:World)(hu:PtsV w u ps)(hn:ps.length<=1048576):
    Calls Tryz.prog 37 #[u,.func (.func 38) #[] #[]] w fun e w'=>e= .returned (.bool (!okAll ps))/\Ext w w':=by
  have HC:=zH (mvi_any u ps w hu hn);clear hu;go_enter Tryz.func37,Tryz.ntmps37
  go_wp2_with (go_at_call 76;refine HC.out.mono ?_;rintro e w2 ⟨z,rfl,hz,hx2⟩)
  go_ret
  exact⟨by rw[<-hz];rfl,hx2⟩
theorem polyValid_any (u:Value)(rs:List Ring)(w:World)(hu:RingsV w u rs)(hn:rs.length<=1048576)(hr:∀r,r∈rs->r.length<=1048576):
    Calls Tryz.prog 49 #[u] w fun e w'=>e= .returned (.bool (okR rs))/\Ext w w':=by
  obtain⟨A,cu,rfl,hA⟩:=hu;have HA:=zH hA;have HR:=zH hr;clear hA hr;go_enter Tryz.func49,Tryz.ntmps49
  go_wp2_with fail
  go_loopg [3,8] rs.length (fun c n i wr=>∃k m:Nat,k<=rs.length/\c=rs.length-k/\i= .int .i64 k/\n= .int .i64 m/\m=tot (rs.take k)/\m<=4096/\(∀i r,i<k->rs[i]?=some r->okAll r=true)/\Ext w wr)
  case atStart=>exact⟨0,0,Nat.zero_le _,rfl,rfl,rfl,rfl,Nat.zero_le _,fun i r h=>absurd h (Nat.not_lt_zero _),Ext.refl _⟩
  obtain⟨k,m,hk,rfl,rfl,rfl,hm,hm2,ho,hx⟩:=hrel;have HO:=zH ho;have HX:=zH hx;have HM:=zH hm;clear ho hx hm;by_cases hlt:k<rs.length
  · obtain⟨r,hr⟩:∃r,rs[k]?=some r:=⟨_,List.getElem?_eq_getElem hlt⟩
    obtain⟨g,off,rfl,hp⟩:=HA.out (by omega);obtain⟨B,cb,h1,h2⟩:=hp k r hr;have c1:=HX.out.get h1;have HP:=zH (h2.ext HX.out);have HRL:=zH (HR.out r (List.mem_of_getElem? hr));have HRK:=zH hr;have HTS:=zH (tot_succ hr);have hlt2:(k:Int)<(rs.length:Int):=by omega
    have HLT:=zH hlt;have hrl:=HRL.out;obtain⟨m2,hm3⟩:∃m2,m2=m+r.length:=⟨_,rfl⟩;have e1:(m:Int)+(r.length:Int)=(m2:Int):=by omega
    have wm:IntKind.i64.wrap (m2:Int)=(m2:Int):=by rw[IntKind.wrap_i64];omega
    have HM2:=zH (show m2=tot (rs.take (k+1))by rw[HTS.out,<-HM.out];exact hm3);clear hp h1 h2 hr hlt hm3;by_cases hbig:4096<m2
    · have hbz:(4096:Int)<(m2:Int):=by omega
      have HF:=zH (okR_stop HRK.out (Or.inl (by rw[<-HM2.out];exact hbig)));go_wp2_with fail
      go_ret
      exact⟨by rw[HF.out];rfl,HX.out⟩
    have hbz:¬(4096:Int)<(m2:Int):=by omega
    by_cases hok:okAll r=true
    · have hb:(!okAll r)=false:=by rw[hok];rfl
      go_upto_region 6 with fail
      go_upto_if 21 with(go_at_call 37;refine(pviC_any _ r _ HP.out hrl).mono ?_;rintro e w2 ⟨rfl,hx2⟩)
      go_wp2_with fail
      go_roundg (rs.length-(k+1))
      case measure=>have:=HLT.out;omega
      case rel=>exact⟨k+1,m2,HLT.out,rfl,by go_num,rfl,HM2.out,by omega,fun i r2 hi hr2=>by
        rcases Nat.lt_or_ge i k with h|h
        · exact HO.out i r2 h hr2
        obtain rfl:i=k:=by omega
        rw[HRK.out]at hr2;injection hr2 with hr2
        rw[<-hr2];exact hok,HX.out.trans hx2⟩
    have hb:(!okAll r)=true:=by rw[eq_false_of_ne_true hok];rfl
    have HF:=zH (okR_stop HRK.out (Or.inr (eq_false_of_ne_true hok)));go_upto_region 6 with fail
    go_upto_if 21 with(go_at_call 37;refine(pviC_any _ r _ HP.out hrl).mono ?_;rintro e w2 ⟨rfl,hx2⟩)
    go_wp2_with fail
    go_ret
    exact⟨by rw[HF.out];rfl,HX.out.trans hx2⟩
  obtain rfl:k=rs.length:=by omega
  have HF:=zH (okR_end (rs:=rs) (by have h:=HM.out;rw[List.take_of_length_le (Nat.le_refl _)]at h;omega) HO.out);have hge:¬(rs.length:Int)<(rs.length:Int):=by omega
  go_wp2_with fail
  go_ret
  exact⟨by rw[HF.out];rfl,HX.out⟩
theorem may_any (u:Value)(ps:List (Int×Int))(w:World)(hu:PtsV w u ps)(hn:ps.length<=1048576):
    Calls Tryz.prog 13 #[u] w fun e w'=>e= .returned (.bool (okAll ps))/\Ext w w':=by
  have HC:=zH (mviC_any u ps w hu hn);clear hu;go_enter Tryz.func13,Tryz.ntmps13
  go_wp2_with (go_at_call 37;refine HC.out.mono ?_;rintro e w2 ⟨rfl,hx2⟩)
  go_ret
  exact⟨by simp,hx2⟩
theorem add0_any (x y:Int)(w:World)(hv:okPt x y=true):
  Calls Tryz.prog 90 #[.agg #[.int .i64 x,.int .i64 y],.agg #[.int .i64 0,.int .i64 0]] w fun e w'=>e= .returned (.agg #[.int .i64 x,.int .i64 y])/\Ext w w':=by
 have hv2:(-1048576<=x/\x<=1048576)/\(-1048576<=y/\y<=1048576):=by simpa[okPt]using hv
 have c1:clampI x (-1048576) 1048576=x:=by have h:=eq_clamp x;rw[decide_eq_true hv2.1]at h;simpa using h
 have c2:clampI y (-1048576) 1048576=y:=by have h:=eq_clamp y;rw[decide_eq_true hv2.2]at h;simpa using h
 have c3:clampI 0 (-1048576) 1048576=0:=by decide
 have wx:IntKind.i64.wrap x=x:=by rw[IntKind.wrap_i64];omega
 have wy:IntKind.i64.wrap y=y:=by rw[IntKind.wrap_i64];omega
 clear hv hv2;go_enter Tryz.func90,Tryz.ntmps90
 go_upto_region 1 with fail
 have hE:Ext w (((w.alloc (.cells #[.int .i64 x,.int .i64 y] 23)).alloc (.cells #[.int .i64 0,.int .i64 0] 23)).alloc (.cells #[.int .i64 0,.int .i64 0] 23)):=(((Ext.refl _).alloc _).alloc _).alloc _;have hB2:Blk (((w.alloc (.cells #[.int .i64 x,.int .i64 y] 23)).alloc (.cells #[.int .i64 0,.int .i64 0] 23)).alloc (.cells #[.int .i64 0,.int .i64 0] 23)) w.heap.size 23 #[.int .i64 x,.int .i64 y]:=((Blk.new w _ _).alloc _).alloc _;have hB3:Blk (((w.alloc (.cells #[.int .i64 x,.int .i64 y] 23)).alloc (.cells #[.int .i64 0,.int .i64 0] 23)).alloc (.cells #[.int .i64 0,.int .i64 0] 23)) (w.heap.size+1) 23 #[.int .i64 0,.int .i64 0]:=Blk.alloc (by have h:=Blk.new (w.alloc (.cells #[.int .i64 x,.int .i64 y] 23)) 23 #[.int .i64 0,.int .i64 0];simpa using h) _;have hB4:Blk (((w.alloc (.cells #[.int .i64 x,.int .i64 y] 23)).alloc (.cells #[.int .i64 0,.int .i64 0] 23)).alloc (.cells #[.int .i64 0,.int .i64 0] 23)) (w.heap.size+1+1) 23 #[.int .i64 0,.int .i64 0]:=by have h:=Blk.new ((w.alloc (.cells #[.int .i64 x,.int .i64 y] 23)).alloc (.cells #[.int .i64 0,.int .i64 0] 23)) 23 #[.int .i64 0,.int .i64 0];simpa using h
 have n23:w.heap.size≠w.heap.size+1:=by omega
 have n24:w.heap.size≠w.heap.size+1+1:=by omega
 have n34:w.heap.size+1≠w.heap.size+1+1:=by omega
 have z3:w.heap.size<=w.heap.size+1:=by omega
 have z4:w.heap.size<=w.heap.size+1+1:=by omega
 generalize ((w.alloc (.cells #[.int .i64 x,.int .i64 y] 23)).alloc (.cells #[.int .i64 0,.int .i64 0] 23)).alloc (.cells #[.int .i64 0,.int .i64 0] 23)=wa at*
 generalize w.heap.size+1+1=X4 at*
 generalize w.heap.size+1=X3 at*
 have z2:w.heap.size<=w.heap.size:=Nat.le_refl _;generalize hX2:w.heap.size=X2 at hB2 n23 n24⊢
 have z22:w.heap.size<=X2:=by omega
 clear hX2 z2;refine wp_region_held_drew (S:=fun q=>Ext w q/\Blk q X2 23 #[.int .i64 x,.int .i64 y]/\Blk q X3 23 #[.int .i64 0,.int .i64 0]/\Blk q X4 23 #[.int .i64 0,.int .i64 0]) (by kernel_rfl) ⟨hE.drew,hB2,hB3,hB4⟩ (fun _=> ?_);refine mL 0 (bs 6 1) (fun q hq=>hq.2.1) Tryz.underlying23 (by kernel_rfl) ⟨hE.drew,hB2,hB3,hB4⟩ ?_;refine zl 2 (bs 6 5) (fun q hq=>hq.2.2.1) Tryz.underlying23 (by kernel_rfl) ⟨hE.drew,hB2,hB3,hB4⟩ ?_;refine mC 1 (bs 6 7) (hold_any x y _) ?_;rintro e w1 ⟨rfl,h1⟩;rw[c1,c2];have k1:Ext w w1/\Blk w1 X2 23 #[.int .i64 x,.int .i64 y]/\Blk w1 X3 23 #[.int .i64 0,.int .i64 0]/\Blk w1 X4 23 #[.int .i64 0,.int .i64 0]:=⟨hE.drew.trans h1,(show Blk wa.drew X2 _ _ from hB2).ext h1,(show Blk wa.drew X3 _ _ from hB3).ext h1,(show Blk wa.drew X4 _ _ from hB4).ext h1⟩;refine⟨_,rfl,k1,?_⟩;try simp only[Act.put,zA,zB,zC]
 refine mC 3 (bs 6 15) (hold_any 0 0 _) ?_;rintro e w2 ⟨rfl,h2⟩;rw[c3];have k2:Ext w w2/\Blk w2 X2 23 #[.int .i64 x,.int .i64 y]/\Blk w2 X3 23 #[.int .i64 0,.int .i64 0]/\Blk w2 X4 23 #[.int .i64 0,.int .i64 0]:=⟨k1.1.trans h2,k1.2.1.ext h2,k1.2.2.1.ext h2,k1.2.2.2.ext h2⟩;refine⟨_,rfl,k2,?_⟩;try simp only[Act.put,zA,zB,zC]
 have o1:=Own.setCells w2 X2 #[.int .i64 x,.int .i64 y];have k3:Ext w (w2.setCells X2 0 (#[.int .i64 x,.int .i64 y]:Array Value).toList)/\Blk (w2.setCells X2 0 (#[.int .i64 x,.int .i64 y]:Array Value).toList) X2 23 #[.int .i64 x,.int .i64 y]/\Blk (w2.setCells X2 0 (#[.int .i64 x,.int .i64 y]:Array Value).toList) X3 23 #[.int .i64 0,.int .i64 0]/\Blk (w2.setCells X2 0 (#[.int .i64 x,.int .i64 y]:Array Value).toList) X4 23 #[.int .i64 0,.int .i64 0]:=⟨o1.ext k2.1 z22,k2.2.1.setCells #[.int .i64 x,.int .i64 y] rfl,k2.2.2.1.own o1 (Ne.symm n23),k2.2.2.2.own o1 (Ne.symm n24)⟩;refine mO 4 (bs 6 31) #[.int .i64 x,.int .i64 y] k2.2.1 rfl (by kernel_rfl) (all_oneCell_toArray (by simp[Value.oneCell'])) k3 ?_
 (try simp only[Act.put])
 generalize w2.setCells X2 0 (#[.int .i64 x,.int .i64 y]:Array Value).toList=w3 at*
 have o2:=Own.setCells w3 X3 #[.int .i64 0,.int .i64 0];have k4:Ext w (w3.setCells X3 0 (#[.int .i64 0,.int .i64 0]:Array Value).toList)/\Blk (w3.setCells X3 0 (#[.int .i64 0,.int .i64 0]:Array Value).toList) X2 23 #[.int .i64 x,.int .i64 y]/\Blk (w3.setCells X3 0 (#[.int .i64 0,.int .i64 0]:Array Value).toList) X3 23 #[.int .i64 0,.int .i64 0]/\Blk (w3.setCells X3 0 (#[.int .i64 0,.int .i64 0]:Array Value).toList) X4 23 #[.int .i64 0,.int .i64 0]:=⟨o2.ext k3.1 z3,k3.2.1.own o2 n23,k3.2.2.1.setCells #[.int .i64 0,.int .i64 0] rfl,k3.2.2.2.own o2 (Ne.symm n34)⟩;refine mO 5 (bs 6 63) #[.int .i64 0,.int .i64 0] k3.2.2.1 rfl (by kernel_rfl) (all_oneCell_toArray (by simp[Value.oneCell'])) k4 ?_
 (try simp only[Act.put])
 generalize w3.setCells X3 0 (#[.int .i64 0,.int .i64 0]:Array Value).toList=w4 at*
 refine wpAnyH_done (by kernel_rfl) ?_ _;have d0:=k4.2.1.cell 0;have d1:=k4.2.1.cell 1;have d2:=k4.2.2.1.cell 0;have d3:=k4.2.2.1.cell 1;simp at d0 d1 d2 d3;have K4:=zH k4;clear k1 k2 k3 k4 h1 h2 hB2 hB3 hB4 hE o1 o2;go_upto_region 2 with fail
 refine wp_region_lit ?_;refine qV (.pointer (some ⟨X2,0,none⟩)) ?_;refine zq (.int .i64 x) ?_;refine qV (.pointer (some ⟨X3,0,none⟩)) ?_;refine zq (.int .i64 0) ?_;refine qV (.int .i64 x) ?_;refine zq (.pointer (some ⟨X2,1,none⟩)) ?_;refine qV (.int .i64 y) ?_;refine zq (.pointer (some ⟨X3,1,none⟩)) ?_;refine qV (.int .i64 0) ?_;refine zq (.int .i64 y) ?_;refine zq (.agg #[.int .i64 x,.int .i64 y]) ?_;refine pO #[.int .i64 x,.int .i64 y] K4.out.2.2.2 rfl (by kernel_rfl) (all_oneCell_toArray (by simp[Value.oneCell'])) ?_
 (try simp only[Act.put])
 have o3:=Own.setCells w4 X4 #[.int .i64 x,.int .i64 y];have hx4:=o3.ext K4.out.1 z4;have hb4:=K4.out.2.2.2.setCells #[.int .i64 x,.int .i64 y] rfl;generalize w4.setCells X4 0 (#[.int .i64 x,.int .i64 y]:Array Value).toList=w5 at*
 clear o3;go_wp2_with fail
 refine bodyPost_ret (v:= .agg #[.int .i64 x,.int .i64 y]) ?_ rfl ⟨rfl,hx4⟩;exact results_cell1 rfl rfl (hb4.loadVar rfl rfl (by rfl))
end
section
theorem infoPt:(Tryz.prog.info? 23).map (fun i=>(i.zero,i.size,i.bytes))=some (some (.agg #[.int .i64 0,.int .i64 0]),2,16):=by kernel_rfl
theorem infoSl:(Tryz.prog.info? 54).map (fun i=>(i.zero,i.size,i.bytes))=some (some (.slice none 0 0),1,24):=by kernel_rfl
def ptCells (xs:List (Int×Int)):List Value:=xs.flatMap fun x=>[Value.int .i64 x.1,Value.int .i64 x.2]
theorem ptCells_snoc (xs:List (Int×Int))(x:Int×Int):ptCells (xs++[x])=ptCells xs++[Value.int .i64 x.1,Value.int .i64 x.2]:=by simp[ptCells]
theorem ptCells_get (ps:List (Int×Int))(i:Nat)(hi:i<ps.length):(ptCells ps)[i*2]?=some (.int .i64 (ps.getD i (0,0)).1)/\(ptCells ps)[i*2+1]?=some (.int .i64 (ps.getD i (0,0)).2):=by
 induction ps generalizing i with
 |nil=>simp at hi
 |cons x xs ih=>
  cases i with
  |zero=>simp[ptCells]
  |succ i=>
   have:=ih i (by simpa using hi);have e:ptCells (x::xs)=Value.int .i64 x.1::Value.int .i64 x.2::ptCells xs:=by simp[ptCells]
   rw[e,show(i+1)*2=i*2+1+1 by omega,show i*2+1+1+1=(i*2+1)+1+1 by omega];simpa using this
theorem one_pt (x:Int×Int):∀u∈([.int .i64 x.1,.int .i64 x.2]:List Value),u.oneCell'=true:=by simp[Value.oneCell']
theorem noUL_pt (x:Int×Int):NoUL [.int .i64 x.1,.int .i64 x.2]:=by intro y hy k;simp at hy;rcases hy with rfl|rfl<;>simp
theorem noUL_zpt:NoUL (Value.agg #[.int .i64 0,.int .i64 0]).cells.toList:=by intro x hx k;simp[Value.cells]at hx;rcases hx with rfl|rfl<;>simp
theorem noUL_zsl:NoUL (Value.slice none 0 0).cells.toList:=by intro x hx k;simp[Value.cells]at hx;rw[hx];simp
theorem two_new (w:World)(a b:Value)(t:TypeId):∀(j:Nat) (u:Value),[a,b][j]?=some u->(w.alloc (.cells #[a,b] t)).cell? ((⟨w.heap.size,0,none⟩:Addr).add j)=some u:=by
  intro j u hj;match j,hj with
  |0,hj=>simp at hj;subst hj;simp[Addr.add]
  |1,hj=>simp at hj;subst hj;simp[Addr.add]
theorem RowN.pts {w:World}{base:Nat}{v:Value}{ps:List (Int×Int)}(h:RowN w base 23 2 v ps.length (ptCells ps)):∃B cb,v= .slice B ps.length cb/\PtsV w v ps/\∀A,B=some A->base<=A.block:=by
 obtain⟨_,⟨rfl,hz⟩|⟨g,cap,rest,rfl,hb,hB,_⟩⟩:=h
 ·have:ps=[]:=List.eq_nil_of_length_eq_zero hz
  subst this;exact⟨none,0,rfl,⟨none,0,rfl,fun h=>absurd rfl h⟩,fun A h=>by cases h⟩
 refine⟨_,cap,rfl,⟨_,cap,rfl,fun _=>⟨g,0,rfl,fun i hi=> ?_⟩⟩,fun A h=>by injection h with h;rw[<-h];exact hb⟩;obtain⟨h1,h2⟩:=ptCells_get ps i hi;rw[Nat.zero_add];exact⟨by rw[hB.cell,List.getElem?_toArray,List.getElem?_append_left (List.getElem?_eq_some_iff.1 h1).1];exact h1,by rw[hB.cell,List.getElem?_toArray,List.getElem?_append_left (List.getElem?_eq_some_iff.1 h2).1];exact h2⟩
theorem PtsV.grown {w w':World}{B:Option Addr}{n cb:Nat}{ps:List (Int×Int)}{row:Option Nat}(h:PtsV w (.slice B n cb) ps)(hg:w.grownBy w' row)(hne:∀A,B=some A->row≠some A.block):PtsV w' (.slice B n cb) ps:=by
 obtain⟨A,cap,hv,ha⟩:=h;refine⟨A,cap,hv,fun hn=> ?_⟩;obtain⟨g,off,rfl,hp⟩:=ha hn;injection hv with e1 _ _
 have hn2:=hne _ e1;have hc:∀o v,w.cell? ⟨g,o,none⟩=some v->w'.cell? ⟨g,o,none⟩=some v:=fun o v hc=>
  (World.cell?_of_block (w:=w) (a:=⟨g,o,none⟩) (hg.block g (World.block_lt_of_cell? w _ hc) (Ne.symm hn2))).trans hc
 exact⟨g,off,rfl,fun i hi=>⟨hc _ _ (hp i hi).1,hc _ _ (hp i hi).2⟩⟩
def Tr (b0:Nat)(w:World)(v:Value)(done:List Ring):Prop:=∃vs:List Value,RowN w b0 54 1 v done.length vs/\vs.length=done.length/\
  ∀(i:Nat) (r:Ring),done[i]?=some r->∃(B:Option Addr) (cb:Nat),vs[i]?=some (Value.slice B r.length cb)/\PtsV w (Value.slice B r.length cb) r/\(∀A,B=some A->v.ownBlock≠some A.block/\A.block<w.heap.size)/\∀A,B=some A->b0<=A.block
theorem Tr.ext {b0:Nat}{w w':World}{v:Value}{done:List Ring}(h:Tr b0 w v done)(x:Ext w w'):Tr b0 w' v done:=by
  obtain⟨vs,h1,h2,h3⟩:=h;refine⟨vs,h1.ext x,h2,fun i r hr=> ?_⟩;obtain⟨B,cb,h4,h5,h6,h7⟩:=h3 i r hr;exact⟨B,cb,h4,h5.ext x,fun A hA=>⟨(h6 A hA).1,Nat.lt_of_lt_of_le (h6 A hA).2 x.size⟩,h7⟩
theorem Tr.snoc {b0 gx cap n:Nat}{w w':World}{v s:Value}{done:List Ring}{r:Ring}(_h:Tr b0 w v done)(hn:done.length=n){B:Option Addr}{cb:Nat}(hs:s= .slice B r.length cb)(hp:PtsV w (.slice B r.length cb) r)(hB:∀A,B=some A->v.ownBlock≠some A.block/\A.block<w.heap.size)(hB0:∀A,B=some A->b0<=A.block)
  (vs:List Value)(hvs:∃xs,RowN w b0 54 1 v done.length xs/\xs.length=done.length/\xs=vs/\∀(i:Nat) (r:Ring),done[i]?=some r->∃(B:Option Addr) (cb:Nat),xs[i]?=some (Value.slice B r.length cb)/\PtsV w (Value.slice B r.length cb) r/\(∀A,B=some A->v.ownBlock≠some A.block/\A.block<w.heap.size)/\∀A,B=some A->b0<=A.block)
  (h2:RowN w' b0 54 1 (.slice (some ⟨gx,0,none⟩) (n+1) cap) (n+1) (vs++[s]))(h3:w.grownBy w' v.ownBlock)(hf:v.ownBlock=some gx\/w.heap.size<=gx):
  Tr b0 w' (.slice (some ⟨gx,0,none⟩) (n+1) cap) (done++[r]):=by
 subst hn;obtain⟨xs,k1,k2,rfl,k3⟩:=hvs;have key:∀A:Addr,v.ownBlock≠some A.block/\A.block<w.heap.size->(Value.slice (some ⟨gx,0,none⟩) (done.length+1) cap).ownBlock≠some A.block/\A.block<w'.heap.size:=by
  intro A ⟨q1,q2⟩;refine⟨fun e=> ?_,Nat.lt_of_lt_of_le q2 h3.size⟩;simp[Value.ownBlock]at e;rcases hf with hf|hf
  ·exact q1 (by rw[hf,e])
  omega
 refine⟨xs++[s],by rw[List.length_append];exact h2,by simp[k2],fun i r2 hr=> ?_⟩;by_cases hi:i<done.length
 ·rw[List.getElem?_append_left hi]at hr
  obtain⟨B2,cb2,q1,q2,q3,q4⟩:=k3 i r2 hr;exact⟨B2,cb2,by rw[List.getElem?_append_left (by omega)];exact q1,q2.grown h3 (fun A hA=>(q3 A hA).1),fun A hA=>key A (q3 A hA),q4⟩
 rw[List.getElem?_append_right (by omega)]at hr;have hi0:i-done.length=0:=by
  have:=(List.getElem?_eq_some_iff.1 hr).1;simp at this;omega
 rw[hi0]at hr;simp at hr;subst hr;refine⟨B,cb,?_,hp.grown h3 (fun A hA=>(hB A hA).1),fun A hA=>key A (hB A hA),hB0⟩;rw[List.getElem?_append_right (by omega),k2,hi0,hs];rfl
theorem okR_pt {rs:List Ring}{k j:Nat}{r:Ring}{p:Int×Int}(h:okR rs=true)(hr:rs[k]?=some r)(hp:r[j]?=some p):okPt p.1 p.2=true:=by
  unfold okR at h;rw[Bool.and_eq_true,List.all_eq_true]at h;have h2:=h.2 r (List.mem_of_getElem? hr);unfold okAll at h2;rw[List.all_eq_true]at h2;exact h2 p (List.mem_of_getElem? hp)
theorem okR_tot {rs:List Ring}(h:okR rs=true):tot rs<=4096:=by
  unfold okR at h;rw[Bool.and_eq_true,decide_eq_true_iff]at h;exact h.1
end
section
attribute [local go_sem ↓] Go.wp_at_zero Go.wp_at_succ run_max_ii run_min_ii
theorem results_c1t1 {P:Program}{fn:Func}{i j:Tmp}{t:TypeId}(h:fn.results=#[.cell i t,.tmp j]){tmps:Array Value}{w:World}{p:Addr}{v v2:Value}
    (hi:tmps.getD i undef= .pointer (some p))(h1:(Go.loadVar t p).run P w= .ok v w)(hj:tmps.getD j undef=v2):(results fn tmps).run P w= .ok (.tuple #[v,v2]) w:=by
  simp only[Array.getD_eq_getD_getElem?]at hi hj;simp[results,h,hi,hj,h1,asAddr]
theorem PtsV.two {w:World}{X:Nat}{t:TypeId}{ax ay bx bY:Int}(h:Blk w X t #[.int .i64 ax,.int .i64 ay,.int .i64 bx,.int .i64 bY]):PtsV w (.slice (some ⟨X,0,none⟩) 2 2) [(ax,ay),(bx,bY)]:=by
  refine⟨_,2,rfl,fun _=>⟨X,0,rfl,fun i hi=> ?_⟩⟩;match i,hi with
  |0,_=>exact⟨by rw[h.cell];rfl,by rw[h.cell];rfl⟩
  |1,_=>exact⟨by rw[h.cell];rfl,by rw[h.cell];rfl⟩
theorem range_ext {w w':World}{g o:Nat}{cs:List Value}(h:w.rangeAt g o cs)(x:Ext w w'):w'.rangeAt g o cs:=fun j v hv=>x.get (h j v hv)
end
section
def Dig (w w':World):Prop:=∀(v:Value) (xs:List Nat),DigS w v xs->DigS w' v xs
theorem Dig.refl (w:World):Dig w w:=fun _ _ h=>h
theorem Dig.trans {a b c:World}(h:Dig a b)(k:Dig b c):Dig a c:=fun v xs x=>k v xs (h v xs x)
theorem Dig.of_ext {w w':World}(x:Ext w w'):Dig w w':=fun _ _ h=>h.ext x
theorem Dig.of_own {w w':World}{g:Nat}{t:TypeId}{cs:Array Value}(hb:Blk w g t cs)(hn:NoU cs)(o:Own g w w'):Dig w w':=fun _ _ h=>h.own hb hn o
theorem RV.Is.dig {w w':World}{a:RV}{q:Rat}(h:a.Is w q)(d:Dig w w'):a.Is w' q:=⟨⟨h.1.1,d _ _ h.1.2⟩,⟨h.2.1,d _ _ h.2.2⟩⟩
theorem RV.In.dig {L:Nat}{w w':World}{a:RV}{q:Rat}(h:a.In L w q)(d:Dig w w'):a.In L w' q:=by
  obtain⟨y,z,⟨a1,⟨x1,h1,h2⟩,h3⟩,⟨a2,⟨x2,h4,h5⟩,h6⟩,h7⟩:=h;exact⟨y,z,⟨a1,⟨x1,d _ _ h1,h2⟩,h3⟩,⟨a2,⟨x2,d _ _ h4,h5⟩,h6⟩,h7⟩
theorem NIn.dig {L:Nat}{w w':World}{cs:Array Value}{q:Rat}(h:NIn L w cs q)(d:Dig w w'):NIn L w' cs q:=by obtain⟨a,h1,h2⟩:=h;exact⟨a,h1,h2.dig d⟩
theorem NIs.dig {w w':World}{cs:Array Value}{q:Rat}(h:NIs w cs q)(d:Dig w w'):NIs w' cs q:=by obtain⟨a,h1,h2⟩:=h;exact⟨a,h1,h2.dig d⟩
theorem RV.In.nin {L:Nat}{w:World}{a:RV}{q:Rat}(h:a.In L w q):NIn L w #[.bool a.n,.slice a.p a.l a.c,.bool a.m,.slice a.p2 a.l2 a.c2] q:=⟨a,rfl,h⟩
theorem RV.Is.nin {L:Nat}{w:World}{a:RV}{q:Rat}(h:a.Is w q)(hl:Nm.rl q<=L):NIn L w #[.bool a.n,.slice a.p a.l a.c,.bool a.m,.slice a.p2 a.l2 a.c2] q:=⟨a,rfl,h.isIn hl⟩
theorem own_setCells (w:World)(g o:Nat)(vs:List Value):Own g w (w.setCells g o vs):=Own.setCells_l _ _ (Own.refl g w)
inductive Ent where
  |blk (g:Nat) (t:TypeId) (cs:List Value)
  |row (t:TypeId) (size:Nat) (v:Value) (n:Nat) (xs:List Value)
def Ent.own:Ent->Option Nat
  | .blk g _ _=>some g
  | .row _ _ v _ _=>v.ownBlock
def Ent.Holds (b:Nat)(w:World):Ent->Prop
  | .blk g t cs=>b<=g/\Blk w g t cs.toArray/\NoUL cs
  | .row t size v n xs=>RowN w b t size v n xs
theorem Ent.Holds.ext {b:Nat}{w w':World}{e:Ent}(h:e.Holds b w)(x:Ext w w'):e.Holds b w':=by
  cases e with
  |blk g t cs=>exact⟨h.1,h.2.1.ext x,h.2.2⟩
  |row t size v n xs=>exact RowN.ext h x
theorem RowN.lt {w:World}{base:Nat}{e:TypeId}{size:Nat}{v:Value}{n:Nat}{xs:List Value}(h:RowN w base e size v n xs):∀k,v.ownBlock=some k->k<w.heap.size:=by
  intro k hk;obtain⟨h1,⟨rfl,_⟩|⟨g,cap,rest,rfl,b,hg,_⟩⟩:=h
  · simp[Value.ownBlock]at hk
  have:=hg.lt;simp[Value.ownBlock]at hk;omega
theorem Ent.Holds.ge {b:Nat}{w:World}{e:Ent}(h:e.Holds b w):∀k,e.own=some k->b<=k:=by
  cases e with
  |blk g t cs=>intro k hk;injection hk with hk;exact hk▸h.1
  |row t size v n xs=>exact RowN.block h
theorem Ent.Holds.lt {b:Nat}{w:World}{e:Ent}(h:e.Holds b w):∀k,e.own=some k->k<w.heap.size:=by
  cases e with
  |blk g t cs=>intro k hk;injection hk with hk;exact hk▸h.2.1.lt
  |row t size v n xs=>exact RowN.lt h
theorem Ent.Holds.kept {b:Nat}{w w':World}{e:Ent}{r:Option Nat}(h:e.Holds b w)(hg:w.grownBy w' r)(hne:∀k,e.own=some k->r≠some k):e.Holds b w':=by
  cases e with
  |blk g t cs=>exact⟨h.1,h.2.1.grown hg (hne g rfl),h.2.2⟩
  | row t size v n xs=>
    obtain⟨h1,h2|⟨g,cap,rest,rfl,a,hb,c⟩⟩:=h
    · exact⟨h1,.inl h2⟩
    exact⟨h1,.inr ⟨g,cap,rest,rfl,a,hb.grown hg (hne g rfl),c⟩⟩
structure Hp (w0 w:World) (m:List Ent):Prop where
  ext:Ext w0 w
  all:∀(i:Nat) (e:Ent),m[i]?=some e->e.Holds w0.heap.size w
  apart:∀(i j:Nat) (e f:Ent),m[i]?=some e->m[j]?=some f->i≠j->∀k,e.own=some k->f.own≠some k
section
variable {w0 w w':World} {m:List Ent}
theorem Hp.start (w:World):Hp w w []:=⟨Ext.refl w,fun i e h=>by simp at h,fun i j e f h=>by simp at h⟩
theorem Hp.step (h:Hp w0 w m)(x:Ext w w'):Hp w0 w' m:=⟨h.ext.trans x,fun i e he=>(h.all i e he).ext x,h.apart⟩
theorem Hp.dig0 (h:Hp w0 w m):Dig w0 w:=Dig.of_ext h.ext
theorem Hp.add {e:Ent}(h:Hp w0 w m)(he:e.Holds w0.heap.size w)(hf:∀(i:Nat) (f:Ent),m[i]?=some f->∀k,f.own=some k->e.own≠some k):Hp w0 w (m++[e]):=by
 have hget:∀(i:Nat) (f:Ent),(m++[e])[i]?=some f->m[i]?=some f\/(i=m.length/\f=e):=by
  intro i f hf;rcases Nat.lt_trichotomy i m.length with hl|hl|hl
  ·rw[List.getElem?_append_left hl]at hf;exact .inl hf
  ·subst hl;rw[List.getElem?_append_right (Nat.le_refl _)]at hf;simp at hf;exact .inr ⟨rfl,hf.symm⟩
  rw[List.getElem?_append_right (Nat.le_of_lt hl),List.getElem?_eq_none (by simp;omega)]at hf;cases hf
 refine⟨h.ext,fun i f hf=> ?_,fun i j f g hi hj hij k hk=> ?_⟩
 ·rcases hget i f hf with h1|⟨_,rfl⟩
  ·exact h.all i f h1
  exact he
 rcases hget i f hi with h1|⟨e1,rfl⟩<;>rcases hget j g hj with h2|⟨e2,rfl⟩
 ·exact h.apart i j f g h1 h2 hij k hk
 ·exact hf i f h1 k hk
 ·exact fun h3=>hf j g h2 k h3 hk
 exact absurd (e1.trans e2.symm) hij
theorem Hp.alloc (h:Hp w0 w m)(t:TypeId)(cs:List Value)(hn:NoUL cs):Hp w0 (w.alloc (.cells cs.toArray t)) (m++[.blk w.heap.size t cs]):=
  (h.step ((Ext.refl w).alloc _)).add ⟨h.ext.size,Blk.new w t cs.toArray,hn⟩ (fun i f hf k hk e=>by
    injection e with e
    have:=(h.all i f hf).lt k hk;omega)
theorem Hp.addRow {t:TypeId}{size:Nat}{v:Value}{n:Nat}{xs:List Value}(h:Hp w0 w m)(x:Ext w w')(r:RowN w' w.heap.size t size v n xs):Hp w0 w' (m++[.row t size v n xs]):=
  (h.step x).add (by
    obtain⟨h1,h2|⟨g,cap,rest,a,b,c⟩⟩:=r
    · exact⟨h1,.inl h2⟩
    · exact⟨h1,.inr ⟨g,cap,rest,a,Nat.le_trans h.ext.size b,c⟩⟩) (fun i f hf k hk e=>by
    have h1:=(h.all i f hf).lt k hk;have h2:=RowN.block r k e;omega)
theorem Hp.addNil (h:Hp w0 w m)(t:TypeId)(size:Nat):Hp w0 w (m++[.row t size (.slice none 0 0) 0 []]):=
  h.add (RowN.nil _ _ _ _) (fun _ _ _ _ _ e=>by simp[Ent.own,Value.ownBlock]at e)
theorem Hp.take (h:Hp w0 w m)(n:Nat):Hp w0 w (m.take n):=by
  have hget:∀(i:Nat) (f:Ent),(m.take n)[i]?=some f->m[i]?=some f:=by
    intro i f hf;rw[List.getElem?_take]at hf;split at hf
    · exact hf
    cases hf
  exact⟨h.ext,fun i e he=>h.all i e (hget i e he),fun i j e f hi hj=>h.apart i j e f (hget i e hi) (hget j f hj)⟩
theorem Hp.blk {i g:Nat}{t:TypeId}{cs:List Value}(h:Hp w0 w m)(hi:m[i]?=some (.blk g t cs)):Blk w g t cs.toArray:=(h.all i _ hi).2.1
theorem Hp.noU {i g:Nat}{t:TypeId}{cs:List Value}(h:Hp w0 w m)(hi:m[i]?=some (.blk g t cs)):NoUL cs:=(h.all i _ hi).2.2
theorem Hp.row {i:Nat}{t:TypeId}{size:Nat}{v:Value}{n:Nat}{xs:List Value}(h:Hp w0 w m)(hi:m[i]?=some (.row t size v n xs)):RowN w w0.heap.size t size v n xs:=h.all i _ hi
theorem Hp.range {i g:Nat}{t:TypeId}{cs:List Value}(h:Hp w0 w m)(hi:m[i]?=some (.blk g t cs))(o n:Nat):w.rangeAt g o ((cs.drop o).take n):=by
  have hr:=World.rangeAt_of_block (h.blk hi) o n;have e:(cs.toArray.extract o (o+n)).toList=(cs.drop o).take n:=by simp[List.extract_eq_take_drop]
  rw[<-e];exact hr
theorem Hp.cell {i g:Nat}{t:TypeId}{cs:List Value}(h:Hp w0 w m)(hi:m[i]?=some (.blk g t cs))(o:Nat){v:Value}(hv:cs[o]?=some v):w.cell? ⟨g,o,none⟩=some v:=by
  rw[(h.blk hi).cell o,List.getElem?_toArray,hv]
theorem Hp.frozen {i g:Nat}{t:TypeId}{cs:List Value}(h:Hp w0 w m)(hi:m[i]?=some (.blk g t cs))(o:Nat):w.frozen? ⟨g,o,none⟩=false:=(h.blk hi).frozen o
theorem Hp.ge {i k:Nat}{e:Ent}(h:Hp w0 w m)(hi:m[i]?=some e)(hk:e.own=some k):w0.heap.size<=k:=(h.all i e hi).ge k hk
theorem Hp.lt {i k:Nat}{e:Ent}(h:Hp w0 w m)(hi:m[i]?=some e)(hk:e.own=some k):k<w.heap.size:=(h.all i e hi).lt k hk
theorem Hp.turn {i:Nat}{e e':Ent}{r:Option Nat}(h:Hp w0 w m)(hi:m[i]?=some e)(hr:∀k,r=some k->e.own=some k)(hg:w.grownBy w' r)(he:e'.Holds w0.heap.size w')
  (hf:∀k,e'.own=some k->e.own=some k\/w.heap.size<=k):Hp w0 w' (m.set i e'):=by
 have hx:Ext w0 w':=h.ext.grown hg (fun k hk=>h.ge hi (hr k hk));have hil:i<m.length:=(List.getElem?_eq_some_iff.1 hi).1;have hget:∀(j:Nat) (f:Ent),(m.set i e')[j]?=some f->(j=i/\f=e')\/(j≠i/\m[j]?=some f):=by
  intro j f hj;rw[List.getElem?_set]at hj;by_cases hij:i=j
  ·rw[if_pos hij,if_pos (by omega)]at hj
   injection hj with hj
   exact .inl ⟨hij.symm,hj.symm⟩
  rw[if_neg hij]at hj;exact .inr ⟨fun x=>hij x.symm,hj⟩
 have off:∀(j:Nat) (f:Ent),j≠i->m[j]?=some f->∀k,f.own=some k->e'.own≠some k:=by
  intro j f hj hf2 k hk hk2;rcases hf k hk2 with h1|h1
  ·exact h.apart j i f e hf2 hi hj k hk h1
  have:=h.lt hf2 hk;omega
 refine⟨hx,fun j f hj=> ?_,fun j k f g hj hk hjk b hb=> ?_⟩
 ·rcases hget j f hj with⟨_,rfl⟩|⟨hj,hf2⟩
  ·exact he
  exact(h.all j f hf2).kept hg (fun k hk h3=>h.apart j i f e hf2 hi hj k hk (hr k h3))
 rcases hget j f hj with⟨e1,rfl⟩|⟨h1,h2⟩<;>rcases hget k g hk with⟨e2,rfl⟩|⟨h3,h4⟩
 ·omega
 ·exact fun h5=>off k g h3 h4 b h5 hb
 ·exact off j f h1 h2 b hb
 exact h.apart j k f g h2 h4 hjk b hb
theorem Hp.store {i g:Nat}{t:TypeId}{cs:List Value}(h:Hp w0 w m)(hi:m[i]?=some (.blk g t cs))(o:Nat)(vs:List Value)(hl:o+vs.length<=cs.length)(hn:NoUL vs):
  Hp w0 (w.setCells g o vs) (m.set i (.blk g t (cs.take o++vs++cs.drop (o+vs.length)))):=by
 have hb:=(h.blk hi).setPart o vs hl;have hnu:=h.noU hi;refine h.turn (r:=some g) hi (fun k hk=>hk) ?_ ⟨h.ge hi rfl,hb,?_⟩ (fun k hk=> .inl hk)
 ·exact(own_setCells w g o vs)
 intro x hx;rcases List.mem_append.1 hx with hx|hx
 ·rcases List.mem_append.1 hx with hx|hx
  ·exact hnu x (List.mem_of_mem_take hx)
  exact hn x hx
 exact hnu x (List.mem_of_mem_drop hx)
theorem Hp.storeDig {i g:Nat}{t:TypeId}{cs:List Value}(h:Hp w0 w m)(hi:m[i]?=some (.blk g t cs))(o:Nat)(vs:List Value):Dig w (w.setCells g o vs):=
  Dig.of_own (h.blk hi) (h.noU hi).arr (own_setCells w g o vs)
theorem Hp.there {i g:Nat}{t:TypeId}{cs:List Value}(h:Hp w0 w m)(hi:m[i]?=some (.blk g t cs))(o n:Nat)(hl:o+n<=cs.length):w.there g o n:=(h.blk hi).therePart o n hl
theorem Dig.grown {base:Nat}{e:TypeId}{size:Nat}{v:Value}{n:Nat}{xs:List Value}(h:RowN w base e size v n xs)(hg:w.grownBy w' v.ownBlock):Dig w w':=by
  obtain⟨h1,⟨rfl,_⟩|⟨g,cap,rest,rfl,a,hb,_,_,_,hn⟩⟩:=h
  · exact Dig.of_ext ⟨hg.os,hg.tape,hg.output,hg.size,fun k hk=>hg.block k hk (by simp[Value.ownBlock])⟩
  exact Dig.of_own hb hn.arr hg
theorem Hp.grow {i gx cx:Nat}{t:TypeId}{size n n':Nat}{v:Value}{xs xs':List Value}(h:Hp w0 w m)(hi:m[i]?=some (.row t size v n xs))(hf:v.ownBlock=some gx\/w.heap.size<=gx)
    (h2:RowN w' w0.heap.size t size (.slice (some ⟨gx,0,none⟩) n' cx) n' xs')(h3:w.grownBy w' v.ownBlock):Hp w0 w' (m.set i (.row t size (.slice (some ⟨gx,0,none⟩) n' cx) n' xs')):=
  h.turn hi (fun k hk=>hk) h3 h2 (fun k hk=>by
    have hk:gx=k:=by simpa[Ent.own,Value.ownBlock]using hk
    subst hk;exact hf)
theorem Hp.growDig {i:Nat}{t:TypeId}{size n:Nat}{v:Value}{xs:List Value}(h:Hp w0 w m)(hi:m[i]?=some (.row t size v n xs))(h3:w.grownBy w' v.ownBlock):Dig w w':=Dig.grown (h.row hi) h3
end
section
variable {w0 w w':World} {m:List Ent}
theorem RowN.setPart {base:Nat}{t:TypeId}{size g n cap:Nat}{xs:List Value}(h:RowN w base t size (.slice (some ⟨g,0,none⟩) n cap) n xs)(o:Nat)(vs:List Value)(hl:o+vs.length<=xs.length)(hn:NoUL vs):
  RowN (w.setCells g o vs) base t size (.slice (some ⟨g,0,none⟩) n cap) n (xs.take o++vs++xs.drop (o+vs.length)):=by
 have hlen:(xs.take o++vs++xs.drop (o+vs.length)).length=xs.length:=by simp;omega
 obtain⟨h1,⟨hv,_⟩|⟨g',cap',rest,hv,a,hb,h3,h4,h5,h6⟩⟩:=h
 ·cases hv
 injection hv with e1 e2 e3
 injection e1 with e1
 injection e1 with e1
 subst e1;subst e3;refine⟨by rw[hlen];exact h1,.inr ⟨g,cap,rest,rfl,a,?_,h3,h4,by rw[hlen];exact h5,?_⟩⟩
 ·have:=hb.setPart o vs (by rw[List.length_append];omega)
  rw[List.take_append_of_le_length (by omega),List.drop_append_of_le_length (by omega),<-List.append_assoc]at this;exact this
 intro x hx;have hx1:=h6;rcases List.mem_append.1 hx with hx|hx
 ·rcases List.mem_append.1 hx with hx|hx
  ·rcases List.mem_append.1 hx with hx|hx
   ·exact h6 x (List.mem_append_left _ (List.mem_of_mem_take hx))
   exact hn x hx
  exact h6 x (List.mem_append_left _ (List.mem_of_mem_drop hx))
 exact h6 x (List.mem_append_right _ hx)
theorem RowN.there {base:Nat}{t:TypeId}{size g n cap:Nat}{xs:List Value}(h:RowN w base t size (.slice (some ⟨g,0,none⟩) n cap) n xs)(o k:Nat)(hl:o+k<=xs.length):w.there g o k:=by
  obtain⟨h1,⟨hv,_⟩|⟨g',cap',rest,hv,a,hb,h3,h4,h5,h6⟩⟩:=h
  · cases hv
  injection hv with e1 e2 e3
  injection e1 with e1
  injection e1 with e1
  subst e1;exact hb.therePart o k (by rw[List.length_append];omega)
theorem RowN.rangeAt {base:Nat}{t:TypeId}{size g n cap:Nat}{xs:List Value}(h:RowN w base t size (.slice (some ⟨g,0,none⟩) n cap) n xs)(o:Nat)(ys:List Value)(hy:∀j v,ys[j]?=some v->xs[o+j]?=some v):w.rangeAt g o ys:=by
  obtain⟨h1,⟨hv,_⟩|⟨g',cap',rest,hv,a,hb,h3,h4,h5,h6⟩⟩:=h
  · cases hv
  injection hv with e1 e2 e3
  injection e1 with e1
  injection e1 with e1
  subst e1;intro j v hj;have:=hy j v hj;rw[hb.cell,List.getElem?_toArray,List.getElem?_append_left (List.getElem?_eq_some_iff.1 this).1];exact this
theorem flat_get {α:Type}{f:α->List Value}{c:Nat}(hc:∀x,(f x).length=c):∀(es:List α) (k:Nat) (e:α),es[k]?=some e->∀j v,(f e)[j]?=some v->(es.flatMap f)[k*c+j]?=some v
  | [],k,e,h,_,_,_=>by simp at h
  | x::xs,0,e,h,j,v,hv=>by
    simp at h;subst h;rw[List.flatMap_cons,List.getElem?_append_left (by have:=(List.getElem?_eq_some_iff.1 hv).1;omega)];simpa using hv
  | x::xs,k+1,e,h,j,v,hv=>by
    rw[List.flatMap_cons,List.getElem?_append_right (by rw[hc,Nat.add_mul];omega),hc];have:=flat_get hc xs k e (by simpa using h) j v hv;rw[show(k+1)*c+j-c=k*c+j by rw[Nat.add_mul];omega];exact this
theorem flat_length {α:Type}{f:α->List Value}{c:Nat}(hc:∀x,(f x).length=c):∀(es:List α),(es.flatMap f).length=es.length*c
  | []=>by simp
  |x::xs=>by rw[List.flatMap_cons,List.length_append,hc,flat_length hc xs,List.length_cons,Nat.add_mul];omega
theorem flat_take {α:Type}{f:α->List Value}{c:Nat}(hc:∀x,(f x).length=c):∀(es:List α) (k:Nat),(es.flatMap f).take (k*c)=(es.take k).flatMap f
  | [],k=>by simp
  |x::xs,0=>by simp
  |x::xs,k+1=>by rw[List.flatMap_cons,List.take_append,hc,List.take_of_length_le (by rw[hc,Nat.add_mul];omega),List.take_succ_cons,List.flatMap_cons,<-flat_take hc xs k,show(k+1)*c-c=k*c by rw[Nat.add_mul];omega]
theorem flat_drop {α:Type}{f:α->List Value}{c:Nat}(hc:∀x,(f x).length=c):∀(es:List α) (k:Nat),(es.flatMap f).drop (k*c)=(es.drop k).flatMap f
  | [],k=>by simp
  |x::xs,0=>by simp
  |x::xs,k+1=>by rw[List.flatMap_cons,List.drop_append,hc,List.drop_of_length_le (by rw[hc,Nat.add_mul];omega),List.drop_succ_cons,<-flat_drop hc xs k,show(k+1)*c-c=k*c by rw[Nat.add_mul];omega,List.nil_append]
theorem flat_set {α:Type}{f:α->List Value}{c:Nat}(hc:∀x,(f x).length=c)(es:List α)(k:Nat)(hk:k<es.length)(e:α):(es.flatMap f).take (k*c)++f e++(es.flatMap f).drop (k*c+(f e).length)=(es.set k e).flatMap f:=by
  rw[flat_take hc,hc,show k*c+c=(k+1)*c by rw[Nat.add_mul];omega,flat_drop hc,List.set_eq_take_append_cons_drop,if_pos hk];simp
theorem Hp.elem {α:Type}{f:α->List Value}{i:Nat}{t:TypeId}{size g n cap:Nat}{es:List α}(h:Hp w0 w m)(hi:m[i]?=some (.row t size (.slice (some ⟨g,0,none⟩) n cap) n (es.flatMap f)))(hc:∀x,(f x).length=size){k:Nat}{e:α}(he:es[k]?=some e):w.rangeAt g (k*size) (f e):=
  (h.row hi).rangeAt _ _ (fun j v hj=>flat_get hc es k e he j v hj)
theorem RowN.form {base:Nat}{t:TypeId}{size n:Nat}{v:Value}{xs:List Value}(h:RowN w base t size v n xs):∃A c,v= .slice A n c/\(0<n->∃g,A=some ⟨g,0,none⟩):=by
  obtain⟨h1,⟨rfl,rfl⟩|⟨g,cap,rest,rfl,_⟩⟩:=h
  · exact⟨none,0,rfl,fun h=>absurd h (by omega)⟩
  exact⟨_,_,rfl,fun _=>⟨g,rfl⟩⟩
theorem Hp.storeRow {i:Nat}{t:TypeId}{size g n cap:Nat}{xs:List Value}(h:Hp w0 w m)(hi:m[i]?=some (.row t size (.slice (some ⟨g,0,none⟩) n cap) n xs))(o:Nat)(vs:List Value)(hl:o+vs.length<=xs.length)(hn:NoUL vs):
    Hp w0 (w.setCells g o vs) (m.set i (.row t size (.slice (some ⟨g,0,none⟩) n cap) n (xs.take o++vs++xs.drop (o+vs.length)))):=
  h.turn (r:=some g) hi (fun k hk=>by simpa[Ent.own,Value.ownBlock]using hk) (own_setCells w g o vs) ((h.row hi).setPart o vs hl hn) (fun k hk=> .inl hk)
theorem Hp.storeRowDig {i:Nat}{t:TypeId}{size g n cap:Nat}{xs:List Value}(h:Hp w0 w m)(hi:m[i]?=some (.row t size (.slice (some ⟨g,0,none⟩) n cap) n xs))(o:Nat)(vs:List Value):Dig w (w.setCells g o vs):=by
  refine Dig.grown (h.row hi) ?_;exact own_setCells w g o vs
structure Fr (G:Nat->Prop) (w w':World):Prop where
  os:w'.os=w.os
  tape:w'.tape=w.tape
  output:w'.output=w.output
  size:w.heap.size<=w'.heap.size
  block:∀k,k<w.heap.size->¬G k->w'.heap[k]?=w.heap[k]?
theorem Fr.of_ext {G:Nat->Prop}(x:Ext w w'):Fr G w w':=⟨x.os,x.tape,x.output,x.size,fun k hk _=>x.block k hk⟩
theorem Fr.trans {G:Nat->Prop}{a b c:World}(h:Fr G a b)(k:Fr G b c):Fr G a c:=⟨k.os.trans h.os,k.tape.trans h.tape,k.output.trans h.output,Nat.le_trans h.size k.size,fun i hi hG=>(k.block i (Nat.lt_of_lt_of_le hi h.size) hG).trans (h.block i hi hG)⟩
theorem Fr.trans_new {G:Nat->Prop}{a b c:World}{r:Option Nat}(h:Fr G a b)(k:b.grownBy c r)(hr:∀j,r=some j->G j\/a.heap.size<=j):Fr G a c:=
  ⟨k.os.trans h.os,k.tape.trans h.tape,k.output.trans h.output,Nat.le_trans h.size k.size,fun i hi hG=>(k.block i (Nat.lt_of_lt_of_le hi h.size) (fun e=>by
    rcases hr i e.symm with h1|h1
    · exact hG h1
    omega)).trans (h.block i hi hG)⟩
theorem Fr.cell {G:Nat->Prop}{g o:Nat}{s:Option Nat}{v:Value}(f:Fr G w w')(h:w.cell? ⟨g,o,s⟩=some v)(hn:¬G g):w'.cell? ⟨g,o,s⟩=some v:=
  (World.cell?_of_block (f.block g (World.block_lt_of_cell? w ⟨g,o,s⟩ h) hn)).trans h
theorem Fr.range {G:Nat->Prop}{g o:Nat}{cs:List Value}(f:Fr G w w')(h:w.rangeAt g o cs)(hn:¬G g):w'.rangeAt g o cs:=fun j v hv=>f.cell (h j v hv) hn
theorem Fr.base {G:Nat->Prop}(f:Fr G w w')(h:Hp w0 w m)(hG:∀k,G k->w0.heap.size<=k):Ext w0 w':=
  ⟨f.os.trans h.ext.os,f.tape.trans h.ext.tape,f.output.trans h.ext.output,Nat.le_trans h.ext.size f.size,fun k hk=>(f.block k (Nat.lt_of_lt_of_le hk h.ext.size) (fun hk2=>by have:=hG k hk2;omega)).trans (h.ext.block k hk)⟩
theorem Hp.offBlk {i j g g':Nat}{e:Ent}{t:TypeId}{cs:List Value}(h:Hp w0 w m)(hi:m[i]?=some e)(hj:m[j]?=some (.blk g' t cs))(hij:i≠j)(hg:e.own=some g):¬g=g':=fun e2=>h.apart i j _ _ hi hj hij g hg (congrArg some e2.symm)
theorem Hp.offRow {i j g size n:Nat}{e:Ent}{t:TypeId}{v:Value}{xs:List Value}(h:Hp w0 w m)(hi:m[i]?=some e)(hj:m[j]?=some (.row t size v n xs))(hij:i≠j)(hg:e.own=some g):¬Value.ownBlock v=some g:=fun e2=>h.apart i j _ _ hi hj hij g hg e2
theorem Hp.off {i j g:Nat}{e f:Ent}(h:Hp w0 w m)(hi:m[i]?=some e)(hj:m[j]?=some f)(hij:i≠j)(hg:e.own=some g):f.own≠some g:=h.apart i j e f hi hj hij g hg
end
end
section
section
variable {P:Program} {ρ:Operand->Value} {o:Oper} {w:World}
theorem ev_add {A B E:Int}{t t':TypeId}{x y:Operand}(ho:o.op= .binOp .add t x y t')(hx:ρ x= .int .i64 A)(hy:ρ y= .int .i64 B)(hE:A+B=E)(h1: -9223372036854775808<=E)(h2:E<=9223372036854775807):(execOp ρ o).run P w= .ok (.value (.int .i64 E)) w:=by
  have hw:IntKind.i64.wrap (A+B)=E:=by rw[IntKind.wrap_i64,hE];omega
  unfold execOp;simp only[ho,hx,hy];simp[go_sem,hw]
theorem ev_sub {A B E:Int}{t t':TypeId}{x y:Operand}(ho:o.op= .binOp .sub t x y t')(hx:ρ x= .int .i64 A)(hy:ρ y= .int .i64 B)(hE:A-B=E)(h1: -9223372036854775808<=E)(h2:E<=9223372036854775807):(execOp ρ o).run P w= .ok (.value (.int .i64 E)) w:=by
  have hw:IntKind.i64.wrap (A-B)=E:=by rw[IntKind.wrap_i64,hE];omega
  unfold execOp;simp only[ho,hx,hy];simp[go_sem,hw]
theorem ev_mul {A B E:Int}{t t':TypeId}{x y:Operand}(ho:o.op= .binOp .mul t x y t')(hx:ρ x= .int .i64 A)(hy:ρ y= .int .i64 B)(hE:A*B=E)(h1: -9223372036854775808<=E)(h2:E<=9223372036854775807):(execOp ρ o).run P w= .ok (.value (.int .i64 E)) w:=by
  have hw:IntKind.i64.wrap (A*B)=E:=by rw[IntKind.wrap_i64,hE];omega
  unfold execOp;simp only[ho,hx,hy];simp[go_sem,hw]
theorem ev_lss {A B:Int}{b:Bool}{t t':TypeId}{x y:Operand}(ho:o.op= .binOp .lss t x y t')(hx:ρ x= .int .i64 A)(hy:ρ y= .int .i64 B)(hE:decide (A<B)=b):(execOp ρ o).run P w= .ok (.value (.bool b)) w:=by
  subst hE;unfold execOp;simp only[ho,hx,hy];simp[go_sem]
theorem ev_leq {A B:Int}{b:Bool}{t t':TypeId}{x y:Operand}(ho:o.op= .binOp .leq t x y t')(hx:ρ x= .int .i64 A)(hy:ρ y= .int .i64 B)(hE:decide (A<=B)=b):(execOp ρ o).run P w= .ok (.value (.bool b)) w:=by
  subst hE;unfold execOp;simp only[ho,hx,hy];simp[go_sem]
theorem ev_gtr {A B:Int}{b:Bool}{t t':TypeId}{x y:Operand}(ho:o.op= .binOp .gtr t x y t')(hx:ρ x= .int .i64 A)(hy:ρ y= .int .i64 B)(hE:decide (B<A)=b):(execOp ρ o).run P w= .ok (.value (.bool b)) w:=by
  subst hE;unfold execOp;simp only[ho,hx,hy];simp[go_sem]
theorem ev_geq {A B:Int}{b:Bool}{t t':TypeId}{x y:Operand}(ho:o.op= .binOp .geq t x y t')(hx:ρ x= .int .i64 A)(hy:ρ y= .int .i64 B)(hE:decide (B<=A)=b):(execOp ρ o).run P w= .ok (.value (.bool b)) w:=by
  subst hE;unfold execOp;simp only[ho,hx,hy];simp[go_sem]
theorem ev_eql {A B:Int}{b:Bool}{t t':TypeId}{x y:Operand}(ho:o.op= .binOp .eql t x y t')(hx:ρ x= .int .i64 A)(hy:ρ y= .int .i64 B)(hE:decide (A=B)=b):(execOp ρ o).run P w= .ok (.value (.bool b)) w:=by
  subst hE;unfold execOp;simp only[ho,hx,hy];simp[go_sem];by_cases h:A=B<;>simp[h]
theorem ev_neq {A B:Int}{b:Bool}{t t':TypeId}{x y:Operand}(ho:o.op= .binOp .neq t x y t')(hx:ρ x= .int .i64 A)(hy:ρ y= .int .i64 B)(hE:decide (A≠B)=b):(execOp ρ o).run P w= .ok (.value (.bool b)) w:=by
  subst hE;unfold execOp;simp only[ho,hx,hy];simp[go_sem];by_cases h:A=B<;>simp[h]
theorem dec_t {p:Prop}[Decidable p](h:p):decide p=true:=by simpa using h
theorem dec_f {p:Prop}[Decidable p](h:¬p):decide p=false:=by simpa using h
theorem ev_index {g off n c k size off':Nat}{z:Int}{t e:TypeId}{x y:Operand}(ho:o.op= .indexAddr t x y)(ht:P.underlying t=some (.slice e))(hs:(P.info? e).map (·.size)=some size)(hx:ρ x= .slice (some ⟨g,off,none⟩) n c)(hy:ρ y= .int .i64 z)(hz:z=(k:Int))
  (hn:k<n)(hoff:off'=off+k*size):(execOp ρ o).run P w= .ok (.value (.pointer (some ⟨g,off',none⟩))) w:=by
 subst hz;subst hoff;have hel:P.elem t=e:=by simp[Program.elem,ht]
 have h1:P.underlying t=some (.slice (P.elem t)):=by rw[hel];exact ht
 have hk:(0:Int)<=(k:Int)/\(k:Int)<(n:Int):=by omega
 unfold execOp;simp only[ho,hx,hy,Sem.run_bind,run_indexAt_slice _ _ _ _ _ _ _ h1,if_pos hk,hel];cases hq:P.info? e with
 |none=>simp[hq]at hs
 |some i=>
  have h2:i.size=size:=by simpa[hq]using hs
  simp[sizeOf,typeInfo,hq,h2,Addr.add]
end
def ElT (P:Program)(t e:TypeId)(size bytes:Nat):Prop:=P.underlying t=some (.slice e)/\∃i z,P.info? e=some i/\i.zero=some z/\i.size=size/\i.bytes=bytes/\z.cells.size=size/\NoUL z.cells.toList/\0<size
theorem ElT.of {P:Program}{t e:TypeId}{size bytes:Nat}{z:Value}(h1:P.underlying t=some (.slice e))(h2:(P.info? e).map (fun i=>(i.zero,i.size,i.bytes))=some (some z,size,bytes))(h3:z.cells.size=size)(h4:NoUL z.cells.toList)(h5:0<size):ElT P t e size bytes:=by
  obtain⟨i0,hi,hz0,hz1,hz2⟩:=info_parts h2;exact⟨h1,i0,z,hi,hz0,hz1,hz2,h3,h4,h5⟩
theorem news_cells (w:World)(t:TypeId)(news:List Value):∀(j:Nat) (u:Value),news[j]?=some u->(w.alloc (.cells news.toArray t)).cell? ((⟨w.heap.size,0,none⟩:Addr).add j)=some u:=by
  intro j u hj;have h:=(Blk.new w t news.toArray).cell j;have e:(⟨w.heap.size,0,none⟩:Addr).add j=⟨w.heap.size,j,none⟩:=by unfold Addr.add;split<;>simp_all
  rw[e,h,List.getElem?_toArray];exact hj
section
variable {P:Program} {l:List Oper} {Q:Exit->Act->World->Prop} {md:Region.Mode} {S:World->Prop} {i j ix:Nat} {oi oj:Oper} {fuel:Nat} {listed listed':Array Bool} {a:Act} {w w0:World} {m:List Ent}
theorem mv_app {rest:List Oper}{o:Oper}{ops:Array Oper}(hw:Region.wanted o (yielded ops a.tmps)=true)(s x:Operand)(t:TypeId)
  (ho:o.op= .call {callee:= .builtin .append,args:=#[s,x],argTypes:=#[t,t]}){e:TypeId}{size bytes:Nat}(el:ElT P t e size bytes){v:Value}{n:Nat}{xs:List Value}(hs:a.eval s=v)
  (hH:Hp w0 w m)(hi:m[ix]?=some (.row e size v n xs))(k c:Nat)(news:List Value)(hx:a.eval x= .slice (some ⟨w.heap.size,0,none⟩) k c)(hl:news.length=k*size)(h1:∀u∈news,u.oneCell'=true)(hnu:NoUL news)
  (hm:0<k)(h63:n+k<=maxLen)(hbytes:(n+k)*bytes<=140737488355328)
  (h:∀g cap w',(v.ownBlock=some g\/w.heap.size<=g)->Hp w0 w' (m.set ix (.row e size (.slice (some ⟨g,0,none⟩) (n+k) cap) (n+k) (xs++news)))->Dig w w'->(w.alloc (.cells news.toArray e)).grownBy w' v.ownBlock->
   wpList P ops Q rest (a.put o.dst (.slice (some ⟨g,0,none⟩) (n+k) cap)) w'):wpList P ops Q (o::rest) a (w.alloc (.cells news.toArray e)):=by
 obtain⟨ht,i,z,e1,e2,e3,e4,e5,e6,e7⟩:=el;have hx0:Ext w (w.alloc (.cells news.toArray e)):=(Ext.refl w).alloc _;have hH1:=hH.step hx0;refine wpList_if hw (wp_append_rowF s x t ho w0.heap.size e i z size bytes ht e1 e2 e3 e4 e5 e7 e6 v n xs hs (hH1.row hi) ⟨w.heap.size,0,none⟩ k c news hx hl (news_cells w e news) h1 hnu hm h63 hbytes (Nat.le_trans hH.ext.size hx0.size) ?_);intro g cap w' hf h2 h3 _;exact h g cap w' (hf.imp id (fun q=>Nat.le_trans hx0.size q)) (hH1.grow hi hf h2 h3) ((Dig.of_ext hx0).trans (hH1.growDig hi h3)) h3
theorem Hp.addBlk {w':World}{g:Nat}{t:TypeId}{cs:List Value}(h:Hp w0 w m)(x:Ext w w')(hb:Blk w' g t cs.toArray)(hg:w.heap.size<=g)(hn:NoUL cs):Hp w0 w' (m++[.blk g t cs]):=
  (h.step x).add ⟨Nat.le_trans h.ext.size hg,hb,hn⟩ (fun i f hf k hk e=>by
    injection e with e
    have:=h.lt hf hk;omega)
theorem Hp.var (h:Hp w0 w m)(T:TypeId)(zs cs:List Value)(hl:cs.length=zs.length)(hn:NoUL cs):
    Hp w0 ((w.alloc (.cells zs.toArray T)).setCells w.heap.size 0 cs) (m++[.blk w.heap.size T cs])/\Ext w ((w.alloc (.cells zs.toArray T)).setCells w.heap.size 0 cs):=by
  obtain⟨h1,h2⟩:=new_var w T zs.toArray cs.toArray (by simpa using hl);exact⟨h.addBlk h1 h2 (Nat.le_refl _) hn,h1⟩
end
section
variable {P:Program} {l:List Oper} {Q:Exit->Act->World->Prop} {md:Region.Mode} {S:World->Prop} {i ix:Nat} {oi op:Oper} {fuel:Nat} {listed listed':Array Bool} {a:Act} {w w0:World} {m:List Ent} {ops:Array Oper} {rest:List Oper}
theorem mv_alloc {T:TypeId}{zs:List Value}(hw:Region.wanted op (yielded ops a.tmps)=true)(hv:(execOp a.eval op).run P w= .ok (.value (.pointer (some ⟨w.heap.size,0,none⟩))) (w.alloc (.cells zs.toArray T)))
    (hH:Hp w0 w m)(hn:NoUL zs)(h:∀X w',Hp w0 w' (m++[.blk X T zs])->Ext w w'->w.heap.size<=X->wpList P ops Q rest (a.put op.dst (.pointer (some ⟨X,0,none⟩))) w'):wpList P ops Q (op::rest) a w:=
  mv_val hw hv (h _ _ (hH.alloc T zs hn) ((Ext.refl w).alloc _) (Nat.le_refl _))
theorem mv_lit {T:TypeId}{zs:List Value}{n:Nat}(hw:Region.wanted op (yielded ops a.tmps)=true)(hv:(execOp a.eval op).run P w= .ok (.value (.slice (some ⟨w.heap.size,0,none⟩) n n)) (w.alloc (.cells zs.toArray T)))
    (hH:Hp w0 w m)(hn:NoUL zs)(h:∀X w',Hp w0 w' (m++[.blk X T zs])->Ext w w'->w.heap.size<=X->wpList P ops Q rest (a.put op.dst (.slice (some ⟨X,0,none⟩) n n)) w'):wpList P ops Q (op::rest) a w:=
  mv_val hw hv (h _ _ (hH.alloc T zs hn) ((Ext.refl w).alloc _) (Nat.le_refl _))
theorem mv_st (hw:Region.wanted op (yielded ops a.tmps)=true)(ty:TypeId)(x y:Operand)(ho:op.op= .store ty x y){g:Nat}{t:TypeId}{cs:List Value}(hH:Hp w0 w m)(hi:m[ix]?=some (.blk g t cs))(o:Nat)(vs:List Value)
    (hx:a.eval x= .pointer (some ⟨g,o,none⟩))(hy:a.eval y= .agg vs.toArray)(hl:o+vs.length<=cs.length)(hz:(P.info? ty).map (·.size)=some vs.length)(h1:∀v,v∈vs->v.oneCell'=true)(hn:NoUL vs)
    (h:∀w',Hp w0 w' (m.set ix (.blk g t (cs.take o++vs++cs.drop (o+vs.length))))->Dig w w'->Own g w w'->wpList P ops Q rest (a.put op.dst undef) w'):wpList P ops Q (op::rest) a w:=
  wpList_if hw (wp_store_mid ty x y ho g o vs.toArray hx hy (by simpa using hH.there hi o vs.length hl) (by simpa using hz) (all_oneCell_toArray h1) (by
    rw[List.toList_toArray];exact h _ (hH.store hi o vs hl hn) (hH.storeDig hi o vs) (own_setCells w g o vs)))
theorem md_st (hli:l[i]?=some oi)(hr:Region.ready md l.toArray listed=[i])(hw:Region.wanted oi (yielded l.toArray a.tmps)=true)(hlt:listed.setIfInBounds i true=listed')(ty:TypeId)(x y:Operand)(ho:oi.op= .store ty x y){g:Nat}{t:TypeId}{cs:List Value}(hH:Hp w0 w m)(hi:m[ix]?=some (.blk g t cs))(o:Nat)(vs:List Value)
    (hx:a.eval x= .pointer (some ⟨g,o,none⟩))(hy:a.eval y= .agg vs.toArray)(hl:o+vs.length<=cs.length)(hz:(P.info? ty).map (·.size)=some vs.length)(h1:∀v,v∈vs->v.oneCell'=true)(hn:NoUL vs)
    (h:∀w',Hp w0 w' (m.set ix (.blk g t (cs.take o++vs++cs.drop (o+vs.length))))->Dig w w'->Own g w w'->S w'/\wpAnyH P md l.toArray Q S fuel listed' (a.put oi.dst undef) w'):wpAnyH P md l.toArray Q S (fuel+1) listed a w:=
  wpAnyH_one_l hli hr (fun K hK=>by
    rw[if_pos hw];refine wp_store_mid ty x y ho g o vs.toArray hx hy (by simpa using hH.there hi o vs.length hl) (by simpa using hz) (all_oneCell_toArray h1) ?_;rw[List.toList_toArray];obtain⟨k1,k2⟩:=h _ (hH.store hi o vs hl hn) (hH.storeDig hi o vs) (own_setCells w g o vs);exact hK.out _ _ k1 (fun _=>by rw[hlt];exact k2))
theorem wp_store_cell (ty:TypeId)(x y:Operand)(ho:op.op= .store ty x y)(g o:Nat)(v:Value)(hx:a.eval x= .pointer (some ⟨g,o,none⟩))(hy:a.eval y=v)(ht:w.there g o 1)
    (hz:(P.info? ty).map (·.size)=some 1)(hc:v.cells=#[v])(h1:v.oneCell'=true){K:Act->World->Prop}(h:K (a.put op.dst undef) (w.setCells g o [v])):op.wp P a w K Q:=by
  unfold Oper.wp execOp;simp only[ho,hx,hy,Instr.storeAt,Instr.sureAddr,Sem.run_bind,Sem.run_pure,Result.andThen_ok,run_storeVar_cell w g o ty v ht hz hc h1];exact h
theorem mv_st1 (hw:Region.wanted op (yielded ops a.tmps)=true)(ty:TypeId)(x y:Operand)(ho:op.op= .store ty x y){g:Nat}{t:TypeId}{cs:List Value}(hH:Hp w0 w m)(hi:m[ix]?=some (.blk g t cs))(o:Nat)(v:Value)
    (hx:a.eval x= .pointer (some ⟨g,o,none⟩))(hy:a.eval y=v)(hl:o+1<=cs.length)(hz:(P.info? ty).map (·.size)=some 1)(hc:v.cells=#[v])(h1:v.oneCell'=true)(hn:NoUL [v])
    (h:∀w',Hp w0 w' (m.set ix (.blk g t (cs.take o++[v]++cs.drop (o+1))))->Dig w w'->Own g w w'->wpList P ops Q rest (a.put op.dst undef) w'):wpList P ops Q (op::rest) a w:=
  wpList_if hw (wp_store_cell ty x y ho g o v hx hy (hH.there hi o 1 hl) hz hc h1 (h _ (hH.store hi o [v] hl hn) (hH.storeDig hi o [v]) (own_setCells w g o [v])))
theorem md_st1 (hli:l[i]?=some oi)(hr:Region.ready md l.toArray listed=[i])(hw:Region.wanted oi (yielded l.toArray a.tmps)=true)(hlt:listed.setIfInBounds i true=listed')(ty:TypeId)(x y:Operand)(ho:oi.op= .store ty x y){g:Nat}{t:TypeId}{cs:List Value}(hH:Hp w0 w m)(hi:m[ix]?=some (.blk g t cs))(o:Nat)(v:Value)
    (hx:a.eval x= .pointer (some ⟨g,o,none⟩))(hy:a.eval y=v)(hl:o+1<=cs.length)(hz:(P.info? ty).map (·.size)=some 1)(hc:v.cells=#[v])(h1:v.oneCell'=true)(hn:NoUL [v])
    (h:∀w',Hp w0 w' (m.set ix (.blk g t (cs.take o++[v]++cs.drop (o+1))))->Dig w w'->Own g w w'->S w'/\wpAnyH P md l.toArray Q S fuel listed' (a.put oi.dst undef) w'):wpAnyH P md l.toArray Q S (fuel+1) listed a w:=
  wpAnyH_one_l hli hr (fun K hK=>by
    rw[if_pos hw];refine wp_store_cell ty x y ho g o v hx hy (hH.there hi o 1 hl) hz hc h1 ?_;obtain⟨k1,k2⟩:=h _ (hH.store hi o [v] hl hn) (hH.storeDig hi o [v]) (own_setCells w g o [v]);exact hK.out _ _ k1 (fun _=>by rw[hlt];exact k2))
theorem mv_stRow (hw:Region.wanted op (yielded ops a.tmps)=true)(ty:TypeId)(x y:Operand)(ho:op.op= .store ty x y){g n cap size:Nat}{t:TypeId}{xs:List Value}(hH:Hp w0 w m)(hi:m[ix]?=some (.row t size (.slice (some ⟨g,0,none⟩) n cap) n xs))(o:Nat)(vs:List Value)
    (hx:a.eval x= .pointer (some ⟨g,o,none⟩))(hy:a.eval y= .agg vs.toArray)(hl:o+vs.length<=xs.length)(hz:(P.info? ty).map (·.size)=some vs.length)(h1:∀v,v∈vs->v.oneCell'=true)(hn:NoUL vs)
    (h:∀w',Hp w0 w' (m.set ix (.row t size (.slice (some ⟨g,0,none⟩) n cap) n (xs.take o++vs++xs.drop (o+vs.length))))->Dig w w'->Own g w w'->wpList P ops Q rest (a.put op.dst undef) w'):wpList P ops Q (op::rest) a w:=
  wpList_if hw (wp_store_mid ty x y ho g o vs.toArray hx hy (by simpa using(hH.row hi).there o vs.length hl) (by simpa using hz) (all_oneCell_toArray h1) (by
    rw[List.toList_toArray];exact h _ (hH.storeRow hi o vs hl hn) (hH.storeRowDig hi o vs) (own_setCells w g o vs)))
theorem mv_stRow1 (hw:Region.wanted op (yielded ops a.tmps)=true)(ty:TypeId)(x y:Operand)(ho:op.op= .store ty x y){g n cap size:Nat}{t:TypeId}{xs:List Value}(hH:Hp w0 w m)(hi:m[ix]?=some (.row t size (.slice (some ⟨g,0,none⟩) n cap) n xs))(o:Nat)(v:Value)
    (hx:a.eval x= .pointer (some ⟨g,o,none⟩))(hy:a.eval y=v)(hl:o+1<=xs.length)(hz:(P.info? ty).map (·.size)=some 1)(hc:v.cells=#[v])(h1:v.oneCell'=true)(hn:NoUL [v])
    (h:∀w',Hp w0 w' (m.set ix (.row t size (.slice (some ⟨g,0,none⟩) n cap) n (xs.take o++[v]++xs.drop (o+1))))->Dig w w'->Own g w w'->wpList P ops Q rest (a.put op.dst undef) w'):wpList P ops Q (op::rest) a w:=
  wpList_if hw (wp_store_cell ty x y ho g o v hx hy ((hH.row hi).there o 1 hl) hz hc h1 (h _ (hH.storeRow hi o [v] hl hn) (hH.storeRowDig hi o [v]) (own_setCells w g o [v])))
theorem mv_ld (hw:Region.wanted op (yielded ops a.tmps)=true)(ty:TypeId)(x:Operand)(ho:op.op= .load ty x)(g o:Nat)(cs:List Value){d:TypeDesc}(hx:a.eval x= .pointer (some ⟨g,o,none⟩))(hb:w.rangeAt g o cs)
    (hu:P.underlying ty=some d)(hd:d.isRow=true)(hz:(P.info? ty).map (·.size)=some cs.length)(h:wpList P ops Q rest (a.put op.dst (.agg cs.toArray)) w):wpList P ops Q (op::rest) a w:=
  wpList_if hw (wp_load_mid ty x ho g o hx cs d hb hu hd hz h)
theorem mv_ld1 {g o:Nat}{v:Value}(hw:Region.wanted op (yielded ops a.tmps)=true)(hc:w.cell? ⟨g,o,none⟩=some v)(hv:∀x:World,x.cell? ⟨g,o,none⟩=some v->(execOp a.eval op).run P x= .ok (.value v) x)
    (h:wpList P ops Q rest (a.put op.dst v) w):wpList P ops Q (op::rest) a w:=mv_val hw (hv w hc) h
theorem md_ld1 {g o:Nat}{v:Value}(hi:l[i]?=some oi)(hs:Region.noSelect l.toArray=true)(hf:Region.free md l.toArray listed i=true)(hr:(Region.ready md l.toArray listed).contains i=true)
    (hQ:∀c a w,Q (.panic c) (a.put oi.dst v) w->Q (.panic c) a w)(hw:Region.wanted oi (yielded l.toArray a.tmps)=true)(hc:∀x,S x->x.cell? ⟨g,o,none⟩=some v)(hv:∀x:World,x.cell? ⟨g,o,none⟩=some v->(execOp a.eval oi).run P x= .ok (.value v) x)(hS:S w)
    (hl:listed.setIfInBounds i true=listed')(h:wpAnyH P md l.toArray Q S fuel listed' (a.put oi.dst v) w):wpAnyH P md l.toArray Q S (fuel+1) listed a w:=
  md_val hi hs hf hr hQ hw (fun x hx=>hv x (hc x hx)) hS hl h
end
end
section
/-! Plain laws: insertion, merging, the stable sort. -/
namespace Stb
variable {α:Type}
variable {lt:α->α->Bool}
end Stb
end
section
section
variable {α:Type} {enc:α->List Value} {k:Nat}
variable {w wr:World} {g:Nat} {T:TypeId} {rest:List Value} {xs:List α}
end
section
variable {P:Program} {l:List Oper} {Q:Exit->Act->World->Prop} {md:Region.Mode} {S:World->Prop} {i j:Nat} {oi oj:Oper} {fuel:Nat} {listed li lj listed':Array Bool} {a:Act} {w:World}
end
end
section
section
variable {α:Type}
namespace Stb
variable {lt:α->α->Bool}
end Stb
end
end
section
namespace Stb
variable {α:Type} {lt:α->α->Bool}
end Stb
end
section
structure SpE where
  a:RV
  b:RV
  p:Rat
  q:Rat
def SpE.cells (e:SpE):List Value:=[.bool e.a.n,.slice e.a.p e.a.l e.a.c,.bool e.a.m,.slice e.a.p2 e.a.l2 e.a.c2,.bool e.b.n,.slice e.b.p e.b.l e.b.c,.bool e.b.m,.slice e.b.p2 e.b.l2 e.b.c2]
def SpE.vl (e:SpE):Rat×Rat:=(e.p,e.q)
def SpE.Ok (L:Nat)(w:World)(e:SpE):Prop:=e.a.Is w e.p/\e.b.Is w e.q/\Nm.rl e.p<=L/\Nm.rl e.q<=L
theorem SpE.len (e:SpE):e.cells.length=8:=rfl
theorem SpE.one (e:SpE):∀v,v∈e.cells->v.oneCell'=true:=by simp[SpE.cells,Value.oneCell']
theorem SpE.noU (e:SpE):NoUL e.cells:=by intro x hx k;simp[SpE.cells]at hx;rcases hx with rfl|rfl|rfl|rfl|rfl|rfl|rfl|rfl<;>simp
theorem SpE.Ok.pt {L:Nat}{w:World}{e:SpE}(h:e.Ok L w):PtIs w e.cells.toArray e.p e.q:=⟨e.a,e.b,rfl,h.1,h.2.1⟩
theorem SpE.Ok.ext {L:Nat}{w w':World}{e:SpE}(h:e.Ok L w)(x:Ext w w'):e.Ok L w':=⟨h.1.ext x,h.2.1.ext x,h.2.2⟩
theorem SpE.Ok.map {L:Nat}{w w':World}{e:SpE}(h:e.Ok L w)(x:∀(r:RV) (q:Rat),r.Is w q->r.Is w' q):e.Ok L w':=⟨x _ _ h.1,x _ _ h.2.1,h.2.2⟩
theorem PtIs.sp {L:Nat}{w:World}{cs:Array Value}{p q:Rat}(h:PtIs w cs p q)(h1:Nm.rl p<=L)(h2:Nm.rl q<=L):∃e:SpE,cs=e.cells.toArray/\e.vl=(p,q)/\e.Ok L w:=by
  obtain⟨a,b,rfl,ha,hb⟩:=h;exact⟨⟨a,b,p,q⟩,rfl,rfl,ha,hb,h1,h2⟩
end
section
attribute [local go_sem ↓] Go.wp_at_zero Go.wp_at_succ run_max_ii run_min_ii
theorem rcmp_le_i {q r:Rat}:rcmp q r<=0↔q<=r:=by rw[<-Rat.not_lt,<-rcmp_gt];omega
theorem rcmp_ge_i {q r:Rat}:0<=rcmp q r↔r<=q:=by rw[<-Rat.not_lt,<-rcmp_lt];omega
theorem NIn.own {L:Nat}{w w':World}{cs:Array Value}{q:Rat}(h:NIn L w cs q){g:Nat}{t:TypeId}{zs:Array Value}(hb:Blk w g t zs)(hn:NoU zs)(o:Own g w w'):NIn L w' cs q:=by
  obtain⟨a,h1,h2⟩:=h;exact⟨a,h1,h2.own hb hn o⟩
end
namespace spn
attribute [local go_sem ↓] Go.wp_at_zero Go.wp_at_succ run_max_ii run_min_ii
end spn
section
theorem grown_of_ext {a b:World}(row:Option Nat)(h:Ext a b):a.grownBy b row:=⟨h.os,h.tape,h.output,h.size,fun i hi _=>h.block i hi⟩
theorem flat_snoc {α:Type}(f:α->List Value)(es:List α)(e:α):es.flatMap f++f e=(es++[e]).flatMap f:=by simp
theorem range_part {w:World}{g o:Nat}{cs:List Value}(h:w.rangeAt g o cs)(k n:Nat):w.rangeAt g (o+k) ((cs.drop k).take n):=by
  intro j v hv;have hj:j<n:=by
    have:=(List.getElem?_eq_some_iff.1 hv).1;rw[List.length_take]at this;omega
  rw[List.getElem?_take_of_lt hj,List.getElem?_drop]at hv;have:=h (k+j) v hv;rw[show o+(k+j)=o+k+j by omega]at this;exact this
theorem cell_of_range {w:World}{g o:Nat}{v:Value}{cs:List Value}(h:w.rangeAt g o (v::cs)):w.cell? ⟨g,o,none⟩=some v:=by
  have:=h 0 v rfl;simpa using this
theorem rcmp_eq_i {q r:Rat}:rcmp q r=0↔q=r:=rcmp_eq
theorem rl_i64 (k:Int)(h1: -9223372036854775808<=k)(h2:k<=9223372036854775807):Nm.rl (k:Rat)<=2:=by
  unfold Nm.rl;rw[Rat.num_intCast,Rat.den_intCast];have h1:Nm.nl k.natAbs<=2:=Nm.nl_le (by omega);have h2:Nm.nl 1<=1:=Nm.nl_le (by decide);omega
theorem Hp.add2 {w0 wb w:World}{m:List Ent}{X Y:Nat}{T U:TypeId}{zs us:List Value}(h:Hp w0 wb m)(x:Ext wb w)(B1:Blk w X T zs.toArray)(B2:Blk w Y U us.toArray)(z1:wb.heap.size<=X)(z2:wb.heap.size<=Y)(hne:X≠Y)(n1:NoUL zs)(n2:NoUL us):
  Hp w0 w (m++[.blk X T zs]++[.blk Y U us]):=by
 have h1:=h.addBlk x B1 z1 n1;refine h1.add ⟨Nat.le_trans h.ext.size z2,B2,n2⟩ (fun i f hf k hk e=> ?_);injection e with e
 rcases Nat.lt_trichotomy i m.length with hl|hl|hl
 ·rw[List.getElem?_append_left hl]at hf
  have:=h.lt hf hk;omega
 ·subst hl
  rw[List.getElem?_append_right (Nat.le_refl _)]at hf;simp at hf;subst hf;injection hk with hk
  omega
 rw[List.getElem?_append_right (Nat.le_of_lt hl),List.getElem?_eq_none (by simp;omega)]at hf;cases hf
theorem elRat:ElT Tryz.prog 47 30 4 64:=ElT.of (z:= .agg z4) Tryz.underlying47 (by kernel_rfl) rfl (by simp[NoUL,Value.cells]) (by decide)
theorem elInt:ElT Tryz.prog 60 3 1 8:=ElT.of (z:= .int .i64 0) Tryz.underlying60 (by kernel_rfl) rfl (by simp[NoUL,Value.cells]) (by decide)
theorem elPP:ElT Tryz.prog 82 83 4 32:=ElT.of (z:= .agg #[.int .i64 0,.int .i64 0,.int .i64 0,.int .i64 0]) Tryz.underlying82 (by kernel_rfl) rfl (by simp[NoUL,Value.cells]) (by decide)
abbrev rc (r:RV):List Value:=[.bool r.n,.slice r.p r.l r.c,.bool r.m,.slice r.p2 r.l2 r.c2]
abbrev rz:List Value:=[.bool false,.slice none 0 0,.bool false,.slice none 0 0]
abbrev ro {α:Type}(t:TypeId)(s:Nat)(A:Option Addr)(n c:Nat)(f:α->List Value)(es:List α):Ent:= .row t s (.slice A n c) n (List.flatMap f es)
def Hat (m:List Ent)(g:Nat)(cs:List Value):Prop:=∃(i:Nat) (t:TypeId),m[i]?=some (.blk g t cs)
def Stp (P:Program)(ops:Array Oper)(w0 w:World)(m:List Ent)(op:Oper)(a:Act)(_v:Value)(a':Act):Prop:=Hp w0 w m->∀(Q:Exit->Act->World->Prop) (rest:List Oper),wpList P ops Q rest a' w->wpList P ops Q (op::rest) a w
def SD (P:Program)(md:Region.Mode)(l:List Oper)(Q:Exit->Act->World->Prop)(w0 b:World)(m:List Ent)(i:Nat)(listed:Array Bool)(a:Act)(_v:Value)(a':Act):Prop:=Hp w0 b m->∀(fuel:Nat) (w:World),Ext b w->wpAnyH P md l.toArray Q (fun x=>Ext b x) fuel (listed.setIfInBounds i true) a' w->wpAnyH P md l.toArray Q (fun x=>Ext b x) (fuel+1) listed a w
section
variable {P:Program} {ops:Array Oper} {rest:List Oper} {op:Oper} {a:Act} {a':Act} {w:World} {Q:Exit->Act->World->Prop} {ty:TypeId} {x:Operand} {l:List Oper} {md:Region.Mode} {b:World} {oi:Oper} {fuel:Nat} {listed:Array Bool} {o:Oper} {t:TypeId} {t':TypeId} {y:Operand} {g:Nat} {w0:World} {m:List Ent} {m':List Ent} {cs:List Value} {v:Value} {o1:Oper} {a1:Act} {o2:Oper} {a2:Act} {o3:Oper} {a3:Act} {o4:Oper} {a4:Act} {o5:Oper} {a5:Act} {a6:Act} {a7:Act} {i:Nat}
theorem zd {d:TypeDesc}(g o:Nat)(cs:List Value)(hb:w.rangeAt g o cs)(hu:P.underlying ty=some d)(h:wpList P ops Q rest a' w)(hw:Region.wanted op (yielded ops a.tmps)=true:=by rfl)(ho:op.op= .load ty x:=by rfl)(hx:a.eval x= .pointer (some ⟨g,o,none⟩):=by rfl)(hd:d.isRow=true:=by rfl)(hz:(P.info? ty).map (·.size)=some cs.length:=by kernel_rfl)(ha:a.put op.dst (.agg cs.toArray)=a':=by simp only[Act.put,zA,zB,zC]<;>rfl):wpList P ops Q (op::rest) a w:=by subst ha;exact mv_ld hw ty x ho g o cs hx hb hu hd hz h
theorem ze (g o:Nat)(v:Value)(hb:w.rangeAt g o [v])(h:wpList P ops Q rest a' w)(hw:Region.wanted op (yielded ops a.tmps)=true:=by rfl)(hv:∀x:World,x.cell? ⟨g,o,none⟩=some v->(execOp a.eval op).run P x= .ok (.value v) x:=by intro x hq;(try simp only[Nat.mul_one]at hq);go_simp<;>with_reducible rfl)(ha:a.put op.dst v=a':=by simp only[Act.put,zA,zB,zC]<;>rfl):wpList P ops Q (op::rest) a w:=by subst ha;exact mv_ld1 hw (cell_of_range hb) hv h
theorem zf (i:Nat)(listed':Array Bool)(g o:Nat)(v:Value)(hb:b.rangeAt g o [v])(hS:Ext b w)(h:wpAnyH P md l.toArray Q (fun x=>Ext b x) fuel listed' a' w)(hi:l[i]?=some oi:=by rfl)(hs:Region.noSelect l.toArray=true:=by kernel_rfl)(hf:Region.free md l.toArray listed i=true:=by kernel_rfl)(hr:(Region.ready md l.toArray listed).contains i=true:=by kernel_rfl)(hQ:∀c a w,Q (.panic c) (a.put oi.dst v) w->Q (.panic c) a w:=by intro _ _ _ h;exact h)(hw:Region.wanted oi (yielded l.toArray a.tmps)=true:=by rfl)(hv:∀x:World,x.cell? ⟨g,o,none⟩=some v->(execOp a.eval oi).run P x= .ok (.value v) x:=by intro x hq;(try simp only[Nat.mul_one]at hq);go_simp<;>with_reducible rfl)(hl:listed.setIfInBounds i true=listed':=by kernel_rfl)(ha:a.put oi.dst v=a':=by simp only[Act.put,zA,zB,zC]<;>rfl):wpAnyH P md l.toArray Q (fun x=>Ext b x) (fuel+1) listed a w:=by subst ha;exact md_ld1 hi hs hf hr hQ hw (fun x hx=>Ext.get hx (cell_of_range hb)) hv hS hl h
theorem zg (i:Nat)(listed':Array Bool){d:TypeDesc}(g o:Nat)(cs:List Value)(hb:b.rangeAt g o cs)(hu:P.underlying ty=some d)(hS:Ext b w)(h:wpAnyH P md l.toArray Q (fun x=>Ext b x) fuel listed' a' w)(hi:l[i]?=some oi:=by rfl)(hs:Region.noSelect l.toArray=true:=by kernel_rfl)(hf:Region.free md l.toArray listed i=true:=by kernel_rfl)(hr:(Region.ready md l.toArray listed).contains i=true:=by kernel_rfl)(ho:oi.op= .load ty x:=by rfl)(hQ:∀c a w,Q (.panic c) (a.put oi.dst (.agg cs.toArray)) w->Q (.panic c) a w:=by intro _ _ _ h;exact h)(hw:Region.wanted oi (yielded l.toArray a.tmps)=true:=by rfl)(hx:a.eval x= .pointer (some ⟨g,o,none⟩):=by rfl)(hd:d.isRow=true:=by rfl)(hz:(P.info? ty).map (·.size)=some cs.length:=by kernel_rfl)(hl:listed.setIfInBounds i true=listed':=by kernel_rfl)(ha:a.put oi.dst (.agg cs.toArray)=a':=by simp only[Act.put,zA,zB,zC]<;>rfl):wpAnyH P md l.toArray Q (fun x=>Ext b x) (fuel+1) listed a w:=by subst ha;exact md_range hi hs hf hr ty x ho g o cs d hQ hw hx (fun x hx=>range_ext hb hx) hu hd hz hS hl h
theorem ez1 {ρ:Operand->Value}{A:Int}{B:Int}{E:Int}(h: -9223372036854775808<=E/\E<=9223372036854775807)(ho:o.op= .binOp .add t x y t':=by rfl)(hx:ρ x= .int .i64 A:=by rfl)(hy:ρ y= .int .i64 B:=by rfl)(hE:A+B=E:=by first|rfl|omega):(execOp ρ o).run P w= .ok (.value (.int .i64 E)) w:=ev_add ho hx hy hE h.1 h.2
theorem ez2 {ρ:Operand->Value}{A:Int}{B:Int}{E:Int}(h: -9223372036854775808<=E/\E<=9223372036854775807)(ho:o.op= .binOp .sub t x y t':=by rfl)(hx:ρ x= .int .i64 A:=by rfl)(hy:ρ y= .int .i64 B:=by rfl)(hE:A-B=E:=by first|rfl|omega):(execOp ρ o).run P w= .ok (.value (.int .i64 E)) w:=ev_sub ho hx hy hE h.1 h.2
theorem ez3 {ρ:Operand->Value}{A:Int}{B:Int}{E:Int}(h: -9223372036854775808<=E/\E<=9223372036854775807)(ho:o.op= .binOp .mul t x y t':=by rfl)(hx:ρ x= .int .i64 A:=by rfl)(hy:ρ y= .int .i64 B:=by rfl)(hE:A*B=E:=by first|rfl|omega):(execOp ρ o).run P w= .ok (.value (.int .i64 E)) w:=ev_mul ho hx hy hE h.1 h.2
theorem ezl {ρ:Operand->Value}{A:Int}{B:Int}{b:Bool}(ho:o.op= .binOp .lss t x y t':=by rfl)(hx:ρ x= .int .i64 A:=by rfl)(hy:ρ y= .int .i64 B:=by rfl)(e:decide (A<B)=b):(execOp ρ o).run P w= .ok (.value (.bool b)) w:=ev_lss ho hx hy e
theorem eze {ρ:Operand->Value}{A:Int}{B:Int}{b:Bool}(ho:o.op= .binOp .leq t x y t':=by rfl)(hx:ρ x= .int .i64 A:=by rfl)(hy:ρ y= .int .i64 B:=by rfl)(e:decide (A<=B)=b):(execOp ρ o).run P w= .ok (.value (.bool b)) w:=ev_leq ho hx hy e
theorem ezg {ρ:Operand->Value}{A:Int}{B:Int}{b:Bool}(ho:o.op= .binOp .gtr t x y t':=by rfl)(hx:ρ x= .int .i64 A:=by rfl)(hy:ρ y= .int .i64 B:=by rfl)(e:decide (B<A)=b):(execOp ρ o).run P w= .ok (.value (.bool b)) w:=ev_gtr ho hx hy e
theorem ezo {ρ:Operand->Value}{A:Int}{B:Int}{b:Bool}(ho:o.op= .binOp .geq t x y t':=by rfl)(hx:ρ x= .int .i64 A:=by rfl)(hy:ρ y= .int .i64 B:=by rfl)(e:decide (B<=A)=b):(execOp ρ o).run P w= .ok (.value (.bool b)) w:=ev_geq ho hx hy e
theorem ezq {ρ:Operand->Value}{A:Int}{B:Int}{b:Bool}(ho:o.op= .binOp .eql t x y t':=by rfl)(hx:ρ x= .int .i64 A:=by rfl)(hy:ρ y= .int .i64 B:=by rfl)(e:decide (A=B)=b):(execOp ρ o).run P w= .ok (.value (.bool b)) w:=ev_eql ho hx hy e
theorem ezn {ρ:Operand->Value}{A:Int}{B:Int}{b:Bool}(ho:o.op= .binOp .neq t x y t':=by rfl)(hx:ρ x= .int .i64 A:=by rfl)(hy:ρ y= .int .i64 B:=by rfl)(e:decide (A≠B)=b):(execOp ρ o).run P w= .ok (.value (.bool b)) w:=ev_neq ho hx hy e
theorem ezi {ρ:Operand->Value}{off:Nat}{n:Nat}{c:Nat}{k:Nat}{size:Nat}{off':Nat}{z:Int}{e:TypeId}(ht:P.underlying t=some (.slice e))(ho:o.op= .indexAddr t x y:=by rfl)(hs:(P.info? e).map (·.size)=some size:=by kernel_rfl)(hx:ρ x= .slice (some ⟨g,off,none⟩) n c:=by rfl)(hy:ρ y= .int .i64 z:=by rfl)(hz:z=(k:Int):=by omega)(l:k<n)(f:off'=off+k*size):(execOp ρ o).run P w= .ok (.value (.pointer (some ⟨g,off',none⟩))) w:=ev_index ho ht hs hx hy hz l f
theorem zy {id:Nat}(h:wpAnyH P .any ops Q (fun x=>Ext w x) ops.size (Array.replicate ops.size false) a w.drew)(hm:P.follows .mixedOrders=true:=by kernel_rfl):(Code.region id ops true).wp P Q a w:=wp_region_held_drew (S:=fun x=>Ext w x) hm (Ext.refl _).drew (fun _=>h)
theorem zn {d:Option Nat}{u:Value}(h:wpList P ops Q rest a' w)(ha:a.put d u=a':=by simp only[Act.put,zA,zB,zC]<;>rfl):∃v,Ending.returned u= .returned v/\wpList P ops Q rest (a.put d v) w:=⟨u,rfl,by rw[ha];exact h⟩
theorem zm {S:World->Prop}{lt:Array Bool}{d:Option Nat}{u:Value}(hS:S w)(h:wpAnyH P md l.toArray Q S fuel lt a' w)(ha:a.put d u=a':=by simp only[Act.put,zA,zB,zC]<;>rfl):∃v,Ending.returned u= .returned v/\S w/\wpAnyH P md l.toArray Q S fuel lt (a.put d v) w:=⟨u,rfl,hS,by rw[ha];exact h⟩
theorem zb:Ext w w.drew:=(Ext.refl _).drew
theorem zc {f:FuncId}{args:Array Value}{Φ:Ending->World->Prop}(hc:Calls P f args w Φ)(h:∀e w',Φ e w'->∃v,e= .returned v/\wpList P ops Q rest (a.put op.dst v) w')(hw:Region.wanted op (yielded ops a.tmps)=true:=by rfl)(hv:(execOp a.eval op).run P w= .ok (.enter f args) w:=by go_simp):wpList P ops Q (op::rest) a w:=mv_call hw hv hc h
theorem aA {m':Nat->List Ent}{a':Nat->Act}(T:TypeId)(zs:List Value)(H:Hp w0 w m)(h:∀X w',Hid (Hp w0 w' (m' X))->Ext w w'->w.heap.size<=X->wpList P ops Q rest (a' X) w')(hw:Region.wanted op (yielded ops a.tmps)=true:=by rfl)(hv:(execOp a.eval op).run P w= .ok (.value (.pointer (some ⟨w.heap.size,0,none⟩))) (w.alloc (.cells zs.toArray T)):=by (try simp only[rz,rc]);go_simp)(hn:NoUL zs:=by simp[NoUL,rz,rc])(hm:∀X,m++[.blk X T zs]=m' X:=by intro X;(try simp only[List.cons_append,List.nil_append]);rfl)(ha:∀X,a.put op.dst (.pointer (some ⟨X,0,none⟩))=a' X:=by intro X;(try simp only[Act.put,zA,zB,zC]);rfl):wpList P ops Q (op::rest) a w:=mv_alloc hw hv H hn fun X w' hh hx hg=>by rw[ha];exact h X w' (zH (hm X▸hh)) hx hg
theorem aA' {m':Nat->List Ent}{a':Nat->Act}(T:TypeId)(zs:List Value)(H:Hp w0 w m)(h:∀X w',Hid (Hp w0 w' (m' X))->Hid (Dig w w')->wpList P ops Q rest (a' X) w')(hw:Region.wanted op (yielded ops a.tmps)=true:=by rfl)(hv:(execOp a.eval op).run P w= .ok (.value (.pointer (some ⟨w.heap.size,0,none⟩))) (w.alloc (.cells zs.toArray T)):=by (try simp only[rz,rc]);go_simp)(hn:NoUL zs:=by simp[NoUL,rz,rc])(hm:∀X,m++[.blk X T zs]=m' X:=by intro X;(try simp only[List.cons_append,List.nil_append]);rfl)(ha:∀X,a.put op.dst (.pointer (some ⟨X,0,none⟩))=a' X:=by intro X;(try simp only[Act.put,zA,zB,zC]);rfl):wpList P ops Q (op::rest) a w:=mv_alloc hw hv H hn fun X w' hh hx _=>by rw[ha];exact h X w' (zH (hm X▸hh)) (zH (Dig.of_ext hx))
theorem aL {m':Nat->List Ent}{a':Nat->Act}(n:Nat)(T:TypeId)(zs:List Value)(H:Hp w0 w m)(h:∀X w',Hid (Hp w0 w' (m' X))->Ext w w'->w.heap.size<=X->wpList P ops Q rest (a' X) w')(hw:Region.wanted op (yielded ops a.tmps)=true:=by rfl)(hv:(execOp a.eval op).run P w= .ok (.value (.slice (some ⟨w.heap.size,0,none⟩) n n)) (w.alloc (.cells zs.toArray T)):=by (try simp only[rz,rc]);go_simp)(hn:NoUL zs:=by simp[NoUL,rz,rc])(hm:∀X,m++[.blk X T zs]=m' X:=by intro X;(try simp only[List.cons_append,List.nil_append]);rfl)(ha:∀X,a.put op.dst (.slice (some ⟨X,0,none⟩) n n)=a' X:=by intro X;(try simp only[Act.put,zA,zB,zC]);rfl):wpList P ops Q (op::rest) a w:=mv_lit hw hv H hn fun X w' hh hx hg=>by rw[ha];exact h X w' (zH (hm X▸hh)) hx hg
theorem aL' {m':Nat->List Ent}{a':Nat->Act}(n:Nat)(T:TypeId)(zs:List Value)(H:Hp w0 w m)(h:∀X w',Hid (Hp w0 w' (m' X))->Hid (Dig w w')->wpList P ops Q rest (a' X) w')(hw:Region.wanted op (yielded ops a.tmps)=true:=by rfl)(hv:(execOp a.eval op).run P w= .ok (.value (.slice (some ⟨w.heap.size,0,none⟩) n n)) (w.alloc (.cells zs.toArray T)):=by (try simp only[rz,rc]);go_simp)(hn:NoUL zs:=by simp[NoUL,rz,rc])(hm:∀X,m++[.blk X T zs]=m' X:=by intro X;(try simp only[List.cons_append,List.nil_append]);rfl)(ha:∀X,a.put op.dst (.slice (some ⟨X,0,none⟩) n n)=a' X:=by intro X;(try simp only[Act.put,zA,zB,zC]);rfl):wpList P ops Q (op::rest) a w:=mv_lit hw hv H hn fun X w' hh hx _=>by rw[ha];exact h X w' (zH (hm X▸hh)) (zH (Dig.of_ext hx))
theorem aS (ix:Nat)(vs:List Value)(H:Hp w0 w m)(h:∀w',Hid (Hp w0 w' m')->Dig w w'->Own g w w'->wpList P ops Q rest a' w')(hw:Region.wanted op (yielded ops a.tmps)=true:=by rfl)(ho:op.op= .store ty x y:=by rfl)(hi:m[ix]?=some (.blk g t cs):=by rfl)(hx:a.eval x= .pointer (some ⟨g,0,none⟩):=by rfl)(hy:a.eval y= .agg vs.toArray:=by rfl)(hl:cs.length=vs.length:=by rfl)(hz:(P.info? ty).map (·.size)=some vs.length:=by kernel_rfl)(h1:∀v,v∈vs->v.oneCell'=true:=by simp[Value.oneCell',rc,rz])(hn:NoUL vs:=by simp[NoUL,rz,rc])(hm:m.set ix (.blk g t (vs))=m':=by (try simp only[List.set_cons_succ,List.set_cons_zero]);rfl)(ha:a.put op.dst undef=a':=by (try simp only[Act.put]);rfl):wpList P ops Q (op::rest) a w:=mv_st hw ty x y ho H hi 0 vs hx hy (Nat.le_of_eq (by rw[Nat.zero_add];exact hl.symm)) hz h1 hn fun w' hh hd hq=>by rw[ha];exact h w' (zH (hm▸(show Hp _ _ _ from(by have e:cs.take 0++vs++cs.drop (0+vs.length)=vs:=(by rw[List.take_zero,List.nil_append,Nat.zero_add,List.drop_eq_nil_of_le (Nat.le_of_eq hl),List.append_nil]);rw[e]at hh;exact hh)))) hd hq
theorem aS' (ix:Nat)(vs:List Value)(H:Hp w0 w m)(h:∀w',Hid (Hp w0 w' m')->Hid (Dig w w')->wpList P ops Q rest a' w')(hw:Region.wanted op (yielded ops a.tmps)=true:=by rfl)(ho:op.op= .store ty x y:=by rfl)(hi:m[ix]?=some (.blk g t cs):=by rfl)(hx:a.eval x= .pointer (some ⟨g,0,none⟩):=by rfl)(hy:a.eval y= .agg vs.toArray:=by rfl)(hl:cs.length=vs.length:=by rfl)(hz:(P.info? ty).map (·.size)=some vs.length:=by kernel_rfl)(h1:∀v,v∈vs->v.oneCell'=true:=by simp[Value.oneCell',rc,rz])(hn:NoUL vs:=by simp[NoUL,rz,rc])(hm:m.set ix (.blk g t (vs))=m':=by (try simp only[List.set_cons_succ,List.set_cons_zero]);rfl)(ha:a.put op.dst undef=a':=by (try simp only[Act.put]);rfl):wpList P ops Q (op::rest) a w:=mv_st hw ty x y ho H hi 0 vs hx hy (Nat.le_of_eq (by rw[Nat.zero_add];exact hl.symm)) hz h1 hn fun w' hh hd hq=>by rw[ha];exact h w' (zH (hm▸(show Hp _ _ _ from(by have e:cs.take 0++vs++cs.drop (0+vs.length)=vs:=(by rw[List.take_zero,List.nil_append,Nat.zero_add,List.drop_eq_nil_of_le (Nat.le_of_eq hl),List.append_nil]);rw[e]at hh;exact hh)))) (zH hd)
theorem aU (ix:Nat)(v:Value)(H:Hp w0 w m)(h:∀w',Hid (Hp w0 w' m')->Dig w w'->Own g w w'->wpList P ops Q rest a' w')(hw:Region.wanted op (yielded ops a.tmps)=true:=by rfl)(ho:op.op= .store ty x y:=by rfl)(hi:m[ix]?=some (.blk g t cs):=by rfl)(hx:a.eval x= .pointer (some ⟨g,0,none⟩):=by rfl)(hy:a.eval y=v:=by rfl)(hl:cs.length=1:=by rfl)(hz:(P.info? ty).map (·.size)=some 1:=by kernel_rfl)(hc:v.cells=#[v]:=by simp[Value.cells])(h1:v.oneCell'=true:=by simp[Value.oneCell'])(hn:NoUL [v]:=by simp[NoUL,rz,rc])(hm:m.set ix (.blk g t ([v]))=m':=by (try simp only[List.set_cons_succ,List.set_cons_zero]);rfl)(ha:a.put op.dst undef=a':=by (try simp only[Act.put]);rfl):wpList P ops Q (op::rest) a w:=mv_st1 hw ty x y ho H hi 0 v hx hy (Nat.le_of_eq (by rw[Nat.zero_add];exact hl.symm)) hz hc h1 hn fun w' hh hd hq=>by rw[ha];exact h w' (zH (hm▸(show Hp _ _ _ from(by have e:cs.take 0++[v]++cs.drop (0+1)=[v]:=(by rw[List.take_zero,List.nil_append,Nat.zero_add,List.drop_eq_nil_of_le (Nat.le_of_eq hl),List.append_nil]);rw[e]at hh;exact hh)))) hd hq
theorem aU' (ix:Nat)(v:Value)(H:Hp w0 w m)(h:∀w',Hid (Hp w0 w' m')->Hid (Dig w w')->wpList P ops Q rest a' w')(hw:Region.wanted op (yielded ops a.tmps)=true:=by rfl)(ho:op.op= .store ty x y:=by rfl)(hi:m[ix]?=some (.blk g t cs):=by rfl)(hx:a.eval x= .pointer (some ⟨g,0,none⟩):=by rfl)(hy:a.eval y=v:=by rfl)(hl:cs.length=1:=by rfl)(hz:(P.info? ty).map (·.size)=some 1:=by kernel_rfl)(hc:v.cells=#[v]:=by simp[Value.cells])(h1:v.oneCell'=true:=by simp[Value.oneCell'])(hn:NoUL [v]:=by simp[NoUL,rz,rc])(hm:m.set ix (.blk g t ([v]))=m':=by (try simp only[List.set_cons_succ,List.set_cons_zero]);rfl)(ha:a.put op.dst undef=a':=by (try simp only[Act.put]);rfl):wpList P ops Q (op::rest) a w:=mv_st1 hw ty x y ho H hi 0 v hx hy (Nat.le_of_eq (by rw[Nat.zero_add];exact hl.symm)) hz hc h1 hn fun w' hh hd hq=>by rw[ha];exact h w' (zH (hm▸(show Hp _ _ _ from(by have e:cs.take 0++[v]++cs.drop (0+1)=[v]:=(by rw[List.take_zero,List.nil_append,Nat.zero_add,List.drop_eq_nil_of_le (Nat.le_of_eq hl),List.append_nil]);rw[e]at hh;exact hh)))) (zH hd)
theorem bS (ix:Nat)(i:Nat)(lt:Array Bool)(vs:List Value)(H:Hp w0 w m)(hS:Ext b w)(hG:b.heap.size<=g)(h:∀w',Hid (Hp w0 w' m')->Hid (Dig w w')->Hid (Ext b w')->wpAnyH P md l.toArray Q (fun x=>Ext b x) fuel lt a' w')(hli:l[i]?=some oi:=by rfl)(hr:Region.ready md l.toArray listed=[i]:=by kernel_rfl)(hw:Region.wanted oi (yielded l.toArray a.tmps)=true:=by rfl)(hlt:listed.setIfInBounds i true=lt:=by kernel_rfl)(ho:oi.op= .store ty x y:=by rfl)(hi:m[ix]?=some (.blk g t cs):=by rfl)(hx:a.eval x= .pointer (some ⟨g,0,none⟩):=by rfl)(hy:a.eval y= .agg vs.toArray:=by rfl)(hl:cs.length=vs.length:=by rfl)(hz:(P.info? ty).map (·.size)=some vs.length:=by kernel_rfl)(h1:∀v,v∈vs->v.oneCell'=true:=by simp[Value.oneCell',rc,rz])(hn:NoUL vs:=by simp[NoUL,rz,rc])(hm:m.set ix (.blk g t (vs))=m':=by (try simp only[List.set_cons_succ,List.set_cons_zero]);rfl)(ha:a.put oi.dst undef=a':=by (try simp only[Act.put]);rfl):wpAnyH P md l.toArray Q (fun x=>Ext b x) (fuel+1) listed a w:=md_st hli hr hw hlt ty x y ho H hi 0 vs hx hy (Nat.le_of_eq (by rw[Nat.zero_add];exact hl.symm)) hz h1 hn fun w' hh hd hq=>⟨Own.ext hq hS hG,by rw[ha];exact h w' (zH (hm▸(show Hp _ _ _ from(by have e:cs.take 0++vs++cs.drop (0+vs.length)=vs:=(by rw[List.take_zero,List.nil_append,Nat.zero_add,List.drop_eq_nil_of_le (Nat.le_of_eq hl),List.append_nil]);rw[e]at hh;exact hh)))) (zH hd) (zH (Own.ext hq hS hG))⟩
theorem Hat.h:Hat (.blk g t cs::m) g cs:=⟨0,t,rfl⟩
theorem Hat.tl {e:Ent}(h:Hat m g cs):Hat (e::m) g cs:=by obtain⟨i,t,h⟩:=h;exact⟨i+1,t,h⟩
theorem Sk (hn:Region.wanted op (yielded ops a.tmps)=false:=by rfl)(ha:a.put op.dst undef=a':=by (try simp only[Act.put,zA,zB,zC]);rfl):Stp P ops w0 w m op a undef a':=fun _ _ _ h=>by subst ha;exact mv_skip hn h
theorem Sq (hw:Region.wanted op (yielded ops a.tmps)=true:=by rfl)(hv:(execOp a.eval op).run P w= .ok (.value v) w:=by go_simp<;>with_reducible rfl)(ha:a.put op.dst v=a':=by (try simp only[Act.put,zA,zB,zC]);rfl):Stp P ops w0 w m op a v a':=fun _ _ _ h=>by subst ha;exact mv_val hw hv h
theorem Sd {o:Nat}(hw:Region.wanted op (yielded ops a.tmps)=true:=by rfl)(ho:op.op= .load ty x:=by rfl)(hx:a.eval x= .pointer (some ⟨g,o,none⟩):=by rfl)(hi:Hat m g cs:=by repeat (first|exact Hat.h|apply Hat.tl))(ho0:o=0:=by rfl)(hd:(P.underlying ty).map (·.isRow)=some true:=by decide+kernel)(hz:(P.info? ty).map (·.size)=some cs.length:=by kernel_rfl)(ha:a.put op.dst (.agg cs.toArray)=a':=by (try simp only[Act.put,zA,zB,zC]);rfl):Stp P ops w0 w m op a (.agg cs.toArray) a':=fun H _ _ h=>by
  subst ha;subst ho0;obtain⟨i,t,hi⟩:=hi;cases hu:P.underlying ty with
  |none=>rw[hu]at hd;cases hd
  |some d=>
  have hr:=H.range hi 0 cs.length;rw[List.drop_zero,List.take_length]at hr;exact mv_ld hw ty x ho g 0 cs hx hr hu (by rw[hu]at hd;exact Option.some.inj hd) hz h
theorem Se {o:Nat}(hw:Region.wanted op (yielded ops a.tmps)=true:=by rfl)(_ho:op.op= .load ty x:=by rfl)(_hx:a.eval x= .pointer (some ⟨g,o,none⟩):=by rfl)(hi:Hat m g cs:=by repeat (first|exact Hat.h|apply Hat.tl))(hc:cs[o]?=some v:=by rfl)(hv:∀x:World,x.cell? ⟨g,o,none⟩=some v->(execOp a.eval op).run P x= .ok (.value v) x:=by intro x hq;go_simp<;>with_reducible rfl)(ha:a.put op.dst v=a':=by (try simp only[Act.put,zA,zB,zC]);rfl):Stp P ops w0 w m op a v a':=fun H _ _ h=>by
  subst ha;obtain⟨i,t,hi⟩:=hi;exact mv_ld1 hw (H.cell hi o hc) hv h
theorem zI1 (H:Hp w0 w m)(v1:Value)(h:wpList P ops Q rest a1 w)(s1:Stp P ops w0 w m o1 a v1 a1:=by first|exact Sk|exact Sd|exact Se|exact Sq):wpList P ops Q (o1::rest) a w:=s1 H _ _ (h)
theorem zI2 (H:Hp w0 w m)(v1 v2:Value)(h:wpList P ops Q rest a2 w)(s1:Stp P ops w0 w m o1 a v1 a1:=by first|exact Sk|exact Sd|exact Se|exact Sq)(s2:Stp P ops w0 w m o2 a1 v2 a2:=by first|exact Sk|exact Sd|exact Se|exact Sq):wpList P ops Q (o1::o2::rest) a w:=s1 H _ _ (s2 H _ _ (h))
theorem zI3 (H:Hp w0 w m)(v1 v2 v3:Value)(h:wpList P ops Q rest a3 w)(s1:Stp P ops w0 w m o1 a v1 a1:=by first|exact Sk|exact Sd|exact Se|exact Sq)(s2:Stp P ops w0 w m o2 a1 v2 a2:=by first|exact Sk|exact Sd|exact Se|exact Sq)(s3:Stp P ops w0 w m o3 a2 v3 a3:=by first|exact Sk|exact Sd|exact Se|exact Sq):wpList P ops Q (o1::o2::o3::rest) a w:=s1 H _ _ (s2 H _ _ (s3 H _ _ (h)))
theorem zI4 (H:Hp w0 w m)(v1 v2 v3 v4:Value)(h:wpList P ops Q rest a4 w)(s1:Stp P ops w0 w m o1 a v1 a1:=by first|exact Sk|exact Sd|exact Se|exact Sq)(s2:Stp P ops w0 w m o2 a1 v2 a2:=by first|exact Sk|exact Sd|exact Se|exact Sq)(s3:Stp P ops w0 w m o3 a2 v3 a3:=by first|exact Sk|exact Sd|exact Se|exact Sq)(s4:Stp P ops w0 w m o4 a3 v4 a4:=by first|exact Sk|exact Sd|exact Se|exact Sq):wpList P ops Q (o1::o2::o3::o4::rest) a w:=s1 H _ _ (s2 H _ _ (s3 H _ _ (s4 H _ _ (h))))
theorem zI5 (H:Hp w0 w m)(v1 v2 v3 v4 v5:Value)(h:wpList P ops Q rest a5 w)(s1:Stp P ops w0 w m o1 a v1 a1:=by first|exact Sk|exact Sd|exact Se|exact Sq)(s2:Stp P ops w0 w m o2 a1 v2 a2:=by first|exact Sk|exact Sd|exact Se|exact Sq)(s3:Stp P ops w0 w m o3 a2 v3 a3:=by first|exact Sk|exact Sd|exact Se|exact Sq)(s4:Stp P ops w0 w m o4 a3 v4 a4:=by first|exact Sk|exact Sd|exact Se|exact Sq)(s5:Stp P ops w0 w m o5 a4 v5 a5:=by first|exact Sk|exact Sd|exact Se|exact Sq):wpList P ops Q (o1::o2::o3::o4::o5::rest) a w:=s1 H _ _ (s2 H _ _ (s3 H _ _ (s4 H _ _ (s5 H _ _ (h)))))
theorem zI6 {o6:Oper}(H:Hp w0 w m)(v1 v2 v3 v4 v5 v6:Value)(h:wpList P ops Q rest a6 w)(s1:Stp P ops w0 w m o1 a v1 a1:=by first|exact Sk|exact Sd|exact Se|exact Sq)(s2:Stp P ops w0 w m o2 a1 v2 a2:=by first|exact Sk|exact Sd|exact Se|exact Sq)(s3:Stp P ops w0 w m o3 a2 v3 a3:=by first|exact Sk|exact Sd|exact Se|exact Sq)(s4:Stp P ops w0 w m o4 a3 v4 a4:=by first|exact Sk|exact Sd|exact Se|exact Sq)(s5:Stp P ops w0 w m o5 a4 v5 a5:=by first|exact Sk|exact Sd|exact Se|exact Sq)(s6:Stp P ops w0 w m o6 a5 v6 a6:=by first|exact Sk|exact Sd|exact Se|exact Sq):wpList P ops Q (o1::o2::o3::o4::o5::o6::rest) a w:=s1 H _ _ (s2 H _ _ (s3 H _ _ (s4 H _ _ (s5 H _ _ (s6 H _ _ (h))))))
theorem zI7 {o6:Oper}{o7:Oper}(H:Hp w0 w m)(v1 v2 v3 v4 v5 v6 v7:Value)(h:wpList P ops Q rest a7 w)(s1:Stp P ops w0 w m o1 a v1 a1:=by first|exact Sk|exact Sd|exact Se|exact Sq)(s2:Stp P ops w0 w m o2 a1 v2 a2:=by first|exact Sk|exact Sd|exact Se|exact Sq)(s3:Stp P ops w0 w m o3 a2 v3 a3:=by first|exact Sk|exact Sd|exact Se|exact Sq)(s4:Stp P ops w0 w m o4 a3 v4 a4:=by first|exact Sk|exact Sd|exact Se|exact Sq)(s5:Stp P ops w0 w m o5 a4 v5 a5:=by first|exact Sk|exact Sd|exact Se|exact Sq)(s6:Stp P ops w0 w m o6 a5 v6 a6:=by first|exact Sk|exact Sd|exact Se|exact Sq)(s7:Stp P ops w0 w m o7 a6 v7 a7:=by first|exact Sk|exact Sd|exact Se|exact Sq):wpList P ops Q (o1::o2::o3::o4::o5::o6::o7::rest) a w:=s1 H _ _ (s2 H _ _ (s3 H _ _ (s4 H _ _ (s5 H _ _ (s6 H _ _ (s7 H _ _ (h)))))))
theorem zI8 {o6:Oper}{o7:Oper}{o8:Oper}{a8:Act}(H:Hp w0 w m)(v1 v2 v3 v4 v5 v6 v7 v8:Value)(h:wpList P ops Q rest a8 w)(s1:Stp P ops w0 w m o1 a v1 a1:=by first|exact Sk|exact Sd|exact Se|exact Sq)(s2:Stp P ops w0 w m o2 a1 v2 a2:=by first|exact Sk|exact Sd|exact Se|exact Sq)(s3:Stp P ops w0 w m o3 a2 v3 a3:=by first|exact Sk|exact Sd|exact Se|exact Sq)(s4:Stp P ops w0 w m o4 a3 v4 a4:=by first|exact Sk|exact Sd|exact Se|exact Sq)(s5:Stp P ops w0 w m o5 a4 v5 a5:=by first|exact Sk|exact Sd|exact Se|exact Sq)(s6:Stp P ops w0 w m o6 a5 v6 a6:=by first|exact Sk|exact Sd|exact Se|exact Sq)(s7:Stp P ops w0 w m o7 a6 v7 a7:=by first|exact Sk|exact Sd|exact Se|exact Sq)(s8:Stp P ops w0 w m o8 a7 v8 a8:=by first|exact Sk|exact Sd|exact Se|exact Sq):wpList P ops Q (o1::o2::o3::o4::o5::o6::o7::o8::rest) a w:=s1 H _ _ (s2 H _ _ (s3 H _ _ (s4 H _ _ (s5 H _ _ (s6 H _ _ (s7 H _ _ (s8 H _ _ (h))))))))
theorem aC {f:FuncId}{args:Array Value}(H:Hp w0 w m)(hc:Calls P f args w (fun e w'=>e= .returned v/\Ext w w'))(h:∀w',Hid (Hp w0 w' m)->Hid (Dig w w')->wpList P ops Q rest a' w')(hw:Region.wanted op (yielded ops a.tmps)=true:=by rfl)(hv:(execOp a.eval op).run P w= .ok (.enter f args) w:=by go_simp)(ha:a.put op.dst v=a':=by (try simp only[Act.put,zA,zB,zC]);rfl):wpList P ops Q (op::rest) a w:=mv_call hw hv hc fun e w' ⟨h1,hx⟩=>⟨v,h1,by rw[ha];exact h w' (zH (H.step hx)) (zH (Dig.of_ext hx))⟩
theorem hN (h:Hp w0 w m)(hm:m=m':=by (try simp only[List.cons_append,List.nil_append,List.set_cons_succ,List.set_cons_zero]);rfl):Hid (Hp w0 w m'):=zH (hm▸h)
theorem Tk (hi:l[i]?=some oi:=by rfl)(hs:Region.noSelect l.toArray=true:=by kernel_rfl)(hf:Region.free md l.toArray listed i=true:=by kernel_rfl)(hr:(Region.ready md l.toArray listed).contains i=true:=by kernel_rfl)(hn:Region.wanted oi (yielded l.toArray a.tmps)=false:=by rfl)(hQ:∀c a w,Q (.panic c) (a.put oi.dst undef) w->Q (.panic c) a w:=by intro _ _ _ h;exact h)(ha:a.put oi.dst undef=a':=by (try simp only[Act.put,zA,zB,zC]);rfl):SD P md l Q w0 b m i listed a undef a':=fun _ _ _ hS h=>by subst ha;exact md_skip hi hs hf hr hQ hn hS rfl h
theorem Tq (hi:l[i]?=some oi:=by rfl)(hs:Region.noSelect l.toArray=true:=by kernel_rfl)(hf:Region.free md l.toArray listed i=true:=by kernel_rfl)(hr:(Region.ready md l.toArray listed).contains i=true:=by kernel_rfl)(hw:Region.wanted oi (yielded l.toArray a.tmps)=true:=by rfl)(hv:∀w,Ext b w->(execOp a.eval oi).run P w= .ok (.value v) w:=by intro w hSw;go_simp<;>with_reducible rfl)(hQ:∀c a w,Q (.panic c) (a.put oi.dst v) w->Q (.panic c) a w:=by intro _ _ _ h;exact h)(ha:a.put oi.dst v=a':=by (try simp only[Act.put,zA,zB,zC]);rfl):SD P md l Q w0 b m i listed a v a':=fun _ _ _ hS h=>by subst ha;exact md_val hi hs hf hr hQ hw hv hS rfl h
theorem Td {o:Nat}(hi:l[i]?=some oi:=by rfl)(hs:Region.noSelect l.toArray=true:=by kernel_rfl)(hf:Region.free md l.toArray listed i=true:=by kernel_rfl)(hr:(Region.ready md l.toArray listed).contains i=true:=by kernel_rfl)(hw:Region.wanted oi (yielded l.toArray a.tmps)=true:=by rfl)(ho:oi.op= .load ty x:=by rfl)(hx:a.eval x= .pointer (some ⟨g,o,none⟩):=by rfl)(hi_:Hat m g cs:=by repeat (first|exact Hat.h|apply Hat.tl))(ho0:o=0:=by rfl)(hd:(P.underlying ty).map (·.isRow)=some true:=by decide+kernel)(hz:(P.info? ty).map (·.size)=some cs.length:=by kernel_rfl)(hQ:∀c a w,Q (.panic c) (a.put oi.dst (.agg cs.toArray)) w->Q (.panic c) a w:=by intro _ _ _ h;exact h)(ha:a.put oi.dst (.agg cs.toArray)=a':=by (try simp only[Act.put,zA,zB,zC]);rfl):SD P md l Q w0 b m i listed a (.agg cs.toArray) a':=fun H _ _ hS h=>by
  subst ha;subst ho0;obtain⟨j,t,hj⟩:=hi_;cases hu:P.underlying ty with
  |none=>rw[hu]at hd;cases hd
  |some d=>
  have hr2:=H.range hj 0 cs.length;rw[List.drop_zero,List.take_length]at hr2;exact md_range hi hs hf hr ty x ho g 0 cs d hQ hw hx (fun x hx=>range_ext hr2 hx) hu (by rw[hu]at hd;exact Option.some.inj hd) hz hS rfl h
theorem Te {o:Nat}(hi:l[i]?=some oi:=by rfl)(hs:Region.noSelect l.toArray=true:=by kernel_rfl)(hf:Region.free md l.toArray listed i=true:=by kernel_rfl)(hr:(Region.ready md l.toArray listed).contains i=true:=by kernel_rfl)(hw:Region.wanted oi (yielded l.toArray a.tmps)=true:=by rfl)(_ho:oi.op= .load ty x:=by rfl)(_hx:a.eval x= .pointer (some ⟨g,o,none⟩):=by rfl)(hi_:Hat m g cs:=by repeat (first|exact Hat.h|apply Hat.tl))(hc:cs[o]?=some v:=by rfl)(hv:∀x:World,x.cell? ⟨g,o,none⟩=some v->(execOp a.eval oi).run P x= .ok (.value v) x:=by intro x hq;go_simp<;>with_reducible rfl)(hQ:∀c a w,Q (.panic c) (a.put oi.dst v) w->Q (.panic c) a w:=by intro _ _ _ h;exact h)(ha:a.put oi.dst v=a':=by (try simp only[Act.put,zA,zB,zC]);rfl):SD P md l Q w0 b m i listed a v a':=fun H _ _ hS h=>by
  subst ha;obtain⟨j,t,hj⟩:=hi_;exact md_ld1 hi hs hf hr hQ hw (fun x hx=>Ext.get hx (H.cell hj o hc)) hv hS rfl h
theorem zJ1 (H:Hp w0 b m)(hS:Ext b w)(lt:Array Bool)(i1:Nat)(v1:Value)(h:wpAnyH P md l.toArray Q (fun x=>Ext b x) fuel lt a1 w)(s1:SD P md l Q w0 b m i1 listed a v1 a1:=by first|exact Tk|exact Td|exact Te|exact Tq)(hl:(listed.setIfInBounds i1 true)=lt:=by kernel_rfl):wpAnyH P md l.toArray Q (fun x=>Ext b x) (fuel+1) listed a w:=s1 H _ _ hS ((by rw[hl];exact h))
theorem zJ2 (H:Hp w0 b m)(hS:Ext b w)(lt:Array Bool)(i1 i2:Nat)(v1 v2:Value)(h:wpAnyH P md l.toArray Q (fun x=>Ext b x) fuel lt a2 w)(s1:SD P md l Q w0 b m i1 listed a v1 a1:=by first|exact Tk|exact Td|exact Te|exact Tq)(s2:SD P md l Q w0 b m i2 (listed.setIfInBounds i1 true) a1 v2 a2:=by first|exact Tk|exact Td|exact Te|exact Tq)(hl:((listed.setIfInBounds i1 true).setIfInBounds i2 true)=lt:=by kernel_rfl):wpAnyH P md l.toArray Q (fun x=>Ext b x) (fuel+1+1) listed a w:=s1 H _ _ hS (s2 H _ _ hS ((by rw[hl];exact h)))
theorem zJ3 (H:Hp w0 b m)(hS:Ext b w)(lt:Array Bool)(i1 i2 i3:Nat)(v1 v2 v3:Value)(h:wpAnyH P md l.toArray Q (fun x=>Ext b x) fuel lt a3 w)(s1:SD P md l Q w0 b m i1 listed a v1 a1:=by first|exact Tk|exact Td|exact Te|exact Tq)(s2:SD P md l Q w0 b m i2 (listed.setIfInBounds i1 true) a1 v2 a2:=by first|exact Tk|exact Td|exact Te|exact Tq)(s3:SD P md l Q w0 b m i3 ((listed.setIfInBounds i1 true).setIfInBounds i2 true) a2 v3 a3:=by first|exact Tk|exact Td|exact Te|exact Tq)(hl:(((listed.setIfInBounds i1 true).setIfInBounds i2 true).setIfInBounds i3 true)=lt:=by kernel_rfl):wpAnyH P md l.toArray Q (fun x=>Ext b x) (fuel+1+1+1) listed a w:=s1 H _ _ hS (s2 H _ _ hS (s3 H _ _ hS ((by rw[hl];exact h))))
theorem zJ4 (H:Hp w0 b m)(hS:Ext b w)(lt:Array Bool)(i1 i2 i3 i4:Nat)(v1 v2 v3 v4:Value)(h:wpAnyH P md l.toArray Q (fun x=>Ext b x) fuel lt a4 w)(s1:SD P md l Q w0 b m i1 listed a v1 a1:=by first|exact Tk|exact Td|exact Te|exact Tq)(s2:SD P md l Q w0 b m i2 (listed.setIfInBounds i1 true) a1 v2 a2:=by first|exact Tk|exact Td|exact Te|exact Tq)(s3:SD P md l Q w0 b m i3 ((listed.setIfInBounds i1 true).setIfInBounds i2 true) a2 v3 a3:=by first|exact Tk|exact Td|exact Te|exact Tq)(s4:SD P md l Q w0 b m i4 (((listed.setIfInBounds i1 true).setIfInBounds i2 true).setIfInBounds i3 true) a3 v4 a4:=by first|exact Tk|exact Td|exact Te|exact Tq)(hl:((((listed.setIfInBounds i1 true).setIfInBounds i2 true).setIfInBounds i3 true).setIfInBounds i4 true)=lt:=by kernel_rfl):wpAnyH P md l.toArray Q (fun x=>Ext b x) (fuel+1+1+1+1) listed a w:=s1 H _ _ hS (s2 H _ _ hS (s3 H _ _ hS (s4 H _ _ hS ((by rw[hl];exact h)))))
theorem zJ5 (H:Hp w0 b m)(hS:Ext b w)(lt:Array Bool)(i1 i2 i3 i4 i5:Nat)(v1 v2 v3 v4 v5:Value)(h:wpAnyH P md l.toArray Q (fun x=>Ext b x) fuel lt a5 w)(s1:SD P md l Q w0 b m i1 listed a v1 a1:=by first|exact Tk|exact Td|exact Te|exact Tq)(s2:SD P md l Q w0 b m i2 (listed.setIfInBounds i1 true) a1 v2 a2:=by first|exact Tk|exact Td|exact Te|exact Tq)(s3:SD P md l Q w0 b m i3 ((listed.setIfInBounds i1 true).setIfInBounds i2 true) a2 v3 a3:=by first|exact Tk|exact Td|exact Te|exact Tq)(s4:SD P md l Q w0 b m i4 (((listed.setIfInBounds i1 true).setIfInBounds i2 true).setIfInBounds i3 true) a3 v4 a4:=by first|exact Tk|exact Td|exact Te|exact Tq)(s5:SD P md l Q w0 b m i5 ((((listed.setIfInBounds i1 true).setIfInBounds i2 true).setIfInBounds i3 true).setIfInBounds i4 true) a4 v5 a5:=by first|exact Tk|exact Td|exact Te|exact Tq)(hl:(((((listed.setIfInBounds i1 true).setIfInBounds i2 true).setIfInBounds i3 true).setIfInBounds i4 true).setIfInBounds i5 true)=lt:=by kernel_rfl):wpAnyH P md l.toArray Q (fun x=>Ext b x) (fuel+1+1+1+1+1) listed a w:=s1 H _ _ hS (s2 H _ _ hS (s3 H _ _ hS (s4 H _ _ hS (s5 H _ _ hS ((by rw[hl];exact h))))))
theorem zJ6 (H:Hp w0 b m)(hS:Ext b w)(lt:Array Bool)(i1 i2 i3 i4 i5 i6:Nat)(v1 v2 v3 v4 v5 v6:Value)(h:wpAnyH P md l.toArray Q (fun x=>Ext b x) fuel lt a6 w)(s1:SD P md l Q w0 b m i1 listed a v1 a1:=by first|exact Tk|exact Td|exact Te|exact Tq)(s2:SD P md l Q w0 b m i2 (listed.setIfInBounds i1 true) a1 v2 a2:=by first|exact Tk|exact Td|exact Te|exact Tq)(s3:SD P md l Q w0 b m i3 ((listed.setIfInBounds i1 true).setIfInBounds i2 true) a2 v3 a3:=by first|exact Tk|exact Td|exact Te|exact Tq)(s4:SD P md l Q w0 b m i4 (((listed.setIfInBounds i1 true).setIfInBounds i2 true).setIfInBounds i3 true) a3 v4 a4:=by first|exact Tk|exact Td|exact Te|exact Tq)(s5:SD P md l Q w0 b m i5 ((((listed.setIfInBounds i1 true).setIfInBounds i2 true).setIfInBounds i3 true).setIfInBounds i4 true) a4 v5 a5:=by first|exact Tk|exact Td|exact Te|exact Tq)(s6:SD P md l Q w0 b m i6 (((((listed.setIfInBounds i1 true).setIfInBounds i2 true).setIfInBounds i3 true).setIfInBounds i4 true).setIfInBounds i5 true) a5 v6 a6:=by first|exact Tk|exact Td|exact Te|exact Tq)(hl:((((((listed.setIfInBounds i1 true).setIfInBounds i2 true).setIfInBounds i3 true).setIfInBounds i4 true).setIfInBounds i5 true).setIfInBounds i6 true)=lt:=by kernel_rfl):wpAnyH P md l.toArray Q (fun x=>Ext b x) (fuel+1+1+1+1+1+1) listed a w:=s1 H _ _ hS (s2 H _ _ hS (s3 H _ _ hS (s4 H _ _ hS (s5 H _ _ hS (s6 H _ _ hS ((by rw[hl];exact h)))))))
theorem zJ7 (H:Hp w0 b m)(hS:Ext b w)(lt:Array Bool)(i1 i2 i3 i4 i5 i6 i7:Nat)(v1 v2 v3 v4 v5 v6 v7:Value)(h:wpAnyH P md l.toArray Q (fun x=>Ext b x) fuel lt a7 w)(s1:SD P md l Q w0 b m i1 listed a v1 a1:=by first|exact Tk|exact Td|exact Te|exact Tq)(s2:SD P md l Q w0 b m i2 (listed.setIfInBounds i1 true) a1 v2 a2:=by first|exact Tk|exact Td|exact Te|exact Tq)(s3:SD P md l Q w0 b m i3 ((listed.setIfInBounds i1 true).setIfInBounds i2 true) a2 v3 a3:=by first|exact Tk|exact Td|exact Te|exact Tq)(s4:SD P md l Q w0 b m i4 (((listed.setIfInBounds i1 true).setIfInBounds i2 true).setIfInBounds i3 true) a3 v4 a4:=by first|exact Tk|exact Td|exact Te|exact Tq)(s5:SD P md l Q w0 b m i5 ((((listed.setIfInBounds i1 true).setIfInBounds i2 true).setIfInBounds i3 true).setIfInBounds i4 true) a4 v5 a5:=by first|exact Tk|exact Td|exact Te|exact Tq)(s6:SD P md l Q w0 b m i6 (((((listed.setIfInBounds i1 true).setIfInBounds i2 true).setIfInBounds i3 true).setIfInBounds i4 true).setIfInBounds i5 true) a5 v6 a6:=by first|exact Tk|exact Td|exact Te|exact Tq)(s7:SD P md l Q w0 b m i7 ((((((listed.setIfInBounds i1 true).setIfInBounds i2 true).setIfInBounds i3 true).setIfInBounds i4 true).setIfInBounds i5 true).setIfInBounds i6 true) a6 v7 a7:=by first|exact Tk|exact Td|exact Te|exact Tq)(hl:(((((((listed.setIfInBounds i1 true).setIfInBounds i2 true).setIfInBounds i3 true).setIfInBounds i4 true).setIfInBounds i5 true).setIfInBounds i6 true).setIfInBounds i7 true)=lt:=by kernel_rfl):wpAnyH P md l.toArray Q (fun x=>Ext b x) (fuel+1+1+1+1+1+1+1) listed a w:=s1 H _ _ hS (s2 H _ _ hS (s3 H _ _ hS (s4 H _ _ hS (s5 H _ _ hS (s6 H _ _ hS (s7 H _ _ hS ((by rw[hl];exact h))))))))
theorem zJ8 {a8:Act}(H:Hp w0 b m)(hS:Ext b w)(lt:Array Bool)(i1 i2 i3 i4 i5 i6 i7 i8:Nat)(v1 v2 v3 v4 v5 v6 v7 v8:Value)(h:wpAnyH P md l.toArray Q (fun x=>Ext b x) fuel lt a8 w)(s1:SD P md l Q w0 b m i1 listed a v1 a1:=by first|exact Tk|exact Td|exact Te|exact Tq)(s2:SD P md l Q w0 b m i2 (listed.setIfInBounds i1 true) a1 v2 a2:=by first|exact Tk|exact Td|exact Te|exact Tq)(s3:SD P md l Q w0 b m i3 ((listed.setIfInBounds i1 true).setIfInBounds i2 true) a2 v3 a3:=by first|exact Tk|exact Td|exact Te|exact Tq)(s4:SD P md l Q w0 b m i4 (((listed.setIfInBounds i1 true).setIfInBounds i2 true).setIfInBounds i3 true) a3 v4 a4:=by first|exact Tk|exact Td|exact Te|exact Tq)(s5:SD P md l Q w0 b m i5 ((((listed.setIfInBounds i1 true).setIfInBounds i2 true).setIfInBounds i3 true).setIfInBounds i4 true) a4 v5 a5:=by first|exact Tk|exact Td|exact Te|exact Tq)(s6:SD P md l Q w0 b m i6 (((((listed.setIfInBounds i1 true).setIfInBounds i2 true).setIfInBounds i3 true).setIfInBounds i4 true).setIfInBounds i5 true) a5 v6 a6:=by first|exact Tk|exact Td|exact Te|exact Tq)(s7:SD P md l Q w0 b m i7 ((((((listed.setIfInBounds i1 true).setIfInBounds i2 true).setIfInBounds i3 true).setIfInBounds i4 true).setIfInBounds i5 true).setIfInBounds i6 true) a6 v7 a7:=by first|exact Tk|exact Td|exact Te|exact Tq)(s8:SD P md l Q w0 b m i8 (((((((listed.setIfInBounds i1 true).setIfInBounds i2 true).setIfInBounds i3 true).setIfInBounds i4 true).setIfInBounds i5 true).setIfInBounds i6 true).setIfInBounds i7 true) a7 v8 a8:=by first|exact Tk|exact Td|exact Te|exact Tq)(hl:((((((((listed.setIfInBounds i1 true).setIfInBounds i2 true).setIfInBounds i3 true).setIfInBounds i4 true).setIfInBounds i5 true).setIfInBounds i6 true).setIfInBounds i7 true).setIfInBounds i8 true)=lt:=by kernel_rfl):wpAnyH P md l.toArray Q (fun x=>Ext b x) (fuel+1+1+1+1+1+1+1+1) listed a w:=s1 H _ _ hS (s2 H _ _ hS (s3 H _ _ hS (s4 H _ _ hS (s5 H _ _ hS (s6 H _ _ hS (s7 H _ _ hS (s8 H _ _ hS ((by rw[hl];exact h)))))))))
theorem emH (p:Prop):Hid p\/Hid (¬p):=(Classical.em p).imp zH zH
theorem kR {α:Type}{a:α}{b:α}(h:a=b:=by kernel_rfl):a=b:=h
theorem rR {α:Type}{a:α}{b:α}(h:a=b:=by rfl):a=b:=h
theorem dC {p:Prop}(h:p:=by decide):p:=h
theorem wl {id:Nat}(h:wpList P l.toArray Q l a w):Code.wp P (Code.region id l.toArray false) Q a w:=wp_region_lit h
theorem tD {a:World}{c:World}(h:Hid (Dig a b))(k:Hid (Dig b c)):Hid (Dig a c):=zH (h.out.trans k.out)
end
end
section
open Go.RowKit Go.Deep
section
variable {P:Program} {w0 w:World} {m:List Ent} {ix:Nat} {a:Act} {Q:Exit->Act->World->Prop}
end
def SpE.OkI (L:Nat)(w:World)(e:SpE):Prop:=e.a.In L w e.p/\e.b.In L w e.q
theorem SpE.Ok.i {L:Nat}{w:World}{e:SpE}(h:e.Ok L w):e.OkI L w:=⟨h.1.isIn h.2.2.1,h.2.1.isIn h.2.2.2⟩
theorem SpE.OkI.ext {L:Nat}{w w':World}{e:SpE}(h:e.OkI L w)(x:Ext w w'):e.OkI L w':=⟨h.1.ext x,h.2.ext x⟩
instance:Inhabited SpE:=⟨⟨⟨false,none,0,0,false,none,0,0⟩,⟨false,none,0,0,false,none,0,0⟩,0,0⟩⟩
theorem Ent.Holds.fr {b:Nat}{w w':World}{e:Ent}{G:Nat->Prop}(h:e.Holds b w)(x:Fr G w w')(hn:∀k,e.own=some k->¬G k):e.Holds b w':=by
 have hb:∀(g:Nat) (t:TypeId) (cs:Array Value),Blk w g t cs->¬G g->Blk w' g t cs:=by
  intro g t cs h1 h2;unfold Blk;rw[x.block g h1.lt h2];exact h1
 cases e with
 |blk g t cs=>exact⟨h.1,hb _ _ _ h.2.1 (hn g rfl),h.2.2⟩
 |row t size v n xs=>
  obtain⟨h1,h2|⟨g,cap,rest,rfl,a,h3,c⟩⟩:=h
  ·exact⟨h1,.inl h2⟩
  exact⟨h1,.inr ⟨g,cap,rest,rfl,a,hb _ _ _ h3 (hn g rfl),c⟩⟩
section
variable {w0 w w':World} {m:List Ent}
theorem two_get {e f:Ent}{i:Nat}{x:Ent}(h: [e,f][i]?=some x):(i=0/\x=e)\/(i=1/\x=f):=by
  match i,h with
  |0,h=>injection h with h;exact .inl ⟨rfl,h.symm⟩
  |1,h=>injection h with h;exact .inr ⟨rfl,h.symm⟩
  |k+2,h=>simp at h
theorem Hp.pick2 {ib ir:Nat}{e f:Ent}(h:Hp w0 w m)(hb:m[ib]?=some e)(hr:m[ir]?=some f)(hne:ib≠ir):Hp w0 w [e,f]:=by
  refine⟨h.ext,fun i x hx=> ?_,fun i j x y hx hy hij=> ?_⟩
  · rcases two_get hx with⟨_,rfl⟩|⟨_,rfl⟩
    · exact h.all _ _ hb
    exact h.all _ _ hr
  rcases two_get hx with⟨e1,rfl⟩|⟨e1,rfl⟩<;>rcases two_get hy with⟨e2,rfl⟩|⟨e2,rfl⟩
  · omega
  · exact h.apart _ _ _ _ hb hr hne
  · exact h.apart _ _ _ _ hr hb (Ne.symm hne)
  omega
theorem Hp.call2 {ib ir:Nat}{e f e' f':Ent}{G:Nat->Prop}(h:Hp w0 w m)(hb:m[ib]?=some e)(hr:m[ir]?=some f)(_hne:ib≠ir)(x:Fr G w w')(hG:∀k,G k->e.own=some k\/f.own=some k)(h2:Hp w0 w' [e',f'])
  (he:∀k,e'.own=some k->e.own=some k\/w.heap.size<=k)(hf:∀k,f'.own=some k->f.own=some k\/w.heap.size<=k):Hp w0 w' ((m.set ib e').set ir f'):=by
 have hbl:ib<m.length:=(List.getElem?_eq_some_iff.1 hb).1;have hrl:ir<m.length:=(List.getElem?_eq_some_iff.1 hr).1;have hget:∀(j:Nat) (y:Ent),((m.set ib e').set ir f')[j]?=some y->(j=ir/\y=f')\/(j=ib/\y=e')\/(j≠ir/\j≠ib/\m[j]?=some y):=by
  intro j y hj;rw[List.getElem?_set]at hj;by_cases h1:ir=j
  ·rw[if_pos h1,if_pos (by simpa using h1▸hrl)]at hj
   injection hj with hj
   exact .inl ⟨h1.symm,hj.symm⟩
  rw[if_neg h1,List.getElem?_set]at hj;by_cases h3:ib=j
  ·rw[if_pos h3,if_pos (by omega)]at hj
   injection hj with hj
   exact .inr (.inl ⟨h3.symm,hj.symm⟩)
  rw[if_neg h3]at hj;exact .inr (.inr ⟨fun q=>h1 q.symm,fun q=>h3 q.symm,hj⟩)
 have offG:∀(j:Nat) (y:Ent),j≠ir->j≠ib->m[j]?=some y->∀k,y.own=some k->¬G k:=by
  intro j y hj1 hj2 hy k hk hg;rcases hG k hg with h1|h1
  ·exact h.apart j ib y e hy hb hj2 k hk h1
  exact h.apart j ir y f hy hr hj1 k hk h1
 have offE:∀(j:Nat) (y:Ent),j≠ir->j≠ib->m[j]?=some y->∀k,y.own=some k->e'.own≠some k:=by
  intro j y hj1 hj2 hy k hk hq;rcases he k hq with h1|h1
  ·exact h.apart j ib y e hy hb hj2 k hk h1
  have:=h.lt hy hk;omega
 have offF:∀(j:Nat) (y:Ent),j≠ir->j≠ib->m[j]?=some y->∀k,y.own=some k->f'.own≠some k:=by
  intro j y hj1 hj2 hy k hk hq;rcases hf k hq with h1|h1
  ·exact h.apart j ir y f hy hr hj1 k hk h1
  have:=h.lt hy hk;omega
 refine⟨h2.ext,fun j y hj=> ?_,fun i j x y hi hj hij k hk=> ?_⟩
 ·rcases hget j y hj with⟨_,rfl⟩|⟨_,rfl⟩|⟨h3,h4,h5⟩
  ·exact h2.all 1 _ rfl
  ·exact h2.all 0 _ rfl
  exact(h.all j y h5).fr x (offG j y h3 h4 h5)
 rcases hget i x hi with⟨e1,rfl⟩|⟨e1,rfl⟩|⟨a1,a2,a3⟩<;>rcases hget j y hj with⟨e2,rfl⟩|⟨e2,rfl⟩|⟨b1,b2,b3⟩
 ·omega
 ·exact h2.apart 1 0 _ _ rfl rfl (by decide) k hk
 ·exact fun q=>offF j y b1 b2 b3 k q hk
 ·exact h2.apart 0 1 _ _ rfl rfl (by decide) k hk
 ·omega
 ·exact fun q=>offE j y b1 b2 b3 k q hk
 ·exact offF i x a1 a2 a3 k hk
 ·exact offE i x a1 a2 a3 k hk
 exact h.apart i j x y a3 b3 hij k hk
end
theorem RowN.cap {w:World}{base:Nat}{e:TypeId}{size:Nat}{A:Option Addr}{n c:Nat}{xs:List Value}(h:RowN w base e size (.slice A n c) n xs):n<=c:=by
  obtain⟨_,⟨hv,rfl⟩|⟨g,cap,rest,hv,_,_,h3,_⟩⟩:=h
  · exact Nat.zero_le _
  injection hv with e1 e2 e3
  omega
section
variable {P:Program} {w0 w:World} {m:List Ent} {ix:Nat} {a:Act} {Q:Exit->Act->World->Prop} {rest:List Oper} {op:Oper} {ops:Array Oper}
theorem mv_stElem {α:Type}{f:α->List Value}(hw:Region.wanted op (yielded ops a.tmps)=true)(ty:TypeId)(x y:Operand)(ho:op.op= .store ty x y){g n cap size:Nat}{t:TypeId}{es:List α}(hH:Hp w0 w m)(hi:m[ix]?=some (.row t size (.slice (some ⟨g,0,none⟩) n cap) n (es.flatMap f)))
  (hc:∀x,(f x).length=size)(k:Nat)(z:α)(hk:k<es.length)(vs:List Value)(hf:f z=vs)(o:Nat)(hko:o=k*size)(hx:a.eval x= .pointer (some ⟨g,o,none⟩))(hy:a.eval y= .agg vs.toArray)(hz:(P.info? ty).map (·.size)=some vs.length)(h1:∀v,v∈vs->v.oneCell'=true)(hn:NoUL vs)
  (h:∀w',Hp w0 w' (m.set ix (.row t size (.slice (some ⟨g,0,none⟩) n cap) n ((es.set k z).flatMap f)))->Dig w w'->Own g w w'->wpList P ops Q rest (a.put op.dst undef) w'):wpList P ops Q (op::rest) a w:=by
 subst hf;subst hko;refine mv_stRow hw ty x y ho hH hi (k*size) (f z) hx hy ?_ hz h1 hn (fun w' h2 h3 h4=>h w' ?_ h3 h4)
 ·rw[flat_length hc,hc]
  calc k*size+size=(k+1)*size:=by rw[Nat.add_mul];omega
   _<=es.length*size:=Nat.mul_le_mul_right _ hk
 rw[flat_set hc es k hk z]at h2;exact h2
end
theorem flat_part {α:Type}{f:α->List Value}{c:Nat}(hc:∀x,(f x).length=c)(es:List α)(k:Nat)(e z:α)(hk:es[k]?=some e)(p:Nat)(vs:List Value)(hp:p+vs.length<=c)(hf:f z=(f e).take p++vs++(f e).drop (p+vs.length)):
  (es.flatMap f).take (k*c+p)++vs++(es.flatMap f).drop (k*c+p+vs.length)=(es.set k z).flatMap f:=by
 obtain⟨hl,rfl⟩:=List.getElem?_eq_some_iff.1 hk;have e1:es.flatMap f=(es.take k).flatMap f++(f es[k]++(es.drop (k+1)).flatMap f):=by
  conv=>lhs;rw[<-List.take_append_drop k es,List.drop_eq_getElem_cons hl]
  rw[List.flatMap_append,List.flatMap_cons]
 have hlen:((es.take k).flatMap f).length=k*c:=by rw[flat_length hc,List.length_take,Nat.min_eq_left (Nat.le_of_lt hl)]
 have hfl:=hc es[k];rw[List.set_eq_take_append_cons_drop,if_pos hl,List.flatMap_append,List.flatMap_cons,e1,hf];have t1:List.take (k*c+p) ((es.take k).flatMap f++(f es[k]++(es.drop (k+1)).flatMap f))=(es.take k).flatMap f++(f es[k]).take p:=by
  rw[List.take_append,hlen,List.take_of_length_le (by omega),show k*c+p-k*c=p by omega,List.take_append,show p-(f es[k]).length=0 by omega,List.take_zero,List.append_nil]
 have t2:List.drop (k*c+p+vs.length) ((es.take k).flatMap f++(f es[k]++(es.drop (k+1)).flatMap f))=(f es[k]).drop (p+vs.length)++(es.drop (k+1)).flatMap f:=by
  rw[List.drop_append,hlen,List.drop_of_length_le (by omega),show k*c+p+vs.length-k*c=p+vs.length by omega,List.drop_append,show p+vs.length-(f es[k]).length=0 by omega,List.drop_zero,List.nil_append]
 rw[t1,t2];simp[List.append_assoc]
end
end Go.Proofs.YtdkfmkeaaeooeaaGreat
