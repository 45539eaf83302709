import Derived.Test.YtlipfipniibpoaaGreatM7
set_option maxRecDepth 100000
set_option maxHeartbeats 4000000
namespace Go.Proofs.YtlipfipniibpoaaGreat
open Go.RowKit
section
attribute [local go_sem ↓] Go.wp_at_zero Go.wp_at_succ Aj Ai
theorem cM (A:Option Addr)(cap:Nat)(rs:List Av)(w:World)(hu:Cu w (.slice A rs.length cap) rs)(hn:rs.length<=1048576)(hr:∀r,r∈rs->r.length<=1048576)(ho:Ge rs=true)(h0:rs.flatten=[]):
    Calls Tryz.prog 95 #[.slice A rs.length cap] w fun e w'=>e= .returned (.tuple #[.agg #[iV 0,iV 0],.agg #[iV 0,iV 0],.bool false])/\Aa w w':=
  (Uc A cap rs w hu hn hr ho).mono fun _ _ h=>⟨h.1.elim (fun k=>k.2) (fun k=>absurd h0 k.1),h.2⟩
theorem cL (A:Option Addr)(cap:Nat)(rs:List Av)(w:World)(hu:Cu w (.slice A rs.length cap) rs)(hn:rs.length<=1048576)(hr:∀r,r∈rs->r.length<=1048576)(ho:Ge rs=true)(h0:rs.flatten≠ []):
    Calls Tryz.prog 95 #[.slice A rs.length cap] w fun e w'=>e= .returned (.tuple #[.agg #[iV (Fh rs).1.1,iV (Fh rs).1.2],.agg #[iV (Fh rs).2.1,iV (Fh rs).2.2],.bool true])/\Aa w w':=
  (Uc A cap rs w hu hn hr ho).mono fun _ _ h=>⟨h.1.elim (fun k=>absurd k.1 h0) (fun k=>k.2),h.2⟩
theorem wV {rs:List Av}(h:Ge rs=true)(hne:rs.flatten≠ []):Du (Fh rs).1/\Du (Fh rs).2:=by
  have A0:∀q,q∈rs.flatten->Du q:=fun q hq=>by
    obtain⟨r,hr,hq⟩:=List.mem_flatten.1 hq;exact Oe h hr hq
  refine wW (p:=rs.flatten.headD (0,0)) (l:=rs.flatten) ?_ A0 rfl;cases e:rs.flatten with
  |nil=>exact absurd e hne
  |cons p l=>exact A0 p (by rw[e];simp)
theorem eP {P:Program}{o:Oper}{ρ:Operand->Value}{w:World}{A:Int}{t t':TypeId}{x y:Operand}(ho:o.op= .binOp .shr t x y t')(hx:ρ x= iV A)(hy:ρ y= .int .u64 8):(execOp ρ o).run P w= .ok (.value (iV (A/256))) w:=by
  unfold execOp;simp only[ho,hx,hy];simp[go_sem]
def Uk (rs:List Av):R4:=⟨(Fh rs).1.1/256,(Fh rs).1.2/256,((Fh rs).2.1+255)/256,((Fh rs).2.2+255)/256⟩
def Kl (rs:List Av):R4:=if rs.flatten=[]then R4.zero else if (Uk rs).x1<=(Uk rs).x0 then R4.zero else if (Uk rs).y1<=(Uk rs).y0 then R4.zero else Uk rs
theorem aN (n:Int)(w:World)(h: -1048576<=n/\n<=1048576):Calls Tryz.prog 96 #[iV n] w fun e w'=>e= .returned (iV ((n+255)/256))/\Aa w w':=by
 have ha:=h.1;have hb:=h.2;go_enter Tryz.func96,Tryz.ntmps96
 have H0:=zH (Hp.start w);go_upto_region 0 with fail
 refine wl ?_;refine zq (iV 0) ?_;go_upto_region 1 with fail
 refine wl ?_;refine zq (iV n) ?_;refine zp (iV (n+256)) (by exact Hm (by omega)) ?_;refine zp (iV (n+255)) (by exact oZ rR rR rR (by omega) (by omega) (by omega)) ?_;refine zp (iV ((n+255)/256)) (by exact eP rR rR rR) ?_;refine zq (iV ((n+255)/256)) ?_;go_wp2_with fail
 go_ret
 exact⟨rfl,H0.1.ext⟩
theorem aM (A:Option Addr)(cap:Nat)(rs:List Av)(w:World)(hu:Cu w (.slice A rs.length cap) rs)(hn:rs.length<=1048576)(hr:∀r,r∈rs->r.length<=1048576)(ho:Ge rs=true):
  Calls Tryz.prog 55 #[.slice A rs.length cap] w fun e w'=>e= .returned (.agg #[iV (Kl rs).x0,iV (Kl rs).y0,iV (Kl rs).x1,iV (Kl rs).y1])/\Aa w w':=by
 have HU:=zH hu;have HN:=zH hn;have B1:=zH hr;clear hu hr;have HV:=zH ho;clear ho;go_enter Tryz.func55,Tryz.ntmps55
 have H0:=zH (Hp.start w);go_upto_region 0 with fail
 refine wl ?_;refine Cm 35 [iV 0,iV 0,iV 0,iV 0] H0.1 ?_;intro X7 w8 H9 _;rcases Co (rs.flatten=[])with HE|HE
 ·go_upto_region 1 with fail
  refine wl ?_;refine Cs Ac _ ?_;refine aC H9.1 (cM A cap rs _ (HU.1.ext H9.1.ext) HN.1 B1.1 HV.1 HE.1) ?_;intro E7 D3 _;refine Ej Ac _ _ _ (.bool false) ?_;refine Cm 52 [iV 0,iV 0] D3.1 ?_;intro F3 E6 D2 _;refine Cm 52 [iV 0,iV 0] D2.1 ?_;intro F2 E5 D1 _;refine Cy 1 [iV 0,iV 0] D1.1 ?_;intro E4 D0 _;refine Cy 2 [iV 0,iV 0] D0.1 ?_;intro E3 C9 _;refine zq (.bool false) ?_;go_upto_region 2 with fail
  refine wl ?_;refine Bq Ac (.bool false) (.bool true) ?_;go_upto_region 3 with fail
  refine wl ?_;refine Cs Ac _ ?_;refine Cy 0 [iV 0,iV 0,iV 0,iV 0] C9.1 ?_;intro E2 B3 _;have HR:=zH (show Kl rs=R4.zero from if_pos HE.1);go_wp2_with fail
  refine bodyPost_ret (v:= .agg #[iV R4.zero.x0,iV R4.zero.y0,iV R4.zero.x1,iV R4.zero.y1]) ?_ rfl ⟨by rw[HR.1],B3.1.ext⟩;exact An rfl rfl ((B3.1.blk (i:=0) rR).loadVar rfl rfl rR)
 go_upto_region 1 with fail
 refine wl ?_;refine Cs Ac _ ?_;refine aC H9.1 (cL A cap rs _ (HU.1.ext H9.1.ext) HN.1 B1.1 HV.1 HE.1) ?_;intro E1 C8 _;refine Ej Ac _ _ _ (.bool true) ?_;refine Cm 52 [iV 0,iV 0] C8.1 ?_;intro F1 E0 C7 _;refine Cm 52 [iV 0,iV 0] C7.1 ?_;intro F0 D9 C6 _;refine Cy 1 [iV ((Fh rs).1.1),iV ((Fh rs).1.2)] C6.1 ?_;intro D8 C5 _;refine Cy 2 [iV ((Fh rs).2.1),iV ((Fh rs).2.2)] C5.1 ?_;intro A5 A6 _;refine zq (.bool true) ?_;go_upto_region 2 with fail
 refine wl ?_;refine qV (.bool true) ?_;refine zq (.bool false) ?_;go_upto_region 4 with fail
 refine wl ?_;refine Cs Ac _ ?_;have hb:=wV HV.1 HE.1;have E9:=Bi hb.1;have E8:=Bi hb.2;go_upto_region 5 with fail
 refine zy ?_;have A9:=zH (A6.1.step (Aa.refl A5).drew);refine Ra A6.1 zb (bs 17 3) 0 1 _ _ ?_;refine zu 2 (bs 17 7) (v:= iV (((Fh rs).1.1)/256)) zb ?_ (hv:=by intro w B9;exact eP rR rR rR);refine Ra A6.1 zb (bs 17 31) 3 4 _ _ ?_;refine zu 5 (bs 17 63) (v:= iV (((Fh rs).1.2)/256)) zb ?_ (hv:=by intro w B9;exact eP rR rR rR);refine qP A6.1 zb (bs 17 7679) 6 7 8 10 11 12 _ _ _ _ _ _ ?_;refine gG 15 (some 7) 35 [iV 0,iV 0,iV 0,iV 0] A5 A9.1 ?_;refine gL 9 (bs 17 40447) (bs 17 8191) zb.size A9.1 zb (fun xq A1=>aN ((Fh rs).2.1) _ ⟨by omega,by omega⟩) (by rintro x_ e B4 ⟨rfl,hx⟩;exact hx) ?_;rintro xq e D7 A1 ⟨rfl,hx⟩;replace hx:=A1.trans hx;clear A1;have B2:=zH (A9.1.step hx);have A8:=zH (zb.trans hx);clear hx;refine⟨_,rfl,?_⟩;try simp only[Act.put,zA,zB,zC]
 refine gL 13 (bs 17 40959) (bs 17 16383) A8.1.size B2.1 A8.1 (fun xq A1=>aN ((Fh rs).2.2) _ ⟨by omega,by omega⟩) (by rintro x_ e B4 ⟨rfl,hx⟩;exact hx) ?_;rintro xq e D6 A1 ⟨rfl,hx⟩;replace hx:=A1.trans hx;clear A1;have C4:=zH (B2.1.step hx);have A7:=zH (A8.1.trans hx);clear hx;refine⟨_,rfl,?_⟩;try simp only[Act.put,zA,zB,zC]
 refine gK 14 (bs 17 49151) (bs 17 32767) (.agg #[iV (((Fh rs).1.1)/256),iV (((Fh rs).1.2)/256),iV (((Fh rs).2.1+255)/256),iV (((Fh rs).2.2+255)/256)]) A7.1 ?_;refine gE (bs 17 65535) A7.1.size C4.1 A7.1 ?_;intro C0 B5 hx hh hs B0;have C3:=hN hh;have C1:=zH (show Aa A5 B5 from hs);have D4:=zH (show A5.heap.size<=C0 from B0);clear hh hx B0 hs;try simp only[Act.put,zA,zB,zC]
 refine bS 3 16 (bs 17 131071) [iV (((Fh rs).1.1)/256),iV (((Fh rs).1.2)/256),iV (((Fh rs).2.1+255)/256),iV (((Fh rs).2.2+255)/256)] C3.1 C1.1 D4.1 ?_;intro D5 A0 _ C2;refine wpAnyH_done kR ?_ _;rcases Co ((Uk rs).x1<=(Uk rs).x0)with H1|H1
 ·go_upto_region 6 with fail
  refine wl ?_;refine Ej A0.1 _ _ _ _ ?_;refine zp (.bool true) (by exact Jm (e:=(Ae H1.1))) ?_;refine fF Ac (.bool true) _ _ _ _ _ (.bool true) ?_;go_upto_region 7 with fail
  refine wl ?_;refine Cs Ac _ ?_;refine Cy 0 [iV 0,iV 0,iV 0,iV 0] A0.1 ?_;intro B8 A4 _;have HR:=zH (show Kl rs=R4.zero from(if_neg HE.1).trans (if_pos H1.1));go_wp2_with fail
  refine bodyPost_ret (v:= .agg #[iV R4.zero.x0,iV R4.zero.y0,iV R4.zero.x1,iV R4.zero.y1]) ?_ rfl ⟨by rw[HR.1],A4.1.ext⟩;exact An rfl rfl ((A4.1.blk (i:=0) rR).loadVar rfl rfl rR)
 rcases Co ((Uk rs).y1<=(Uk rs).y0)with H2|H2
 ·go_upto_region 6 with fail
  refine wl ?_;refine Ej A0.1 _ _ _ _ ?_;refine zp (.bool false) (by exact Jm (e:=(Ah H1.1))) ?_;refine Kf A0.1 (.bool false) _ _ _ _ ?_;refine zp (.bool true) (by exact Jm (e:=(Ae H2.1))) ?_;refine zq (.bool true) ?_;go_upto_region 7 with fail
  refine wl ?_;refine Cs Ac _ ?_;refine Cy 0 [iV 0,iV 0,iV 0,iV 0] A0.1 ?_;intro B7 A3 _;have HR:=zH (show Kl rs=R4.zero from(if_neg HE.1).trans ((if_neg H1.1).trans (if_pos H2.1)));go_wp2_with fail
  refine bodyPost_ret (v:= .agg #[iV R4.zero.x0,iV R4.zero.y0,iV R4.zero.x1,iV R4.zero.y1]) ?_ rfl ⟨by rw[HR.1],A3.1.ext⟩;exact An rfl rfl ((A3.1.blk (i:=0) rR).loadVar rfl rfl rR)
 go_upto_region 6 with fail
 refine wl ?_;refine Ej A0.1 _ _ _ _ ?_;refine zp (.bool false) (by exact Jm (e:=(Ah H1.1))) ?_;refine Kf A0.1 (.bool false) _ _ _ _ ?_;refine zp (.bool false) (by exact Jm (e:=(Ah H2.1))) ?_;refine zq (.bool false) ?_;go_upto_region 8 with fail
 refine wl ?_;refine Cs A0.1 _ ?_;refine Cy 0 [iV (((Fh rs).1.1)/256),iV (((Fh rs).1.2)/256),iV (((Fh rs).2.1+255)/256),iV (((Fh rs).2.2+255)/256)] A0.1 ?_;intro B6 A2 _;have HR:=zH (show Kl rs=Uk rs from(if_neg HE.1).trans ((if_neg H1.1).trans (if_neg H2.1)));go_wp2_with fail
 refine bodyPost_ret (v:= .agg #[iV (Uk rs).x0,iV (Uk rs).y0,iV (Uk rs).x1,iV (Uk rs).y1]) ?_ rfl ⟨by rw[HR.1],A2.1.ext⟩;exact An rfl rfl ((A2.1.blk (i:=0) rR).loadVar rfl rfl rR)
def Fo (rule:Int)(rs:List Av)(x y:Int):Int:=if (Gp rule (Bg x y) (Jj x y) rs)=0 then Ls (If rule (Bg x y) (Jj x y) rs/((65536:Int):Rat))else 0
theorem Kr (A:Option Addr)(cap:Nat)(rs:List Av)(rule x y:Int)(w:World)(hu:Cu w (.slice A rs.length cap) rs)(hn:rs.length<=1048576)(hr:∀r,r∈rs->r.length<=1048576)(hs:Ge rs=true->Gm rs<=16)(hru: -9223372036854775808<=rule/\rule<=9223372036854775807):
  Calls Tryz.prog 22 #[.slice A rs.length cap,iV rule,iV x,iV y] w fun e w'=>e= .returned (.int .u8 (Fo rule rs x y))/\Aa w w':=by
 have HU:=zH hu;have HN:=zH hn;have A5:=zH hr;clear hu hr;have A0:=zH hs;have A4:=zH hru;clear hs hru;go_enter Tryz.func22,Tryz.ntmps22
 have H0:=zH (Hp.start w);go_upto_region 0 with fail
 refine wl ?_;refine zq (.int .u8 0) ?_;rcases Co ((Gp rule (Bg x y) (Jj x y) rs)=0)with HE0|HE0
 ·go_upto_region 1 with fail
  refine wl ?_;refine Ej Ac _ (iV rule) (iV x) (iV y) ?_;refine zc ((Vp A cap rs rule x y _ (HU.1.ext H0.1.ext) HN.1 A5.1 A0.1 A4.1).mono (fun _ _ h_=>Uf.ok h_ HE0.1)) ?_;rintro e w7 ⟨r8,rfl,A3,A2,hx⟩;have H9:=zH (H0.1.step hx);have R8:=zH A3;have B8:=zH A2;clear A3 A2 hx;refine zn ?_;refine Dh Ac _ _ _ ?_;refine Cm 26 rz H9.1 ?_;intro C2 C0 B1 B3;refine Cy 0 (rc r8) B1.1 ?_;intro B9 A6 B2;refine zq (iV 0) ?_;go_upto_region 2 with fail
  refine wl ?_;refine zq (iV 0) ?_;refine zp (.bool false) (by exact Jn (e:=(Ah (by omega)))) ?_;go_upto_region 4 with fail
  refine wl ?_;refine Cs A6.1 _ ?_;have A1:=tD B3 B2;refine aC A6.1 (Kp r8 (If rule (Bg x y) (Jj x y) rs/((65536:Int):Rat)) _ ((R8.1.dig A1.1).isIn (Ar B8.1 (by omega)))) ?_;intro B7 B0 _;refine zq (.int .u8 (Ls (If rule (Bg x y) (Jj x y) rs/((65536:Int):Rat)))) ?_;go_wp2_with fail
  go_ret
  exact⟨by rw[show Fo rule rs x y=Ls (If rule (Bg x y) (Jj x y) rs/((65536:Int):Rat))from if_pos HE0.1]<;>rfl,B0.1.ext⟩
 go_upto_region 1 with fail
 refine wl ?_;refine Ej Ac _ (iV rule) (iV x) (iV y) ?_;refine aC H0.1 ((Vp A cap rs rule x y _ (HU.1.ext H0.1.ext) HN.1 A5.1 A0.1 A4.1).mono (fun _ _ h_=>Uf.bad h_ HE0.1)) ?_;intro B6 A9 _;refine Dh Ac _ _ (iV (Gp rule (Bg x y) (Jj x y) rs)) ?_;refine Cm 26 rz A9.1 ?_;intro C1 B5 A8 _;refine Cy 0 rz A8.1 ?_;intro B4 A7 _;refine zq (iV (Gp rule (Bg x y) (Jj x y) rs)) ?_;go_upto_region 2 with fail
 refine wl ?_;refine zq (iV (Gp rule (Bg x y) (Jj x y) rs)) ?_;refine zp (.bool true) (by exact Jn (e:=(Ae HE0.1))) ?_;go_upto_region 3 with fail
 refine wl ?_;refine zq (.int .u8 0) ?_;go_wp2_with fail
 go_ret
 exact⟨by rw[show Fo rule rs x y=0 from if_neg HE0.1]<;>rfl,A7.1.ext⟩
end
section
theorem Hp.swap {w0 w:World}{m:List Dc}{a b:Dc}(h:Hp w0 w (m++[a]++[b])):Hp w0 w (m++[b]++[a]):=by
 have hm:Hp w0 w m:=by have h1:=h.take m.length;simpa using h1
 have ia:(m++[a]++[b])[m.length]?=some a:=by simp
 have ib:(m++[a]++[b])[m.length+1]?=some b:=by simp
 have im:∀i f,m[i]?=some f->i<m.length/\(m++[a]++[b])[i]?=some f:=fun i f hf=>by
  have hl:=(List.getElem?_eq_some_iff.1 hf).1;exact⟨hl,by rw[List.append_assoc,List.getElem?_append_left hl];exact hf⟩
 have h1:Hp w0 w (m++[b]):=hm.add (h.all _ b ib) (fun i f hf=>h.apart i _ f b (im i f hf).2 ib (by have:=(im i f hf).1;omega));refine h1.add (h.all _ a ia) (fun i f hf=> ?_);rcases Nat.lt_or_ge i m.length with hl|hl
 ·rw[List.getElem?_append_left hl]at hf
  exact h.apart i _ f a (im i f hf).2 ia (by omega)
 rw[List.getElem?_append_right hl]at hf;rcases Nat.eq_zero_or_pos (i-m.length)with h0|h0
 ·rw[h0]at hf
  simp at hf;subst hf;exact h.apart _ _ b a ib ia (by omega)
 rw[List.getElem?_eq_none (by simp;omega)]at hf;cases hf
section
variable {P:Program} {l:List Oper} {Q:Exit->Act->World->Prop} {md:Region.Mode} {S:World->Prop} {j i:Nat} {dj:Option Tmp} {T:TypeId} {zs:List Value} {b w0:World} {m:List Dc} {fuel:Nat} {listed li lj:Array Bool} {a:Act} {w:World} {oi oj:Oper}
theorem xN {Φ:World->Value->World->Prop}(E:World->Value->World->Dc)(hi:l[i]?=some oi)(hj:l[j]?=some oj)(hs:Region.noSelect l.toArray=true)(hlj:listed.setIfInBounds j true=lj)
  (hr:((Region.ready md l.toArray listed).all fun k=>k==i||k==j)=true)(hne:(Region.ready md l.toArray listed).isEmpty=false)(hr2:Region.ready md l.toArray lj=[i])(hij:i≠j)(hoff:Fx l oi dj=true)(hdj:oj.dst=dj)(hgj:oj.guard=none)
  (hvj:∀(ρ:Operand->Value) (x:World),(execOp ρ oj).run P x= .ok (.value (.pointer (some ⟨x.heap.size,0,none⟩))) (x.alloc (.cells zs.toArray T)))
  (hSx:∀x y,S x->Aa x y->S y)(hb:b.heap.size<=w.heap.size)(hH:Hp w0 w m)(hn:At zs)(hSw:S w)
  (hw:Region.wanted oi (yielded l.toArray a.tmps)=true)(hl:listed.setIfInBounds i true=li)
  (hc:∀x,Aa w x->∃v x',(execOp a.eval oi).run P x= .ok (.value v) x'/\Φ x v x'/\Aa x x')
  (ha:∀x v x' m1,Φ x v x'->Aa x x'->Hp w0 x m1->Hp w0 x' (m1++[E x v x']))
  (h:∀x v x',Aa w x->Φ x v x'->Aa x x'->Hp w0 x' (m++[E x v x'])->Fl P md l Q S j dj T zs b w0 (m++[E x v x']) fuel li (a.put oi.dst v) x'):Fl P md l Q S j dj T zs b w0 m (fuel+1) listed a w:=by
 obtain⟨o1,o2⟩:=Eu hoff;have A0:=fun cs b=>Region.noSelect_spec hs i oi cs b (by rw[List.getElem?_toArray];exact hi)
 have done:∀X y,Aa w y->Hp w0 y (m++[.blk X T zs])->S y->b.heap.size<=X->wpAnyH P md l.toArray Q S (fuel+1) (listed.setIfInBounds j true) (a.put dj (.pointer (some ⟨X,0,none⟩))) y:=by
  intro X y x A3 A2 hX;rw[hlj];obtain⟨v,y',h1,h2,h3⟩:=hc y x;refine Lj hi hr2 (by rw[wanted_put oi a dj _ o1];exact hw) (by rw[execOp_put oi A0 a dj _ o1];exact h1) (hSx _ _ A2 h3) rfl ?_;have h4:=(h y v y' x h2 h3 (ha y v y' m h2 h3 (hH.step x))).2 X y' Al (ha y v y' _ h2 h3 A3).swap (hSx _ _ A2 h3) hX;rw[Act.put_comm a v _ (fun d e=>fun e2=>(o2 d e2) e)]at h4;rw[<-hlj,Array.setIfInBounds_comm _ _ (Ne.symm hij),hl];exact h4
 refine⟨?_,done⟩;have x1:Aa w (w.alloc (.cells zs.toArray T)):=(Aa.refl w).alloc _;refine wpAnyH_ready rfl (fun e=>by rw[e]at hne;cases hne) (fun k hk=> ?_);have A1:=List.all_eq_true.1 hr k hk;simp only[Bool.or_eq_true,beq_iff_eq]at A1;rcases A1 with rfl|rfl
 ·refine wpOp_step (by rw[List.getElem?_toArray];exact hi) (fun K' hK=> ?_)
  rw[if_pos hw];obtain⟨v,x',h1,h2,h3⟩:=hc w (Aa.refl w);unfold Oper.wp;rw[h1];refine hK _ _ ⟨hSx _ _ hSw h3,?_⟩;rw[hl];exact(h w v x' (Aa.refl w) h2 h3 (ha w v x' m h2 h3 hH)).1
 refine wpOp_step (by rw[List.getElem?_toArray];exact hj) (fun K' hK=> ?_);rw[if_pos (by simp[Region.wanted,hgj])];unfold Oper.wp;rw[hvj];refine hK _ _ ⟨hSx _ _ hSw x1,?_⟩;rw[hdj];exact done _ _ x1 (hH.alloc T zs hn) (hSx _ _ hSw x1) hb
end
section
variable {P:Program} {l:List Oper} {Q:Exit->Act->World->Prop} {md:Region.Mode} {S:World->Prop} {i ix fuel:Nat} {listed listed':Array Bool} {a:Act} {w w0:World} {m:List Dc} {oi:Oper}
theorem eG {α:Type}{f:α->List Value}(hli:l[i]?=some oi)(hr:Region.ready md l.toArray listed=[i])(hw:Region.wanted oi (yielded l.toArray a.tmps)=true)(hlt:listed.setIfInBounds i true=listed')(ty:TypeId)(x y:Operand)(ho:oi.op= .store ty x y){g n cap:Nat}{t:TypeId}{es:List α}(hH:Hp w0 w m)(hi:m[ix]?=some (.row t 1 (.slice (some ⟨g,0,none⟩) n cap) n (es.flatMap f)))
  (hc:∀x,(f x).length=1)(k:Nat)(z:α)(hk:k<es.length)(v:Value)(hf:f z=[v])(o:Nat)(hko:o=k*1)(hx:a.eval x= .pointer (some ⟨g,o,none⟩))(hy:a.eval y=v)(hz:(P.info? ty).map (·.size)=some 1)(hcc:v.cells=#[v])(h1:v.oneCell'=true)(hn:At [v])
  (h:∀w',Hp w0 w' (m.set ix (.row t 1 (.slice (some ⟨g,0,none⟩) n cap) n ((es.set k z).flatMap f)))->Af w w'->Ba g w w'->S w'/\wpAnyH P md l.toArray Q S fuel listed' (a.put oi.dst undef) w'):wpAnyH P md l.toArray Q S (fuel+1) listed a w:=by
 subst hko;have hl:k*1+1<=(es.flatMap f).length:=by rw[Dj hc];omega
 refine Do hli hr (fun K hK=> ?_);rw[if_pos hw];refine Jh ty x y ho g (k*1) v hx hy ((hH.row hi).there (k*1) 1 hl) hz hcc h1 ?_;have h2:=hH.storeRow hi (k*1) [v] hl hn;have h5:=bM hc es k hk z;rw[hf]at h5;obtain⟨k1,k2⟩:=h _ (by rw[<-h5];exact h2) (hH.storeRowDig hi (k*1) [v]) (Dd w g (k*1) [v]);exact hK.out _ _ k1 (fun _=>by rw[hlt];exact k2)
end
theorem Oq {P:Program}{o:Oper}{ρ:Operand->Value}{w:World}{A B:Int}{b:Bool}{t t':TypeId}{x y:Operand}(ho:o.op= .binOp .neq t x y t')(hx:ρ x= .int .u8 A)(hy:ρ y= .int .u8 B)(hE:decide (A≠B)=b):(execOp ρ o).run P w= .ok (.value (.bool b)) w:=by
  subst hE;unfold execOp;simp only[ho,hx,hy];simp[go_sem];by_cases h:A=B<;>simp[h]
theorem gU {P:Program}{o:Oper}{ρ:Operand->Value}{w:World}{A B:Int}{b:Bool}{t t':TypeId}{x y:Operand}(ho:o.op= .binOp .eql t x y t')(hx:ρ x= .int .u8 A)(hy:ρ y= .int .u8 B)(hE:decide (A=B)=b):(execOp ρ o).run P w= .ok (.value (.bool b)) w:=by
  subst hE;unfold execOp;simp only[ho,hx,hy];simp[go_sem];by_cases h:A=B<;>simp[h]
theorem aAC {P:Program}{o:Oper}{ρ:Operand->Value}{p:Addr}{v:Value}(h:∀x:World,x.cell? p=some v->(execOp ρ o).run P x= .ok (.value v) x)(w:World)(hc:w.cell? p=some v):(execOp ρ o).run P w= .ok (.value v) w:=h w hc
section
variable {P:Program} {l:List Oper} {Q:Exit->Act->World->Prop} {md:Region.Mode} {S:World->Prop} {j i:Nat} {dj:Option Tmp} {u v:Value} {b:World} {fuel:Nat} {listed li lj:Array Bool} {a:Act} {w w':World} {oi oj:Oper}
theorem xO (hi:l[i]?=some oi)(hj:l[j]?=some oj)(hs:Region.noSelect l.toArray=true)(hlj:listed.setIfInBounds j true=lj)
  (hr:((Region.ready md l.toArray listed).all fun k=>k==i||k==j)=true)(hne:(Region.ready md l.toArray listed).isEmpty=false)(hr2:Region.ready md l.toArray lj=[i])(hij:i≠j)(hoff:Fx l oi dj=true)(hdj:oj.dst=dj)(hgj:oj.guard=none)
  (hSx:∀x,Aa b x->S x)(hb:Aa b w)(hvj:∀x,Aa b x->(execOp a.eval oj).run P x= .ok (.value u) x)
  (hw:Region.wanted oi (yielded l.toArray a.tmps)=true)(hv:(execOp a.eval oi).run P w= .ok (.value v) w')(hx:Aa w w')(hl:listed.setIfInBounds i true=li)
  (h:Fd P md l Q S j dj u fuel li (a.put oi.dst v) w'):Fd P md l Q S j dj u (fuel+1) listed a w:=by
 obtain⟨o1,o2⟩:=Eu hoff;have A0:=fun cs b=>Region.noSelect_spec hs i oi cs b (by rw[List.getElem?_toArray];exact hi)
 have done:wpAnyH P md l.toArray Q S (fuel+1) (listed.setIfInBounds j true) (a.put dj u) w:=by
  rw[hlj];refine Lj hi hr2 (by rw[wanted_put oi a dj _ o1];exact hw) (by rw[execOp_put oi A0 a dj _ o1];exact hv) (hSx _ (hb.trans hx)) rfl ?_;have h3:=h.2;rw[Act.put_comm a v _ (fun d e=>fun e2=>(o2 d e2) e)]at h3;rw[<-hlj,Array.setIfInBounds_comm _ _ (Ne.symm hij),hl];exact h3
 refine⟨?_,done⟩;refine wpAnyH_ready rfl (fun e=>by rw[e]at hne;cases hne) (fun k hk=> ?_);have A1:=List.all_eq_true.1 hr k hk;simp only[Bool.or_eq_true,beq_iff_eq]at A1;rcases A1 with rfl|rfl
 ·refine wpOp_step (by rw[List.getElem?_toArray];exact hi) (fun K' hK=> ?_)
  rw[if_pos hw];unfold Oper.wp;rw[hv];refine hK _ _ ⟨hSx _ (hb.trans hx),?_⟩;rw[hl];exact h.1
 refine wpOp_step (by rw[List.getElem?_toArray];exact hj) (fun K' hK=> ?_);rw[if_pos (by simp[Region.wanted,hgj])];unfold Oper.wp;rw[hvj w hb];refine hK _ _ ⟨hSx _ hb,?_⟩;rw[hdj];exact done
end
theorem yX:Yz Tryz.prog 40 5 1 1:=Yz.of (z:= .int .u8 0) Tryz.underlying40 (by kernel_rfl) rfl (by simp[At,Value.cells]) (by decide)
theorem vX:(Tryz.prog.info? 5).map (fun i=>(i.zero,i.size,i.bytes))=some (some (.int .u8 0),1,1):=by kernel_rfl
def Ay (x:Int):List Value:=[.int .u8 x]
theorem Gl:∀x,(Ay x).length=1:=fun _=>rfl
theorem gT (n:Nat):List.flatMap Ay (List.replicate n 0)=List.replicate n (Value.int .u8 0):=by
  induction n with
  |zero=>rfl
  |succ n ih=>rw[List.replicate_succ,List.flatMap_cons,ih,List.replicate_succ];rfl
theorem vW (n:Nat):madeCells #[Value.int .u8 0] n=(List.flatMap Ay (List.replicate n 0)).toArray:=by
  rw[gT];apply Array.ext
  · rw[size_madeCells];simp
  intro i h1 h2;simp[madeCells,Nat.mod_one]
theorem xK (n:Nat)(hn:n<=4000000)(w:World):
    (Instr.makeSlice 40 (iV (n:Int)) (iV (n:Int))).run Tryz.prog w= .ok (.slice (some ⟨w.heap.size,0,none⟩) n n) (w.alloc (.cells (List.flatMap Ay (List.replicate n 0)).toArray 5)):=by
  rw[<-vW];exact run_make_row' 40 5 (.int .u8 0) 1 Tryz.underlying40 vX rfl .i64 .i64 n (by omega) (by omega) w
theorem tM {o:Oper}{ρ:Operand->Value}{w:World}{n:Nat}{x y:Operand}(ho:o.op= .makeSlice 40 x y)(hx:ρ x= iV (n:Int))(hy:ρ y= iV (n:Int))(hn:n<=4000000):
    (execOp ρ o).run Tryz.prog w= .ok (.value (.slice (some ⟨w.heap.size,0,none⟩) n n)) (w.alloc (.cells (List.flatMap Ay (List.replicate n 0)).toArray 5)):=by
  have h:=xK n hn w;unfold execOp;simp only[ho,hx,hy];simp[go_sem,h]
theorem Be.u8 (w:World)(n:Nat)(hn:n<=maxLen):Be (w.alloc (.cells (List.flatMap Ay (List.replicate n 0)).toArray 5)) w.heap.size 5 1 (.slice (some ⟨w.heap.size,0,none⟩) n n) n (List.flatMap Ay (List.replicate n 0)):=by
  rw[gT];refine⟨by simp,.inr ⟨w.heap.size,n,[],rfl,Cj _,by rw[List.append_nil];exact Ad.new w _ _,Cj _,hn,by simp,?_⟩⟩;intro x hx;rw[List.append_nil]at hx;rw[List.eq_of_mem_replicate hx];intro k h;cases h
end
section
theorem lM {a b:Int×Int}(h:a.2≠b.2)(y:Rat):Fi a.1 a.2 b.1 b.2 y=(a.1:Rat)+(y-(a.2:Rat))*(((b.1:Rat)-a.1)/((b.2:Rat)-a.2)):=by
  unfold Fi;rw[Rat.div_def,Rat.div_def,Rat.intCast_sub,Rat.intCast_sub,show((1:Int):Rat)=1 from rfl];grind
theorem fH {p q:Int×Int}{f t y:Rat}(h:((p.2:Rat)<y/\y<(q.2:Rat))\/((q.2:Rat)<y/\y<(p.2:Rat)))(hp:f<=(p.1:Rat)/\(p.1:Rat)<=t)(hq:f<=(q.1:Rat)/\(q.1:Rat)<=t):f<=Fi p.1 p.2 q.1 q.2 y/\Fi p.1 p.2 q.1 q.2 y<=t:=by
 have ne:p.2≠q.2:=fun c=>by rw[c]at h;grind
 rw[lM ne];have h1:(q.2:Rat)-p.2≠0:=by grind
 have k1:=Rat.mul_inv_cancel _ h1;rw[Rat.div_def];obtain⟨s,hs⟩:∃s,s=(y-(p.2:Rat))*((q.2:Rat)-p.2)⁻¹:=⟨_,rfl⟩;have e1:s*((q.2:Rat)-p.2)=y-(p.2:Rat):=by rw[hs];generalize ((q.2:Rat)-p.2)⁻¹=i at*;grind
 have b1:0<=s:=by
  refine Rat.not_lt.1 (fun c=> ?_);rcases h with h|h
  ·have:=Rat.mul_lt_mul_of_pos_right c (show 0<(q.2:Rat)-p.2 by grind);grind
  have:=Rat.mul_lt_mul_of_pos_right c (show 0<(p.2:Rat)-q.2 by grind);grind
 have b2:s<=1:=by
  refine Rat.not_lt.1 (fun c=> ?_);have c':0<s-1:=by grind
  rcases h with h|h
  ·have:=Rat.mul_lt_mul_of_pos_right c' (show 0<(q.2:Rat)-p.2 by grind);grind
  have:=Rat.mul_lt_mul_of_pos_right c' (show 0<(p.2:Rat)-q.2 by grind);grind
 have e2:(p.1:Rat)+(y-(p.2:Rat))*(((q.1:Rat)-p.1)*((q.2:Rat)-p.2)⁻¹)=(1-s)*(p.1:Rat)+s*(q.1:Rat):=by rw[hs];grind
 rw[e2];have m1:=Rat.mul_nonneg b1 (show 0<=(q.1:Rat)-f by grind);have m2:=Rat.mul_nonneg (show 0<=1-s by grind) (show 0<=(p.1:Rat)-f by grind);have m3:=Rat.mul_nonneg b1 (show 0<=t-(q.1:Rat)by grind);have m4:=Rat.mul_nonneg (show 0<=1-s by grind) (show 0<=t-(p.1:Rat)by grind);grind
end
section
theorem gB {a b:Int}(h:(a:Rat)<(b:Rat)):a<b:=by exact_mod_cast h
theorem gJ {a b:Int}(h:a<=b):(a:Rat)<=(b:Rat):=by exact_mod_cast h
theorem qC {q:Int×Int}:∀{l:List (Int×Int)} {m:(Int×Int)×(Int×Int)},(q∈l\/(m.1.1<=q.1/\q.1<=m.2.1/\m.1.2<=q.2/\q.2<=m.2.2))->(l.foldl eD m).1.1<=q.1/\q.1<=(l.foldl eD m).2.1/\(l.foldl eD m).1.2<=q.2/\q.2<=(l.foldl eD m).2.2
  | [],m,h=>by rcases h with h|h;(cases h);exact h
  | p::l,m,h=>by
    refine qC (l:=l) (m:=eD m p) ?_;rcases h with h|h
    · rcases List.mem_cons.1 h with e|e
      · subst e;right;unfold eD;simp only;omega
      exact .inl e
    right;unfold eD;simp only;omega
theorem pZ {rs:List Av}{q:Int×Int}(h:q∈rs.flatten):(Fh rs).1.1<=q.1/\q.1<=(Fh rs).2.1/\(Fh rs).1.2<=q.2/\q.2<=(Fh rs).2.2:=qC (.inl h)
theorem Oj {y:Rat}{rs:List Av}{m:QI}(h:m∈Eo y rs):((Fh rs).1.2:Rat)<y/\y<((Fh rs).2.2:Rat)/\((Fh rs).1.1:Rat)<=m.1/\m.1<=((Fh rs).2.1:Rat):=by
 rw[Mw,Stb.mem_stab]at h;obtain⟨e,he,h⟩:=List.mem_filterMap.1 h;have A0:e∈Cd rs:=by
  unfold Dq at he;split at he
  ·exact he
  simp[Cd]at he
 obtain⟨r,hr,p1,p2⟩:=Qb A0;have b1:=pZ (List.mem_flatten.2 ⟨r,hr,p1⟩);have b2:=pZ (List.mem_flatten.2 ⟨r,hr,p2⟩);have c1:((Fh rs).1.1:Rat)<=(e.1.1:Rat):=by exact_mod_cast b1.1
 have c2:(e.1.1:Rat)<=((Fh rs).2.1:Rat):=by exact_mod_cast b1.2.1
 have c3:((Fh rs).1.2:Rat)<=(e.1.2:Rat):=by exact_mod_cast b1.2.2.1
 have c4:(e.1.2:Rat)<=((Fh rs).2.2:Rat):=by exact_mod_cast b1.2.2.2
 have d1:((Fh rs).1.1:Rat)<=(e.2.1:Rat):=by exact_mod_cast b2.1
 have d2:(e.2.1:Rat)<=((Fh rs).2.1:Rat):=by exact_mod_cast b2.2.1
 have d3:((Fh rs).1.2:Rat)<=(e.2.2:Rat):=by exact_mod_cast b2.2.2.1
 have d4:(e.2.2:Rat)<=((Fh rs).2.2:Rat):=by exact_mod_cast b2.2.2.2
 unfold Jl at h;split at h
 ·rename_i c
  have k:=fH (.inl c) ⟨c1,c2⟩ ⟨d1,d2⟩;injection h with h;rw[<-h]
  exact⟨by grind,by grind,k.1,k.2⟩
 split at h
 ·rename_i c
  have k:=fH (.inr c) ⟨c1,c2⟩ ⟨d1,d2⟩;injection h with h;rw[<-h]
  exact⟨by grind,by grind,k.1,k.2⟩
 cases h
theorem Tn {f t:Rat}:∀{l:List QQ},(∀p,p∈l->(p.1<=f/\p.2<=f)\/(t<=p.1/\t<=p.2)\/p.1=p.2)->Gn f t l=0
  | [],_=>rfl
  | p::l,h=>by
    have h1:Ie f t p=0:=by have:=h p List.mem_cons_self;unfold Ie;grind
    rw[Ga,h1,Tn fun q hq=>h q (List.mem_cons_of_mem _ hq)];grind
def R4.In (b:R4)(x y:Int):Prop:=(b.y0<=y/\y<b.y1)/\b.x0<=x/\x<b.x1
theorem qR {rule x y:Int}{rs:List Av}(h:¬(Kl rs).In x y){z:Rat}(z1:((y*256:Int):Rat)<z)(z2:z<((y*256+256:Int):Rat)){b:Int×Int}(hb:b.1=x*256+256){a:Int×Int}(ha:a.1=x*256):Ji rule a b rs z=0:=by
 unfold Ji;by_cases hm:∀m,m∉Eo z rs
 ·have e:Eo z rs=[]:=List.eq_nil_iff_forall_not_mem.2 hm
  rw[e];refine Tn fun p hp=> ?_
  have:=(Jq (P:=fun _=>False) (rule:=rule) (ms:=[]) (fun m hm=>by cases hm) p hp).1;exact this.elim
 obtain⟨m,hm⟩:∃m,m∈Eo z rs:=Classical.byContradiction fun c=>hm fun m k=>c ⟨m,k⟩
 have k:=Oj hm;have k1:((Fh rs).1.2:Rat)<((y*256+256:Int):Rat):=by grind
 have k2:((y*256:Int):Rat)<((Fh rs).2.2:Rat):=by grind
 have k3:((Fh rs).1.2:Rat)<((Fh rs).2.2:Rat):=by grind
 have l1:(Fh rs).1.2<y*256+256:=gB k1;have l2:y*256<(Fh rs).2.2:=gB k2;have l3:(Fh rs).1.2<(Fh rs).2.2:=by exact_mod_cast k3
 have k4:((Fh rs).1.1:Rat)<=((Fh rs).2.1:Rat):=by grind
 have l4:(Fh rs).1.1<=(Fh rs).2.1:=by exact_mod_cast k4
 have hx:(Fh rs).1.1=(Fh rs).2.1\/(Fh rs).2.1<=x*256\/x*256+256<=(Fh rs).1.1:=by
  refine Classical.byContradiction fun c=>h ?_
  have hf:rs.flatten≠ []:=fun e=>by
   have:Fh rs=((0,0),(0,0)):=by unfold Fh;rw[e];rfl
   rw[this]at l3;exact absurd l3 (by decide)
  have e1:¬(Uk rs).x1<=(Uk rs).x0:=by unfold Uk;simp only;omega
  have e2:¬(Uk rs).y1<=(Uk rs).y0:=by unfold Uk;simp only;omega
  have e3:Kl rs=Uk rs:=(if_neg hf).trans ((if_neg e1).trans (if_neg e2));rw[e3];unfold R4.In Uk;simp only;omega
 refine Tn fun p hp=> ?_
 rw[ha,hb];rcases hx with hx|hx|hx
 ·have q:((Fh rs).1.1:Rat)=((Fh rs).2.1:Rat):=by rw[hx]
  have:=Jq (P:=fun r=>r=((Fh rs).1.1:Rat)) (rule:=rule) (ms:=Eo z rs) (fun m hm=>by have:=Oj hm;grind) p hp;right;right;rw[this.1,this.2]
 ·have q:((Fh rs).2.1:Rat)<=((x*256:Int):Rat):=gJ hx
  have:=Jq (P:=fun r=>r<=((x*256:Int):Rat)) (rule:=rule) (ms:=Eo z rs) (fun m hm=>by have:=Oj hm;grind) p hp;exact .inl this
 have q:((x*256+256:Int):Rat)<=((Fh rs).1.1:Rat):=gJ hx;have:=Jq (P:=fun r=>((x*256+256:Int):Rat)<=r) (rule:=rule) (ms:=Eo z rs) (fun m hm=>by have:=Oj hm;grind) p hp;exact .inr (.inl this)
theorem hF {x y:Int}(h:Dk (Bg x y).1 (Bg x y).2=true):Bg x y=(x*256,y*256):=by
  unfold Bg at h⊢;split
  · rename_i c;rw[if_pos c]at h;exact absurd h (by decide)
  rfl
theorem vJ {x y:Int}(h:Dk (Bg x y).1 (Bg x y).2=true)(h2:Dk (Jj x y).1 (Jj x y).2=true):Jj x y=(x*256+256,y*256+256):=by
  have e:Jj x y=Bg (x+1) (y+1):=if_pos h;rw[e]at h2⊢;rw[hF h2];refine Prod.ext ?_ ?_<;>simp only<;>omega
theorem qG {rule x y:Int}{rs:List Av}(he:Gp rule (Bg x y) (Jj x y) rs=0)(h:¬(Kl rs).In x y):If rule (Bg x y) (Jj x y) rs=0:=by
 obtain⟨h1,_,h2,h3⟩:=Wd.1 he;have e1:=hF h2;have e2:=vJ h2 h3;have oa:Du (Bg x y):=h2;have ob:Du (Jj x y):=h3;rw[e1]at oa⊢;rw[e2]at ob⊢;have k:Qx (x*256,y*256) (x*256+256,y*256+256) rs:=⟨h1,oa,ob,by simp only;omega⟩;rw[qH k.2.2.2 (by simp only;omega)];obtain⟨u,l,e3,e4,e5⟩:=iZ k;rw[hU (c:=0) (Zu k).srt ?_]
 ·exact Qc (fun _=>rfl) _
 intro z z1 z2;rw[e3]at z1 z2;exact qR h (by have:=z1 u rfl;rw[e4]at this;exact this) (z2 _ e5) rfl rfl
theorem tX {rule x y:Int}{rs:List Av}(h:¬(Kl rs).In x y):Fo rule rs x y=0:=by
  unfold Fo;by_cases he:Gp rule (Bg x y) (Jj x y) rs=0
  · rw[if_pos he,qG he h]
    have e:(0:Rat)/((65536:Int):Rat)=0:=by grind
    rw[e];exact if_pos Rat.le_refl
  exact if_neg he
def R4.at (r:R4)(x y:Int):Nat:=((y-r.y0)*(r.x1-r.x0)+x-r.x0).toNat
def Ke (r:R4)(v:Int->Int->Int)(es:List Int):Prop:=(es.length:Int)=(r.x1-r.x0)*(r.y1-r.y0)/\∀x y,r.In x y->es[r.at x y]?=some (v x y)
theorem Im {r:R4}{x y:Int}(h:r.In x y):((r.at x y:Nat):Int)=(y-r.y0)*(r.x1-r.x0)+x-r.x0:=by
  unfold R4.at;have h1:0<=(y-r.y0)*(r.x1-r.x0):=Int.mul_nonneg (by have:=h.1.1;omega) (by have:=h.2;omega);have:=h.2;omega
theorem lF {r:R4}{x y x' y':Int}(h:r.In x y)(k:r.In x' y')(e:r.at x y=r.at x' y'):x=x'/\y=y':=by
 have e1:=Im h;have e2:=Im k;rw[e]at e1;have e3:=e1.symm.trans e2;obtain⟨⟨a1,a2⟩,a3,a4⟩:=h;obtain⟨⟨b1,b2⟩,b3,b4⟩:=k;have W:∃n:Nat,r.x1-r.x0=(n:Int):=⟨(r.x1-r.x0).toNat,by omega⟩;obtain⟨n,hn⟩:=W;have hy:y=y':=by
  rcases Int.lt_trichotomy y y' with c|c|c
  ·have:(y'-r.y0)*(r.x1-r.x0)=(y-r.y0)*(r.x1-r.x0)+(y'-y)*(r.x1-r.x0):=by rw[<-Int.add_mul];congr 1;omega
   have h2:(r.x1-r.x0)<=(y'-y)*(r.x1-r.x0):=by
    have:=Int.mul_le_mul_of_nonneg_right (show(1:Int)<=y'-y by omega) (show 0<=r.x1-r.x0 by omega);rwa[Int.one_mul]at this
   omega
  ·exact c
  have:(y-r.y0)*(r.x1-r.x0)=(y'-r.y0)*(r.x1-r.x0)+(y-y')*(r.x1-r.x0):=by rw[<-Int.add_mul];congr 1;omega
  have h2:(r.x1-r.x0)<=(y-y')*(r.x1-r.x0):=by
   have:=Int.mul_le_mul_of_nonneg_right (show(1:Int)<=y-y' by omega) (show 0<=r.x1-r.x0 by omega);rwa[Int.one_mul]at this
  omega
 subst hy;exact⟨by omega,rfl⟩
theorem cQ {r:R4}{x y:Int}(h:r.In x y):((r.at x y:Nat):Int)<(r.x1-r.x0)*(r.y1-r.y0):=by
  rw[Im h];obtain⟨⟨a1,a2⟩,a3,a4⟩:=h;have h2:(y-r.y0+1)*(r.x1-r.x0)<=(r.y1-r.y0)*(r.x1-r.x0):=Int.mul_le_mul_of_nonneg_right (by omega) (by omega);rw[Int.add_mul,Int.one_mul]at h2;rw[Int.mul_comm (r.x1-r.x0)];omega
theorem lE {r:R4}{k:Nat}(h:(k:Int)<(r.x1-r.x0)*(r.y1-r.y0))(hx:r.x0<=r.x1)(hy:r.y0<=r.y1):∃x y,r.In x y/\r.at x y=k:=by
 obtain⟨n,hn⟩:∃n:Nat,r.x1-r.x0=(n:Int):=⟨(r.x1-r.x0).toNat,by omega⟩;obtain⟨m,hm⟩:∃m:Nat,r.y1-r.y0=(m:Int):=⟨(r.y1-r.y0).toNat,by omega⟩;rw[hn,hm]at h;have h1:k<n*m:=by exact_mod_cast h
 have A0:0<n:=Nat.pos_of_ne_zero fun e=>by rw[e]at h1;simp at h1
 have h2:k%n<n:=Nat.mod_lt _ A0;have h3:k/n<m:=(Nat.div_lt_iff_lt_mul A0).2 (by rw[Nat.mul_comm];exact h1);have h4:=Nat.div_add_mod k n;obtain⟨u,hu⟩:∃u,u=k%n:=⟨_,rfl⟩;obtain⟨v,hv⟩:∃v,v=k/n:=⟨_,rfl⟩;rw[<-hu]at h2 h4;rw[<-hv]at h3 h4;clear hu hv;have A1:r.In (r.x0+((u:Nat):Int)) (r.y0+((v:Nat):Int)):=⟨⟨by omega,by omega⟩,by omega,by omega⟩;refine⟨_,_,A1,?_⟩;have h5:=Im A1;have h6:((k:Nat):Int)=(n:Int)*((v:Nat):Int)+((u:Nat):Int):=by exact_mod_cast h4.symm
 rw[hn]at h5;have e1:(r.y0+((v:Nat):Int)-r.y0)*(n:Int)=(n:Int)*((v:Nat):Int):=by rw[Int.mul_comm];congr 1;omega
 rw[e1]at h5;omega
theorem Ke.zero {r:R4}{N:Nat}(h:(N:Int)=(r.x1-r.x0)*(r.y1-r.y0)):Ke r (fun _ _=>0) (List.replicate N 0):=
  ⟨by rw[List.length_replicate];exact h,fun x y hi=>by
    have:=cQ hi;rw[List.getElem?_replicate,if_pos (by omega)]⟩
theorem Ke.lt {r:R4}{v:Int->Int->Int}{es:List Int}(h:Ke r v es){x y:Int}(hi:r.In x y):r.at x y<es.length:=by
  have:=cQ hi;rw[<-h.1]at this;omega
theorem Ke.congr {r:R4}{v u:Int->Int->Int}{es:List Int}(h:Ke r v es)(e:∀x y,r.In x y->v x y=u x y):Ke r u es:=⟨h.1,fun x y hi=>by rw[h.2 x y hi,e x y hi]⟩
theorem Ke.set {r:R4}{v u:Int->Int->Int}{es:List Int}{c:Int}(h:Ke r v es){x y:Int}(hi:r.In x y)(hx:u x y=c)(he:∀x' y',r.In x' y'->¬(x'=x/\y'=y)->u x' y'=v x' y'):Ke r u (es.set (r.at x y) c):=by
  refine⟨by rw[List.length_set];exact h.1,fun x' y' hi'=> ?_⟩;by_cases e:x'=x/\y'=y
  · obtain⟨rfl,rfl⟩:=e
    rw[List.getElem?_set,if_pos rfl,if_pos (h.lt hi),hx]
  rw[List.getElem?_set,if_neg (fun k=>e (by have:=lF hi hi' k;exact⟨this.1.symm,this.2.symm⟩)),h.2 x' y' hi',he x' y' hi' e]
theorem Ke.ext {r:R4}{v:Int->Int->Int}{es fs:List Int}(h:Ke r v es)(k:Ke r v fs)(hx:r.x0<=r.x1)(hy:r.y0<=r.y1):es=fs:=by
  refine List.ext_getElem? fun i=> ?_
  have hl:es.length=fs.length:=by have h1:=h.1;rw[<-k.1]at h1;omega
  rcases Nat.lt_or_ge i es.length with c|c
  · obtain⟨x,y,hi,rfl⟩:=lE (r:=r) (k:=i) (by rw[<-h.1];omega) hx hy
    rw[h.2 x y hi,k.2 x y hi]
  rw[List.getElem?_eq_none c,List.getElem?_eq_none (by omega)]
instance (b:R4) (x y:Int):Decidable (b.In x y):=by unfold R4.In;infer_instance
def Ot (b:R4)(c:Int->Int->Int)(y:Int)(x' y':Int):Int:=if y'<y/\b.In x' y' then c x' y' else 0
def cE (b:R4)(c:Int->Int->Int)(y x:Int)(x' y':Int):Int:=if (y'<y\/(y'=y/\x'<x))/\b.In x' y' then c x' y' else 0
section
variable {q b:R4} {c:Int->Int->Int} {y x:Int} {es:List Int}
theorem eS (h:Ke q (fun _ _=>0) es):Ke q (Ot b c q.y0) es:=h.congr fun x' y' k=>(if_neg (fun k2=>by have:=k.1.1;have:=k2.1;omega)).symm
theorem Rm {P Q:Prop}[Decidable P][Decidable Q]{u:Int}(h:P↔Q):(if P then u else 0)=(if Q then u else 0):=by
  by_cases p:P
  · rw[if_pos p,if_pos (h.1 p)]
  rw[if_neg p,if_neg (fun q=>p (h.2 q))]
theorem Wm (h:Ke q (Ot b c y) es)(k:y<b.y0\/b.y1<=y):Ke q (Ot b c (y+1)) es:=h.congr fun x' y' _=>Rm ⟨fun e=>⟨by omega,e.2⟩,fun e=>⟨by have:=e.2.1;have:=e.1;omega,e.2⟩⟩
theorem pI (h:Ke q (Ot b c y) es):Ke q (cE b c y (max q.x0 b.x0)) es:=h.congr fun x' y' k=>Rm ⟨fun e=>⟨.inl e.1,e.2⟩,fun e=>⟨by have:=e.2.2;have:=e.1;have:=k.2;omega,e.2⟩⟩
theorem pJ (h:Ke q (cE b c y x) es)(hq:q.In x y)(hb:b.In x y):Ke q (cE b c y (x+1)) (es.set (q.at x y) (c x y)):=
  h.set hq (if_pos ⟨.inr ⟨rfl,by omega⟩,hb⟩) fun x' y' _ e=>Rm ⟨fun k=>⟨by have:=k.1;omega,k.2⟩,fun k=>⟨by have:=k.1;omega,k.2⟩⟩
theorem pK (h:Ke q (cE b c y x) es)(k:min q.x1 b.x1<=x):Ke q (Ot b c (y+1)) es:=h.congr fun x' y' i=>Rm ⟨fun e=>⟨by have:=e.1;omega,e.2⟩,fun e=>⟨by have:=e.1;have:=i.2;have:=e.2.2;omega,e.2⟩⟩
theorem pM (h:Ke q (Ot b c y) es)(k:q.y1<=y)(h0:∀x y,¬b.In x y->c x y=0):Ke q c es:=h.congr fun x' y' i=>by
  unfold Ot;by_cases e:b.In x' y'
  · exact if_pos ⟨by have:=i.1;omega,e⟩
  rw[if_neg (fun k=>e k.2),h0 x' y' e]
end
end
section
attribute [local go_sem ↓] Go.wp_at_zero Go.wp_at_succ Aj Ai
def Fz (rule:Int)(rs:List Av)(r:R4):Int:=if Ge rs=true then(if rule=1\/rule=2 then(if r.ok=true then(if r.area<=65536 then 0 else 5)else 6)else 2)else 12
def Ep (E:Int)(r:R4)(v:Int->Int->Int)(w:World)(e:Ending)(w':World):Prop:=
  ∃ (q:R4) (A:Option Addr) (n c:Nat) (es:List Int),e= .returned (.tuple #[.agg #[iV q.x0,iV q.y0,iV q.x1,iV q.y1,.slice A n c],iV E])/\n=es.length/\Be w' w.heap.size 5 1 (.slice A n c) n (List.flatMap Ay es)/\
    (E=0->q=r.can/\Ke r.can v es/\r.area<=65536)/\(E≠0->q=R4.zero/\es=[])/\Aa w w'
theorem Ep.ok {E:Int}{r:R4}{v:Int->Int->Int}{w w':World}{e:Ending}(h:Ep E r v w e w')(h0:E=0):∃(A:Option Addr) (n c:Nat) (es:List Int),e= .returned (.tuple #[.agg #[iV r.can.x0,iV r.can.y0,iV r.can.x1,iV r.can.y1,.slice A n c],iV 0])/\n=es.length/\Be w' w.heap.size 5 1 (.slice A n c) n (List.flatMap Ay es)/\Ke r.can v es/\r.area<=65536/\Aa w w':=by
  obtain⟨q,A,n,c,es,rfl,h1,h2,h3,_,hx⟩:=h;obtain⟨rfl,h4,h5⟩:=h3 h0;exact⟨A,n,c,es,by rw[h0],h1,h2,h4,h5,hx⟩
theorem Ep.bad {E:Int}{r:R4}{v:Int->Int->Int}{w w':World}{e:Ending}(h:Ep E r v w e w')(h0:E≠0):∃(A:Option Addr) (c:Nat),e= .returned (.tuple #[.agg #[iV 0,iV 0,iV 0,iV 0,.slice A 0 c],iV E])/\Be w' w.heap.size 5 1 (.slice A 0 c) 0 (List.flatMap Ay [])/\Aa w w':=by
  obtain⟨q,A,n,c,es,rfl,h1,h2,_,h3,hx⟩:=h;obtain⟨rfl,rfl⟩:=h3 h0;have h1:n=0:=h1;subst h1;exact⟨A,c,rfl,h2,hx⟩
theorem Ui (r:R4):r.can.can=r.can:=by
  unfold R4.can;by_cases c:r.emp=true
  · rw[if_pos c,if_pos (show R4.zero.emp=true by decide)]
  rw[if_neg c,if_neg c]
theorem Pa {q:R4}{x y:Int}(ho:q.ok=true)(h:q.In x y):q.ix x y=((q.at x y:Nat):Int):=by
  have h1:q.has x y=true:=by
    unfold R4.has R4.emp;obtain⟨⟨a,b⟩,c,d⟩:=h;simp[ho];omega
  rw[Im h];exact if_pos h1
theorem R4.can_ok (r:R4):r.can.ok=true:=Mg.2 (by have:=r.can_bd;exact this.1)
set_option maxRecDepth 200000 in
theorem En (A:Option Addr)(cap:Nat)(rs:List Av)(rule:Int)(r:R4)(w:World)(hu:Cu w (.slice A rs.length cap) rs)(hn:rs.length<=1048576)(hr:∀r,r∈rs->r.length<=1048576)(hs:Ge rs=true->r.ok=true->Gm rs<=16)(hru: -9223372036854775808<=rule/\rule<=9223372036854775807):
  Calls Tryz.prog 18 #[.slice A rs.length cap,iV rule,.agg #[iV r.x0,iV r.y0,iV r.x1,iV r.y1]] w (Ep (Fz rule rs r) r (Fo rule rs) w):=by
 have HU:=zH hu;have HN:=zH hn;have D0:=zH hr;clear hu hr;have E3:=zH hs;have K1:=zH hru;clear hs hru;go_enter Tryz.func18,Tryz.ntmps18
 have H0:=zH (Hp.start w);go_upto_region 0 with fail
 refine wl ?_;refine Cm 35 [iV r.x0,iV r.y0,iV r.x1,iV r.y1] H0.1 ?_;intro X1 w2 H3 _;refine Cm 42 [iV 0,iV 0,iV 0,iV 0,.slice none 0 0] H3.1 ?_;intro X6 w7 H8 _;refine zq (iV 0) ?_;rcases Co (Ge rs=true)with HV|HV
 ·go_upto_region 1 with fail
  refine wp_scope_straight ?_;go_upto_region 1 with fail
  refine wl ?_;refine Cs Ac _ ?_;refine zc (Cc _ rs _ (HU.1.ext H8.1.ext) HN.1 D0.1) ?_;rintro e J4 ⟨rfl,hx⟩;have F6:=zH (H8.1.step hx);clear hx;refine⟨.bool true,by rw[HV.1],?_⟩;try simp only[Act.put,zA,zB,zC]
  refine Bq Ac (.bool false) (.bool false) ?_;rcases Co (rule=1\/rule=2)with HRL|HRL
  ·go_upto_region 3 with fail
   go_cut [17] (fun v20 wx=>v20= .bool false/\Hp w wx [.blk X1 35 [iV r.x0,iV r.y0,iV r.x1,iV r.y1],.blk X6 42 [iV 0,iV 0,iV 0,iV 0,.slice none 0 0]]/\Af J4 wx)
   case first=>
    rcases Co (rule=1)with H1|H1
    ·refine wl ?_
     refine zq (iV rule) ?_;refine zp (.bool false) (by exact Jn (e:=(Ah (fun h_=>h_ H1.1)))) ?_;refine Kf Ac (.bool false) _ _ (.bool false) (.bool false) ?_;go_wp2_with fail
     go_meet
     exact⟨rfl,F6.1,(Af.refl _)⟩
    refine wl ?_;refine zq (iV rule) ?_;refine zp (.bool true) (by exact Jn (e:=(Ae H1.1))) ?_;refine Bq Ac (.bool true) (iV rule) ?_;refine zp (.bool false) (by exact Jn (e:=(Ah (fun h_=>h_ (HRL.1.resolve_left H1.1))))) ?_;refine Bq Ac (.bool false) (.bool false) ?_;go_wp2_with fail
    go_meet
    exact⟨rfl,F6.1,(Af.refl _)⟩
   obtain⟨rfl,B0,B1⟩:=hcut;generalize wc=M6 at*
   have D4:=zH B0;have O0:=zH B1;clear B0 B1;rcases Co (r.ok=true)with HRO|HRO
   ·go_upto_region 5 with fail
    refine wl ?_;refine zd X1 (0) [iV r.x0,iV r.y0,iV r.x1,iV r.y1] (D4.1.range (i:=0) rR 0 4) Tryz.underlying35 ?_;refine aC D4.1 ((Qj r _).mono fun _ _ h_=>(⟨h_.1.trans (by rw[HRO.1]),h_.2⟩:_=Ending.returned (.bool true)/\Aa _ _)) ?_;intro M5 D3 _;refine Bq Ac (.bool false) (.bool false) ?_;rcases Co (r.area<=65536)with HA|HA
    ·go_upto_region 7 with fail
     refine wl ?_;refine zd X1 (0) [iV r.x0,iV r.y0,iV r.x1,iV r.y1] (D3.1.range (i:=0) rR 0 4) Tryz.underlying35 ?_;refine aC D3.1 (Nz r _) ?_;intro M4 H7 _;refine zp (.bool false) (by exact Tw (e:=(Ah (by have h_:=HA.1;omega)))) ?_;refine zq (.bool false) ?_;go_upto_region 9 with fail
     refine wl ?_;refine zd X1 (0) [iV r.x0,iV r.y0,iV r.x1,iV r.y1] (H7.1.range (i:=0) rR 0 4) Tryz.underlying35 ?_;refine aC H7.1 (Sp r _) ?_;intro M3 L6 _;refine Cy 0 [iV r.can.x0,iV r.can.y0,iV r.can.x1,iV r.can.y1] L6.1 ?_;intro C9 H6 _;generalize hq_:r.can=q at*
     have HQ:=zH hq_;have hb:=r.can_bd;have D7:=r.can_ok;have E0:=HA.1;unfold R4.area at E0;rw[hq_]at hb D7 E0;clear hq_;have K2:=zH D7;have J6:0<=(q.x1-q.x0)*(q.y1-q.y0):=Int.mul_nonneg (by omega) (by omega);obtain⟨N,G4⟩:∃N:Nat,(N:Int)=(q.x1-q.x0)*(q.y1-q.y0):=⟨((q.x1-q.x0)*(q.y1-q.y0)).toNat,by omega⟩;have G9:=zH (show N<=65536 by omega);have G8:=zH G4;have HB:=zH hb;have N8:=HB.1.1.1;have N7:=HB.1.1.2.1;have N6:=HB.1.1.2.2.1;have N5:=HB.1.1.2.2.2;have N4:=HB.1.2;clear hb D7 E0 J6 G4;have L0:=zH (show q.area=((N:Nat):Int)from by unfold R4.area;rw[show q.can=q from by rw[<-HQ.1];exact Ui r];exact G8.1.symm);go_upto_region 10 with fail
     refine zy ?_;have F0:=zH (H6.1.step (Aa.refl C9).drew);refine Ra H6.1 zb (bs 7 3) 0 1 _ _ ?_;refine gG 5 (some 8) 42 [iV 0,iV 0,iV 0,iV 0,.slice none 0 0] C9 F0.1 ?_;refine gL 2 (bs 7 35) (bs 7 7) zb.size F0.1 zb (fun xq B2=>(Nz q _).mono fun _ _ h_=>(⟨h_.1.trans (by rw[L0.1]),h_.2⟩:_=Ending.returned (iV ((N:Nat):Int))/\Aa _ _)) (by rintro x_ e H9 ⟨rfl,hx⟩;exact hx) ?_;rintro xq e M2 B2 ⟨rfl,hx⟩;replace hx:=B2.trans hx;clear B2;have L5:=zH (F0.1.step hx);have E2:=zH (zb.trans hx);clear hx;refine⟨_,rfl,?_⟩;try simp only[Act.put,zA,zB,zC]
     refine xN (Φ:=fun x v x'=>v= .slice (some ⟨x.heap.size,0,none⟩) N N/\Be x' x.heap.size 5 1 v N (List.flatMap Ay (List.replicate N 0))) (fun x _ _=> .row 5 1 (.slice (some ⟨x.heap.size,0,none⟩) N N) N (List.flatMap Ay (List.replicate N 0))) (i:=3) (lj:=(bs 7 39)) (li:=(bs 7 15)) rR rR kR kR kR kR kR dC kR rR rR (by intro r_ x_;go_simp) (fun x y h1 h2=>h1.trans h2) E2.1.size L5.1 (by simp[At]) E2.1 rR kR (fun xq B2=>⟨_,_,tM (n:=N) rR rR rR (Ar G9.1 (show(65536:Nat)<=4000000 by decide)),⟨rfl,Be.u8 _ _ (Ar (Ar G9.1 (show(65536:Nat)<=4000000 by decide)) (show(4000000:Nat)<=maxLen by decide))⟩,Al.alloc _⟩) (by rintro x_ v_ H9 M7 ⟨rfl,B3⟩ hx hh;exact hh.addRow hx B3) ?_;rintro xq v_ M1 B2 ⟨rfl,B3⟩ hx hh;replace hx:=B2.trans hx;clear B3 B2;simp only[List.cons_append,List.nil_append]at hh⊢;generalize xq.heap.size=A3 at hh⊢
     have L4:=hN hh;have E1:=zH (E2.1.trans hx);clear hh hx;try simp only[Act.put,zA,zB,zC]
     refine gK 4 (bs 7 47) (bs 7 31) _ E1.1 ?_;refine gE (bs 7 63) E1.1.size L4.1 E1.1 ?_;intro B5 I3 hx hh hs D9;have L3:=hN hh;have J9:=zH (show Aa C9 I3 from hs);have L7:=zH (show C9.heap.size<=B5 from D9);clear hh hx D9 hs;try simp only[Act.put,zA,zB,zC]
     refine bS 3 6 (bs 7 127) [iV q.x0,iV q.y0,iV q.x1,iV q.y1,.slice (some ⟨A3,0,none⟩) N N] L3.1 J9.1 L7.1 ?_;intro M0 H5 _ N9;refine wpAnyH_done kR ?_ _;go_upto_region 11 with fail
     refine wl ?_;refine Cs Ac _ ?_;refine aC H5.1 (aM A cap rs _ (HU.1.ext H5.1.ext) HN.1 D0.1 HV.1) ?_;intro L9 L2 _;refine Cm 35 [iV 0,iV 0,iV 0,iV 0] L2.1 ?_;intro G5 L8 L1 _;refine Cy 4 [iV ((Kl rs).x0),iV ((Kl rs).y0),iV ((Kl rs).x1),iV ((Kl rs).y1)] L1.1 ?_;intro I1 E9 _;go_wp2_with fail
     go_step3
     go_upto_region 12 with fail
     refine wl ?_;refine Dh E9.1 _ _ (iV q.y0) ?_;obtain⟨NY,B7⟩:∃NY:Nat,(NY:Int)=q.y1-q.y0:=⟨(q.y1-q.y0).toNat,by omega⟩;have G7:=zH B7;clear B7;have K6:=zH (show Ke q (Ot (Kl rs) (Fo rule rs) q.y0) (List.replicate N 0)from eS (Ke.zero G8.1));go_wp2_with fail
     go_loopg [10] (NY) (fun cq J5 wr=>∃(k:Nat) (y:Int) (es:List Int),cq=NY-k/\J5= iV y/\(y=q.y0+(k:Int)/\k<=NY)/\(es.length=N)/\(Ke q (Ot (Kl rs) (Fo rule rs) y) es)/\Hp w wr [.blk X1 35 [iV q.x0,iV q.y0,iV q.x1,iV q.y1],.blk X6 42 [iV 0,iV 0,iV 0,iV 0,.slice none 0 0],.row 5 1 (.slice (some ⟨A3,0,none⟩) N N) (N) (List.flatMap Ay es),.blk B5 42 [iV q.x0,iV q.y0,iV q.x1,iV q.y1,.slice (some ⟨A3,0,none⟩) N N],.blk G5 35 [iV ((Kl rs).x0),iV ((Kl rs).y0),iV ((Kl rs).x1),iV ((Kl rs).y1)]]/\Af I1 wr)
     case atStart=>exact⟨0,q.y0,List.replicate N 0,rfl,rfl,⟨by omega,Nat.zero_le _⟩,List.length_replicate,K6.1,E9.1,Af.refl _⟩
     obtain⟨k,y,es,rfl,rfl,A6,A4,A5,B0,B1⟩:=hrel;generalize wr=I0 at*
     have H2:=zH A6;clear A6;have D1:=zH A4;clear A4;have D2:=zH A5;clear A5;have A0:=zH B0;have F8:=zH B1;clear B0 B1 E9;rcases Co (y<q.y1)with HLT|HLT
     ·have E6:=True.intro
      have J8:=H2.1;have J7:=G7.1;have N2:=HLT.1;go_upto_region 13 with fail
      refine wl ?_;refine Dh A0.1 (iV y) _ _ ?_;refine zp (.bool true) (by exact Dv (e:=(Ae (by omega)))) ?_;rcases Co (y<(Kl rs).y0)with HY1|HY1
      ·go_upto_region 15 with fail
       refine wl ?_;refine Dh A0.1 (iV y) _ _ ?_;refine zp (.bool true) (by exact Dv (e:=(Ae HY1.1))) ?_;refine Pc Ac (.bool true) _ _ _ _ (.bool true) ?_;go_upto_region 14 with fail
       refine wl ?_;refine zq (iV y) ?_;refine zp (iV (y+1)) (by exact Hm (by omega)) ?_;refine zq (iV (y+1)) ?_;go_wp2_with fail
       go_roundg (NY-(k+1))
       case measure=>exact(by omega)
       case rel=>exact⟨k+1,y+1,es,rfl,(by go_num),⟨by omega,by omega⟩,D1.1,(Wm D2.1 (.inl HY1.1)),A0.1,F8.1⟩
      rcases Co ((Kl rs).y1<=y)with HY2|HY2
      ·go_upto_region 15 with fail
       refine wl ?_;refine Dh A0.1 (iV y) _ _ ?_;refine zp (.bool false) (by exact Dv (e:=(Ah HY1.1))) ?_;refine Ej A0.1 (.bool false) (iV y) _ _ ?_;refine zp (.bool true) (by exact Jm (e:=(Ae HY2.1))) ?_;refine zq (.bool true) ?_;go_upto_region 14 with fail
       refine wl ?_;refine zq (iV y) ?_;refine zp (iV (y+1)) (by exact Hm (by omega)) ?_;refine zq (iV (y+1)) ?_;go_wp2_with fail
       go_roundg (NY-(k+1))
       case measure=>exact(by omega)
       case rel=>exact⟨k+1,y+1,es,rfl,(by go_num),⟨by omega,by omega⟩,D1.1,(Wm D2.1 (.inr HY2.1)),A0.1,F8.1⟩
      go_upto_region 15 with fail
      refine wl ?_;refine Dh A0.1 (iV y) _ _ ?_;refine zp (.bool false) (by exact Dv (e:=(Ah HY1.1))) ?_;refine Ej A0.1 (.bool false) (iV y) _ _ ?_;refine zp (.bool false) (by exact Jm (e:=(Ah HY2.1))) ?_;refine zq (.bool false) ?_;go_upto_region 16 with fail
      refine wl ?_;refine Pc A0.1 _ _ _ _ (iV (max q.x0 ((Kl rs).x0))) (iV (max q.x0 ((Kl rs).x0))) ?_;obtain⟨NX,B8⟩:∃NX:Nat,NX=(min q.x1 (Kl rs).x1-max q.x0 (Kl rs).x0).toNat:=⟨_,rfl⟩;have K4:=zH B8;clear B8;go_wp2_with fail
      go_loopg [11] (NX) (fun cq D6 wr=>∃(j:Nat) (x:Int) (fs:List Int),cq=NX-j/\D6= iV x/\(x=max q.x0 (Kl rs).x0+(j:Int)/\j<=NX)/\(fs.length=N)/\(Ke q (cE (Kl rs) (Fo rule rs) y x) fs)/\Hp w wr [.blk X1 35 [iV q.x0,iV q.y0,iV q.x1,iV q.y1],.blk X6 42 [iV 0,iV 0,iV 0,iV 0,.slice none 0 0],.row 5 1 (.slice (some ⟨A3,0,none⟩) N N) (N) (List.flatMap Ay fs),.blk B5 42 [iV q.x0,iV q.y0,iV q.x1,iV q.y1,.slice (some ⟨A3,0,none⟩) N N],.blk G5 35 [iV ((Kl rs).x0),iV ((Kl rs).y0),iV ((Kl rs).x1),iV ((Kl rs).y1)]]/\Af I0 wr)
      case atStart=>exact⟨0,_,es,rfl,rfl,⟨by omega,Nat.zero_le _⟩,D1.1,(pI D2.1),A0.1,Af.refl _⟩
      obtain⟨j,x,fs,rfl,rfl,A7,A8,A9,B0,B1⟩:=hrel;generalize wr=A1 at*
      have K7:=zH A7;clear A7;have E7:=zH A8;clear A8;have E8:=zH A9;clear A9;have A2:=zH B0;have C8:=zH B1;clear B0 B1 A0;rcases Co (x<min q.x1 (Kl rs).x1)with HXL|HXL
      ·have N3:=K7.1
       have M8:=HXL.1;have N1:=K4.1;have N0:max q.x0 (Kl rs).x0<=x:=by omega
       have M9:q.x0<=x/\x<q.x1:=by omega
       go_upto_region 17 with fail
       refine wl ?_;refine Pc A2.1 (iV x) _ _ _ _ (iV (min q.x1 ((Kl rs).x1))) ?_;refine zp (.bool true) (by exact Dv (e:=(Ae HXL.1))) ?_;have E4:=zH (show q.In x y from⟨⟨by omega,HLT.1⟩,by omega,by omega⟩);have K9:=zH (show(Kl rs).In x y from⟨⟨by have:=HY1.1;omega,by have:=HY2.1;omega⟩,by omega,by omega⟩);have H4:=zH (Pa K2.1 E4.1);have E5:=zH (E8.1.lt E4.1);have G6:=zH (pJ E8.1 E4.1 K9.1);obtain⟨kk,G3⟩:∃kk,q.at x y=kk:=⟨_,rfl⟩;rw[G3]at H4 E5 G6;have K8:=zH (show kk<N from by have h_:=E5.1;rw[E7.1]at h_;exact h_);clear G3;go_upto_region 19 with fail
       refine Kv (S:=fun x=>Aa A1 x) [12] kR ?_;have F7:=zH (A2.1.step (Aa.refl A1).drew);have G2:=zH (Af.of_ext (w:=A1) zb);refine Fg (ds:=[1,11,12]) (i:=0) (listed':=(bs 13 1)) (v:= .pointer (some ⟨B5,4,none⟩)) rR kR kR kR (by intro _ _ _ h;exact h) (Jp rR (by intro w B4;go_simp<;>with_reducible rfl)) zb kR ?_;try simp only[Act.put,zA,zB,zC]
       refine Fg (ds:=[11,12]) (i:=1) (listed':=(bs 13 3)) (v:= .slice (some ⟨A3,0,none⟩) N N) rR kR kR kR (by intro _ _ _ h;exact h) (Zb (g:=B5) (o:=4) rR (fun x hx=>Aa.get hx (show World.cell? A1 ⟨B5,4,none⟩=some (.slice (some ⟨A3,0,none⟩) N N)from Ak (A2.1.range (i:=3) rR 4 1))) (by intro x hq;go_simp<;>with_reducible rfl)) zb kR ?_;try simp only[Act.put,zA,zB,zC]
       refine Fg (ds:=[5,10,11,12]) (i:=2) (listed':=(bs 13 7)) (v:= .agg #[iV q.x0,iV q.y0,iV q.x1,iV q.y1]) rR kR kR kR (by intro _ _ _ h;exact h) (yG rR _ _ rR X1 (0) [iV q.x0,iV q.y0,iV q.x1,iV q.y1] rR (fun x hx=>Bu (show World.rangeAt A1 X1 (0) [iV q.x0,iV q.y0,iV q.x1,iV q.y1]from(A2.1.range (i:=0) rR 0 4)) hx) Tryz.underlying35 rR kR) zb kR ?_;try simp only[Act.put,zA,zB,zC]
       refine Fg (ds:=[5,10,11,12]) (i:=3) (listed':=(bs 13 15)) (v:= iV x) rR kR kR kR (by intro _ _ _ h;exact h) (Jp rR (by intro w B4;go_simp<;>with_reducible rfl)) zb kR ?_;try simp only[Act.put,zA,zB,zC]
       refine Fg (ds:=[5,10,11,12]) (i:=4) (listed':=(bs 13 31)) (v:= iV y) rR kR kR kR (by intro _ _ _ h;exact h) (Jp rR (by intro w B4;go_simp<;>with_reducible rfl)) zb kR ?_;try simp only[Act.put,zA,zB,zC]
       refine Fg (ds:=[10,12]) (i:=6) (listed':=(bs 13 95)) (v:= .slice A rs.length cap) rR kR kR kR (by intro _ _ _ h;exact h) (Jp rR (by intro w B4;go_simp<;>with_reducible rfl)) zb kR ?_;try simp only[Act.put,zA,zB,zC]
       refine Fg (ds:=[10,12]) (i:=7) (listed':=(bs 13 223)) (v:= iV rule) rR kR kR kR (by intro _ _ _ h;exact h) (Jp rR (by intro w B4;go_simp<;>with_reducible rfl)) zb kR ?_;try simp only[Act.put,zA,zB,zC]
       refine Fg (ds:=[10,12]) (i:=8) (listed':=(bs 13 479)) (v:= iV x) rR kR kR kR (by intro _ _ _ h;exact h) (Jp rR (by intro w B4;go_simp<;>with_reducible rfl)) zb kR ?_;try simp only[Act.put,zA,zB,zC]
       refine Fg (ds:=[10,12]) (i:=9) (listed':=(bs 13 991)) (v:= iV y) rR kR kR kR (by intro _ _ _ h;exact h) (Jp rR (by intro w B4;go_simp<;>with_reducible rfl)) zb kR ?_;try simp only[Act.put,zA,zB,zC]
       refine Ri (hist:=by rfl) (i:=5) (listed':=(bs 13 1023)) rR kR rR (by go_simp) ((nC q x y _).mono fun _ _ h_=>(⟨h_.1.trans (by rw[H4.1]),h_.2⟩:_=Ending.returned (iV ((kk:Nat):Int))/\Aa _ _)) kR ?_;rintro e D5 ⟨rfl,hx⟩;have C5:=zH (F7.1.step hx);have G1:=zH (show Af A1.drew D5 from Af.of_ext hx);have C0:=zH (zb.trans hx);clear hx;refine⟨_,rfl,C0.1,?_⟩;try simp only[Act.put,zA,zB,zC]
       refine Ri (hist:=by rfl) (i:=10) (listed':=(bs 13 2047)) rR kR rR (by go_simp) (Kr A cap rs rule x y _ (HU.1.ext C5.1.ext) HN.1 D0.1 (fun h_=>E3.1 h_ HRO.1) K1.1) kR ?_;rintro e J3 ⟨rfl,hx⟩;have F5:=zH (C5.1.step hx);have G0:=zH (Af.of_ext hx);have B9:=zH (C0.1.trans hx);clear hx;refine⟨_,rfl,B9.1,?_⟩;try simp only[Act.put,zA,zB,zC]
       refine Fg (ds:=[12]) (i:=11) (listed':=(bs 13 4095)) (v:= .pointer (some ⟨A3,kk*1,none⟩)) rR kR kR kR (by intro _ _ _ h;exact h) (Jp rR (by intro w B4;exact Jo (k:=kk) Tryz.underlying40 (l:=K8.1) (f:=(Nat.zero_add _).symm))) B9.1 kR ?_;try simp only[Act.put,zA,zB,zC]
       refine aX kR ?_;refine eG (f:=Ay) (i:=12) (listed':=(bs 13 8191)) rR kR rR kR _ _ _ rR F5.1 (ix:=2) rR Gl kk (Fo rule rs x y) E5.1 (.int .u8 (Fo rule rs x y)) rR (kk*1) rR rR rR kR (by simp[Value.cells]) (by simp[Value.oneCell']) (by simp[At]) ?_;intro J2 hh hd ho;have F4:=hN hh;have F9:=zH (hd);clear hh hd ho;refine⟨trivial,?_⟩
       (try simp only[Act.put])
       refine wpAnyH_done kR ?_ _;go_upto_region 18 with fail
       refine wl ?_;refine zq (iV x) ?_;refine zp (iV (x+1)) (by exact Hm (by omega)) ?_;refine zq (iV (x+1)) ?_;have C7:=tD (tD (tD (tD C8 G2) G1) G0) F9;go_wp2_with fail
       go_roundg (NX-(j+1))
       case measure=>exact(by omega)
       case rel=>exact⟨j+1,x+1,(fs.set kk (Fo rule rs x y)),rfl,(by go_num),⟨by omega,by omega⟩,(by rw[List.length_set];exact E7.1),G6.1,F4.1,C7.1⟩
      go_upto_region 17 with fail
      refine wl ?_;refine Pc A2.1 (iV x) _ _ _ _ (iV (min q.x1 ((Kl rs).x1))) ?_;refine zp (.bool false) (by exact Dv (e:=(Ah HXL.1))) ?_;go_upto_region 14 with fail
      refine wl ?_;refine zq (iV y) ?_;refine zp (iV (y+1)) (by exact Hm (by omega)) ?_;refine zq (iV (y+1)) ?_;have C6:=tD F8 C8;go_wp2_with fail
      go_roundg (NY-(k+1))
      case measure=>exact(by omega)
      case rel=>exact⟨k+1,y+1,fs,rfl,(by go_num),⟨by omega,by omega⟩,E7.1,(pK E8.1 (by have h_:=HXL.1;omega)),A2.1,C6.1⟩
     have E6:=zH (show q.y1<=y from by have:=HLT.1;omega);have J8:=H2.1;have J7:=G7.1;have D9:=E6.1;go_upto_region 13 with fail
     refine wl ?_;refine Dh A0.1 (iV y) _ _ ?_;refine zp (.bool false) (by exact Dv (e:=(Ah (by omega)))) ?_;go_upto_region 20 with fail
     refine wl ?_;refine zd B5 (0) [iV q.x0,iV q.y0,iV q.x1,iV q.y1,.slice (some ⟨A3,0,none⟩) N N] (A0.1.range (i:=3) rR 0 5) Tryz.underlying42 ?_;refine Cy 1 [iV q.x0,iV q.y0,iV q.x1,iV q.y1,.slice (some ⟨A3,0,none⟩) N N] A0.1 ?_;intro J1 B6 _;refine zq (iV 0) ?_;have K5:=zH (show Ke r.can (Fo rule rs) es from by rw[HQ.1];exact pM D2.1 E6.1 (fun _ _ h_=>tX h_));have HE:=zH (show Fz rule rs r=0 from(if_pos HV.1).trans ((if_pos HRL.1).trans ((if_pos HRO.1).trans (if_pos HA.1))));have D8:=D1.1;go_wp2_with fail
     refine bodyPost_ret (v:= .tuple #[.agg #[iV q.x0,iV q.y0,iV q.x1,iV q.y1,.slice (some ⟨A3,0,none⟩) N N],iV 0]) ?_ rfl ⟨q,_,_,_,es,by rw[HE.1],D8.symm,B6.1.row (i:=2) rR,fun _=>⟨HQ.1.symm,K5.1,HA.1⟩,fun h_=>absurd HE.1 h_,B6.1.ext⟩;exact Aq rfl rfl ((B6.1.blk (i:=1) rR).loadVar rfl rfl rR) rfl
    go_upto_region 7 with fail
    refine wl ?_;refine zd X1 (0) [iV r.x0,iV r.y0,iV r.x1,iV r.y1] (D3.1.range (i:=0) rR 0 4) Tryz.underlying35 ?_;refine aC D3.1 (Nz r _) ?_;intro J0 F3 _;refine zp (.bool true) (by exact Tw (e:=(Ae (by have h_:=HA.1;omega)))) ?_;refine zq (.bool true) ?_;go_upto_region 8 with fail
    refine wl ?_;refine Cs Ac _ ?_;refine Cy 1 [iV 0,iV 0,iV 0,iV 0,.slice none 0 0] F3.1 ?_;intro I9 C4 _;refine zq (iV 5) ?_;have HE:=zH (show Fz rule rs r=5 from(if_pos HV.1).trans ((if_pos HRL.1).trans ((if_pos HRO.1).trans (if_neg HA.1))));go_wp2_with fail
    refine bodyPost_ret (v:= .tuple #[.agg #[iV 0,iV 0,iV 0,iV 0,.slice none 0 0],iV 5]) ?_ rfl ⟨R4.zero,none,0,0,[],by rw[HE.1]<;>rfl,rfl,Be.nil _ _ _ _,fun h_=>absurd h_ (by rw[HE.1];decide),fun _=>⟨rfl,rfl⟩,C4.1.ext⟩;exact Aq rfl rfl ((C4.1.blk (i:=1) rR).loadVar rfl rfl rR) rfl
   have K3:=zH (Bool.eq_false_iff.2 HRO.1);go_upto_region 5 with fail
   refine wl ?_;refine zd X1 (0) [iV r.x0,iV r.y0,iV r.x1,iV r.y1] (D4.1.range (i:=0) rR 0 4) Tryz.underlying35 ?_;refine aC D4.1 ((Qj r _).mono fun _ _ h_=>(⟨h_.1.trans (by rw[K3.1]),h_.2⟩:_=Ending.returned (.bool false)/\Aa _ _)) ?_;intro I8 F2 _;refine Bq Ac (.bool true) (.bool true) ?_;go_upto_region 6 with fail
   refine wl ?_;refine Cs Ac _ ?_;refine Cy 1 [iV 0,iV 0,iV 0,iV 0,.slice none 0 0] F2.1 ?_;intro I7 C3 _;refine zq (iV 6) ?_;have HE:=zH (show Fz rule rs r=6 from(if_pos HV.1).trans ((if_pos HRL.1).trans (if_neg HRO.1)));go_wp2_with fail
   refine bodyPost_ret (v:= .tuple #[.agg #[iV 0,iV 0,iV 0,iV 0,.slice none 0 0],iV 6]) ?_ rfl ⟨R4.zero,none,0,0,[],by rw[HE.1]<;>rfl,rfl,Be.nil _ _ _ _,fun h_=>absurd h_ (by rw[HE.1];decide),fun _=>⟨rfl,rfl⟩,C3.1.ext⟩;exact Aq rfl rfl ((C3.1.blk (i:=1) rR).loadVar rfl rfl rR) rfl
  go_upto_region 3 with fail
  refine wl ?_;refine zq (iV rule) ?_;refine zp (.bool true) (by exact Jn (e:=(Ae (fun h_=>HRL.1 (.inl h_))))) ?_;refine Bq Ac (.bool true) (iV rule) ?_;refine zp (.bool true) (by exact Jn (e:=(Ae (fun h_=>HRL.1 (.inr h_))))) ?_;refine Bq Ac (.bool true) (.bool true) ?_;go_upto_region 4 with fail
  refine wl ?_;refine Cs Ac _ ?_;refine Cy 1 [iV 0,iV 0,iV 0,iV 0,.slice none 0 0] F6.1 ?_;intro I6 C2 _;refine zq (iV 2) ?_;have HE:=zH (show Fz rule rs r=2 from(if_pos HV.1).trans (if_neg HRL.1));go_wp2_with fail
  refine bodyPost_ret (v:= .tuple #[.agg #[iV 0,iV 0,iV 0,iV 0,.slice none 0 0],iV 2]) ?_ rfl ⟨R4.zero,none,0,0,[],by rw[HE.1]<;>rfl,rfl,Be.nil _ _ _ _,fun h_=>absurd h_ (by rw[HE.1];decide),fun _=>⟨rfl,rfl⟩,C2.1.ext⟩;exact Aq rfl rfl ((C2.1.blk (i:=1) rR).loadVar rfl rfl rR) rfl
 have K0:=zH (Bool.eq_false_iff.2 HV.1);go_upto_region 1 with fail
 refine wp_scope_straight ?_;go_upto_region 1 with fail
 refine wl ?_;refine Cs Ac _ ?_;refine zc (Cc _ rs _ (HU.1.ext H8.1.ext) HN.1 D0.1) ?_;rintro e I5 ⟨rfl,hx⟩;have F1:=zH (H8.1.step hx);clear hx;refine⟨.bool false,by rw[K0.1],?_⟩;try simp only[Act.put,zA,zB,zC]
 refine qV (.bool true) ?_;refine zq (.bool true) ?_;go_upto_region 2 with fail
 refine wl ?_;refine Cs Ac _ ?_;refine Cy 1 [iV 0,iV 0,iV 0,iV 0,.slice none 0 0] F1.1 ?_;intro I4 C1 _;refine zq (iV 12) ?_;have HE:=zH (show Fz rule rs r=12 from if_neg HV.1);go_wp2_with fail
 refine bodyPost_ret (v:= .tuple #[.agg #[iV 0,iV 0,iV 0,iV 0,.slice none 0 0],iV 12]) ?_ rfl ⟨R4.zero,none,0,0,[],by rw[HE.1]<;>rfl,rfl,Be.nil _ _ _ _,fun h_=>absurd h_ (by rw[HE.1];decide),fun _=>⟨rfl,rfl⟩,C1.1.ext⟩;exact Aq rfl rfl ((C1.1.blk (i:=1) rR).loadVar rfl rfl rR) rfl
end
section
open Go.RowKit Go.Shelf
attribute [local go_sem] Oper.semAt_some
structure Kq (Bm:Nat) (T:TypeId) (l:Nat) (W W':World):Prop where
  size:W.heap.size<=W'.heap.size
  same:∀(k:Nat) (o:Obj),W.heap[k]?=some o->k≠Bm->(o.isCells=true\/k≠l)->(∀cs,o≠ .cells cs T)->W'.heap[k]?=some o
theorem Kq.trans {Bm l:Nat}{T:TypeId}{A B C:World}(h:Kq Bm T l A B)(k:Kq Bm T l B C):Kq Bm T l A C:=⟨Ar h.size k.size,fun i o h1 h2 h3 h4=>k.same i o (h.same i o h1 h2 h3 h4) h2 h3 h4⟩
theorem Kq.put (Bm:Nat)(T:TypeId){l:Nat}{W:World}{o:Obj}(o':Obj)(hl:W.heap[l]?=some o)(ho:o.isCells=false):Kq Bm T l W (W.putObj l o'):=⟨by simp,fun k p h _ h3 _=>by
  by_cases e:k=l
  · subst e
    rw[hl]at h;injection h with h
    subst h;rcases h3 with h3|h3
    · rw[ho]at h3;cases h3
    exact absurd rfl h3
  exact(World.putObj_heap_other e).trans h⟩
theorem Kq.of_ext {Bm l:Nat}{T:TypeId}{W W':World}(x:Aa W W'):Kq Bm T l W W':=⟨x.size,fun k _ h _ _ _=>(x.block k (Array.getElem?_eq_some_iff.1 h).1).trans h⟩
def xV {α:Type}(n:Nat)(P:Program)(g:Nat)(lb:Array Value)(encs:α->Array Value)(Bm:Nat)(T:TypeId)(N:Nat)(S:List α->Prop)(w:World):Prop:=
  ∀ (l:Nat) (J:List α->World->Prop) (W:World),Aa w W->w.heap.size<=l->l<W.heap.size->OwnFrom W.heap.size J->
    (∀pre x W1,J pre W1->pre.length<N->YieldAt Fence.wide (n-1) P l (encs x) W1 fun e W'=>e= .returned (.bool true)/\J (pre++[x]) W'/\Kq Bm T l W1 W')->
    J [] W->CallsIn Fence.wide n P g (#[.func (.yield l) #[] #[]]++lb) W fun e W'=>(∃v,e= .returned v)/\∃xs,S xs/\J xs W'
theorem Ur {α:Type}{n:Nat}{P:Program}{g:Operand}{p0:Nat}{assign body:Code}{Q:Exit->Act->World->Prop}{a:Act}{w:World}
  (h1:1<=n){gf:Nat}{lb:Array Value}(hg:a.eval g= .func (.func gf) #[] lb)(eg:∀args w,(callFunc gf args).run P w= .ok (.enter gf args) w)
  {enc:α->Value}{Bm:Nat}{T:TypeId}{N:Nat}{S:List α->Prop}(hseq:xV (n-1) P gf lb (fun x=>#[enc x]) Bm T N S w)
  (I:List α->World->Prop)(hI:OwnFrom w.heap.size I)(h0:I [] w)(Ax:α->Act->World->Prop)(hAx:∀x a',OwnFrom w.heap.size (fun(_:Unit) W=>Ax x a' W))
  (hassign:∀(l:Nat) (pre:List α) (x:α) (W:World) (K:Act->World->Prop),I pre W->(∀a' W',KeepsFrom w.heap.size W W'->Kq Bm T l W W'->I pre W'->Ax x a' W'->K a' W')->
   assign.wpIn (Fence.wide.inRound l) (n-1-1) P (Exit.then K (fun _ _ _=>False)) {tmps:=a.tmps.setIfInBounds p0 (enc x),defers:=[]} W)
  (hbody:∀(l:Nat) (pre:List α) (x:α) (a':Act) (W:World),I pre W->Ax x a' W->pre.length<N->
   body.wpIn (Fence.wide.inRound l) (n-1-1) P (ownPostG w.heap.size (Kq Bm T l) I (fun _ _ _=>False) (pre++[x]) W) a' W)
  (hdone:∀(D:Nat) (xs:List α) (W:World),w.heap.size<=D->S xs->I xs W->W.heap[D]?=some (.deferred (some []))->Q .normal {a with defers:={target:= .collected D,args:=#[]}::a.defers} W):
  (Code.rangeFunc g #[p0] assign body).wpIn Fence.wide n P Q a w:=by
 refine wpIn_rangeFunc ?_;intro fn B3;obtain⟨A1,A0⟩:∃A1:LoopState->Loop,A1=fun st=>{state:=st,pending:=none,fn,tmps:=a.tmps,params:=#[p0],assign,body,defers:=w.heap.size}:=⟨_,rfl⟩
 obtain⟨W1,A2⟩:∃W1,(w.alloc (.deferred (some []))).alloc (.loop (A1 .ready))=W1:=⟨_,rfl⟩;have B4:W1.heap[w.heap.size+1]?=some (.loop (A1 .ready)):=by
  rw[<-A2];have h2:=World.alloc_heap_new (w.alloc (.deferred (some []))) (.loop (A1 .ready));rwa[World.size_alloc]at h2
 have x1:Aa w W1:=by rw[<-A2];exact((Aa.refl w).alloc _).alloc _
 have s1:W1.heap.size=w.heap.size+2:=by rw[<-A2];simp
 have B5:W1.heap[w.heap.size]?=some (.deferred (some [])):=by
  rw[<-A2];exact(((Aa.refl (w.alloc (.deferred (some [])))).alloc (.loop (A1 .ready))).block _ (by simp)).trans (World.alloc_heap_new w _)
 have B6:I [] W1:=by rw[<-A2];exact hI.alloc _ (hI.alloc _ h0)
 refine⟨w.heap.size+1,[{target:= .collected w.heap.size,args:=#[]}],W1,{target:= .fn (.func gf) lb,args:=#[.func (.yield (w.heap.size+1)) #[] #[]]},W1,gf,
  #[.func (.yield (w.heap.size+1)) #[] #[]]++lb,W1,?_,?_,fun _ _=>trivial,?_,fun _=>h1,?_⟩
 ·rw[<-A2,A0];exact run_enterLoop_outer _ _ _ _ _
 ·simp only[resolve,hg]
  simp[go_sem]
 ·simp[invoke,go_sem,eg]
 have A3:∀{A B:World} {row:Option Nat} {k:Nat} {o:Obj},A.grownBy B row->(∀r,row=some r->W1.heap.size<=r/\∃o:Obj,A.heap[r]?=some o/\o.isCells=false)->k<W1.heap.size->A.heap[k]?=some o->B.heap[k]?=some o:=fun hg' hr hk ho=>
  (hg'.block _ (Array.getElem?_eq_some_iff.1 ho).1 (fun e=>by have:=(hr _ e.symm).1;omega)).trans ho
 refine(hseq (w.heap.size+1) (fun pre W=>I pre W/\W.heap[w.heap.size+1]?=some (.loop (A1 .ready))/\W.heap[w.heap.size]?=some (.deferred (some []))) W1 x1 (by omega) (by omega)
  (fun s A B row hs hg' hr=>⟨hI s A B row hs.1 hg' (fun r e=>⟨by have:=(hr r e).1;omega,(hr r e).2⟩),A3 hg' hr (by omega) hs.2.1,A3 hg' hr (by omega) hs.2.2⟩) ?_ ⟨B6,B4,B5⟩).mono ?_
 ·rintro pre x W ⟨hi,hl,hk⟩ A8
  have B7:w.heap.size+1<W.heap.size:=(Array.getElem?_eq_some_iff.1 hl).1;have hy:=run_yield (P:=P) (args:=#[enc x]) hl (by rw[A0];rfl);rw[A0]at hy;refine⟨fn,_,assign,body,hy,roundIn_of_wpIn B3 ?_⟩;have e:(((#[p0]:Array Tmp).zip #[enc x]).foldl (fun t (p,v)=>t.setIfInBounds p v) a.tmps)=a.tmps.setIfInBounds p0 (enc x):=by simp
  rw[e];refine hassign _ pre x W _ hi ?_;intro a' Wa kf kp ia ax;have A4:=kf.same _ _ (by omega) hl rfl;have B2:=kf.same _ _ (Cj _) hk rfl;have A7:w.heap.size+1<Wa.heap.size:=(Array.getElem?_eq_some_iff.1 A4).1;refine⟨_,run_beginRound A4 (by rw[A0]),?_⟩;have A9:(Wa.putObj (w.heap.size+1) (.loop {A1 .ready with state:= .busy})).heap[w.heap.size+1]?=some (.loop {A1 .ready with state:= .busy}):=World.putObj_heap_same A7;have B1:(Wa.putObj (w.heap.size+1) (.loop {A1 .ready with state:= .busy})).heap[w.heap.size]?=some (.deferred (some [])):=(World.putObj_heap_other (by omega)).trans B2;refine wpIn_mono (hbody _ pre x a' _ (hI.putObj _ ia (by omega) A4 rfl) ((hAx x a').putObj (s:=()) _ ax (by omega) A4 rfl) A8) ?_;rintro e a3 W3 hp;cases e with
  |normal=>
   obtain⟨k3,p3,i3⟩:=hp;have A5:=k3.same _ _ (by omega) A9 rfl;have B0:=k3.same _ _ (Cj _) B1 rfl;have A6:w.heap.size+1<W3.heap.size:=(Array.getElem?_eq_some_iff.1 A5).1;have hr:=run_endRound (P:=P) none A5;refine⟨_,_,hr,rfl,⟨hI.putObj _ i3 (by omega) A5 rfl,?_,(World.putObj_heap_other (by omega)).trans B0⟩,kp.trans ((Kq.put _ _ _ A4 rfl).trans (p3.trans (Kq.put _ _ _ A5 rfl)))⟩;rw[World.putObj_heap_same A6,A0];rfl
  |ret=>exact hp.2.elim
  |exit id=>exact hp.2.elim
  |goto t=>exact hp.2.elim
  |panic ch=>exact hp.elim
  |outgrown=>exact hp.elim
 rintro e W2 ⟨⟨v,rfl⟩,xs,hS,hi,hl,hk⟩;have hr:=run_endLoop (P:=P) hl (by rw[A0];simp);rw[A0]at hr;exact⟨none,_,hr,hdone _ xs _ (Cj _) hS (hI.putObj _ hi (by omega) hl rfl) ((World.putObj_heap_other (by omega)).trans hk)⟩
end
section
open Go.RowKit Go.Shelf
attribute [local go_sem] Oper.semAt_some
attribute [local go_sem ↓] Go.wp_at_zero Go.wp_at_succ Aj Ai
structure Kc (Bm:Nat) (T:TypeId) (W W':World):Prop where
  size:W.heap.size<=W'.heap.size
  same:∀(k:Nat) (t:TypeId) (cs:Array Value),Ad W k t cs->k≠Bm->t≠T->Ad W' k t cs
theorem Kc.trans {Bm:Nat}{T:TypeId}{A B C:World}(h:Kc Bm T A B)(k:Kc Bm T B C):Kc Bm T A C:=⟨Ar h.size k.size,fun i t cs h1 h2 h3=>k.same i t cs (h.same i t cs h1 h2 h3) h2 h3⟩
theorem Kc.of_ext {Bm:Nat}{T:TypeId}{W W':World}(x:Aa W W'):Kc Bm T W W':=⟨x.size,fun _ _ _ h _ _=>h.ext x⟩
theorem Kc.put {Bm:Nat}{T:TypeId}(W:World)(l:Nat)(o o':Obj)(hl:W.heap[l]?=some o)(ho:o.isCells=false):Kc Bm T W (W.putObj l o'):=⟨by simp,fun k t cs h _ _=>by
  have e:k≠l:=fun e=>by
    subst e;unfold Ad at h;rw[hl]at h;injection h with h
    subst h;cases ho
  unfold Ad at h⊢;exact(World.putObj_heap_other e).trans h⟩
theorem Kq.kc {Bm l:Nat}{T:TypeId}{W W':World}(h:Kq Bm T l W W'):Kc Bm T W W':=⟨h.size,fun k t cs hb hk ht=>h.same k _ hb hk (.inl rfl) (fun cs' e=>ht (by injection e))⟩
theorem Kq.kf {Bm l B:Nat}{T:TypeId}{W W':World}(h:Kq Bm T l W W')(hl:l<B)(hm:Bm<B):KeepsFrom B W W':=⟨h.size,fun k o hB ho hc=>h.same k o ho (by omega) (.inr (by omega)) (fun cs e=>by subst e;cases hc)⟩
theorem oO {B:Nat}{Bm:Nat}{T:TypeId}(W0:World):OwnFrom B (fun(_:Unit) W=>Kc Bm T W0 W):=fun _ W W' row h hg hr=>h.trans ⟨hg.size,fun k t cs hb _ _=>hb.grown hg (fun e=>by
  obtain⟨_,o,h1,h2⟩:=hr k e;unfold Ad at hb;rw[hb]at h1;injection h1 with h1
  subst h1;cases h2)⟩
def Gz (p q:Int):List Int:=(List.range (q-p).toNat).map fun(k:Nat)=>p+(k:Int)
theorem Ht (p q:Int):(Gz p q).length=(q-p).toNat:=by unfold Gz;simp
theorem Ma {p q:Int}{k:Nat}(h:p+(k:Int)<q):(Gz p q).take (k+1)=(Gz p q).take k++[p+(k:Int)]:=by
  rw[List.take_add_one];unfold Gz;rw[List.getElem?_map,List.getElem?_range (by omega)];rfl
abbrev I2 (p q:Int):={x:Int//p<=x/\x<q}
def yN (p:Int×Int):Prop:=(-4096<=p.1/\p.1<4096)/\ -4096<=p.2/\p.2<4096
abbrev fE:={p:Int×Int//yN p}
def dO (R:R4)(y:Int):List (Int×Int):=(Gz R.x0 R.x1).map fun x=>(x,y)
def Qv (R:R4):List (Int×Int):=(Gz R.y0 R.y1).flatMap (dO R)
theorem Xf (R:R4)(y:Int):(dO R y).length=(Gz R.x0 R.x1).length:=List.length_map _
theorem Px {α β:Type}{f:α->List β}{c:Nat}(h:∀x,(f x).length=c):∀l:List α,(l.flatMap f).length=l.length*c
  | []=>by simp
  |x::l=>by rw[List.flatMap_cons,List.length_append,h,Px h l,List.length_cons,Nat.add_mul];omega
theorem Su (R:R4):(Qv R).length=(Gz R.y0 R.y1).length*(Gz R.x0 R.x1).length:=Px (Xf R) _
def qY (p:Int×Int):Value:= .agg #[iV p.1,iV p.2,iV (p.1+1),iV (p.2+1)]
theorem Qm {α:Type}{l:List α}{k:Nat}{x:α}(h:l.take (k+1)=l.take k++[x]):l.take k++[x]<+:l:=by rw[<-h];exact List.take_prefix _ _
theorem YieldAt.any {m:Nat}(m':Nat){P:Program}{l:Nat}{args:Array Value}{W:World}{R:Ending->World->Prop}(h:YieldAt Fence.wide m P l args W R):YieldAt Fence.wide m' P l args W R:=by
  obtain⟨fn,tmps,assign,body,h1,h2,h3⟩:=h;exact⟨fn,tmps,assign,body,h1,h2,fun c cs _=>h3 c cs (fun d h=>by cases h)⟩
theorem dE (m:Nat)(hm:1<=m)(l N Bf Bt Bb Bm:Nat)(T:TypeId)(p q:Int)(J Jx:List Int->World->Prop)(w:World)
  (cf:Ad w Bf 3 #[iV p])(ct:Ad w Bt 3 #[iV q])(cb:Ad w Bb 3 #[iV 1])(ht:Bt≠Bm)(hb:Bb≠Bm)(hT:3≠T)(hp: -4096<=p/\p<=4096)(hq: -4096<=q/\q<=4096)
  (hY:∀pre x W,J pre W->pre.length<N->(p<=x/\x<q)->YieldAt Fence.wide (m-1) Tryz.prog l #[iV x] W fun e W'=>(e= .returned (.bool true)/\J (pre++[x]) W'/\Kc Bm T W W')\/(e= .returned (.bool false)/\Jx (pre++[x]) W'))
  (hN:(Gz p q).length<=N)(h0:J [] w):
  CallsIn Fence.wide m Tryz.prog 130 #[.func (.yield l) #[] #[],.pointer (some ⟨Bf,0,none⟩),.pointer (some ⟨Bt,0,none⟩),.pointer (some ⟨Bb,0,none⟩)] w fun e W'=>(∃v,e= .returned v)/\((∃ys,ys=Gz p q/\J ys W')\/(∃pre,pre<+:Gz p q/\Jx pre W')):=by
 have HY:=zH hY;clear hY;have A9:w.cell? ⟨Bf,0,none⟩=some (iV p):=cf.cell 0;refine callsIn_of_wp Tryz.func130 rfl trivial ?_ rfl;simp only[Tryz.ntmps130,List.size_toArray,List.length_cons,List.length_nil,Nat.reduceAdd,Nat.reduceSub,Array.replicate_succ,Array.replicate_zero,List.push_toArray,List.append_toArray,List.nil_append,List.cons_append];gi_wp2
 gi_loopw [5] (fun i wr=>∃(k:Nat) (n:Int),n=p+(k:Int)/\(k:Int)<=max 0 (q-p)/\i= iV n/\Kc Bm T w wr/\J ((Gz p q).take k) wr) (fun i _=>(q-intOf i).toNat)
 case atStart=>exact⟨0,p,by omega,by omega,rfl,Kc.of_ext Al,h0⟩
 obtain⟨k,n,hn,hk,rfl,A1,hj⟩:=hrel;have HK:=zH A1;have HJ:=zH hj;have HN:=zH hn;have cT:wr.cell? ⟨Bt,0,none⟩=some (iV q):=(A1.same _ _ _ ct ht hT).cell 0;clear hj A1 hn;by_cases hlt:n<q
 ·have A0:=Ma (p:=p) (q:=q) (k:=k) (by have:=HN.1;omega)
  rw[<-HN.1]at A0;have A7:=zH A0;obtain⟨fn,tmps,assign,body,hy,A5⟩:=HY.1 _ n _ HJ.1 (by
   have h1:=(Qm A0).length_le;simp at h1⊢;omega) ⟨by have:=HN.1;omega,hlt⟩
  clear A0;gi_wp2
  refine A5.mono ?_;rintro e W3 (⟨rfl,A6,A4⟩|⟨rfl,A3⟩)
  ·have A2:=HK.1.trans A4
   have B0:W3.cell? ⟨Bt,0,none⟩=some (iV q):=(A2.same _ _ _ ct ht hT).cell 0;have B1:W3.cell? ⟨Bb,0,none⟩=some (iV 1):=(A2.same _ _ _ cb hb hT).cell 0;have w1:IntKind.i64.wrap (q-n)=q-n:=by rw[IntKind.wrap_i64];have:=HN.1;omega
   have w2:IntKind.i64.wrap (n+1)=n+1:=by rw[IntKind.wrap_i64];have:=HN.1;omega
   have A8:¬q-n<1:=by omega
   gi_wp2
   go_roundw
   case rel=>exact⟨k+1,n+1,by have:=HN.1;omega,by have:=HN.1;omega,rfl,A2,by rw[Ma (by have:=HN.1;omega),<-HN.1];exact A6⟩
   case measure=>simp[intOf];omega
  gi_wp2
  go_end0
  exact⟨⟨_,rfl⟩,.inr ⟨_,Qm A7.1,A3⟩⟩
 have e:(Gz p q).take k=Gz p q:=List.take_of_length_le (by rw[Ht];have:=HN.1;omega);gi_wp2
 refine⟨fun _ h=>(by cases h),?_⟩;gi_wp2
 go_end0
 exact⟨⟨_,rfl⟩,.inl ⟨_,rfl,by rw[<-e];exact HJ.1⟩⟩
theorem Rw (n:Nat)(hn:1<=n)(Bf Bt Bb Bm:Nat)(T:TypeId)(p q:Int)(w:World)(cf:Ad w Bf 3 #[iV p])(ct:Ad w Bt 3 #[iV q])(cb:Ad w Bb 3 #[iV 1])(ht:Bt≠Bm)(hb:Bb≠Bm)(hT:3≠T)(hp: -4096<=p/\p<=4096)(hq: -4096<=q/\q<=4096):
    SeqStopsK Fence.wide n Tryz.prog 130 #[.pointer (some ⟨Bf,0,none⟩),.pointer (some ⟨Bt,0,none⟩),.pointer (some ⟨Bb,0,none⟩)] (fun x:I2 p q=>#[Value.int .i64 x.1]) (Kc Bm T) (fun ys=>ys.map Subtype.val=Gz p q) (fun pre=>pre.map Subtype.val<+:Gz p q) (Gz p q).length w:=fun l J Jx W hW _ _ hY h0=>by
  refine(dE n hn l _ Bf Bt Bb Bm T p q (fun s W=>∃xs:List (I2 p q),xs.map Subtype.val=s/\J xs W) (fun s W=>∃xs:List (I2 p q),xs.map Subtype.val=s/\Jx xs W) W (cf.ext hW) (ct.ext hW) (cb.ext hW) ht hb hT hp hq ?_ (Cj _) ⟨[],rfl,h0⟩).mono ?_
  · rintro pre x W2 ⟨xs,rfl,h2⟩ A1 A0
    refine(hY xs ⟨x,A0⟩ W2 h2 (by simpa using A1)).mono ?_;rintro e W3 (⟨rfl,h3,h4⟩|⟨rfl,h3⟩)
    · exact .inl ⟨rfl,⟨_,by simp,h3⟩,h4⟩
    exact .inr ⟨rfl,⟨_,by simp,h3⟩⟩
  rintro e W2 ⟨h1,⟨ys,rfl,xs,h2,h3⟩|⟨pre,h2,xs,h3,h4⟩⟩
  · exact⟨h1,.inl ⟨xs,h2,h3⟩⟩
  exact⟨h1,.inr ⟨xs,by show xs.map Subtype.val<+:Gz p q;rw[h3];exact h2,h4⟩⟩
theorem Rx (p q:Int)(w:World):Calls Tryz.prog 93 #[iV p,iV q,iV 1] w fun e w'=>∃Bf Bt Bb,e= .returned (.func (.func 130) #[] #[.pointer (some ⟨Bf,0,none⟩),.pointer (some ⟨Bt,0,none⟩),.pointer (some ⟨Bb,0,none⟩)])/\Ad w' Bf 3 #[iV p]/\Ad w' Bt 3 #[iV q]/\Ad w' Bb 3 #[iV 1]/\w.heap.size<=Bf/\w.heap.size<=Bt/\w.heap.size<=Bb/\Aa w w':=by
 go_enter Tryz.func93,Tryz.ntmps93
 go_wp2_with fail
 go_ret
 have b1:=Ad.new w 3 #[iV p];have b2:=Ad.new (w.alloc (.cells #[iV p] 3)) 3 #[iV q];have b3:=Ad.new ((w.alloc (.cells #[iV p] 3)).alloc (.cells #[iV q] 3)) 3 #[iV 1];have x2:=(Aa.refl (w.alloc (.cells #[iV p] 3))).alloc (.cells #[iV q] 3);have x3:=(Aa.refl ((w.alloc (.cells #[iV p] 3)).alloc (.cells #[iV q] 3))).alloc (.cells #[iV 1] 3);rw[World.size_alloc]at b2 b3;rw[World.size_alloc]at b3;exact⟨_,_,_,rfl,(b1.ext x2).ext x3,b2.ext x3,b3,Cj _,by omega,by omega,(((Aa.refl w).alloc _).trans x2).trans x3⟩
def zI (Bw Bh Br By B0:Nat)(y:Int)(a':Act)(W:World):Prop:=∃(J:Nat->Value) (Bv:Nat),Ad W Bv 3 #[iV y]/\B0<=Bv/\a'={tmps:=#[J 0,.pointer (some ⟨Bw,0,none⟩),.pointer (some ⟨Bh,0,none⟩),.pointer (some ⟨Br,0,none⟩),.pointer (some ⟨By,0,none⟩),.pointer (some ⟨Bv,0,none⟩),J 6,J 7,J 8,J 9,J 10,J 11,J 12,J 13,J 14,J 15,J 16,J 17,J 18,J 19,J 20,J 21,J 22,J 23,J 24,J 25,J 26,J 27,J 28,J 29,J 30,J 31,J 32,J 33,J 34,J 35,J 36,J 37,J 38,J 39,J 40,J 41,J 42,J 43,J 44,J 45,J 46,J 47,J 48,J 49,J 50],defers:=[]}
def zG (Bw Bh Br By Bv:Nat)(x:Int)(a':Act):Prop:=∃J:Nat->Value,a'={tmps:=#[J 0,.pointer (some ⟨Bw,0,none⟩),.pointer (some ⟨Bh,0,none⟩),.pointer (some ⟨Br,0,none⟩),.pointer (some ⟨By,0,none⟩),.pointer (some ⟨Bv,0,none⟩),iV x,J 7,J 8,J 9,J 10,J 11,J 12,J 13,J 14,J 15,J 16,J 17,J 18,J 19,J 20,J 21,J 22,J 23,J 24,J 25,J 26,J 27,J 28,J 29,J 30,J 31,J 32,J 33,J 34,J 35,J 36,J 37,J 38,J 39,J 40,J 41,J 42,J 43,J 44,J 45,J 46,J 47,J 48,J 49,J 50],defers:=[]}
theorem qX (Bw Bh Br By B0 B:Nat)(y:Int)(a':Act):OwnFrom B (fun(_:Unit) W=>zI Bw Bh Br By B0 y a' W):=by
  rintro _ W W' row ⟨J,Bv,h1,h2⟩ hg hr;exact⟨J,Bv,h1.kept hg (fun k hk=>(hr k hk).2),h2⟩
theorem vB {Bw Bh Br By B0 Bv:Nat}{y:Int}{a':Act}{W:World}(h1:Ad W Bv 3 #[iV y])(h2:B0<=Bv)(h3:a'={tmps:=#[a'.tmps.getD 0 undef,.pointer (some ⟨Bw,0,none⟩),.pointer (some ⟨Bh,0,none⟩),.pointer (some ⟨Br,0,none⟩),.pointer (some ⟨By,0,none⟩),.pointer (some ⟨Bv,0,none⟩),a'.tmps.getD 6 undef,a'.tmps.getD 7 undef,a'.tmps.getD 8 undef,a'.tmps.getD 9 undef,a'.tmps.getD 10 undef,a'.tmps.getD 11 undef,a'.tmps.getD 12 undef,a'.tmps.getD 13 undef,a'.tmps.getD 14 undef,a'.tmps.getD 15 undef,a'.tmps.getD 16 undef,a'.tmps.getD 17 undef,a'.tmps.getD 18 undef,a'.tmps.getD 19 undef,a'.tmps.getD 20 undef,a'.tmps.getD 21 undef,a'.tmps.getD 22 undef,a'.tmps.getD 23 undef,a'.tmps.getD 24 undef,a'.tmps.getD 25 undef,a'.tmps.getD 26 undef,a'.tmps.getD 27 undef,a'.tmps.getD 28 undef,a'.tmps.getD 29 undef,a'.tmps.getD 30 undef,a'.tmps.getD 31 undef,a'.tmps.getD 32 undef,a'.tmps.getD 33 undef,a'.tmps.getD 34 undef,a'.tmps.getD 35 undef,a'.tmps.getD 36 undef,a'.tmps.getD 37 undef,a'.tmps.getD 38 undef,a'.tmps.getD 39 undef,a'.tmps.getD 40 undef,a'.tmps.getD 41 undef,a'.tmps.getD 42 undef,a'.tmps.getD 43 undef,a'.tmps.getD 44 undef,a'.tmps.getD 45 undef,a'.tmps.getD 46 undef,a'.tmps.getD 47 undef,a'.tmps.getD 48 undef,a'.tmps.getD 49 undef,a'.tmps.getD 50 undef],defers:=[]}):zI Bw Bh Br By B0 y a' W:=⟨fun q=>a'.tmps.getD q undef,Bv,h1,h2,h3⟩
theorem vA {Bw Bh Br By Bv:Nat}{x:Int}{a':Act}(h3:a'={tmps:=#[a'.tmps.getD 0 undef,.pointer (some ⟨Bw,0,none⟩),.pointer (some ⟨Bh,0,none⟩),.pointer (some ⟨Br,0,none⟩),.pointer (some ⟨By,0,none⟩),.pointer (some ⟨Bv,0,none⟩),iV x,a'.tmps.getD 7 undef,a'.tmps.getD 8 undef,a'.tmps.getD 9 undef,a'.tmps.getD 10 undef,a'.tmps.getD 11 undef,a'.tmps.getD 12 undef,a'.tmps.getD 13 undef,a'.tmps.getD 14 undef,a'.tmps.getD 15 undef,a'.tmps.getD 16 undef,a'.tmps.getD 17 undef,a'.tmps.getD 18 undef,a'.tmps.getD 19 undef,a'.tmps.getD 20 undef,a'.tmps.getD 21 undef,a'.tmps.getD 22 undef,a'.tmps.getD 23 undef,a'.tmps.getD 24 undef,a'.tmps.getD 25 undef,a'.tmps.getD 26 undef,a'.tmps.getD 27 undef,a'.tmps.getD 28 undef,a'.tmps.getD 29 undef,a'.tmps.getD 30 undef,a'.tmps.getD 31 undef,a'.tmps.getD 32 undef,a'.tmps.getD 33 undef,a'.tmps.getD 34 undef,a'.tmps.getD 35 undef,a'.tmps.getD 36 undef,a'.tmps.getD 37 undef,a'.tmps.getD 38 undef,a'.tmps.getD 39 undef,a'.tmps.getD 40 undef,a'.tmps.getD 41 undef,a'.tmps.getD 42 undef,a'.tmps.getD 43 undef,a'.tmps.getD 44 undef,a'.tmps.getD 45 undef,a'.tmps.getD 46 undef,a'.tmps.getD 47 undef,a'.tmps.getD 48 undef,a'.tmps.getD 49 undef,a'.tmps.getD 50 undef],defers:=[]}):zG Bw Bh Br By Bv x a':=⟨fun q=>a'.tmps.getD q undef,h3⟩
def zV (R:R4)(J:List fE->World->Prop)(pre:List (I2 R.y0 R.y1))(W:World):Prop:=∃zs:List fE,zs.map Subtype.val=(pre.map Subtype.val).flatMap (dO R)/\J zs W
theorem fN {B n:Nat}{R:R4}{J:List fE->World->Prop}(h:OwnFrom n J)(hB:n<=B):OwnFrom B (zV R J):=fun _ W W' row hs hg hr=>by
  obtain⟨zs,h1,h2⟩:=hs;exact⟨zs,h1,h zs W W' row h2 hg (fun r e=>⟨Ar hB (hr r e).1,(hr r e).2⟩)⟩
def zU (R:R4)(J:List fE->World->Prop)(zs:List fE)(y:Int)(pre:List (I2 R.x0 R.x1))(W:World):Prop:=∃us:List fE,us.map Subtype.val=zs.map Subtype.val++(pre.map Subtype.val).map (fun x=>(x,y))/\J us W
theorem qW {B n:Nat}{R:R4}{J:List fE->World->Prop}(h:OwnFrom n J)(hB:n<=B)(zs:List fE)(y:Int):OwnFrom B (zU R J zs y):=fun _ W W' row hs hg hr=>by
  obtain⟨us,h1,h2⟩:=hs;exact⟨us,h1,h us W W' row h2 hg (fun r e=>⟨Ar hB (hr r e).1,(hr r e).2⟩)⟩
theorem iG (m:Nat)(hm:9<=m)(l Br Bw Bh Bm:Nat)(T:TypeId)(R:R4)(J:List fE->World->Prop)(w:World)
  (cr:Ad w Br 35 #[iV R.x0,iV R.y0,iV R.x1,iV R.y1])(cw:Ad w Bw 3 #[iV 1])(ch:Ad w Bh 3 #[iV 1])(hr:Br≠Bm)(hw:Bw≠Bm)(hh:Bh≠Bm)(hT:3≠T)(hT2:35≠T)(hT3:64≠T)
  (hR:((-4096<=R.x0/\R.x0<=4096)/\(-4096<=R.y0/\R.y0<=4096)/\(-4096<=R.x1/\R.x1<=4096)/\(-4096<=R.y1/\R.y1<=4096)))(hl:l<w.heap.size)(hBm:Bm<w.heap.size)
  (hJ:OwnFrom w.heap.size J)
  (hY:∀pre x W,J pre W->pre.length<(Qv R).length->YieldAt Fence.wide (m-1) Tryz.prog l #[qY x.1] W fun e W'=>e= .returned (.bool true)/\J (pre++[x]) W'/\Kq Bm T l W W')(h0:J [] w):
  CallsIn Fence.wide m Tryz.prog 92 #[.func (.yield l) #[] #[],.pointer (some ⟨Bw,0,none⟩),.pointer (some ⟨Bh,0,none⟩),.pointer (some ⟨Br,0,none⟩)] w fun e W'=>(∃v,e= .returned v)/\∃xs:List fE,xs.map Subtype.val=Qv R/\J xs W':=by
 have HY:=zH hY;have HJ:=zH hJ;clear hY hJ;have c1:w.cell? ⟨Bw,0,none⟩=some (iV 1):=cw.cell 0;have c2:w.cell? ⟨Bh,0,none⟩=some (iV 1):=ch.cell 0;have c3:w.cell? ⟨Br,1,none⟩=some (iV R.y0):=cr.cell 1;have c4:w.cell? ⟨Br,3,none⟩=some (iV R.y1):=cr.cell 3;have xa:=(Aa.refl w).alloc (.cells #[.func (.yield l) #[] #[]] 64);have d1:=xa.get c1;have d2:=xa.get c2;have d3:=xa.get c3;have d4:=xa.get c4;have D0:=Ad.new w 64 #[.func (.yield l) #[] #[]];clear c1 c2 c3 c4;have E6:1<=m:=by omega
 refine callsIn_of_wp_marks Tryz.func92 rfl trivial ?_ rfl;simp only[Tryz.ntmps92,List.size_toArray,List.length_cons,List.length_nil,Nat.reduceAdd,Nat.reduceSub,Array.replicate_succ,Array.replicate_zero,List.push_toArray,List.append_toArray,List.nil_append,List.cons_append];gi_wp2_with (refine⟨trivial,?_⟩;gi_at_call 93;refine(callsIn_wide.2 (Rx R.y0 R.y1 _)).mono ?_;rintro e W0 ⟨Bf,Bt,Bb,rfl,bF,bT,bB,sF,sT,sB,B2⟩)
 have A4:=xa.trans B2;have bR:=cr.ext A4;have bW:=cw.ext A4;have bH:=ch.ext A4;have bY:=D0.ext B2;have A5:w.heap.size<=W0.heap.size:=A4.size;have E0:w.heap.size+1<=Bf:=by rw[World.size_alloc]at sF;exact sF
 have D9:w.heap.size+1<=Bt:=by rw[World.size_alloc]at sT;exact sT
 have E1:w.heap.size+1<=Bb:=by rw[World.size_alloc]at sB;exact sB
 have j0:J [] W0:=by
  refine HJ.1 [] w W0 none h0 (Cq _ A4) (fun r e=>by cases e)
 generalize w.heap.size=By at*
 clear sF sT sB d1 d2 d3 d4;have yl:By<W0.heap.size:=bY.lt;refine wpIn_rangeFunc_ownH rfl (by omega) (gf:=130) (lb:=#[.pointer (some ⟨Bf,0,none⟩),.pointer (some ⟨Bt,0,none⟩),.pointer (some ⟨Bb,0,none⟩)]) rfl trivial (enters_of Tryz.func130 kR rfl)
  (Rw (m-1) (by omega) Bf Bt Bb Bm T R.y0 R.y1 W0 bF bT bB (by omega) (by omega) hT hR.2.1 hR.2.2.2) (fun h k=>Kc.trans h k) (fun W l o o' _ h1 h2 _=>Kc.put W l o o' h1 h2) (Below.refl _ _) (fun _=>rfl)
  (fun pre W=>zV R J pre W/\Kc Bm T W0 W) (fun _ _ _=>False)
  (OwnFrom.and (fN HJ.1 A5) (fun _ W W' row h hg hr=>oO W0 () W W' row h hg hr)) (fun _ _ _ _ _ hs _ _=>hs)
  ⟨⟨[],rfl,j0⟩,Kc.of_ext Al⟩ (fun y a' W=>zI Bw Bh Br By W0.heap.size y.1 a' W) (fun y a'=>qX _ _ _ _ _ _ y.1 a') ?assign ?body ?done ?stop
 case assign=>
  rintro l1 pre y W K ⟨hj,A2⟩ hK;have HK:=zH hK;have B1:=(Aa.refl W).alloc (.cells #[iV y.1] 3);have bN:=Ad.new W 3 #[iV y.1];gi_wp2
  exact HK.1 _ _ ((KeepsOthers.alloc _ _).from _) (Kc.of_ext B1) ⟨(fN HJ.1 A5).alloc _ hj,A2.trans (Kc.of_ext B1)⟩ (vB bN A2.size rfl)
 case body=>
  rintro l1 pre y a' W E8 ⟨r1,B3⟩ ⟨⟨zs,hz,hj⟩,A2⟩ ⟨Jv,Bv,bV,sV,rfl⟩ A8;have HZ:=zH hz;have B0:=A2.same _ _ _ bR (by omega) hT2;have B5:=A2.same _ _ _ bW (by omega) hT;have D8:=A2.same _ _ _ bH (by omega) hT;have C9:=A2.same _ _ _ bY (by omega) hT3;have e1:W.cell? ⟨Br,0,none⟩=some (iV R.x0):=B0.cell 0;have e2:W.cell? ⟨Br,2,none⟩=some (iV R.x1):=B0.cell 2;have e3:W.cell? ⟨Bw,0,none⟩=some (iV 1):=B5.cell 0;have E5:1<=m-1-1:=by omega
  have C1:l1<W.heap.size:=(Array.getElem?_eq_some_iff.1 B3).1;clear hz;gi_wp2_with (refine⟨trivial,?_⟩;gi_at_call 93;refine(CallsIn.inRound l1 (callsIn_wide.2 (Rx R.x0 R.x1 _))).mono ?_;rintro e W2 ⟨Cf,Ct,Cb,rfl,cF,cT,cB,qF,qT,qB,A1⟩)
  have B9:W2.heap[l1]?=some (.loop r1):=(A1.block _ C1).trans B3;have D4:=bV.ext A1;have D5:=B0.ext A1;have D2:=B5.ext A1;have D7:=D8.ext A1;have C8:=C9.ext A1;have B8:W0.heap.size<=W2.heap.size:=Ar A2.size A1.size;have j2:J zs W2:=HJ.1 zs W W2 none hj (Cq _ A1) (fun r e=>by cases e);have q0:W0.heap.size<=W.heap.size:=A2.size;clear e1 e2 e3;refine wpIn_rangeFunc_ownN (l₀:=l1) (r₀:=r1) rfl B9 (by omega) (gf:=130) (lb:=#[.pointer (some ⟨Cf,0,none⟩),.pointer (some ⟨Ct,0,none⟩),.pointer (some ⟨Cb,0,none⟩)]) rfl trivial (enters_of Tryz.func130 kR rfl)
   ((Rw (m-1-1-1) (by omega) Cf Ct Cb Bm T R.x0 R.x1 W2 cF cT cB (by omega) (by omega) hT hR.1 hR.2.2.1).inRound l1) (fun h k=>Kc.trans h k) (fun W l o o' _ h1 h2 _=>Kc.put W l o o' h1 h2) (Below.refl _ _) (fun _=>rfl)
   (fun A3 W'=>zU R J zs y.1 A3 W'/\Kc Bm T W2 W'/\KeepsFrom W0.heap.size W2 W') (fun _ _ _=>False)
   (OwnFrom.and (qW HJ.1 (Ar A5 B8) zs y.1) (OwnFrom.and (fun _ W W' row h hg hr=>oO W2 () W W' row h hg hr) (ownFrom_keepsFrom (Cj _)))) (fun _ _ _ _ _ hs _ _=>hs)
   ⟨⟨zs,by simp,j2⟩,Kc.of_ext Al,KeepsFrom.refl _ _⟩ (fun x a' _=>zG Bw Bh Br By Bv x.1 a') (fun x a'=>ownFrom_pure _ (fun _=>zG Bw Bh Br By Bv x.1 a')) ?assign2 ?body2 ?done2 ?stop2
  case assign2=>
   rintro l2 A3 x W' K hi hK;have HK:=zH hK;clear hK;gi_wp2
   exact HK.1 _ _ (KeepsFrom.refl _ _) (Kc.of_ext Al) hi (vA rfl)
  case body2=>
   rintro l2 A3 x E9 W' E7 ⟨r2,E4⟩ ⟨⟨us,hu,A9⟩,A0,A7⟩ ⟨Jw,rfl⟩ B4;have HU:=zH hu;have HF:=zH A7;clear hu A7;have E2:=y.2;have E3:=x.2;have ox:yN (x.1,y.1):=⟨⟨by have:=hR.1;omega,by have:=hR.2.2.1;omega⟩,by have:=hR.2.1;omega,by have:=hR.2.2.2;omega⟩;have C2:us.length<(Qv R).length:=by
    rw[Su];have h1:=congrArg List.length HU.1;have h2:=congrArg List.length HZ.1;rw[List.length_append,List.length_map,List.length_map,List.length_map,List.length_map]at h1;rw[List.length_map,Px (Xf R),List.length_map]at h2;have h3:=Nat.mul_le_mul_right (Gz R.x0 R.x1).length (show pre.length+1<=(Gz R.y0 R.y1).length from A8);rw[Nat.add_mul,Nat.one_mul]at h3;omega
   have B6:=A0.same _ _ _ D5 (by omega) hT2;have D1:=A0.same _ _ _ D2 (by omega) hT;have D6:=A0.same _ _ _ D7 (by omega) hT;have C7:=A0.same _ _ _ C8 (by omega) hT3;have D3:=A0.same _ _ _ D4 (by omega) hT;have f1:W'.cell? ⟨Bv,0,none⟩=some (iV y.1):=D3.cell 0;have f2:W'.cell? ⟨Bw,0,none⟩=some (iV 1):=D1.cell 0;have f3:W'.cell? ⟨Bh,0,none⟩=some (iV 1):=D6.cell 0;have f4:W'.cell? ⟨Br,2,none⟩=some (iV R.x1):=B6.cell 2;have f5:W'.cell? ⟨Br,3,none⟩=some (iV R.y1):=B6.cell 3;have f6:W'.cell? ⟨By,0,none⟩=some (.func (.yield l) #[] #[]):=C7.cell 0;have xt:=(Aa.refl W').alloc (.cells #[iV x.1,iV y.1,iV (x.1+1),iV (y.1+1)] 35);have g6:=xt.get f6;have w1:IntKind.i64.wrap (R.x1-x.1)=R.x1-x.1:=by rw[IntKind.wrap_i64];have:=hR;omega
   have w2:IntKind.i64.wrap (R.y1-y.1)=R.y1-y.1:=by rw[IntKind.wrap_i64];have:=hR;omega
   have w3:IntKind.i64.wrap (x.1+1)=x.1+1:=by rw[IntKind.wrap_i64];have:=ox;omega
   have w4:IntKind.i64.wrap (y.1+1)=y.1+1:=by rw[IntKind.wrap_i64];have:=ox;omega
   have m1:min 1 (R.x1-x.1)=1:=by omega
   have m2:min 1 (R.y1-y.1)=1:=by omega
   have jt:J us (W'.alloc (.cells #[iV x.1,iV y.1,iV (x.1+1),iV (y.1+1)] 35)):=HJ.1 us _ _ none A9 (Cq _ xt) (fun r e=>by cases e);obtain⟨fn,tmps,assign,body,hy,C5⟩:=YieldAt.any (m-1-1-1-1-1) (HY.1 us ⟨(x.1,y.1),ox⟩ _ jt C2);dsimp only[qY]at hy
   gi_wp2
   refine⟨fun _=>by omega,RoundIn.mono (show RoundIn ((Fence.wide.inRound l1).inRound l2) _ _ _ _ _ _ _ _ _ from C5) ?_⟩;rintro e W3 ⟨rfl,C6,C3⟩;have A6:=(Kq.of_ext (Bm:=Bm) (T:=T) (l:=l) xt).trans C3;gi_wp2
   exact⟨A6.kf (by omega) (by omega),A6.kc,⟨us++[⟨(x.1,y.1),ox⟩],by rw[List.map_append,HU.1];simp,C6⟩,A0.trans A6.kc,HF.1.trans (A6.kf (by omega) (by omega))⟩
  case done2=>
   rintro ps W' C0 ⟨⟨us,hu,A9⟩,A0,A7⟩;gi_wp2
   have C4:KeepsFrom W0.heap.size W W2:=⟨A1.size,fun k o _ hk _=>(A1.block _ (Array.getElem?_eq_some_iff.1 hk).1).trans hk⟩;exact⟨C4.trans A7,(Kc.of_ext A1).trans A0,⟨us,by rw[hu,HZ.1,C0,List.map_append,List.flatMap_append];simp[dO],A9⟩,A2.trans ((Kc.of_ext A1).trans A0)⟩
  rintro c A3 W' _ h;exact h.elim
 case done=>
  rintro D xs W hD B7 ⟨⟨zs,hz,hj⟩,A2⟩ hK;gi_wp2
  refine⟨by simp,.inl ⟨_,_,rfl,run_takeDeferred hK,?_⟩⟩;exact⟨_,results_none rfl _ _ _,⟨_,rfl⟩,zs,by rw[hz,B7];rfl,HJ.1.putObj _ hj (Ar A5 hD) hK rfl⟩
 rintro D c pre W _ _ h _;exact h.elim
theorem iF (R:R4)(w:World):Calls Tryz.prog 51 #[.agg #[iV R.x0,iV R.y0,iV R.x1,iV R.y1],iV 1,iV 1] w fun e w'=>∃Br Bw Bh,e= .returned (.func (.func 92) #[] #[.pointer (some ⟨Bw,0,none⟩),.pointer (some ⟨Bh,0,none⟩),.pointer (some ⟨Br,0,none⟩)])/\
  Ad w' Br 35 #[iV R.can.x0,iV R.can.y0,iV R.can.x1,iV R.can.y1]/\Ad w' Bw 3 #[iV 1]/\Ad w' Bh 3 #[iV 1]/\w.heap.size<=Br/\w.heap.size<=Bw/\w.heap.size<=Bh/\Br<w'.heap.size/\Bw<w'.heap.size/\Bh<w'.heap.size/\Aa w w':=by
 go_enter Tryz.func51,Tryz.ntmps51
 have H0:=zH (Hp.start w);go_upto_region 0 with fail
 refine wl ?_;refine Cm 35 [iV R.x0,iV R.y0,iV R.x1,iV R.y1] H0.1 ?_;intro X1 w2 H3 _;refine Cm 3 [iV 1] H3.1 ?_;intro X6 w7 H8 _;refine Cm 3 [iV 1] H8.1 ?_;intro A2 A6 A1 _;refine zq (.nilFunc) ?_;go_upto_region 1 with fail
 refine wl ?_;refine Cs A1.1 _ ?_;refine aC A1.1 (Sp R _) ?_;intro A5 A3 _;refine Cy 0 [iV R.can.x0,iV R.can.y0,iV R.can.x1,iV R.can.y1] A3.1 ?_;intro A4 A0 _;go_upto_region 2 with fail
 refine wl ?_;refine Bq Ac _ _ ?_;go_wp2_with fail
 go_ret
 exact⟨X1,X6,A2,rfl,A0.1.blk (i:=0) (by rfl),A0.1.blk (i:=1) (by rfl),A0.1.blk (i:=2) (by rfl),A0.1.ge (i:=0) (by rfl) rfl,A0.1.ge (i:=1) (by rfl) rfl,A0.1.ge (i:=2) (by rfl) rfl,A0.1.lt (i:=0) (by rfl) rfl,A0.1.lt (i:=1) (by rfl) rfl,A0.1.lt (i:=2) (by rfl) rfl,A0.1.ext⟩
theorem iE (n:Nat)(hn:9<=n)(Br Bw Bh Bm:Nat)(T:TypeId)(R:R4)(w:World)
    (cr:Ad w Br 35 #[iV R.x0,iV R.y0,iV R.x1,iV R.y1])(cw:Ad w Bw 3 #[iV 1])(ch:Ad w Bh 3 #[iV 1])(hr:Br≠Bm)(hw:Bw≠Bm)(hh:Bh≠Bm)(hT:3≠T)(hT2:35≠T)(hT3:64≠T)
    (hR:((-4096<=R.x0/\R.x0<=4096)/\(-4096<=R.y0/\R.y0<=4096)/\(-4096<=R.x1/\R.x1<=4096)/\(-4096<=R.y1/\R.y1<=4096)))(hBm:Bm<w.heap.size):
    xV n Tryz.prog 92 #[.pointer (some ⟨Bw,0,none⟩),.pointer (some ⟨Bh,0,none⟩),.pointer (some ⟨Br,0,none⟩)] (fun p:fE=>#[qY p.1]) Bm T (Qv R).length (fun xs=>xs.map Subtype.val=Qv R) w:=fun l J W hW _ hlt hJ hY h0=>
  iG n hn l Br Bw Bh Bm T R J W (cr.ext hW) (cw.ext hW) (ch.ext hW) hr hw hh hT hT2 hT3 hR hlt (Nat.lt_of_lt_of_le hBm hW.size) hJ hY h0
end
section
attribute [local go_sem ↓] Go.wp_at_zero Go.wp_at_succ Aj Ai
def xR (v:Int->Int->Int)(b:R4)(p:Int×Int):R4:=if v p.1 p.2=0 then b else b.uni ⟨p.1,p.2,p.1+1,p.2+1⟩
def lC (v:Int->Int->Int)(l:List (Int×Int)):R4:=l.foldl (xR v) R4.zero
def fC (v:Int->Int->Int)(q:R4):R4:=lC v (Qv q)
theorem Wq (v:Int->Int->Int)(l:List (Int×Int))(p:Int×Int):lC v (l++[p])=xR v (lC v l) p:=by unfold lC;rw[List.foldl_append];rfl
def dY (q:R4)(k:Nat):List (Int×Int):=((Gz q.y0 q.y1).take k).flatMap (dO q)
def Oc (q:R4)(k:Nat)(y:Int)(j:Nat):List (Int×Int):=dY q k++((Gz q.x0 q.x1).take j).map (fun x=>(x,y))
theorem jI {q:R4}{k:Nat}(h:q.y0+(k:Int)<q.y1):dY q (k+1)=Oc q k (q.y0+(k:Int)) (Gz q.x0 q.x1).length:=by
  unfold dY Oc;rw[Ma h,List.flatMap_append,List.take_length];simp[dY,dO]
theorem dX {q:R4}{k j:Nat}{y:Int}(h:q.x0+(j:Int)<q.x1):Oc q k y (j+1)=Oc q k y j++[(q.x0+(j:Int),y)]:=by
  unfold Oc;rw[Ma h,List.map_append,List.append_assoc];rfl
theorem nR {q:R4}{k:Nat}(h:q.y1<=q.y0+(k:Int)):dY q k=Qv q:=by
  unfold dY Qv;rw[List.take_of_length_le (by rw[Ht];omega)]
def aAJ (rule:Int)(rs:List Av)(r:R4):R4:=if Fz rule rs r=0 then fC (Fo rule rs) r.can else R4.zero
def xB (E:Int)(b:R4)(w:World)(e:Ending)(w':World):Prop:=e= .returned (.tuple #[.agg #[iV b.x0,iV b.y0,iV b.x1,iV b.y1],iV E])/\Aa w w'
set_option maxRecDepth 200000 in
theorem uB (A:Option Addr)(cap:Nat)(rs:List Av)(rule:Int)(r:R4)(w:World)(hu:Cu w (.slice A rs.length cap) rs)(hn:rs.length<=1048576)(hr:∀r,r∈rs->r.length<=1048576)(hs:Ge rs=true->r.ok=true->Gm rs<=16)(hru: -9223372036854775808<=rule/\rule<=9223372036854775807):
  Calls Tryz.prog 20 #[.slice A rs.length cap,iV rule,.agg #[iV r.x0,iV r.y0,iV r.x1,iV r.y1]] w (xB (Fz rule rs r) (aAJ rule rs r) w):=by
 have HU:=zH hu;have HN:=zH hn;have E7:=zH hr;clear hu hr;have B2:=zH hs;have E6:=zH hru;clear hs hru;go_enter Tryz.func20,Tryz.ntmps20
 have H0:=zH (Hp.start w);go_upto_region 0 with fail
 refine wl ?_;refine Cm 35 [iV r.x0,iV r.y0,iV r.x1,iV r.y1] H0.1 ?_;intro X1 w2 H3 _;refine Cm 35 [iV 0,iV 0,iV 0,iV 0] H3.1 ?_;intro X6 w7 H8 _;refine zq (iV 0) ?_;rcases Co (Fz rule rs r=0)with HE|HE
 ·go_upto_region 1 with fail
  refine wl ?_;refine Dh H8.1 _ (iV rule) _ ?_;refine zc ((En A cap rs rule r _ (HU.1.ext H8.1.ext) HN.1 E7.1 B2.1 E6.1).mono (fun _ _ h_=>Ep.ok h_ HE.1)) ?_;rintro e F9 ⟨Am,nm,cm,em,rfl,E4,A0,E3,E2,hx⟩;have H5:=zH E4;have H6:=zH E3;have K5:=zH E2;have HA:=zH (show 0<nm->∃g,Am=some ⟨g,0,none⟩from by obtain⟨A_,c_,e_,k_⟩:=Be.form A0;injection e_ with e1_ e2_ e3_;subst e1_;exact k_);have I6:=zH (show Hp w F9 [.blk X1 35 [iV r.x0,iV r.y0,iV r.x1,iV r.y1],.blk X6 35 [iV 0,iV 0,iV 0,iV 0],ro 5 1 Am nm cm Ay em]from H8.1.addRow hx A0);clear A0 E4 E3 E2 hx;refine zn ?_;refine Dh Ac _ _ _ ?_;refine Cm 42 [iV 0,iV 0,iV 0,iV 0,.slice none 0 0] I6.1 ?_;intro B8 J5 I5 _;refine Cy 3 [iV r.can.x0,iV r.can.y0,iV r.can.x1,iV r.can.y1,.slice Am nm cm] I5.1 ?_;intro J4 I4 _;refine zq (iV 0) ?_;go_upto_region 2 with fail
  refine wl ?_;refine zq (iV 0) ?_;refine zp (.bool false) (by exact Jn (e:=(Ah (fun h_=>h_ rfl)))) ?_;generalize hq_:r.can=q at*
  have HQ:=zH hq_;have hb:=r.can_bd;have C2:=r.can_ok;rw[hq_]at hb C2;clear hq_;have F0:=zH (show Ke q (Fo rule rs) em from H6.1);have H4:=zH C2;have HB:=zH hb;have K4:=HB.1.1.1;have K3:=HB.1.1.2.1;have K2:=HB.1.1.2.2.1;have K1:=HB.1.1.2.2.2;have K0:=HB.1.2;clear hb C2;go_upto_region 4 with fail
  refine wl ?_;refine Cm 35 [iV 0,iV 0,iV 0,iV 0] I4.1 ?_;intro B7 F8 D1 _;go_upto_region 5 with fail
  refine wl ?_;refine Ej D1.1 _ _ _ (iV q.y0) ?_;obtain⟨NY,B0⟩:∃NY:Nat,(NY:Int)=q.y1-q.y0:=⟨(q.y1-q.y0).toNat,by omega⟩;have E8:=zH B0;obtain⟨NX,B1⟩:∃NX:Nat,(NX:Int)=q.x1-q.x0:=⟨(q.x1-q.x0).toNat,by omega⟩;have E9:=zH B1;clear B0 B1;go_wp2_with fail
  go_loopg [11] (NY) (fun cq G6 wr=>∃(k:Nat) (y:Int) (b1:R4),cq=NY-k/\G6= iV y/\(y=q.y0+(k:Int)/\k<=NY)/\(b1=lC (Fo rule rs) (dY q k))/\Hp w wr [.blk X1 35 [iV r.x0,iV r.y0,iV r.x1,iV r.y1],.blk X6 35 [iV 0,iV 0,iV 0,iV 0],.row 5 1 (.slice Am nm cm) (nm) (List.flatMap Ay em),.blk B8 42 [iV q.x0,iV q.y0,iV q.x1,iV q.y1,.slice Am nm cm],.blk B7 35 [iV b1.x0,iV b1.y0,iV b1.x1,iV b1.y1]]/\Af F8 wr)
  case atStart=>exact⟨0,q.y0,R4.zero,rfl,rfl,⟨by omega,Nat.zero_le _⟩,rfl,D1.1,Af.refl _⟩
  obtain⟨k,y,b1,rfl,rfl,A2,A5,A8,A9⟩:=hrel;generalize wr=F7 at*
  have C5:=zH A2;clear A2;have F3:=zH A5;clear A5;have A6:=zH A8;have J2:=zH A9;clear A8 A9 D1;rcases Co (y<q.y1)with HLT|HLT
  ·have F2:=True.intro
   have D9:=C5.1;have G8:=E8.1;have J8:=HLT.1;have J6:=D9.1;go_upto_region 6 with fail
   refine wl ?_;refine Ej A6.1 (iV y) _ _ _ ?_;refine zp (.bool true) (by exact Dv (e:=(Ae (by omega)))) ?_;go_upto_region 8 with fail
   refine wl ?_;refine Ej A6.1 _ _ _ (iV q.x0) ?_;go_wp2_with fail
   go_loopg [12] (NX) (fun cq G5 wr=>∃(j:Nat) (x:Int) (b2:R4),cq=NX-j/\G5= iV x/\(x=q.x0+(j:Int)/\j<=NX)/\(b2=lC (Fo rule rs) (Oc q k y j))/\Hp w wr [.blk X1 35 [iV r.x0,iV r.y0,iV r.x1,iV r.y1],.blk X6 35 [iV 0,iV 0,iV 0,iV 0],.row 5 1 (.slice Am nm cm) (nm) (List.flatMap Ay em),.blk B8 42 [iV q.x0,iV q.y0,iV q.x1,iV q.y1,.slice Am nm cm],.blk B7 35 [iV b2.x0,iV b2.y0,iV b2.x1,iV b2.y1]]/\Af F7 wr)
   case atStart=>exact⟨0,q.x0,b1,rfl,rfl,⟨by omega,Nat.zero_le _⟩,(by rw[F3.1];simp[Oc]),A6.1,Af.refl _⟩
   obtain⟨j,x,b2,rfl,rfl,A3,A4,A8,A9⟩:=hrel;generalize wr=A7 at*
   have C6:=zH A3;clear A3;have D0:=zH A4;clear A4;have A1:=zH A8;have D7:=zH A9;clear A8 A9 A6;rcases Co (x<q.x1)with HXL|HXL
   ·have H1:=C6.1
    have G7:=HXL.1;have G9:=E9.1;have J7:q.x0<=x/\x<q.x1:=by omega
    go_upto_region 9 with fail
    refine wl ?_;refine Ej A1.1 (iV x) _ _ _ ?_;refine zp (.bool true) (by exact Dv (e:=(Ae (by omega)))) ?_;have C8:=zH (show q.In x y from⟨⟨by omega,HLT.1⟩,by omega,by omega⟩);have C7:=zH (Pa H4.1 C8.1);have F1:=zH (F0.1.lt C8.1);have C9:=zH (F0.1.2 x y C8.1);obtain⟨kk,E1⟩:∃kk,q.at x y=kk:=⟨_,rfl⟩;rw[E1]at C7 F1 C9;have H7:=zH (show kk<nm from by rw[H5.1];exact F1.1);clear E1;have E0:=H7.1;obtain⟨gm,C3⟩:=HA.1 (by omega);subst C3;have E5:=zH (show Oc q k y (j+1)=Oc q k y j++[(x,y)]from by rw[dX (by omega),<-C6.1.1]);rcases Co (Fo rule rs x y=0)with HZ|HZ
    ·go_upto_region 11 with fail
     refine zy ?_;have I3:=zH (A1.1.step (Aa.refl A7).drew);have J1:=zH (Af.of_ext (w:=A7) zb);refine lJ A1.1 zb (bs 10 7) 0 1 2 _ _ _ ?_;refine zg 3 (bs 10 15) B8 (0) [iV q.x0,iV q.y0,iV q.x1,iV q.y1] (A1.1.range (i:=3) rR 0 4) Tryz.underlying35 zb ?_;refine Ra Ac zb (bs 10 63) 4 5 (iV x) (iV y) ?_;refine mC 6 (bs 10 127) ((nC q x y _).mono fun _ _ h_=>(⟨h_.1.trans (by rw[C7.1]),h_.2⟩:_=Ending.returned (iV ((kk:Nat):Int))/\Aa _ _)) ?_;rintro e F6 ⟨rfl,hx⟩;have I1:=zH (I3.1.step hx);have J0:=zH (show Af A7.drew F6 from Af.of_ext hx);have C0:=zH (zb.trans hx);clear hx;refine zm C0.1 ?_;refine zu 7 (bs 10 255) (v:= .pointer (some ⟨gm,kk*1,none⟩)) C0.1 ?_ (hv:=by intro w C4;exact Jo (k:=kk) Tryz.underlying40 (l:=E0) (f:=(Nat.zero_add _).symm));refine zf 8 (bs 10 511) gm (kk*1) (.int .u8 (Fo rule rs x y)) (A1.1.elem (f:=Ay) (i:=2) rR Gl C9.1) C0.1 ?_;refine zu 9 (bs 10 1023) (v:= .bool false) C0.1 ?_ (hv:=by intro w C4;exact Oq rR rR rR (Ah (fun h_=>h_ HZ.1)));refine wpAnyH_done kR ?_ _;go_upto_region 10 with fail
     refine wl ?_;refine zq (iV x) ?_;refine zp (iV (x+1)) (by exact Hm (by omega)) ?_;refine zq (iV (x+1)) ?_;have D6:=tD (tD D7 J1) J0;go_wp2_with fail
     go_roundg (NX-(j+1))
     case measure=>exact(by omega)
     case rel=>exact⟨j+1,x+1,b2,rfl,(by go_num),⟨by omega,by omega⟩,(by rw[E5.1,Wq,<-D0.1];exact(if_pos HZ.1).symm),I1.1,D6.1⟩
    go_upto_region 11 with fail
    refine zy ?_;have I0:=zH (A1.1.step (Aa.refl A7).drew);have I9:=zH (Af.of_ext (w:=A7) zb);refine lJ A1.1 zb (bs 10 7) 0 1 2 _ _ _ ?_;refine zg 3 (bs 10 15) B8 (0) [iV q.x0,iV q.y0,iV q.x1,iV q.y1] (A1.1.range (i:=3) rR 0 4) Tryz.underlying35 zb ?_;refine Ra Ac zb (bs 10 63) 4 5 (iV x) (iV y) ?_;refine mC 6 (bs 10 127) ((nC q x y _).mono fun _ _ h_=>(⟨h_.1.trans (by rw[C7.1]),h_.2⟩:_=Ending.returned (iV ((kk:Nat):Int))/\Aa _ _)) ?_;rintro e F5 ⟨rfl,hx⟩;have F4:=zH (I0.1.step hx);have I8:=zH (show Af A7.drew F5 from Af.of_ext hx);have B9:=zH (zb.trans hx);clear hx;refine zm B9.1 ?_;refine zu 7 (bs 10 255) (v:= .pointer (some ⟨gm,kk*1,none⟩)) B9.1 ?_ (hv:=by intro w C4;exact Jo (k:=kk) Tryz.underlying40 (l:=E0) (f:=(Nat.zero_add _).symm));refine zf 8 (bs 10 511) gm (kk*1) (.int .u8 (Fo rule rs x y)) (A1.1.elem (f:=Ay) (i:=2) rR Gl C9.1) B9.1 ?_;refine zu 9 (bs 10 1023) (v:= .bool true) B9.1 ?_ (hv:=by intro w C4;exact Oq rR rR rR (Ae HZ.1));refine wpAnyH_done kR ?_ _;go_upto_region 12 with fail
    refine wl ?_;refine zd B7 (0) [iV b2.x0,iV b2.y0,iV b2.x1,iV b2.y1] (F4.1.range (i:=4) rR 0 4) Tryz.underlying35 ?_;refine Dh Ac (iV x) (iV y) (iV x) ?_;refine zp (iV (x+1)) (by exact Hm (by omega)) ?_;refine zq (iV y) ?_;refine zp (iV (y+1)) (by exact Hm (by omega)) ?_;refine qV (.agg #[iV x,iV y,iV (x+1),iV (y+1)]) ?_;refine aC F4.1 (vE b2 ⟨x,y,x+1,y+1⟩ _) ?_;intro J3 H9 I7;refine Cy 4 [iV ((b2.uni ⟨x,y,x+1,y+1⟩).x0),iV ((b2.uni ⟨x,y,x+1,y+1⟩).y0),iV ((b2.uni ⟨x,y,x+1,y+1⟩).x1),iV ((b2.uni ⟨x,y,x+1,y+1⟩).y1)] H9.1 ?_;intro G4 D5 D8;go_upto_region 10 with fail
    refine wl ?_;refine zq (iV x) ?_;refine zp (iV (x+1)) (by exact Hm (by omega)) ?_;refine zq (iV (x+1)) ?_;have B6:=tD (tD (tD (tD D7 I9) I8) I7) D8;go_wp2_with fail
    go_roundg (NX-(j+1))
    case measure=>exact(by omega)
    case rel=>exact⟨j+1,x+1,(b2.uni ⟨x,y,x+1,y+1⟩),rfl,(by go_num),⟨by omega,by omega⟩,(by rw[E5.1,Wq,<-D0.1];exact(if_neg HZ.1).symm),D5.1,B6.1⟩
   have H1:=C6.1;have G7:=HXL.1;have G9:=E9.1;go_upto_region 9 with fail
   refine wl ?_;refine Ej A1.1 (iV x) _ _ _ ?_;refine zp (.bool false) (by exact Dv (e:=(Ah (by omega)))) ?_;go_upto_region 7 with fail
   refine wl ?_;refine zq (iV y) ?_;refine zp (iV (y+1)) (by exact Hm (by omega)) ?_;refine zq (iV (y+1)) ?_;have B5:=tD J2 D7;go_wp2_with fail
   go_roundg (NY-(k+1))
   case measure=>exact(by omega)
   case rel=>exact⟨k+1,y+1,b2,rfl,(by go_num),⟨by omega,by omega⟩,(by rw[D0.1,jI (by omega),Ht,show(q.x1-q.x0).toNat=j by omega,<-C5.1.1]),A1.1,B5.1⟩
  have F2:=zH (show q.y1<=y from by have:=HLT.1;omega);have D9:=C5.1;have G8:=E8.1;have J9:=F2.1;go_upto_region 6 with fail
  refine wl ?_;refine Ej A6.1 (iV y) _ _ _ ?_;refine zp (.bool false) (by exact Dv (e:=(Ah (by omega)))) ?_;go_upto_region 13 with fail
  refine wl ?_;refine zd B7 (0) [iV b1.x0,iV b1.y0,iV b1.x1,iV b1.y1] (A6.1.range (i:=4) rR 0 4) Tryz.underlying35 ?_;refine Cy 1 [iV b1.x0,iV b1.y0,iV b1.x1,iV b1.y1] A6.1 ?_;intro G3 B4 _;refine zq (iV 0) ?_;go_wp2_with fail
  refine bodyPost_ret (v:= .tuple #[.agg #[iV b1.x0,iV b1.y0,iV b1.x1,iV b1.y1],iV 0]) ?_ rfl ⟨by unfold aAJ;(try rw[if_pos HE.1]);(try rw[HE.1]);(try rw[HQ.1]);rw[show fC (Fo rule rs) q=b1 from by rw[F3.1];unfold fC;rw[nR (by omega)]]<;>rfl,B4.1.ext⟩;exact Aq rfl rfl ((B4.1.blk (i:=1) rR).loadVar rfl rfl rR) rfl
 go_upto_region 1 with fail
 refine wl ?_;refine Dh H8.1 _ (iV rule) _ ?_;refine zc ((En A cap rs rule r _ (HU.1.ext H8.1.ext) HN.1 E7.1 B2.1 E6.1).mono (fun _ _ h_=>Ep.bad h_ HE.1)) ?_;rintro e C1 ⟨Am,cm,rfl,A0,hx⟩;have D4:=zH (show Hp w C1 [.blk X1 35 [iV r.x0,iV r.y0,iV r.x1,iV r.y1],.blk X6 35 [iV 0,iV 0,iV 0,iV 0],ro 5 1 Am 0 cm Ay ([])]from H8.1.addRow hx A0);clear A0 hx;refine zn ?_;refine Dh Ac _ _ (iV (Fz rule rs r)) ?_;refine Cm 42 [iV 0,iV 0,iV 0,iV 0,.slice none 0 0] D4.1 ?_;intro H2 G2 D3 _;refine Cy 3 [iV 0,iV 0,iV 0,iV 0,.slice Am 0 cm] D3.1 ?_;intro G1 D2 _;refine zq (iV (Fz rule rs r)) ?_;go_upto_region 2 with fail
 refine wl ?_;refine zq (iV (Fz rule rs r)) ?_;refine zp (.bool true) (by exact Jn (e:=(Ae HE.1))) ?_;go_upto_region 3 with fail
 refine wl ?_;refine Bq Ac _ (iV (Fz rule rs r)) ?_;refine Cy 1 [iV 0,iV 0,iV 0,iV 0] D2.1 ?_;intro G0 B3 _;refine zq (iV (Fz rule rs r)) ?_;go_wp2_with fail
 refine bodyPost_ret (v:= .tuple #[.agg #[iV 0,iV 0,iV 0,iV 0],iV (Fz rule rs r)]) ?_ rfl ⟨by unfold aAJ;(try rw[if_neg HE.1])<;>rfl,B3.1.ext⟩;exact Aq rfl rfl ((B3.1.blk (i:=1) rR).loadVar rfl rfl rR) rfl
end
section
def Ix (px:Int)(x:Rat):Rat:=if x-((px:Int):Rat)<((0:Int):Rat)then((0:Int):Rat)else if ((256:Int):Rat)<x-((px:Int):Rat)then((256:Int):Rat)else x-((px:Int):Rat)
def Yo (a b:Int×Int)(lo hi x:Int):Prop:=(a.1≠b.1/\min a.1 b.1<=x/\x<=max a.1 b.1)/\((lo:Int):Rat)<Nj a b x/\Nj a b x<((hi:Int):Rat)
instance (a b:Int×Int) (lo hi x:Int):Decidable (Yo a b lo hi x):=by unfold Yo;infer_instance
def Uv (a b:Int×Int)(lo hi x:Int):List Rat:=if Yo a b lo hi x then[Nj a b x]else[]
def eK (x:Rat):List Rat->List Rat
  | []=>[x]
  |y::l=>if x<=y then x::y::l else y::eK x l
def iH:List Rat->List Rat
  | []=>[]
  |x::l=>eK x (iH l)
theorem Pu (x:Rat):∀l:List Rat,(eK x l).Perm (x::l)
  | []=>List.Perm.refl _
  | y::l=>by
    unfold eK;split
    · exact List.Perm.refl _
    exact((Pu x l).cons y).trans (List.Perm.swap x y l)
theorem Ik:∀l:List Rat,(iH l).Perm l
  | []=>List.Perm.refl _
  |x::l=>(Pu x (iH l)).trans ((Ik l).cons x)
theorem bJ (x:Rat):∀l:List Rat,l.Pairwise (· <= ·)->(eK x l).Pairwise (· <= ·)
  | [],_=>by unfold eK;exact List.pairwise_singleton _ _
  | y::l,h=>by
    obtain⟨h1,h2⟩:=List.pairwise_cons.1 h;unfold eK;split
    · rename_i c
      refine List.pairwise_cons.2 ⟨fun z hz=> ?_,h⟩;rcases List.mem_cons.1 hz with e|e
      · rw[e];exact c
      have:=h1 z e;grind
    rename_i c;refine List.pairwise_cons.2 ⟨fun z hz=> ?_,bJ x l h2⟩;rcases List.mem_cons.1 ((Pu x l).mem_iff.1 hz)with e|e
    · rw[e];grind
    exact h1 z e
theorem Zh:∀l:List Rat,(iH l).Pairwise (· <= ·)
  | []=>List.Pairwise.nil
  |x::l=>bJ x _ (Zh l)
theorem Zg:∀{l m:List Rat},l.Pairwise (· <= ·)->m.Pairwise (· <= ·)->l.Perm m->l=m
 | [],m,_,_,h=>h.nil_eq
 |x::l,[],_,_,h=>absurd h.length_eq (by simp)
 |x::l,y::m,h1,h2,h=>by
  obtain⟨a1,a2⟩:=List.pairwise_cons.1 h1;obtain⟨b1,b2⟩:=List.pairwise_cons.1 h2;have e:x=y:=by
   have k1:=h.mem_iff.1 (List.mem_cons_self (a:=x) (l:=l));have k2:=h.mem_iff.2 (List.mem_cons_self (a:=y) (l:=m));rcases List.mem_cons.1 k1 with c|c
   ·exact c
   rcases List.mem_cons.1 k2 with d|d
   ·exact d.symm
   have p:=b1 x c;have q:=a1 y d;grind
  subst e;rw[Zg a2 b2 (List.Perm.cons_inv h)]
theorem rB {l m:List Rat}(h1:l.Pairwise (· <= ·))(h2:l.Perm m):l=iH m:=Zg h1 (Zh m) (h2.trans (Ik m).symm)
def Ja (F:Rat->Rat->Rat):List Rat->Rat
  |x::y::l=>F x y+Ja F (y::l)
  |_=>0
theorem Th (F:Rat->Rat->Rat):∀(l:List Rat) (k:Nat) (x y:Rat),l[k]?=some x->l[k+1]?=some y->Ja F (l.take (k+2))=Ja F (l.take (k+1))+F x y
  | a::b::l,0,x,y,h1,h2=>by
    simp at h1 h2;subst h1 h2;show F a b+0=0+F a b;grind
  | [a],0,x,y,h1,h2=>by simp at h2
  | a::b::l,k+1,x,y,h1,h2=>by
    have ih:=Th F (b::l) k x y (by simpa using h1) (by simpa using h2);show F a b+Ja F ((b::l).take (k+2))=F a b+Ja F ((b::l).take (k+1))+F x y;rw[ih];grind
  | [a],k+1,x,y,h1,h2=>by simp at h1
  | [],k,x,y,h1,h2=>by simp at h1
theorem Ti {F:Rat->Rat->Rat}{C:Nat}:∀{l:List Rat},(∀x,x∈l->∀y,y∈l->Nm.rl (F x y)<=C)->Nm.rl (Ja F l)<=2+l.length*(C+1)
  | [],_=>Ar (Bk 0 (by omega) (by omega)) (by omega)
  | [_],_=>Ar (Bk 0 (by omega) (by omega)) (by omega)
  | x::y::l,h=>by
    have ih:=Ti (l:=y::l) (fun a ha b hb=>h a (List.mem_cons_of_mem _ ha) b (List.mem_cons_of_mem _ hb));have h1:=h x List.mem_cons_self y (List.mem_cons_of_mem _ List.mem_cons_self);have h2:=Nm.rl_add (F x y) (Ja F (y::l));show Nm.rl (F x y+Ja F (y::l))<=_;simp only[List.length_cons]at ih⊢;rw[Nat.add_mul (l.length+1)];generalize (l.length+1)*(C+1)=Z at*
    omega
def Un (px:Int)(a b:Int×Int)(x y:Rat):Rat:=(Ix px (Fi a.1 a.2 b.1 b.2 x)+Ix px (Fi a.1 a.2 b.1 b.2 y))/2*(y-x)
def Ye (py:Int)(a b:Int×Int):Int:=max py (min a.2 b.2)
def Yk (py:Int)(a b:Int×Int):Int:=min (py+256) (max a.2 b.2)
def bL (px:Int)(a b:Int×Int)(lo hi:Int):List Rat:=[((lo:Int):Rat),((hi:Int):Rat)]++Uv a b lo hi px++Uv a b lo hi (px+256)
def Iw (px:Int)(a b:Int×Int)(lo hi:Int):List Rat:=iH (bL px a b lo hi)
def Hs (p:Int×Int)(a b:Int×Int):Rat:=
  if Yk p.2 a b<=Ye p.2 a b\/max a.1 b.1<=p.1 then((0:Int):Rat)
  else if p.1+256<=min a.1 b.1 then((256*(Yk p.2 a b-Ye p.2 a b):Int):Rat)
  else Ja (Un p.1 a b) (Iw p.1 a b (Ye p.2 a b) (Yk p.2 a b))
def Sg (p:Int×Int)(s:Rat)(e:Dw):Rat:=if e.1.2<e.2.2 then s+Hs p e.1 e.2 else if e.2.2<e.1.2 then s-Hs p e.1 e.2 else s
def Mp (p:Int×Int)(l:List Dw):Rat:=l.foldl (Sg p) ((0:Int):Rat)
def Sf (rs:List Av)(p:Int×Int):Rat:=Mp p (Cd rs)/((65536:Int):Rat)
theorem tA {px lo hi:Int}{a b:Int×Int}{z:Rat}(h:z∈Iw px a b lo hi)(hl:lo<=hi):((lo:Int):Rat)<=z/\z<=((hi:Int):Rat):=by
 have hq:((lo:Int):Rat)<=((hi:Int):Rat):=by exact_mod_cast hl
 have h:=(Ik _).mem_iff.1 h;unfold bL Uv at h;rcases List.mem_append.1 h with h|h
 ·rcases List.mem_append.1 h with h|h
  ·rcases List.mem_cons.1 h with e|h
   ·rw[e];exact⟨Rat.le_refl,hq⟩
   rw[List.mem_singleton.1 h];exact⟨hq,Rat.le_refl⟩
  split at h
  ·rename_i c;rw[List.mem_singleton.1 h];have:=c.2;grind
  cases h
 split at h
 ·rename_i c;rw[List.mem_singleton.1 h];have:=c.2;grind
 cases h
theorem oQ {px lo hi:Int}{a b:Int×Int}{z:Rat}(h:z∈Iw px a b lo hi)(ha:Du a)(hb:Du b)(h1: -9223372036854775808<=lo/\lo<=9223372036854775807)(h2: -9223372036854775808<=hi/\hi<=9223372036854775807)(h3: -1048576<=px/\px<=1048320):Nm.rl z<=20:=by
 have h:=(Ik _).mem_iff.1 h;unfold bL Uv at h;rcases List.mem_append.1 h with h|h
 ·rcases List.mem_append.1 h with h|h
  ·rcases List.mem_cons.1 h with e|h
   ·rw[e];exact Ar (Bk lo h1.1 h1.2) (by decide)
   rw[List.mem_singleton.1 h];exact Ar (Bk hi h2.1 h2.2) (by decide)
  split at h
  ·rw[List.mem_singleton.1 h];exact Xg ha hb ⟨by omega,by omega⟩
  cases h
 split at h
 ·rw[List.mem_singleton.1 h];exact Xg ha hb ⟨by omega,by omega⟩
 cases h
theorem Yj (px:Int)(a b:Int×Int)(lo hi:Int):(Iw px a b lo hi).length<=4:=by
  have h:=(Ik (bL px a b lo hi)).length_eq;unfold Iw;rw[h];unfold bL Uv;split<;>split<;>simp
theorem sZ (px:Int)(a b:Int×Int)(lo hi:Int):0<(Iw px a b lo hi).length:=by
  unfold Iw;rw[(Ik _).length_eq];simp[bL]
theorem jP (F:Rat->Rat->Rat)(l:List Rat):Ja F (l.take 1)=((0:Int):Rat):=by
  cases l with
  |nil=>rfl
  |cons x l=>rfl
theorem Yr {px:Int}{x:Rat}{c:Nat}(hx:Nm.rl x<=c)(hp: -9223372036854775808<=px/\px<=9223372036854775807):Nm.rl (Ix px x)<=c+3:=by
  unfold Ix;split
  · exact Ar (Bk 0 (by omega) (by omega)) (by omega)
  split
  · exact Ar (Bk 256 (by omega) (by omega)) (by omega)
  have h1:=Nm.rl_sub x ((px:Int):Rat);have h2:=Bk px hp.1 hp.2;omega
theorem lO {px:Int}{a b:Int×Int}{x y:Rat}(ha:Du a)(hb:Du b)(hx:Nm.rl x<=20)(hy:Nm.rl y<=20)(hp: -9223372036854775808<=px/\px<=9223372036854775807):Nm.rl (Un px a b x y)<=120:=by
 unfold Un;have k1:=Yr (Le ha hb hx) hp;have k2:=Yr (Le ha hb hy) hp;have h1:=Nm.rl_add (Ix px (Fi a.1 a.2 b.1 b.2 x)) (Ix px (Fi a.1 a.2 b.1 b.2 y));have h2:=Nm.rl_div (Ix px (Fi a.1 a.2 b.1 b.2 x)+Ix px (Fi a.1 a.2 b.1 b.2 y)) 2;have h3:Nm.rl (2:Rat)<=2:=Bk 2 (by omega) (by omega);have h4:=Nm.rl_sub y x;have h5:=Nm.rl_mul ((Ix px (Fi a.1 a.2 b.1 b.2 x)+Ix px (Fi a.1 a.2 b.1 b.2 y))/2) (y-x);omega
theorem Yg {p a b:Int×Int}(ha:Du a)(hb:Du b)(hp:(-1048576<=p.1/\p.1<=1048320)/\ -1048576<=p.2/\p.2<=1048320):Nm.rl (Hs p a b)<=500:=by
 have oa:=Bi ha;have ob:=Bi hb;have l1: -1048576<=Ye p.2 a b/\Ye p.2 a b<=1048576:=by unfold Ye;omega
 have l2: -1048576<=Yk p.2 a b/\Yk p.2 a b<=1048576:=by unfold Yk;omega
 unfold Hs;split
 ·exact Ar (Bk 0 (by omega) (by omega)) (by omega)
 split
 ·exact Ar (Bk _ (by omega) (by omega)) (by omega)
 have hr:∀z,z∈Iw p.1 a b (Ye p.2 a b) (Yk p.2 a b)->Nm.rl z<=20:=fun z hz=>oQ hz ha hb ⟨by omega,by omega⟩ ⟨by omega,by omega⟩ hp.1
 have h:=Ti (F:=Un p.1 a b) (C:=120) (fun x hx y hy=>lO ha hb (hr x hx) (hr y hy) ⟨by omega,by omega⟩);have h2:=Yj p.1 a b (Ye p.2 a b) (Yk p.2 a b);have h3:=Nat.mul_le_mul_right (120+1) h2;omega
theorem lR {p:Int×Int}(hp:(-1048576<=p.1/\p.1<=1048320)/\ -1048576<=p.2/\p.2<=1048320):∀{l:List Dw} {s:Rat},(∀e,e∈l->yO e)->Nm.rl (l.foldl (Sg p) s)<=Nm.rl s+l.length*501
 | [],s,_=>by simp
 |e::l,s,h=>by
  have he:=h e List.mem_cons_self;have ih:=lR hp (l:=l) (s:=Sg p s e) (fun x hx=>h x (List.mem_cons_of_mem _ hx));have k:Nm.rl (Sg p s e)<=Nm.rl s+501:=by
   have h0:=Yg (p:=p) he.1 he.2 hp;unfold Sg;split
   ·have:=Nm.rl_add s (Hs p e.1 e.2);omega
   split
   ·have:=Nm.rl_sub s (Hs p e.1 e.2);omega
   omega
  show Nm.rl (l.foldl (Sg p) (Sg p s e))<=_;rw[List.length_cons,Nat.add_mul];omega
end
section
attribute [local go_sem ↓] Go.wp_at_zero Go.wp_at_succ Aj Ai
theorem fI (px py:Int)(r:RV)(x:Rat)(w:World)(hp: -1048576<=px/\px<=1048576)(hx:r.Is w x)(hl:Nm.rl x<=200):
  Calls Tryz.prog 128 #[.agg #[iV px,iV py],.agg #[.bool r.n,.slice r.p r.l r.c,.bool r.m,.slice r.p2 r.l2 r.c2]] w fun e w'=>∃q:RV,e= .returned (.agg #[.bool q.n,.slice q.p q.l q.c,.bool q.m,.slice q.p2 q.l2 q.c2])/\q.Is w' (Ix px x)/\Aa w w':=by
 have HX:=zH hx;have D6:=zH hl;clear hx hl;go_enter Tryz.func128,Tryz.ntmps128
 have H0:=zH (Hp.start w);go_upto_region 0 with fail
 refine wl ?_;refine Cm 68 [iV px,iV py] H0.1 ?_;intro X1 w2 H3 _;refine Cm 26 (rc r) H3.1 ?_;intro X6 w7 H8 _;refine Cm 26 rz H8.1 ?_;intro K9 B6 D9 _;go_upto_region 1 with fail
 refine zy ?_;have C3:=zH (D9.1.step (Aa.refl B6).drew);refine lJ D9.1 zb (bs 7 7) 0 1 2 _ _ _ ?_;refine gG 5 (some 5) 26 rz B6 C3.1 ?_;refine gL 3 (bs 7 39) (bs 7 15) zb.size C3.1 zb (fun xq A5=>Cx px _ (by omega) (by omega)) (by rintro x_ e E4 ⟨c_,rfl,A1,hx⟩;exact hx) ?_;rintro xq e K3 A5 ⟨c_,rfl,A1,hx⟩;replace hx:=A5.trans hx;clear A5;have C2:=zH (C3.1.step hx);have C1:=zH (zb.trans hx);obtain⟨K8,rfl,A0⟩:=A1;have G0:=zH A0;have E3:=zH (Bk px (by omega) (by omega));clear A0 hx;refine⟨_,rfl,?_⟩;try simp only[Act.put,zA,zB,zC]
 refine gL 4 (bs 7 47) (bs 7 31) C1.1.size C2.1 C1.1 (fun xq A5=>aP (L:=60000) (RV.Is.nin (HX.1.dig (C2.1.dig0.trans (Af.of_ext A5))) (Ar D6.1 (by omega))) (RV.Is.nin (G0.1.dig (Af.of_ext A5)) (Ar E3.1 (by omega))) (by omega)) (by rintro x_ e E4 ⟨c_,rfl,A1,hx⟩;exact hx) ?_;rintro xq e K2 A5 ⟨c_,rfl,A1,hx⟩;replace hx:=A5.trans hx;clear A5;have H9:=zH (C2.1.step hx);have D5:=zH (C1.1.trans hx);obtain⟨A2,rfl,A0⟩:=A1;have B2:=zH A0;clear A0;have B9:=zH (show Nm.rl (x-(((px):Int):Rat))<=200+2+1 from by have h1:=D6.1;have h2:=E3.1;have h3:=Nm.rl_sub x (((px):Int):Rat);omega);clear hx;refine⟨_,rfl,?_⟩;try simp only[Act.put,zA,zB,zC]
 refine gE (bs 7 63) D5.1.size H9.1 D5.1 ?_;intro F2 E9 hx hh hs C8;have H7:=hN hh;have E2:=zH (Af.of_ext hx);have F3:=zH (show Aa B6 E9 from hs);have I0:=zH (show B6.heap.size<=F2 from C8);clear hh hx C8 hs;try simp only[Act.put,zA,zB,zC]
 refine bS 3 6 (bs 7 127) (rc A2) H7.1 F3.1 I0.1 ?_;intro A9 B8 E1 L0;refine wpAnyH_done kR ?_ _;rcases Co (x-(((px):Int):Rat)<(((0):Int):Rat))with H1|H1
 ·go_upto_region 2 with fail
  refine zy ?_;have H6:=zH (B8.1.step (Aa.refl A9).drew);have J1:=zH (Af.of_ext (w:=A9) zb);refine Rp B8.1 zb (bs 4 1) 0 _ ?_;refine mC 1 (bs 4 3) (Cx 0 _ (by omega) (by omega)) ?_;rintro e E8 ⟨c_,rfl,A1,hx⟩;have H5:=zH (H6.1.step hx);have J0:=zH (show Af A9.drew E8 from Af.of_ext hx);have D4:=zH (zb.trans hx);obtain⟨K7,rfl,A0⟩:=A1;have F9:=zH A0;have J5:=zH (Bk 0 (by omega) (by omega));clear A0 hx;refine zm D4.1 ?_;have C5:=tD (tD (tD E2 E1) J1) J0;refine mC 2 (bs 4 7) (Fk (L:=60000) (RV.Is.nin (B2.1.dig C5.1) (Ar B9.1 (by omega))) (RV.Is.nin F9.1 (Ar J5.1 (by omega))) (by omega)) ?_;rintro e K1 ⟨rfl,hx⟩;have H4:=zH (H5.1.step hx);have D3:=zH (D4.1.trans hx);clear hx;refine zm D3.1 ?_;refine zu 3 (bs 4 15) (v:= .bool true) D3.1 ?_ (hv:=by intro w C0;exact Dv (e:=(Ae (rcmp_lt.2 H1.1))));refine wpAnyH_done kR ?_ _;go_upto_region 3 with fail
  refine wl ?_;refine zc (Cx 0 _ (by omega) (by omega)) ?_;rintro e K0 ⟨c_,rfl,A1,hx⟩;have G9:=zH (H4.1.step hx);obtain⟨A4,rfl,A0⟩:=A1;have F8:=zH A0;clear A0 hx;refine zn ?_;refine Cy 2 (rc A4) G9.1 ?_;intro J9 D8 I9;go_wp2_with fail
  refine bodyPost_ret (v:= .agg #[.bool A4.n,.slice A4.p A4.l A4.c,.bool A4.m,.slice A4.p2 A4.l2 A4.c2]) ?_ rfl ⟨A4,rfl,(show Ix px x=(((0):Int):Rat)from if_pos H1.1)▸(F8.1.dig I9.1),D8.1.ext⟩;exact An rfl rfl ((D8.1.blk (i:=2) rR).loadVar rfl rfl rR)
 go_upto_region 2 with fail
 refine zy ?_;have G8:=zH (B8.1.step (Aa.refl A9).drew);have I8:=zH (Af.of_ext (w:=A9) zb);refine Rp B8.1 zb (bs 4 1) 0 _ ?_;refine mC 1 (bs 4 3) (Cx 0 _ (by omega) (by omega)) ?_;rintro e E7 ⟨c_,rfl,A1,hx⟩;have G7:=zH (G8.1.step hx);have I7:=zH (show Af A9.drew E7 from Af.of_ext hx);have D2:=zH (zb.trans hx);obtain⟨K6,rfl,A0⟩:=A1;have F7:=zH A0;have J4:=zH (Bk 0 (by omega) (by omega));clear A0 hx;refine zm D2.1 ?_;have A7:=tD (tD (tD E2 E1) I8) I7;refine mC 2 (bs 4 7) (Fk (L:=60000) (RV.Is.nin (B2.1.dig A7.1) (Ar B9.1 (by omega))) (RV.Is.nin F7.1 (Ar J4.1 (by omega))) (by omega)) ?_;rintro e A8 ⟨rfl,hx⟩;have B7:=zH (G7.1.step hx);have E0:=zH (Af.of_ext hx);have D1:=zH (D2.1.trans hx);clear hx;refine zm D1.1 ?_;refine zu 3 (bs 4 15) (v:= .bool false) D1.1 ?_ (hv:=by intro w C0;exact Dv (e:=(Ah (fun hh=>H1.1 (rcmp_lt.1 hh)))));refine wpAnyH_done kR ?_ _;rcases Co ((((256):Int):Rat)<x-(((px):Int):Rat))with H2|H2
 ·go_upto_region 4 with fail
  refine zy ?_;have G6:=zH (B7.1.step (Aa.refl A8).drew);have I6:=zH (Af.of_ext (w:=A8) zb);refine Rp B7.1 zb (bs 4 1) 0 _ ?_;refine mC 1 (bs 4 3) (Cx 256 _ (by omega) (by omega)) ?_;rintro e E6 ⟨c_,rfl,A1,hx⟩;have G5:=zH (G6.1.step hx);have I5:=zH (show Af A8.drew E6 from Af.of_ext hx);have D0:=zH (zb.trans hx);obtain⟨K5,rfl,A0⟩:=A1;have F6:=zH A0;have J3:=zH (Bk 256 (by omega) (by omega));clear A0 hx;refine zm D0.1 ?_;have C4:=tD (tD (tD A7 E0) I6) I5;refine mC 2 (bs 4 7) (Fk (L:=60000) (RV.Is.nin (B2.1.dig C4.1) (Ar B9.1 (by omega))) (RV.Is.nin F6.1 (Ar J3.1 (by omega))) (by omega)) ?_;rintro e J8 ⟨rfl,hx⟩;have G4:=zH (G5.1.step hx);have C9:=zH (D0.1.trans hx);clear hx;refine zm C9.1 ?_;refine zu 3 (bs 4 15) (v:= .bool true) C9.1 ?_ (hv:=by intro w C0;exact Tw (e:=(Ae (Hg.2 H2.1))));refine wpAnyH_done kR ?_ _;go_upto_region 5 with fail
  refine wl ?_;refine zc (Cx 256 _ (by omega) (by omega)) ?_;rintro e J7 ⟨c_,rfl,A1,hx⟩;have G3:=zH (G4.1.step hx);obtain⟨A3,rfl,A0⟩:=A1;have F5:=zH A0;clear A0 hx;refine zn ?_;refine Cy 2 (rc A3) G3.1 ?_;intro J6 D7 I4;go_wp2_with fail
  refine bodyPost_ret (v:= .agg #[.bool A3.n,.slice A3.p A3.l A3.c,.bool A3.m,.slice A3.p2 A3.l2 A3.c2]) ?_ rfl ⟨A3,rfl,(show Ix px x=(((256):Int):Rat)from(if_neg H1.1).trans (if_pos H2.1))▸(F5.1.dig I4.1),D7.1.ext⟩;exact An rfl rfl ((D7.1.blk (i:=2) rR).loadVar rfl rfl rR)
 go_upto_region 4 with fail
 refine zy ?_;have G2:=zH (B7.1.step (Aa.refl A8).drew);have I3:=zH (Af.of_ext (w:=A8) zb);refine Rp B7.1 zb (bs 4 1) 0 _ ?_;refine mC 1 (bs 4 3) (Cx 256 _ (by omega) (by omega)) ?_;rintro e E5 ⟨c_,rfl,A1,hx⟩;have G1:=zH (G2.1.step hx);have I1:=zH (show Af A8.drew E5 from Af.of_ext hx);have B1:=zH (zb.trans hx);obtain⟨K4,rfl,A0⟩:=A1;have F4:=zH A0;have J2:=zH (Bk 256 (by omega) (by omega));clear A0 hx;refine zm B1.1 ?_;have A6:=tD (tD (tD A7 E0) I3) I1;refine mC 2 (bs 4 7) (Fk (L:=60000) (RV.Is.nin (B2.1.dig A6.1) (Ar B9.1 (by omega))) (RV.Is.nin F4.1 (Ar J2.1 (by omega))) (by omega)) ?_;rintro e F1 ⟨rfl,hx⟩;have B4:=zH (G1.1.step hx);have C7:=zH (Af.of_ext hx);have B0:=zH (B1.1.trans hx);clear hx;refine zm B0.1 ?_;refine zu 3 (bs 4 15) (v:= .bool false) B0.1 ?_ (hv:=by intro w C0;exact Tw (e:=(Ah (fun hh=>H2.1 (Hg.1 hh)))));refine wpAnyH_done kR ?_ _;go_upto_region 6 with fail
 refine wl ?_;refine Cs B4.1 _ ?_;refine Cy 2 (rc A2) B4.1 ?_;intro F0 B3 C6;have B5:=tD (tD A6 C7) C6;go_wp2_with fail
 refine bodyPost_ret (v:= .agg #[.bool A2.n,.slice A2.p A2.l A2.c,.bool A2.m,.slice A2.p2 A2.l2 A2.c2]) ?_ rfl ⟨A2,rfl,(show Ix px x=x-(((px):Int):Rat)from(if_neg H1.1).trans (if_neg H2.1))▸(B2.1.dig B5.1),B3.1.ext⟩;exact An rfl rfl ((B3.1.blk (i:=2) rR).loadVar rfl rfl rR)
theorem Pj (px py:Int)(w:World)(hp:(-1048576<=px/\px<=1048576)/\ -1048576<=py/\py<=1048576):Calls Tryz.prog 124 #[.agg #[iV px,iV py]] w fun e w'=>e= .returned (iV (px+256))/\Aa w w':=by
 go_enter Tryz.func124,Tryz.ntmps124
 have H0:=zH (Hp.start w);go_upto_region 0 with fail
 refine wl ?_;refine Cm 68 [iV px,iV py] H0.1 ?_;intro A2 A1 A0 _;refine zq (iV 0) ?_;go_upto_region 1 with fail
 refine wl ?_;refine Bq A0.1 _ _ ?_;refine zp (iV (px+256)) (by exact Hm (by omega)) ?_;refine zq (iV (px+256)) ?_;go_wp2_with fail
 go_ret
 exact⟨rfl,A0.1.ext⟩
theorem fB (px py:Int)(w:World)(hp:(-1048576<=px/\px<=1048576)/\ -1048576<=py/\py<=1048576):Calls Tryz.prog 123 #[.agg #[iV px,iV py]] w fun e w'=>e= .returned (iV (py+256))/\Aa w w':=by
 go_enter Tryz.func123,Tryz.ntmps123
 have H0:=zH (Hp.start w);go_upto_region 0 with fail
 refine wl ?_;refine Cm 68 [iV px,iV py] H0.1 ?_;intro A2 A1 A0 _;refine zq (iV 0) ?_;go_upto_region 1 with fail
 refine wl ?_;refine Bq A0.1 _ _ ?_;refine zp (iV (py+256)) (by exact Hm (by omega)) ?_;refine zq (iV (py+256)) ?_;go_wp2_with fail
 go_ret
 exact⟨rfl,A0.1.ext⟩
def kW (px:Int)(a b:Int×Int)(lo hi:Int)(k:Nat):List Rat:=(if 0<k then Uv a b lo hi px else[])++(if 1<k then Uv a b lo hi (px+256)else[])
theorem Mc {px:Int}{a b:Int×Int}{lo hi:Int}{k:Nat}(h:k<2):kW px a b lo hi (k+1)=kW px a b lo hi k++Uv a b lo hi (if k=0 then px else px+256):=by
  rcases(by omega:k=0\/k=1)with rfl|rfl<;>simp[kW]
theorem pQ (px:Int)(a b:Int×Int)(lo hi:Int): [((lo:Int):Rat),((hi:Int):Rat)]++kW px a b lo hi 2=bL px a b lo hi:=by simp[kW,bL]
theorem tW {a b:Int×Int}{lo hi x:Int}(h:Yo a b lo hi x):Uv a b lo hi x=[Nj a b x]:=if_pos h
theorem eV {a b:Int×Int}{lo hi x:Int}(h:¬Yo a b lo hi x):Uv a b lo hi x=[]:=if_neg h
theorem tB (px py:Int)(a b:Int×Int)(lo hi:Int)(w:World)(hp:(-1048576<=px/\px<=1048320)/\ -1048576<=py/\py<=1048320)(oa:Du a)(ob:Du b)(hlo: -1048576<=lo/\lo<=1048576)(hhi: -1048576<=hi/\hi<=1048576):
  Calls Tryz.prog 125 #[.agg #[iV px,iV py],.agg #[iV a.1,iV a.2],.agg #[iV b.1,iV b.2],iV lo,iV hi] w fun e w'=>∃(A:Option Addr) (n c:Nat) (es:List Bp),e= .returned (.slice A n c)/\n=es.length/\Be w' w.heap.size 26 4 (.slice A n c) n (List.flatMap Bp.cells es)/\es.map Bp.q=Iw px a b lo hi/\(∀e,e∈es->e.Ok 24 w')/\Aa w w':=by
 have O2:=zH oa;have O1:=zH ob;have Q2:=zH hlo;have Q3:=zH hhi;have Q1:=zH hp;clear oa ob;go_enter Tryz.func125,Tryz.ntmps125
 have H0:=zH (Hp.start w);go_upto_region 0 with fail
 refine wl ?_;refine Cm 68 [iV px,iV py] H0.1 ?_;intro X1 w2 H3 _;refine Cm 52 [iV a.1,iV a.2] H3.1 ?_;intro X6 w7 H8 _;refine Cm 52 [iV b.1,iV b.2] H8.1 ?_;intro G9 P7 P2 _;refine Cs Ac _ ?_;go_upto_region 1 with fail
 refine wl ?_;refine qV (iV lo) ?_;refine zc (Cx lo _ (by omega) (by omega)) ?_;rintro e P6 ⟨c_,rfl,I7,hx⟩;have P1:=zH (P2.1.step hx);obtain⟨A2,rfl,C3⟩:=I7;have H4:=zH C3;have H9:=zH (Bk lo (by omega) (by omega));clear C3 hx;refine zn ?_;refine qV (iV hi) ?_;refine zc (Cx hi _ (by omega) (by omega)) ?_;rintro e P5 ⟨c_,rfl,I7,hx⟩;have P0:=zH (P1.1.step hx);have H7:=zH (Af.of_ext hx);obtain⟨A3,rfl,C3⟩:=I7;have J0:=zH C3;have K8:=zH (Bk hi (by omega) (by omega));clear C3 hx;refine zn ?_;refine cS 2 26 [.bool A2.n,.slice A2.p A2.l A2.c,.bool A2.m,.slice A2.p2 A2.l2 A2.c2,.bool A3.n,.slice A3.p A3.l A3.c,.bool A3.m,.slice A3.p2 A3.l2 A3.c2] P0.1 ?_;intro G8 D7 M5 D1;refine Cs Ac _ ?_;have J3:=zH (show Hp w D7 [.blk X1 68 [iV px,iV py],.blk X6 52 [iV a.1,iV a.2],.blk G9 52 [iV b.1,iV b.2],ro 26 4 (some ⟨G8,0,none⟩) 2 2 Bp.cells ([(⟨A2,(((lo):Int):Rat)⟩:Bp),(⟨A3,(((hi):Int):Rat)⟩:Bp)])]from M5.1.turn (r:=none) (i:=3) (e:= .blk G8 26 [.bool A2.n,.slice A2.p A2.l A2.c,.bool A2.m,.slice A2.p2 A2.l2 A2.c2,.bool A3.n,.slice A3.p A3.l A3.c,.bool A3.m,.slice A3.p2 A3.l2 A3.c2]) (e':= .row 26 4 (.slice (some ⟨G8,0,none⟩) 2 2) (2) (List.flatMap Bp.cells ([(⟨A2,(((lo):Int):Rat)⟩:Bp),(⟨A3,(((hi):Int):Rat)⟩:Bp)]))) (by rfl) (fun k h=>by cases h) (World.grownBy.refl _ _) (M5.1.litRow17 (i:=3) (n:=2) (by rfl) (by rfl) (by decide)) (fun k hk=> .inl hk));go_upto_region 2 with fail
 refine zy ?_;have O9:=zH (J3.1.step (Aa.refl D7).drew);have D0:=zH (Af.of_ext (w:=D7) zb);refine zx 0 (bs 7 1) (.pointer (some ⟨X1,0,none⟩)) zb ?_;refine Ec (g:=X1) (o:=0) (v:= iV px) (i:=1) (listed':=(bs 7 3)) rR kR kR kR (by intro _ _ _ h;exact h) rR (fun x hx=>Aa.get hx (show World.cell? D7 ⟨X1,0,none⟩=some (iV px)from Ak (J3.1.range (i:=0) rR 0 1))) (by intro x hq;go_simp<;>with_reducible rfl) zb kR ?_;refine zg 2 (bs 7 7) X1 (0) [iV px,iV py] (J3.1.range (i:=0) rR 0 2) Tryz.underlying68 zb ?_;refine zx 6 (bs 7 71) (iV 0) zb ?_;refine mC 3 (bs 7 79) (Pj px py _ ⟨⟨by omega,by omega⟩,by omega,by omega⟩) ?_;rintro e M9 ⟨rfl,hx⟩;have O8:=zH (O9.1.step hx);have C9:=zH (show Af D7.drew M9 from Af.of_ext hx);have M0:=zH (zb.trans hx);clear hx;refine zm M0.1 ?_;refine oJ (T:=3) (zs:=[iV px,iV (px+256)]) (n:=2) (i:=4) (listed':=(bs 7 95)) rR kR rR (by go_simp) kR O8.1 (by simp[At]) ?_;intro I8 M8 hh hx N7;have M4:=hN hh;have C8:=zH (Af.of_ext hx);have L9:=zH (M0.1.trans hx);clear hh hx N7;refine⟨L9.1,?_⟩;try simp only[Act.put,zA,zB,zC]
 refine zx 5 (bs 7 127) (iV 2) L9.1 ?_;refine wpAnyH_done kR ?_ _;go_wp2_with fail
 go_loopg [27,11] (2) (fun cq N5 N4 wr=>∃(kx:Nat) (A1:Option Addr) (n1:Nat) (c1:Nat) (fs:List Bp),cq=2-kx/\N5= iV (kx:Int)/\N4= .slice A1 n1 c1/\(kx<=2)/\(n1=fs.length+2/\n1<=2+kx)/\(fs.map Bp.q=kW px a b lo hi kx)/\(∀e,e∈fs->e.Ok 24 wr)/\Hp w wr [.blk X1 68 [iV px,iV py],.blk X6 52 [iV a.1,iV a.2],.blk G9 52 [iV b.1,iV b.2],.row 26 4 (.slice A1 n1 c1) (n1) (List.flatMap Bp.cells ((⟨A2,(((lo):Int):Rat)⟩:Bp)::(⟨A3,(((hi):Int):Rat)⟩:Bp)::fs)),.blk I8 3 [iV px,iV (px+256)]]/\Af M8 wr)
 case atStart=>exact⟨0,some ⟨G8,0,none⟩,2,2,[],rfl,rfl,rfl,(by omega),⟨rfl,by omega⟩,rfl,(fun _ h_=>by cases h_),M4.1,Af.refl _⟩
 obtain⟨kx,A1,n1,c1,fs,rfl,rfl,rfl,C0,B9,C1,C2,L3,L5⟩:=hrel;generalize wr=L0 at*
 have O3:=zH C0;clear C0;have D5:=zH B9;clear B9;have E0:=zH C1;clear C1;have E1:=zH C2;clear C2;have B2:=zH L3;have B0:=zH L5;clear L3 L5 M4;rcases Co (kx<2)with HKT|HKT
 ·have P9:=HKT.1
  obtain⟨xv,L1⟩:∃xv,xv=if kx=0 then px else px+256:=⟨_,rfl⟩
  have D4:=zH L1;clear L1;have P8: -1048576<=xv/\xv<=1048576:=by rw[D4.1];split<;>omega
  obtain⟨g1,I6⟩:=Be.form (B2.1.row (i:=3) (by rfl)) |>.elim (fun A_ h_=>h_.elim (fun c_ L7=>(show∃g1,A1=some ⟨g1,0,none⟩from by obtain⟨e_,N8⟩:=L7;injection e_ with e1_ e2_ e3_;subst e1_;exact N8 (by have Q0:=D5.1.1;omega))));subst I6;have N6:fs.length+2<=n1/\n1<=fs.length+2/\n1<=2+kx:=by have h_:=D5.1;omega
  have J2:=zH (show((⟨A2,(((lo):Int):Rat)⟩:Bp)::(⟨A3,(((hi):Int):Rat)⟩:Bp)::fs)[0]?=some (⟨A2,(((lo):Int):Rat)⟩:Bp)from rfl);have M2:=zH (show((⟨A2,(((lo):Int):Rat)⟩:Bp)::(⟨A3,(((hi):Int):Rat)⟩:Bp)::fs)[1]?=some (⟨A3,(((hi):Int):Rat)⟩:Bp)from rfl);go_upto_region 3 with fail
  refine wl ?_;refine zp (.bool true) (by exact Dv (e:=(Ae (by omega)))) ?_;go_upto_region 4 with fail
  refine wl ?_;refine zp (.pointer (some ⟨I8,kx,none⟩)) (by exact Jo (k:=kx) Tryz.underlying156 (l:=(by have h_:=HKT.1;omega)) (f:=(show kx=0+kx*1 by omega))) ?_;refine ze I8 kx (iV xv) (by rw[D4.1];exact bA B2.1 (i:=4) rR kx HKT.1) ?_;refine zq (iV xv) ?_;rcases Co (cU a b xv)with HYC|HYC
  ·go_upto_region 5 with fail
   refine wl ?_;refine zd X6 (0) [iV a.1,iV a.2] (B2.1.range (i:=1) rR 0 2) Tryz.underlying52 ?_;refine zd G9 (0) [iV b.1,iV b.2] (B2.1.range (i:=2) rR 0 2) Tryz.underlying52 ?_;refine qV (iV xv) ?_;refine zc (((Rb a b xv _ (by omega)).mono (fun _ _ h_=>Pb.yes h_ HYC.1))) ?_;rintro e P4 ⟨A0,rfl,C3,hx⟩;have O7:=zH (B2.1.step hx);have A9:=zH (Af.of_ext hx);have D3:=zH C3;have D6:=zH (Xg (x:=xv) HYC.1.1 HYC.1.2.1 ⟨by omega,by omega⟩);clear C3 hx;refine zn ?_;refine Dh Ac _ _ (.bool true) ?_;refine Cm 26 rz O7.1 ?_;intro D9 P3 O6 A7;refine Cy 5 (rc A0) O6.1 ?_;intro B3 A8 A6;refine zq (.bool true) ?_;rcases Co ((((lo):Int):Rat)<(Nj a b xv))with H1|H1
   ·rcases Co ((Nj a b xv)<(((hi):Int):Rat))with H2|H2
    ·go_upto_region 6 with fail
     refine zy ?_;have O5:=zH (A8.1.step (Aa.refl B3).drew);have G1:=zH (Af.of_ext (w:=B3) zb);refine zx 0 (bs 17 1) (.bool true) zb ?_;refine mX 1 (bs 17 3) (.bool true) zb ?_;refine zg 2 (bs 17 7) D9 (0) (rc A0) (A8.1.range (i:=5) rR 0 4) Tryz.underlying26 zb ?_;refine zx 3 (bs 17 15) (.slice (some ⟨g1,0,none⟩) n1 c1) zb ?_;refine zo 4 (bs 17 31) (v:= .pointer (some ⟨g1,0*4,none⟩)) zb ?_ (hv:=by intro w B5;exact Jo (k:=0) Tryz.underlying105 (l:=(show 0<n1 by omega)) (f:=(Nat.zero_add _).symm));refine zg 5 (bs 17 63) g1 (0*4) (rc A2) (A8.1.elem (f:=Bp.cells) (i:=3) rR Bp.len J2.1) Tryz.underlying26 zb ?_;have E4:=tD (tD A7 A6) G1;have K5:=tD (tD (tD (tD (tD (tD (tD (tD (tD H7 D1) D0) C9) C8) B0) A9) A7) A6) G1;refine mC 6 (bs 17 127) (Fk (L:=60000) (RV.Is.nin (D3.1.dig E4.1) (Ar D6.1 (by omega))) (RV.Is.nin (H4.1.dig K5.1) (Ar H9.1 (by omega))) (by omega)) ?_;rintro e M7 ⟨rfl,hx⟩;have O4:=zH (O5.1.step hx);have H6:=zH (show Af B3.drew M7 from Af.of_ext hx);have B6:=zH (zb.trans hx);clear hx;refine zm B6.1 ?_;refine zu 7 (bs 17 255) (v:= .bool true) B6.1 ?_ (hv:=by intro w B5;exact Tw (e:=(Ae (Hg.2 H1.1))));refine zx 8 (bs 17 511) (.bool true) B6.1 ?_;refine mX 9 (bs 17 1023) (.bool true) B6.1 ?_;refine zg 10 (bs 17 2047) D9 (0) (rc A0) (A8.1.range (i:=5) rR 0 4) Tryz.underlying26 B6.1 ?_;refine zx 11 (bs 17 4095) (.slice (some ⟨g1,0,none⟩) n1 c1) B6.1 ?_;refine zo 12 (bs 17 8191) (v:= .pointer (some ⟨g1,1*4,none⟩)) B6.1 ?_ (hv:=by intro w B5;exact Jo (k:=1) Tryz.underlying105 (l:=(show 1<n1 by omega)) (f:=(Nat.zero_add _).symm));refine zg 13 (bs 17 16383) g1 (1*4) (rc A3) (A8.1.elem (f:=Bp.cells) (i:=3) rR Bp.len M2.1) Tryz.underlying26 B6.1 ?_;have E3:=tD E4 H6;have K4:=tD (tD (tD (tD (tD (tD (tD (tD (tD D1 D0) C9) C8) B0) A9) A7) A6) G1) H6;refine mC 14 (bs 17 32767) (Fk (L:=60000) (RV.Is.nin (D3.1.dig E3.1) (Ar D6.1 (by omega))) (RV.Is.nin (J0.1.dig K4.1) (Ar K8.1 (by omega))) (by omega)) ?_;rintro e K9 ⟨rfl,hx⟩;have M3:=zH (O4.1.step hx);have K6:=zH (Af.of_ext hx);have I9:=zH (B6.1.trans hx);clear hx;refine zm I9.1 ?_;refine zu 15 (bs 17 65535) (v:= .bool true) I9.1 ?_ (hv:=by intro w B5;exact Dv (e:=(Ae (rcmp_lt.2 H2.1))));refine zx 16 (bs 17 131071) (.bool true) I9.1 ?_;refine wpAnyH_done kR ?_ _;have HC:=zH (tW (show Yo a b lo hi xv from⟨HYC.1.2.2,H1.1,H2.1⟩));go_upto_region 7 with fail
     refine wl ?_;refine Bq M3.1 _ _ ?_;refine zp (w':=(K9.alloc (.cells ([.bool A0.n,.slice A0.p A0.l A0.c,.bool A0.m,.slice A0.p2 A0.l2 A0.c2]:List Value).toArray 26))) (.slice (some ⟨K9.heap.size,0,none⟩) 1 1) (by go_simp) ?_;refine Tj rR _ _ _ rR uT rR M3.1 (ix:=3) rR 1 1 [.bool A0.n,.slice A0.p A0.l A0.c,.bool A0.m,.slice A0.p2 A0.l2 A0.c2] rR rfl (by simp[Value.oneCell']) (by simp[At]) dC (by unfold maxLen;exact(by omega)) (by omega) ?_;intro D8 C4 N3 hf hh hd hg;have M6:=zH hf;clear hf;rw[show List.flatMap Bp.cells ((⟨A2,(((lo):Int):Rat)⟩:Bp)::(⟨A3,(((hi):Int):Rat)⟩:Bp)::fs)++[.bool A0.n,.slice A0.p A0.l A0.c,.bool A0.m,.slice A0.p2 A0.l2 A0.c2]=_ from Hc Bp.cells _ (⟨A0,(Nj a b xv)⟩:Bp)]at hh;have K3:=hN hh;have D2:=zH (hd);clear hh hd hg;try simp only[Act.put,zA,zB,zC]
     refine zq (.slice (some ⟨D8,0,none⟩) (n1+1) C4) ?_;have G0:=tD (tD E3 K6) D2;go_upto_region 8 with fail
     refine wl ?_;refine zp (iV ((kx+1:Nat):Int)) (by exact Hm (by omega)) ?_;refine zq (iV ((kx+1:Nat):Int)) ?_;have F9:=tD (tD (tD (tD (tD (tD A9 A7) A6) G1) H6) K6) D2;have F8:=tD (tD (tD (tD (tD (tD (tD B0 A9) A7) A6) G1) H6) K6) D2;go_wp2_with fail
     go_roundg (2-(kx+1))
     case measure=>exact(by have C6:=(show kx<2 from HKT.1);omega)
     case rel=>exact⟨kx+1,some ⟨D8,0,none⟩,n1+1,C4,(fs++[(⟨A0,(Nj a b xv)⟩:Bp)]),rfl,(by go_num),rfl,(by omega),⟨by simp;omega,by omega⟩,(by rw[Mc HKT.1,<-D4.1,HC.1,<-E0.1];simp),(fun g_ hg_=>(List.mem_append.1 hg_).elim (fun hg_=>(E1.1 g_ hg_).dig F9.1) (fun hg_=>by rw[List.mem_singleton.1 hg_];exact⟨(D3.1.dig G0.1),Ar D6.1 (by decide)⟩)),K3.1.take 5,F8.1⟩
    go_upto_region 6 with fail
    refine zy ?_;have K2:=zH (A8.1.step (Aa.refl B3).drew);have B1:=zH (Af.of_ext (w:=B3) zb);refine zx 0 (bs 17 1) (.bool true) zb ?_;refine mX 1 (bs 17 3) (.bool true) zb ?_;refine zg 2 (bs 17 7) D9 (0) (rc A0) (A8.1.range (i:=5) rR 0 4) Tryz.underlying26 zb ?_;refine zx 3 (bs 17 15) (.slice (some ⟨g1,0,none⟩) n1 c1) zb ?_;refine zo 4 (bs 17 31) (v:= .pointer (some ⟨g1,0*4,none⟩)) zb ?_ (hv:=by intro w B5;exact Jo (k:=0) Tryz.underlying105 (l:=(show 0<n1 by omega)) (f:=(Nat.zero_add _).symm));refine zg 5 (bs 17 63) g1 (0*4) (rc A2) (A8.1.elem (f:=Bp.cells) (i:=3) rR Bp.len J2.1) Tryz.underlying26 zb ?_;have C5:=tD (tD A7 A6) B1;have F7:=tD (tD (tD (tD (tD (tD (tD (tD (tD H7 D1) D0) C9) C8) B0) A9) A7) A6) B1;refine mC 6 (bs 17 127) (Fk (L:=60000) (RV.Is.nin (D3.1.dig C5.1) (Ar D6.1 (by omega))) (RV.Is.nin (H4.1.dig F7.1) (Ar H9.1 (by omega))) (by omega)) ?_;rintro e I3 ⟨rfl,hx⟩;have K1:=zH (K2.1.step hx);have B8:=zH (show Af B3.drew I3 from Af.of_ext hx);have A5:=zH (zb.trans hx);clear hx;refine zm A5.1 ?_;refine zu 7 (bs 17 255) (v:= .bool true) A5.1 ?_ (hv:=by intro w B5;exact Tw (e:=(Ae (Hg.2 H1.1))));refine zx 8 (bs 17 511) (.bool true) A5.1 ?_;refine mX 9 (bs 17 1023) (.bool true) A5.1 ?_;refine zg 10 (bs 17 2047) D9 (0) (rc A0) (A8.1.range (i:=5) rR 0 4) Tryz.underlying26 A5.1 ?_;refine zx 11 (bs 17 4095) (.slice (some ⟨g1,0,none⟩) n1 c1) A5.1 ?_;refine zo 12 (bs 17 8191) (v:= .pointer (some ⟨g1,1*4,none⟩)) A5.1 ?_ (hv:=by intro w B5;exact Jo (k:=1) Tryz.underlying105 (l:=(show 1<n1 by omega)) (f:=(Nat.zero_add _).symm));refine zg 13 (bs 17 16383) g1 (1*4) (rc A3) (A8.1.elem (f:=Bp.cells) (i:=3) rR Bp.len M2.1) Tryz.underlying26 A5.1 ?_;have F6:=tD C5 B8;have F5:=tD (tD (tD (tD (tD (tD (tD (tD (tD D1 D0) C9) C8) B0) A9) A7) A6) B1) B8;refine mC 14 (bs 17 32767) (Fk (L:=60000) (RV.Is.nin (D3.1.dig F6.1) (Ar D6.1 (by omega))) (RV.Is.nin (J0.1.dig F5.1) (Ar K8.1 (by omega))) (by omega)) ?_;rintro e N2 ⟨rfl,hx⟩;have K0:=zH (K1.1.step hx);have G7:=zH (Af.of_ext hx);have C7:=zH (A5.1.trans hx);clear hx;refine zm C7.1 ?_;refine zu 15 (bs 17 65535) (v:= .bool false) C7.1 ?_ (hv:=by intro w B5;exact Dv (e:=(Ah (fun hh=>H2.1 (rcmp_lt.1 hh)))));refine zx 16 (bs 17 131071) (.bool false) C7.1 ?_;refine wpAnyH_done kR ?_ _;have HC:=zH (eV (show¬Yo a b lo hi xv from fun h_=>H2.1 h_.2.2));go_upto_region 8 with fail
    refine wl ?_;refine zp (iV ((kx+1:Nat):Int)) (by exact Hm (by omega)) ?_;refine zq (iV ((kx+1:Nat):Int)) ?_;have F4:=tD (tD (tD (tD (tD A9 A7) A6) B1) B8) G7;have F3:=tD (tD (tD (tD (tD (tD B0 A9) A7) A6) B1) B8) G7;go_wp2_with fail
    go_roundg (2-(kx+1))
    case measure=>exact(by have C6:=(show kx<2 from HKT.1);omega)
    case rel=>exact⟨kx+1,some ⟨g1,0,none⟩,n1,c1,fs,rfl,(by go_num),rfl,(by omega),⟨by exact D5.1.1,by omega⟩,(by rw[Mc HKT.1,<-D4.1,HC.1,List.append_nil];exact E0.1),(fun g_ hg_=>(E1.1 g_ hg_).dig F4.1),K0.1.take 5,F3.1⟩
   go_upto_region 6 with fail
   refine zy ?_;have J9:=zH (A8.1.step (Aa.refl B3).drew);have B7:=zH (Af.of_ext (w:=B3) zb);refine zx 0 (bs 17 1) (.bool true) zb ?_;refine mX 1 (bs 17 3) (.bool true) zb ?_;refine zg 2 (bs 17 7) D9 (0) (rc A0) (A8.1.range (i:=5) rR 0 4) Tryz.underlying26 zb ?_;refine zx 3 (bs 17 15) (.slice (some ⟨g1,0,none⟩) n1 c1) zb ?_;refine zo 4 (bs 17 31) (v:= .pointer (some ⟨g1,0*4,none⟩)) zb ?_ (hv:=by intro w B5;exact Jo (k:=0) Tryz.underlying105 (l:=(show 0<n1 by omega)) (f:=(Nat.zero_add _).symm));refine zg 5 (bs 17 63) g1 (0*4) (rc A2) (A8.1.elem (f:=Bp.cells) (i:=3) rR Bp.len J2.1) Tryz.underlying26 zb ?_;have F2:=tD (tD A7 A6) B7;have F1:=tD (tD (tD (tD (tD (tD (tD (tD (tD H7 D1) D0) C9) C8) B0) A9) A7) A6) B7;refine mC 6 (bs 17 127) (Fk (L:=60000) (RV.Is.nin (D3.1.dig F2.1) (Ar D6.1 (by omega))) (RV.Is.nin (H4.1.dig F1.1) (Ar H9.1 (by omega))) (by omega)) ?_;rintro e I1 ⟨rfl,hx⟩;have J8:=zH (J9.1.step hx);have G6:=zH (show Af B3.drew I1 from Af.of_ext hx);have A4:=zH (zb.trans hx);clear hx;refine zm A4.1 ?_;refine zu 7 (bs 17 255) (v:= .bool false) A4.1 ?_ (hv:=by intro w B5;exact Tw (e:=(Ah (fun hh=>H1.1 (Hg.1 hh)))));refine zx 8 (bs 17 511) (.bool false) A4.1 ?_;refine zx 9 (bs 17 1023) (.bool false) A4.1 ?_;refine zs 10 (bs 17 2047) A4.1 ?_;refine zs 11 (bs 17 4095) A4.1 ?_;refine zs 12 (bs 17 8191) A4.1 ?_;refine zs 13 (bs 17 16383) A4.1 ?_;refine zs 14 (bs 17 32767) A4.1 ?_;refine zs 15 (bs 17 65535) A4.1 ?_;refine zx 16 (bs 17 131071) (.bool false) A4.1 ?_;refine wpAnyH_done kR ?_ _;have HC:=zH (eV (show¬Yo a b lo hi xv from fun h_=>H1.1 h_.2.1));go_upto_region 8 with fail
   refine wl ?_;refine zp (iV ((kx+1:Nat):Int)) (by exact Hm (by omega)) ?_;refine zq (iV ((kx+1:Nat):Int)) ?_;have F0:=tD (tD (tD (tD A9 A7) A6) B7) G6;have E9:=tD (tD (tD (tD (tD B0 A9) A7) A6) B7) G6;go_wp2_with fail
   go_roundg (2-(kx+1))
   case measure=>exact(by have C6:=(show kx<2 from HKT.1);omega)
   case rel=>exact⟨kx+1,some ⟨g1,0,none⟩,n1,c1,fs,rfl,(by go_num),rfl,(by omega),⟨by exact D5.1.1,by omega⟩,(by rw[Mc HKT.1,<-D4.1,HC.1,List.append_nil];exact E0.1),(fun g_ hg_=>(E1.1 g_ hg_).dig F0.1),J8.1.take 5,E9.1⟩
  go_upto_region 5 with fail
  refine wl ?_;refine zd X6 (0) [iV a.1,iV a.2] (B2.1.range (i:=1) rR 0 2) Tryz.underlying52 ?_;refine zd G9 (0) [iV b.1,iV b.2] (B2.1.range (i:=2) rR 0 2) Tryz.underlying52 ?_;refine qV (iV xv) ?_;refine aC B2.1 (((Rb a b xv _ (by omega)).mono (fun _ _ h_=>Pb.no h_ HYC.1))) ?_;intro N1 J7 G5;refine Dh Ac _ _ (.bool false) ?_;refine Cm 26 rz J7.1 ?_;intro N9 N0 J6 G4;refine Cy 5 rz J6.1 ?_;intro B4 J5 G3;refine zq (.bool false) ?_;go_upto_region 6 with fail
  refine zy ?_;have J4:=zH (J5.1.step (Aa.refl B4).drew);have G2:=zH (Af.of_ext (w:=B4) zb);refine zx 0 (bs 17 1) (.bool false) zb ?_;refine zx 1 (bs 17 3) (.bool false) zb ?_;refine zs 2 (bs 17 7) zb ?_;refine zs 3 (bs 17 15) zb ?_;refine zs 4 (bs 17 31) zb ?_;refine zs 5 (bs 17 63) zb ?_;refine zs 6 (bs 17 127) zb ?_;refine zs 7 (bs 17 255) zb ?_;refine zx 8 (bs 17 511) (.bool false) zb ?_;refine zx 9 (bs 17 1023) (.bool false) zb ?_;refine zs 10 (bs 17 2047) zb ?_;refine zs 11 (bs 17 4095) zb ?_;refine zs 12 (bs 17 8191) zb ?_;refine zs 13 (bs 17 16383) zb ?_;refine zs 14 (bs 17 32767) zb ?_;refine zs 15 (bs 17 65535) zb ?_;refine zx 16 (bs 17 131071) (.bool false) zb ?_;refine wpAnyH_done kR ?_ _;have HC:=zH (eV (show¬Yo a b lo hi xv from fun h_=>HYC.1 ⟨O2.1,O1.1,h_.1⟩));go_upto_region 8 with fail
  refine wl ?_;refine zp (w':=B4.drew) (iV ((kx+1:Nat):Int)) (by exact Hm (by omega)) ?_;refine zp (w':=B4.drew) (iV ((kx+1:Nat):Int)) (by go_simp<;>with_reducible rfl) ?_;have E8:=tD (tD (tD G5 G4) G3) G2;have E7:=tD (tD (tD (tD B0 G5) G4) G3) G2;go_wp2_with fail
  go_roundg (2-(kx+1))
  case measure=>exact(by have C6:=(show kx<2 from HKT.1);omega)
  case rel=>exact⟨kx+1,some ⟨g1,0,none⟩,n1,c1,fs,rfl,(by go_num),rfl,(by omega),⟨by exact D5.1.1,by omega⟩,(by rw[Mc HKT.1,<-D4.1,HC.1,List.append_nil];exact E0.1),(fun g_ hg_=>(E1.1 g_ hg_).dig E8.1),J4.1.take 5,E7.1⟩
 obtain rfl:kx=2:=by have h_:=O3.1;have L7:=HKT.1;omega
 have N6:fs.length+2<=n1/\n1<=fs.length+2/\n1<=4:=by have h_:=D5.1;omega
 go_upto_region 3 with fail
 refine wl ?_;refine zp (.bool false) (by exact Dv (e:=(Ah dC))) ?_;have E6:=tD (tD (tD (tD (tD H7 D1) D0) C9) C8) B0;have E5:=tD (tD (tD (tD D1 D0) C9) C8) B0;have M1:=zH (show∀e,e∈((⟨A2,(((lo):Int):Rat)⟩:Bp)::(⟨A3,(((hi):Int):Rat)⟩:Bp)::fs)->e.Ok 24 L0 from by simp only[List.forall_mem_cons];exact⟨⟨(H4.1.dig E6.1),Ar H9.1 (by decide)⟩,⟨(J0.1.dig E5.1),Ar K8.1 (by decide)⟩,fun g_ hg_=>E1.1 g_ hg_⟩);have H5:=zH (show n1=(((⟨A2,(((lo):Int):Rat)⟩:Bp)::(⟨A3,(((hi):Int):Rat)⟩:Bp)::fs)).length from by simp;omega);go_upto_region 9 with fail
 refine wl ?_;refine Cs Ac _ ?_;refine zc (Ry 24 dC (.slice A1 n1 c1) ((⟨A2,(((lo):Int):Rat)⟩:Bp)::(⟨A3,(((hi):Int):Rat)⟩:Bp)::fs) _ _ (by rw[<-H5.1];exact B2.1.row (i:=3) rR) M1.1 (by rw[<-H5.1];omega)) ?_;rintro e I0 ⟨rfl,L8,I5,L2,I4,L4,L6⟩;have J1:=zH I5;have O0:=zH L2;rw[I5.length_eq,<-H5.1]at I4;have hh:=B2.1.turn (i:=3) (e:= .row 26 4 (.slice A1 n1 c1) (n1) (List.flatMap Bp.cells ((⟨A2,(((lo):Int):Rat)⟩:Bp)::(⟨A3,(((hi):Int):Rat)⟩:Bp)::fs))) (e':= .row 26 4 (.slice A1 n1 c1) (n1) (List.flatMap Bp.cells L8)) (by rfl) (fun k h=>h) L4 I4 (fun k hk=> .inl hk);have E2:=hN hh;have K7:=zH (show Af L0 I0 from L6);have hx:=True.intro;clear hh I4 L4 L6 I5 L2 hx;refine zn ?_;go_upto_region 10 with fail
 refine wl ?_;refine Bq Ac _ _ ?_;go_wp2_with fail
 go_ret
 refine⟨_,_,_,L8,rfl,H5.1.trans J1.1.length_eq.symm,E2.1.row (i:=3) rR,?_,fun e_ he_=>(M1.1 e_ (J1.1.mem_iff.1 he_)).dig K7.1,E2.1.ext⟩;refine rB (by rw[List.pairwise_map];exact O0.1) ((J1.1.map Bp.q).trans ?_);rw[<-pQ px a b lo hi,<-E0.1];exact List.Perm.refl _
theorem bD (px py:Int)(a b:Int×Int)(w:World)(hp:(-1048576<=px/\px<=1048320)/\ -1048576<=py/\py<=1048320)(oa:Du a)(ob:Du b):
  Calls Tryz.prog 83 #[.agg #[iV px,iV py],.agg #[iV a.1,iV a.2],.agg #[iV b.1,iV b.2]] w fun e w'=>∃r:RV,e= .returned (.agg #[.bool r.n,.slice r.p r.l r.c,.bool r.m,.slice r.p2 r.l2 r.c2])/\r.Is w' (Hs (px,py) a b)/\Aa w w':=by
 have C4:=zH oa;have C3:=zH ob;have ka:=Bi oa;have kb:=Bi ob;clear oa ob;go_enter Tryz.func83,Tryz.ntmps83
 have H0:=zH (Hp.start w);go_upto_region 0 with fail
 refine wl ?_;refine Cm 68 [iV px,iV py] H0.1 ?_;intro X1 w2 H3 _;refine Cm 52 [iV a.1,iV a.2] H3.1 ?_;intro X6 w7 H8 _;refine Cm 52 [iV b.1,iV b.2] H8.1 ?_;intro L8 W2 V1 _;refine Cm 26 rz V1.1 ?_;intro Q8 S8 O5 _;go_upto_region 1 with fail
 refine zy ?_;have V0:=zH (O5.1.step (Aa.refl S8).drew);refine yF O5.1 zb (bs 18 255) 0 1 2 3 4 5 6 7 _ _ _ _ _ _ (iV (min a.2 b.2)) (iV (max py (min a.2 b.2))) ?_;refine qP O5.1 zb (bs 18 32255) 8 10 11 12 13 14 _ _ _ _ _ (iV (max a.2 b.2)) ?_;refine mC 9 (bs 18 32767) (fB px py _ ⟨⟨by omega,by omega⟩,by omega,by omega⟩) ?_;rintro e Q5 ⟨rfl,hx⟩;have D2:=zH (V0.1.step hx);have R0:=zH (zb.trans hx);clear hx;refine zm R0.1 ?_;refine lJ Ac R0.1 (bs 18 262143) 15 16 17 (iV (min (py+256) (max a.2 b.2))) (iV (max py (min a.2 b.2))) (iV (min (py+256) (max a.2 b.2))) ?_;refine wpAnyH_done kR ?_ _;obtain⟨lo,L3⟩:∃lo,max py (min a.2 b.2)=lo:=⟨_,rfl⟩;obtain⟨hi,L4⟩:∃hi,min (py+256) (max a.2 b.2)=hi:=⟨_,rfl⟩;rw[L3,L4];have K0:=zH (show Ye (px,py).2 a b=lo from L3);have K1:=zH (show Yk (px,py).2 a b=hi from L4);have W4: -1048576<=lo/\lo<=1048576/\ -1048576<=hi/\hi<=1048576:=by omega
 have N5:=zH (show min a.2 b.2<=lo/\hi<=max a.2 b.2 by omega);clear L3 L4;rcases Co (hi<=lo)with H1|H1
 ·go_upto_region 2 with fail
  refine wl ?_;refine Bq Ac (iV lo) (iV hi) ?_;refine zp (.bool true) (by exact Jm (e:=(Ae H1.1))) ?_;refine Hf Ac (.bool true) _ _ _ _ _ _ _ ?_;refine zk ?_;refine zq (.bool true) ?_;go_upto_region 3 with fail
  refine wl ?_;refine zc (Cx 0 _ (by omega) (by omega)) ?_;rintro e W1 ⟨c_,rfl,A6,hx⟩;have U9:=zH (D2.1.step hx);obtain⟨C1,rfl,A1⟩:=A6;have T9:=zH A1;clear A1 hx;refine zn ?_;refine Cy 3 (rc C1) U9.1 ?_;intro W0 S2 V4;go_wp2_with fail
  refine bodyPost_ret (v:= .agg #[.bool C1.n,.slice C1.p C1.l C1.c,.bool C1.m,.slice C1.p2 C1.l2 C1.c2]) ?_ rfl ⟨C1,rfl,(show Hs (px,py) a b=(((0):Int):Rat)from(by unfold Hs;rw[K0.1,K1.1];exact if_pos (.inl H1.1)))▸(T9.1.dig V4.1),S2.1.ext⟩;exact An rfl rfl ((S2.1.blk (i:=3) rR).loadVar rfl rfl rR)
 rcases Co (max a.1 b.1<=px)with H2|H2
 ·go_upto_region 2 with fail
  refine wl ?_;refine Bq Ac (iV lo) (iV hi) ?_;refine zp (.bool false) (by exact Jm (e:=(Ah H1.1))) ?_;refine Hf D2.1 (.bool false) _ _ _ _ (iV (max a.1 b.1)) _ _ ?_;refine zp (.bool true) (by exact Ju (e:=(Ae H2.1))) ?_;refine zq (.bool true) ?_;go_upto_region 3 with fail
  refine wl ?_;refine zc (Cx 0 _ (by omega) (by omega)) ?_;rintro e V9 ⟨c_,rfl,A6,hx⟩;have U8:=zH (D2.1.step hx);obtain⟨C0,rfl,A1⟩:=A6;have T8:=zH A1;clear A1 hx;refine zn ?_;refine Cy 3 (rc C0) U8.1 ?_;intro V8 S1 V3;go_wp2_with fail
  refine bodyPost_ret (v:= .agg #[.bool C0.n,.slice C0.p C0.l C0.c,.bool C0.m,.slice C0.p2 C0.l2 C0.c2]) ?_ rfl ⟨C0,rfl,(show Hs (px,py) a b=(((0):Int):Rat)from(by unfold Hs;rw[K0.1,K1.1];exact if_pos (.inr H2.1)))▸(T8.1.dig V3.1),S1.1.ext⟩;exact An rfl rfl ((S1.1.blk (i:=3) rR).loadVar rfl rfl rR)
 go_upto_region 2 with fail
 refine wl ?_;refine qV (iV lo) ?_;refine zq (iV hi) ?_;refine zp (.bool false) (by exact Jm (e:=(Ah H1.1))) ?_;refine Hf D2.1 (.bool false) _ _ _ _ (iV (max a.1 b.1)) _ _ ?_;refine zp (.bool false) (by exact Ju (e:=(Ah H2.1))) ?_;refine zq (.bool false) ?_;rcases Co (px+256<=min a.1 b.1)with H3|H3
 ·go_upto_region 4 with fail
  refine zy ?_;have U7:=zH (D2.1.step (Aa.refl Q5).drew);refine qP D2.1 zb (bs 8 63) 0 1 2 3 4 5 _ _ _ _ (iV (min a.1 b.1)) _ ?_;refine mC 6 (bs 8 127) (Pj px py _ ⟨⟨by omega,by omega⟩,by omega,by omega⟩) ?_;rintro e V7 ⟨rfl,hx⟩;have U6:=zH (U7.1.step hx);have Q9:=zH (zb.trans hx);clear hx;refine zm Q9.1 ?_;refine zu 7 (bs 8 255) (v:= .bool true) Q9.1 ?_ (hv:=by intro w D7;exact Jm (e:=(Ae H3.1)));refine wpAnyH_done kR ?_ _;go_upto_region 5 with fail
  refine wl ?_;refine Bq Ac (iV hi) (iV lo) ?_;refine zp (iV (hi-lo)) (by exact Tx (by have L2:=(show lo<hi from Int.not_le.1 H1.1);omega)) ?_;refine zp (iV (256*(hi-lo))) (by exact eO (by have L2:=(show lo<hi from Int.not_le.1 H1.1);omega)) ?_;refine zc (Cx (256*(hi-lo)) _ (by have L2:=(show lo<hi from Int.not_le.1 H1.1);omega) (by have L2:=(show lo<hi from Int.not_le.1 H1.1);omega)) ?_;rintro e V6 ⟨c_,rfl,A6,hx⟩;have U5:=zH (U6.1.step hx);obtain⟨B9,rfl,A1⟩:=A6;have T7:=zH A1;clear A1 hx;refine zn ?_;refine Cy 3 (rc B9) U5.1 ?_;intro V5 S0 V2;go_wp2_with fail
  refine bodyPost_ret (v:= .agg #[.bool B9.n,.slice B9.p B9.l B9.c,.bool B9.m,.slice B9.p2 B9.l2 B9.c2]) ?_ rfl ⟨B9,rfl,(show Hs (px,py) a b=((256*(hi-lo):Int):Rat)from(by unfold Hs;rw[K0.1,K1.1];exact(if_neg (fun h_=>by have D8:=H1.1;have D1:=H2.1;omega)).trans (if_pos H3.1)))▸(T7.1.dig V2.1),S0.1.ext⟩;exact An rfl rfl ((S0.1.blk (i:=3) rR).loadVar rfl rfl rR)
 go_upto_region 4 with fail
 refine zy ?_;have P2:=zH (D2.1.step (Aa.refl Q5).drew);refine qP D2.1 zb (bs 8 63) 0 1 2 3 4 5 _ _ _ _ (iV (min a.1 b.1)) _ ?_;refine mC 6 (bs 8 127) (Pj px py _ ⟨⟨by omega,by omega⟩,by omega,by omega⟩) ?_;rintro e T2 ⟨rfl,hx⟩;have P1:=zH (P2.1.step hx);have G5:=zH (zb.trans hx);clear hx;refine zm G5.1 ?_;refine zu 7 (bs 8 255) (v:= .bool false) G5.1 ?_ (hv:=by intro w D7;exact Jm (e:=(Ah H3.1)));refine wpAnyH_done kR ?_ _;go_upto_region 6 with fail
 refine wl ?_;refine zc (Cx 0 _ (by omega) (by omega)) ?_;rintro e T1 ⟨c_,rfl,A6,hx⟩;have P0:=zH (P1.1.step hx);obtain⟨D6,rfl,A1⟩:=A6;have N4:=zH A1;clear A1 hx;refine zn ?_;refine Cm 26 rz P0.1 ?_;intro A5 T0 O9 Q1;refine Cy 4 (rc D6) O9.1 ?_;intro S9 H7 Q0;go_upto_region 7 with fail
 refine wl ?_;refine Kf H7.1 _ _ _ (iV lo) (iV hi) ?_;refine zc (tB px py a b lo hi _ hp C4.1 C3.1 ⟨by omega,by omega⟩ ⟨by omega,by omega⟩) ?_;rintro e F7 ⟨Ap,nn,cp,ep,rfl,D8,B3,D1,D0,hx⟩;have R9:=zH D8;have E2:=zH D1;have R8:=zH D0;have HA:=zH (show 0<nn->∃g,Ap=some ⟨g,0,none⟩from by obtain⟨A_,c_,e_,k_⟩:=Be.form B3;injection e_ with e1_ e2_ e3_;subst e1_;exact k_);have H6:=zH (show Hp w F7 [.blk X1 68 [iV px,iV py],.blk X6 52 [iV a.1,iV a.2],.blk L8 52 [iV b.1,iV b.2],.blk Q8 26 rz,.blk A5 26 (rc D6),ro 26 4 Ap nn cp Bp.cells ep]from H7.1.addRow hx B3);have P9:=zH (Af.of_ext hx);clear B3 D8 D1 D0 hx;refine zn ?_;refine Cs Ac _ ?_;go_upto_region 8 with fail
 refine wl ?_;refine zq (iV 0) ?_;have J9:=zH (show nn=ep.length/\nn<=4 from⟨R9.1,by rw[R9.1,<-List.length_map (f:=Bp.q),E2.1];exact Yj _ _ _ _ _⟩);have W3:=J9.1.2;have J8:=zH (show∀z,z∈(Iw px a b lo hi)->Nm.rl z<=20 from fun z hz=>oQ hz C4.1 C3.1 ⟨by omega,by omega⟩ ⟨by omega,by omega⟩ hp.1);have R7:=zH (show∀z,z∈(Iw px a b lo hi)->((min a.2 b.2:Int):Rat)<=z/\z<=((max a.2 b.2:Int):Rat)from fun z hz=>by have D8:=tA hz (by have:=H1.1;omega);have D1:((min a.2 b.2:Int):Rat)<=((lo:Int):Rat):=(by exact_mod_cast N5.1.1);have D0:((hi:Int):Rat)<=((max a.2 b.2:Int):Rat):=(by exact_mod_cast N5.1.2);exact⟨Rat.le_trans D1 D8.1,Rat.le_trans D8.2 D0⟩);have R6:=zH (show a.2≠b.2 from fun h_=>by have D1:=N5.1;have D0:=H1.1;omega);have U4:=zH (show∀k,Nm.rl (Ja (Un px a b) ((Iw px a b lo hi).take k))<=486 from fun k=>by have h_:=Ti (F:=(Un px a b)) (C:=120) (l:=(Iw px a b lo hi).take k) (fun x hx y hy=>lO C4.1 C3.1 (J8.1 x (List.mem_of_mem_take hx)) (J8.1 y (List.mem_of_mem_take hy)) ⟨by omega,by omega⟩);have D1:=Yj px a b lo hi;have D0:((Iw px a b lo hi).take k).length<=4:=(by rw[List.length_take];omega);have W6:=Nat.mul_le_mul_right (120+1) D0;omega);have I5:=tD (tD Q1 Q0) P9;go_wp2_with fail
 go_loopg [11] (nn) (fun cq K9 wr=>∃(i:Nat) (A0:RV),cq=nn-i/\K9= iV (i:Int)/\(i<nn)/\(A0.Is wr (Ja (Un px a b) ((Iw px a b lo hi).take (i+1))))/\Hp w wr [.blk X1 68 [iV px,iV py],.blk X6 52 [iV a.1,iV a.2],.blk L8 52 [iV b.1,iV b.2],.blk Q8 26 [.bool false,.slice none 0 0,.bool false,.slice none 0 0],.blk A5 26 [.bool A0.n,.slice A0.p A0.l A0.c,.bool A0.m,.slice A0.p2 A0.l2 A0.c2],.row 26 4 (.slice Ap nn cp) (nn) (List.flatMap Bp.cells ep)]/\Af F7 wr)
 case atStart=>exact⟨0,D6,rfl,rfl,(by rw[J9.1.1,<-List.length_map (f:=Bp.q),E2.1];exact sZ _ _ _ _ _),(by have h_:Ja (Un px a b) ((Iw px a b lo hi).take 1)=(((0):Int):Rat):=jP _ _;rw[h_];exact(N4.1.dig I5.1)),H6.1,Af.refl _⟩
 obtain⟨i,A0,rfl,rfl,C8,G0,Q6,Q7⟩:=hrel;generalize wr=B1 at*
 have U3:=zH C8;clear C8;have RZ:=zH G0;clear G0;have B2:=zH Q6;have P8:=zH Q7;clear Q6 Q7 H6;have BZ:=zH (U4.1 (i+1));rcases Co (i+1<nn)with HLT|HLT
 ·have J7:=HLT.1
  have hj:i<nn:=by omega
  obtain⟨gp,rfl⟩:=HA.1 (by omega);have T5:=J9.1.1;obtain⟨xe,C2⟩:∃e,ep[i]?=some e:=⟨_,List.getElem?_eq_getElem (by omega)⟩;obtain⟨ye,J6⟩:∃e,ep[i+1]?=some e:=⟨_,List.getElem?_eq_getElem (by omega)⟩;have HX:=zH C2;have HY:=zH J6;have G7:=zH (R8.1 xe (List.mem_of_getElem? C2)).1;have R5:=zH (show xe.q∈(Iw px a b lo hi)from by rw[<-E2.1];exact List.mem_map_of_mem (List.mem_of_getElem? C2));have B7:=zH (J8.1 _ R5.1);have R3:=zH (R7.1 _ R5.1);have U1:=zH (Yr (px:=px) (Le C4.1 C3.1 B7.1) ⟨by omega,by omega⟩);have G6:=zH (R8.1 ye (List.mem_of_getElem? J6)).1;have R2:=zH (show ye.q∈(Iw px a b lo hi)from by rw[<-E2.1];exact List.mem_map_of_mem (List.mem_of_getElem? J6));have B6:=zH (J8.1 _ R2.1);have R1:=zH (R7.1 _ R2.1);have U0:=zH (Yr (px:=px) (Le C4.1 C3.1 B6.1) ⟨by omega,by omega⟩);have U2:=zH (Th (Un px a b) (Iw px a b lo hi) i xe.q ye.q (by rw[<-E2.1,List.getElem?_map,HX.1];rfl) (by rw[<-E2.1,List.getElem?_map,HY.1];rfl));clear C2 J6 T5;go_upto_region 9 with fail
  refine wl ?_;refine zq (iV (i:Int)) ?_;refine zp (iV ((i+1:Nat):Int)) (by exact Hm (by omega)) ?_;refine Bq Ac _ (iV (nn:Int)) ?_;refine zp (.bool true) (by exact Dv (e:=(Ae (by omega)))) ?_;go_upto_region 11 with fail
  refine zy ?_;have E6:=zH (B2.1.step (Aa.refl B1).drew);have J0:=zH (Af.of_ext (w:=B1) zb);refine zg 0 (bs 13 1) X6 (0) [iV a.1,iV a.2] (B2.1.range (i:=1) rR 0 2) Tryz.underlying52 zb ?_;refine zg 1 (bs 13 3) L8 (0) [iV b.1,iV b.2] (B2.1.range (i:=2) rR 0 2) Tryz.underlying52 zb ?_;refine Ra Ac zb (bs 13 15) 2 3 _ (iV (i:Int)) ?_;refine zo 4 (bs 13 31) (v:= .pointer (some ⟨gp,i*4,none⟩)) zb ?_ (hv:=by intro w D7;exact Jo (k:=i) Tryz.underlying105 (l:=hj) (f:=(Nat.zero_add _).symm));refine zg 5 (bs 13 63) gp (i*4) (rc xe.a) (B2.1.elem (f:=Bp.cells) (i:=5) rR Bp.len HX.1) Tryz.underlying26 zb ?_;refine gG 10 (some 12) 26 rz B1 E6.1 ?_;have D4:=tD P8 J0;refine gL 6 (bs 13 1087) (bs 13 127) zb.size E6.1 zb (fun xq A4=>Rc 20 a.1 a.2 b.1 b.2 _ xe.q _ (RV.Is.nin (G7.1.dig (D4.1.trans (Af.of_ext A4))) B7.1) dC dC C4.1 C3.1 R6.1 R3.1.1 R3.1.2) (by rintro x_ e J5 ⟨c_,rfl,A6,hx⟩;exact hx) ?_;rintro xq e K8 A4 ⟨c_,rfl,A6,hx⟩;replace hx:=A4.trans hx;clear A4;have O8:=zH (E6.1.step hx);have I9:=zH (show Af B1.drew K8 from Af.of_ext hx);have B5:=zH (zb.trans hx);obtain⟨F9,rfl,A1⟩:=A6;have N3:=zH A1;have Q4:=zH (Le (L:=20) C4.1 C3.1 B7.1);clear A1 hx;refine⟨_,rfl,?_⟩;try simp only[Act.put,zA,zB,zC]
  refine gK 7 (bs 13 1151) (bs 13 255) _ B5.1 ?_;refine gK 8 (bs 13 1279) (bs 13 511) _ B5.1 ?_;refine gK 9 (bs 13 1535) (bs 13 1023) (.bool true) B5.1 ?_;refine gE (bs 13 2047) B5.1.size O8.1 B5.1 ?_;intro L7 K7 hx hh hs C9;have O7:=hN hh;have F6:=zH (Af.of_ext hx);have M5:=zH (show Aa B1 K7 from hs);have P5:=zH (show B1.heap.size<=L7 from C9);clear hh hx C9 hs;try simp only[Act.put,zA,zB,zC]
  refine bS 6 11 (bs 13 4095) (rc F9) O7.1 M5.1 P5.1 ?_;intro B0 E5 F5 M4;refine zx 12 (bs 13 8191) (.bool true) M4.1 ?_;refine wpAnyH_done kR ?_ _;go_upto_region 12 with fail
  refine zy ?_;have E4:=zH (E5.1.step (Aa.refl B0).drew);have F4:=zH (Af.of_ext (w:=B0) zb);refine xC E5.1 zb (bs 14 15) 0 1 2 3 _ _ _ (iV (i:Int)) ?_;refine zu 4 (bs 14 31) (v:= iV ((i+1:Nat):Int)) zb ?_ (hv:=by intro w D7;exact Hm (by omega));refine zo 5 (bs 14 63) (v:= .pointer (some ⟨gp,(i+1)*4,none⟩)) zb ?_ (hv:=by intro w D7;exact Jo (k:=i+1) Tryz.underlying105 (l:=J7) (f:=(Nat.zero_add _).symm));refine zg 6 (bs 14 127) gp ((i+1)*4) (rc ye.a) (E5.1.elem (f:=Bp.cells) (i:=5) rR Bp.len HY.1) Tryz.underlying26 zb ?_;refine gG 11 (some 14) 26 rz B0 E4.1 ?_;have D3:=tD (tD (tD (tD D4 I9) F6) F5) F4;refine gL 7 (bs 14 2175) (bs 14 255) zb.size E4.1 zb (fun xq A4=>Rc 20 a.1 a.2 b.1 b.2 _ ye.q _ (RV.Is.nin (G6.1.dig (D3.1.trans (Af.of_ext A4))) B6.1) dC dC C4.1 C3.1 R6.1 R1.1.1 R1.1.2) (by rintro x_ e J5 ⟨c_,rfl,A6,hx⟩;exact hx) ?_;rintro xq e K6 A4 ⟨c_,rfl,A6,hx⟩;replace hx:=A4.trans hx;clear A4;have O6:=zH (E4.1.step hx);have F3:=zH (show Af B0.drew K6 from Af.of_ext hx);have B4:=zH (zb.trans hx);obtain⟨F8,rfl,A1⟩:=A6;have N2:=zH A1;have Q3:=zH (Le (L:=20) C4.1 C3.1 B6.1);clear A1 hx;refine⟨_,rfl,?_⟩;try simp only[Act.put,zA,zB,zC]
  refine gK 8 (bs 14 2303) (bs 14 511) _ B4.1 ?_;refine gK 9 (bs 14 2559) (bs 14 1023) _ B4.1 ?_;refine gK 10 (bs 14 3071) (bs 14 2047) (.bool true) B4.1 ?_;refine gE (bs 14 4095) B4.1.size O6.1 B4.1 ?_;intro L6 K5 hx hh hs C9;have O4:=hN hh;have C7:=zH (Af.of_ext hx);have M3:=zH (show Aa B0 K5 from hs);have P4:=zH (show B0.heap.size<=L6 from C9);clear hh hx C9 hs;try simp only[Act.put,zA,zB,zC]
  refine bS 7 12 (bs 14 8191) (rc F8) O4.1 M3.1 P4.1 ?_;intro A9 H5 C6 M2;refine zx 13 (bs 14 16383) (.bool true) M2.1 ?_;refine wpAnyH_done kR ?_ _;go_upto_region 13 with fail
  refine zy ?_;have E3:=zH (H5.1.step (Aa.refl A9).drew);have C5:=zH (Af.of_ext (w:=A9) zb);refine xC H5.1 zb (bs 9 27) 0 1 3 4 _ _ _ _ ?_;refine gG 7 (some 16) 26 rz A9 E3.1 ?_;have I4:=tD (tD (tD (tD (tD (tD F6 F5) F4) F3) C7) C6) C5;refine gL 2 (bs 9 155) (bs 9 31) zb.size E3.1 zb (fun xq A4=>fI px py F9 (Fi a.1 a.2 b.1 b.2 xe.q) _ ⟨by omega,by omega⟩ (N3.1.dig (I4.1.trans (Af.of_ext A4))) (Ar Q4.1 dC)) (by rintro x_ e J5 ⟨L1,rfl,A1,hx⟩;exact hx) ?_;rintro xq e K4 A4 ⟨L1,rfl,A1,hx⟩;replace hx:=A4.trans hx;clear A4;have H4:=zH (E3.1.step hx);have F2:=zH (show Af A9.drew K4 from Af.of_ext hx);have E1:=zH (zb.trans hx);have N1:=zH A1;have J4:=zH (show Nm.rl (Ix px (Fi a.1 a.2 b.1 b.2 xe.q))<=31 from U1.1);clear A1 hx;refine⟨_,rfl,?_⟩;try simp only[Act.put,zA,zB,zC]
  have I3:=tD (tD (tD C7 C6) C5) F2;refine gL 5 (bs 9 159) (bs 9 63) E1.1.size H4.1 E1.1 (fun xq A4=>fI px py F8 (Fi a.1 a.2 b.1 b.2 ye.q) _ ⟨by omega,by omega⟩ (N2.1.dig (I3.1.trans (Af.of_ext A4))) (Ar Q3.1 dC)) (by rintro x_ e J5 ⟨L0,rfl,A1,hx⟩;exact hx) ?_;rintro xq e S7 A4 ⟨L0,rfl,A1,hx⟩;replace hx:=A4.trans hx;clear A4;have G9:=zH (H4.1.step hx);have F1:=zH (Af.of_ext hx);have E0:=zH (E1.1.trans hx);have N0:=zH A1;have J3:=zH (show Nm.rl (Ix px (Fi a.1 a.2 b.1 b.2 ye.q))<=31 from U0.1);clear A1 hx;refine⟨_,rfl,?_⟩;try simp only[Act.put,zA,zB,zC]
  refine gL 6 (bs 9 191) (bs 9 127) E0.1.size G9.1 E0.1 (fun xq A4=>xH (L:=60000) (RV.Is.nin (N1.1.dig (F1.1.trans (Af.of_ext A4))) (Ar J4.1 (by omega))) (RV.Is.nin (N0.1.dig (Af.of_ext A4)) (Ar J3.1 (by omega))) (by omega)) (by rintro x_ e J5 ⟨c_,rfl,A6,hx⟩;exact hx) ?_;rintro xq e S6 A4 ⟨c_,rfl,A6,hx⟩;replace hx:=A4.trans hx;clear A4;have O3:=zH (G9.1.step hx);have I8:=zH (Af.of_ext hx);have G4:=zH (E0.1.trans hx);obtain⟨A3,rfl,A1⟩:=A6;have M9:=zH A1;clear A1;have J2:=zH (show Nm.rl (((Ix px (Fi a.1 a.2 b.1 b.2 xe.q))+(Ix px (Fi a.1 a.2 b.1 b.2 ye.q)))/2)<=2*60+3 from mZ (Ar J4.1 (by decide)) (Ar J3.1 (by decide)));clear hx;refine⟨_,rfl,?_⟩;try simp only[Act.put,zA,zB,zC]
  refine gE (bs 9 255) G4.1.size O3.1 G4.1 ?_;intro D9 K3 hx hh hs C9;have O2:=hN hh;have F0:=zH (Af.of_ext hx);have M1:=zH (show Aa A9 K3 from hs);have P3:=zH (show A9.heap.size<=D9 from C9);clear hh hx C9 hs;try simp only[Act.put,zA,zB,zC]
  refine bS 8 8 (bs 9 511) (rc A3) O2.1 M1.1 P3.1 ?_;intro A2 A7 E9 T6;refine wpAnyH_done kR ?_ _;go_upto_region 14 with fail
  refine wp_region_held_drew (S:=fun x=>Fr (fun kz=>kz=A5) A2 x) kR (Fr.of_ext zb) (fun _=> ?_);have O1:=zH (A7.1.step (Aa.refl A2).drew);have E8:=zH (Af.of_ext (w:=A2) zb);refine zr 1 (bs 15 2) D9 (0) [.bool A3.n,.slice A3.p A3.l A3.c,.bool A3.m,.slice A3.p2 A3.l2 A3.c2] (fun x hx=>Fr.range hx (show World.rangeAt A2 D9 (0) [.bool A3.n,.slice A3.p A3.l A3.c,.bool A3.m,.slice A3.p2 A3.l2 A3.c2]from(A7.1.range (i:=8) rR 0 4)) (A7.1.offBlk (i:=8) (j:=4) rR rR dC rR)) Tryz.underlying26 (Fr.of_ext zb) ?_;refine zx 2 (bs 15 6) (.slice (some ⟨gp,0,none⟩) nn cp) (Fr.of_ext zb) ?_;refine zx 3 (bs 15 14) (iV (i:Int)) (Fr.of_ext zb) ?_;refine zu 4 (bs 15 30) (v:= iV ((i+1:Nat):Int)) (Fr.of_ext zb) ?_ (hv:=by intro w D7;exact Hm (by omega));refine zo 5 (bs 15 62) (v:= .pointer (some ⟨gp,(i+1)*4,none⟩)) (Fr.of_ext zb) ?_ (hv:=by intro w D7;exact Jo (k:=i+1) Tryz.underlying105 (l:=J7) (f:=(Nat.zero_add _).symm));refine zr 6 (bs 15 126) gp ((i+1)*4) [.bool ye.a.n,.slice ye.a.p ye.a.l ye.a.c,.bool ye.a.m,.slice ye.a.p2 ye.a.l2 ye.a.c2] (fun x hx=>Fr.range hx (show World.rangeAt A2 gp ((i+1)*4) [.bool ye.a.n,.slice ye.a.p ye.a.l ye.a.c,.bool ye.a.m,.slice ye.a.p2 ye.a.l2 ye.a.c2]from(A7.1.elem (f:=Bp.cells) (i:=5) rR Bp.len HY.1)) (A7.1.offBlk (i:=5) (j:=4) rR rR dC rR)) Tryz.underlying26 (Fr.of_ext zb) ?_;refine zx 7 (bs 15 254) (.slice (some ⟨gp,0,none⟩) nn cp) (Fr.of_ext zb) ?_;refine zx 8 (bs 15 510) (iV (i:Int)) (Fr.of_ext zb) ?_;refine zo 9 (bs 15 1022) (v:= .pointer (some ⟨gp,i*4,none⟩)) (Fr.of_ext zb) ?_ (hv:=by intro w D7;exact Jo (k:=i) Tryz.underlying105 (l:=hj) (f:=(Nat.zero_add _).symm));refine zr 10 (bs 15 2046) gp (i*4) [.bool xe.a.n,.slice xe.a.p xe.a.l xe.a.c,.bool xe.a.m,.slice xe.a.p2 xe.a.l2 xe.a.c2] (fun x hx=>Fr.range hx (show World.rangeAt A2 gp (i*4) [.bool xe.a.n,.slice xe.a.p xe.a.l xe.a.c,.bool xe.a.m,.slice xe.a.p2 xe.a.l2 xe.a.c2]from(A7.1.elem (f:=Bp.cells) (i:=5) rR Bp.len HX.1)) (A7.1.offBlk (i:=5) (j:=4) rR rR dC rR)) Tryz.underlying26 (Fr.of_ext zb) ?_;refine Fd.go (j:=0) (dj:=some 102) (u:= .agg #[.bool A0.n,.slice A0.p A0.l A0.c,.bool A0.m,.slice A0.p2 A0.l2 A0.c2]) ?_;have B8:=tD (tD (tD (tD (tD (tD (tD (tD (tD (tD D3 F3) C7) C6) C5) F2) F1) I8) F0) E9) E8;refine Hl (b:=A2) (i:=11) (lj:=(bs 15 2047)) (li:=(bs 15 4094)) rR rR kR kR kR kR kR dC kR rR rR (fun x_ h_=>Fr.of_ext h_) (Aa.refl A2).drew (fun x_ h_=>Je _ _ rR A5 (0) [.bool A0.n,.slice A0.p A0.l A0.c,.bool A0.m,.slice A0.p2 A0.l2 A0.c2] rR (Bu (show World.rangeAt A2 A5 (0) [.bool A0.n,.slice A0.p A0.l A0.c,.bool A0.m,.slice A0.p2 A0.l2 A0.c2]from A7.1.range (i:=4) rR 0 4) h_) Tryz.underlying26 rR kR) rR (by go_simp) kR (aP (L:=60000) (RV.Is.nin (G6.1.dig B8.1) (Ar B6.1 (by omega))) (RV.Is.nin (G7.1.dig B8.1) (Ar B7.1 (by omega))) (by omega)) ?_;rintro e D5 ⟨c_,rfl,A6,hx⟩;have O0:=zH (O1.1.step hx);have E7:=zH (show Af A2.drew D5 from Af.of_ext hx);have G1:=zH (show Aa A2 D5 from(Aa.refl A2).drew.trans hx);have M0:=zH (show Fr (fun kz=>kz=A5) A2 D5 from(Fr.of_ext zb).trans (Fr.of_ext hx));obtain⟨T4,rfl,A1⟩:=A6;have M8:=zH A1;clear A1;have J1:=zH (show Nm.rl (ye.q-xe.q)<=20+20+1 from by have h1:=B6.1;have h2:=B7.1;have h3:=Nm.rl_sub ye.q xe.q;omega);have C2:=hx;clear hx;refine⟨_,rfl,C2,?_⟩;try simp only[Act.put,zA,zB,zC]
  clear C2;have I1:=tD (tD (tD F0 E9) E8) E7;refine Hl (b:=A2) (i:=12) (lj:=(bs 15 4095)) (li:=(bs 15 8190)) rR rR kR kR kR kR kR dC kR rR rR (fun x_ h_=>Fr.of_ext h_) G1.1 (fun x_ h_=>Je _ _ rR A5 (0) [.bool A0.n,.slice A0.p A0.l A0.c,.bool A0.m,.slice A0.p2 A0.l2 A0.c2] rR (Bu (show World.rangeAt A2 A5 (0) [.bool A0.n,.slice A0.p A0.l A0.c,.bool A0.m,.slice A0.p2 A0.l2 A0.c2]from A7.1.range (i:=4) rR 0 4) h_) Tryz.underlying26 rR kR) rR (by go_simp) kR (Xs (L:=60000) (RV.Is.nin (M9.1.dig I1.1) (Ar J2.1 (by omega))) (RV.Is.nin M8.1 (Ar J1.1 (by omega))) (by omega)) ?_;rintro e K2 ⟨c_,rfl,A6,hx⟩;have N9:=zH (O0.1.step hx);have I7:=zH (Af.of_ext hx);have L5:=zH (show Aa A2 K2 from G1.1.trans hx);have G3:=zH (M0.1.trans (Fr.of_ext hx));obtain⟨T3,rfl,A1⟩:=A6;have M7:=zH A1;clear A1;have Q2:=zH (show Nm.rl ((((Ix px (Fi a.1 a.2 b.1 b.2 xe.q))+(Ix px (Fi a.1 a.2 b.1 b.2 ye.q)))/2)*(ye.q-xe.q))<=123+(20+20+1)from by have h1:=J2.1;have h2:=J1.1;have h3:=Nm.rl_mul (((Ix px (Fi a.1 a.2 b.1 b.2 xe.q))+(Ix px (Fi a.1 a.2 b.1 b.2 ye.q)))/2) (ye.q-xe.q);omega);have C2:=hx;clear hx;refine⟨_,rfl,C2,?_⟩;try simp only[Act.put,zA,zB,zC]
  clear C2;refine My rR kR rR rR G3.1 (Je _ _ rR A5 (0) [.bool A0.n,.slice A0.p A0.l A0.c,.bool A0.m,.slice A0.p2 A0.l2 A0.c2] rR (Bu (show World.rangeAt A2 A5 (0) [.bool A0.n,.slice A0.p A0.l A0.c,.bool A0.m,.slice A0.p2 A0.l2 A0.c2]from A7.1.range (i:=4) rR 0 4) L5.1) Tryz.underlying26 rR kR) (show _=(bs 15 8191)by kernel_rfl) ?_;try simp only[Act.put,zA,zB,zC]
  have I0:=tD (tD (tD (tD (tD (tD (tD (tD (tD (tD (tD (tD (tD (tD (tD (tD J0 I9) F6) F5) F4) F3) C7) C6) C5) F2) F1) I8) F0) E9) E8) E7) I7;refine mC 13 (bs 15 16383) (jL (L:=60000) (RV.Is.nin (RZ.1.dig I0.1) (Ar BZ.1 (by omega))) (RV.Is.nin M7.1 (Ar Q2.1 (by omega))) (by omega)) ?_;rintro e S5 ⟨c_,rfl,A6,hx⟩;have N8:=zH (N9.1.step hx);have P7:=zH (Af.of_ext hx);have G2:=zH (G3.1.trans (Fr.of_ext hx));obtain⟨A8,rfl,A1⟩:=A6;have M6:=zH A1;clear A1 hx;refine zm G2.1 ?_;refine Ea (i:=14) (listed':=(bs 15 32767)) rR kR rR kR _ _ _ rR N8.1 (ix:=4) rR 0 [.bool A8.n,.slice A8.p A8.l A8.c,.bool A8.m,.slice A8.p2 A8.l2 A8.c2] rR rR (by simp) kR (by simp[Value.oneCell']) (by simp[At]) ?_;intro S4 hh hd ho;have N7:=hN hh;have I6:=zH (hd);have L9:=zH (Fr.trans_new G2.1 ho (fun j hj=> .inl (by simpa using hj.symm)));clear hh hd ho;refine⟨L9.1,?_⟩
  (try simp only[Act.put])
  refine wpAnyH_done kR ?_ _;go_upto_region 10 with fail
  refine wl ?_;refine zq (iV (i:Int)) ?_;refine zp (iV ((i+1:Nat):Int)) (by exact Hm (by omega)) ?_;refine zq (iV ((i+1:Nat):Int)) ?_;have H9:=tD (tD (tD (tD B8 E7) I7) P7) I6;go_wp2_with fail
  go_roundg (nn-(i+1))
  case measure=>exact(by omega)
  case rel=>exact⟨i+1,A8,rfl,(by go_num),J7,(by rw[U2.1];exact(M6.1.dig I6.1)),N7.1.take 6,H9.1⟩
 have J7:=HLT.1;have W5:=U3.1;go_upto_region 9 with fail
 refine wl ?_;refine zq (iV (i:Int)) ?_;refine zp (iV ((i+1:Nat):Int)) (by exact Hm (by omega)) ?_;refine Bq Ac _ (iV (nn:Int)) ?_;refine zp (.bool false) (by exact Dv (e:=(Ah (by omega)))) ?_;go_upto_region 15 with fail
 refine wl ?_;refine zd A5 (0) (rc A0) (B2.1.range (i:=4) rR 0 4) Tryz.underlying26 ?_;refine Cy 3 (rc A0) B2.1 ?_;intro S3 G8 P6;have N6:=zH (show(Iw px a b lo hi).take (i+1)=(Iw px a b lo hi)from List.take_of_length_le (by rw[<-E2.1,List.length_map,<-J9.1.1];omega));go_wp2_with fail
 refine bodyPost_ret (v:= .agg #[.bool A0.n,.slice A0.p A0.l A0.c,.bool A0.m,.slice A0.p2 A0.l2 A0.c2]) ?_ rfl ⟨A0,rfl,(show Hs (px,py) a b=Ja (Un px a b) ((Iw px a b lo hi).take (i+1))from by rw[N6.1];unfold Hs;rw[K0.1,K1.1];exact(if_neg (fun h_=>by have D8:=H1.1;have D1:=H2.1;omega)).trans (if_neg (fun h_=>by have D0:=H3.1;omega)))▸(RZ.1.dig P6.1),G8.1.ext⟩;exact An rfl rfl ((G8.1.blk (i:=3) rR).loadVar rfl rfl rR)
end
end Go.Proofs.YtlipfipniibpoaaGreat
