import Derived.Deep.LoopGhost
import Derived.Deep.DeepCutAuto
import Derived.Test.YtlipfipniibpoabGreatM4
set_option maxRecDepth 100000
set_option maxHeartbeats 4000000
namespace Go.Proofs.YtlipfipniibpoabGreat
open Go.RowKit
open Go.Proofs.Tryz
section
structure Gk where
  a:RV
  q:Rat
  up:Int
def Gk.cells (e:Gk):List Value:=[.bool e.a.n,.slice e.a.p e.a.l e.a.c,.bool e.a.m,.slice e.a.p2 e.a.l2 e.a.c2,iV e.up]
theorem Gk.len (e:Gk):e.cells.length=5:=rfl
theorem Gk.one (e:Gk):∀v,v∈e.cells->v.oneCell'=true:=by simp[Gk.cells,Value.oneCell']
theorem Gk.noU (e:Gk):Ar e.cells:=by simp[Ar,Gk.cells]
def Gk.vl (e:Gk):QI:=(e.q,e.up)
def Gk.Ok (L:Nat)(w:World)(e:Gk):Prop:=e.a.Is w e.q/\Nm.rl e.q<=L/\ -1<=e.up/\e.up<=1
theorem Gk.Ok.dig {L:Nat}{w w':World}{e:Gk}(h:e.Ok L w)(d:Ah w w'):e.Ok L w':=⟨h.1.dig d,h.2⟩
theorem yM (es:List Gk):Ar (es.flatMap Gk.cells):=by
  intro x hx;obtain⟨e,_,he⟩:=List.mem_flatMap.1 hx;exact Gk.noU e x he
theorem aFL {α:Type}(f:α->QI):Stb.Wk (fun x y:α=>pS (f x) (f y)):=⟨fun _ _ h=>aFN.1 _ _ h,fun _ _ _ h1 h2=>aFN.2 _ _ _ h1 h2⟩
def pT (e f:Gk):Bool:=pS e.vl f.vl
theorem Ah.kept {w w':World}{r:Option Nat}(hg:w.grownBy w' r)(hr:∀k,r=some k->∃o:Obj,w.heap[k]?=some o/\o.isCells=false):Ah w w':=by
 intro v xs h;obtain⟨p,A1,rfl,hc,hd,hp⟩:=h;refine⟨p,A1,rfl,hc,hd,fun h0=> ?_⟩;obtain⟨b,o,rfl,hb⟩:=hp h0;refine⟨b,o,rfl,fun i hi=> ?_⟩;have h1:=hb i hi;have A0:¬(some b=r):=fun e=>by
  obtain⟨ob,h2,h3⟩:=hr b e.symm;cases ob with
  |cells cs t fz=>cases h3
  |_=>simp[World.cell?,h2]at h1
 rw[World.cell?_of_block (hg.block b (World.block_lt_of_cell? w ⟨b,o+i,none⟩ h1) A0)];exact h1
theorem Hp.kept {w0 w w':World}{m:List Df}{r:Option Nat}(h:Hp w0 w m)(hg:w.grownBy w' r)(hr:∀k,r=some k->w0.heap.size<=k/\∃o:Obj,w.heap[k]?=some o/\o.isCells=false):Hp w0 w' m:=by
 refine⟨h.ext.grown hg (fun k hk=>(hr k hk).1),fun i e he=>(h.all i e he).kept hg (fun k hk hrk=> ?_),h.apart⟩;obtain⟨o,h2,h3⟩:=(hr k hrk).2;cases e with
 |blk g t cs=>
  injection hk with hk
  subst hk;have:=h.blk he;unfold Ac at this;rw[h2]at this;injection this with this
  rw[this]at h3;cases h3
 |row t size v n xs=>
  obtain⟨h4,⟨rfl,_⟩|⟨g,A0,rest,rfl,a,hb,c⟩⟩:=h.row he
  ·simp[Df.own,Value.ownBlock]at hk
  have hk:g=k:=by simpa[Df.own,Value.ownBlock]using hk
  subst hk;unfold Ac at hb;rw[h2]at hb;injection hb with hb
  rw[hb]at h3;cases h3
def Do (y:Rat)(e:(Int×Int)×(Int×Int)):Option QI:=
  if (e.1.2:Rat)<y/\y<(e.2.2:Rat)then some (Di e.1.1 e.1.2 e.2.1 e.2.2 y,1)
  else if (e.2.2:Rat)<y/\y<(e.1.2:Rat)then some (Di e.1.1 e.1.2 e.2.1 e.2.2 y,-1)else none
def We (y:Rat)(rs:List Ai):List QI:=(Bk rs).filterMap (Do y)
def El (y:Rat)(rs:List Ai):List QI:=Stb.stab pS (We y (if Fm rs=true then rs else[]))
theorem Md {ax ay bx bY:Int}{y:Rat}{L:Nat}(ha:Dd ax ay=true)(hb:Dd bx bY=true)(hy:Nm.rl y<=L):Nm.rl (Di ax ay bx bY y)<=L+8:=by
 unfold Dd at ha hb;simp only[hZZ,decide_eq_true_eq]at ha hb;unfold Di;have q1:=Nm.rl_sub y (ay:Rat);have q2:=Nm.rl_div ((1:Int):Rat) ((bY-ay:Int):Rat);have q3:=Nm.rl_mul (y-(ay:Rat)) (((1:Int):Rat)/((bY-ay:Int):Rat));have q4:=Nm.rl_mul ((y-(ay:Rat))*(((1:Int):Rat)/((bY-ay:Int):Rat))) ((bx-ax:Int):Rat);have q5:=Nm.rl_add (ax:Rat) ((y-(ay:Rat))*(((1:Int):Rat)/((bY-ay:Int):Rat))*((bx-ax:Int):Rat));have e1:=rK ax ω;have e2:=rK ay ω;have e3:=rK (bY-ay) ω;have e4:=rK (bx-ax) ω;have e5:=rK 1 ω;omega
theorem iH (L:Nat)(v:Value)(es:List Gk)(base:Nat)(w:World)(h:Ba w base 154 5 v es.length (es.flatMap Gk.cells))(hok:∀e,e∈es->e.Ok L w)
  (hcmp:∀(w:World) (e f:Gk),e.Ok L w->f.Ok L w->Calls prog 165 #[.agg e.cells.toArray,.agg f.cells.toArray] w fun x w'=>∃z:Int,x= .returned (iV z)/\(z<0↔pT e f=true)/\Aa w w')
  (hn:es.length<20):
  Calls prog 164 #[v,.func (.func 165) #[] #[]] w fun e w'=>
   e= .returned (.tuple #[])/\Ba w' base 154 5 v es.length ((Stb.stab pT es).flatMap Gk.cells)/\w.grownBy w' v.ownBlock:=by
 rcases h.2 with⟨rfl,h0⟩|⟨g,cap,rest,rfl,hb,hg,hc1,hc2,hc3,hc4⟩
 ·have:es=[]:=iXX h0
  subst this;refine(mrk.sortStable_none none 0 _ w).mono ?_;rintro e w' ⟨rfl,rfl⟩;exact⟨rfl,h,World.grownBy.refl _ _⟩
 have A4:∃xs:List {e:Gk//e.Ok L w},xs.map Subtype.val=es:=by
  clear h hg hc1 hc3 hn hc4;induction es with
  |nil=>exact⟨[],rfl⟩
  |cons e es ih=>
   obtain⟨xs,hx⟩:=ih (fun f hf=>hok f (by simp[hf]));exact⟨⟨e,hok e (by simp)⟩::xs,by rw[List.map_cons,hx]⟩
 obtain⟨xs,rfl⟩:=A4;have A5:xs.flatMap (fun x=>x.1.cells)=(xs.map Subtype.val).flatMap Gk.cells:=by rw[List.flatMap_map]
 have A0:xs.length=(xs.map Subtype.val).length:=by rw[fXX]
 refine(mrk.sortStable_any (fun x: {e:Gk//e.Ok L w}=>x.1.cells) (fun _=>rfl) (fun x=>x.1.one) (fun x y=>pT x.1 y.1) (aFL (fun x: {e:Gk//e.Ok L w}=>x.1.vl)) w w g cap _ 154 rest xs (fun wr o x y=> ?_) ⟨by rw[A5];exact hg,Bi.refl _ _⟩ A0 hn).mono ?_
 ·have d:Ah w wr:=Ah.of_own hg hc4.arr o
  exact hcmp wr x.1 y.1 (x.2.dig d) (y.2.dig d)
 rintro e w' ⟨rfl,A2⟩;have hm:(Stb.stab (fun x y: {e:Gk//e.Ok L w}=>pT x.1 y.1) xs).map Subtype.val=Stb.stab pT (xs.map Subtype.val):=Pc Subtype.val (lt':=pT) (fun _ _=>rfl) xs;have A3:(Stb.stab pT (xs.map Subtype.val)).length=(xs.map Subtype.val).length:=Stb.stab_len _;have A1:∀es:List Gk,(es.flatMap Gk.cells).length=es.length*5:=fun es=>Dm Gk.len es
 refine⟨rfl,⟨by rw[A1,A3],Or.inr ⟨g,cap,rest,rfl,hb,?_,hc1,hc2,?_,?_⟩⟩,?_⟩
 ·have h3:=A2.blk
  rw[show(Stb.stab (fun x y: {e:Gk//e.Ok L w}=>pT x.1 y.1) xs).flatMap (fun x=>x.1.cells)=(Stb.stab pT (xs.map Subtype.val)).flatMap Gk.cells by rw[<-hm,List.flatMap_map]]at h3;exact h3
 ·rw[A1,A3,<-A1];exact hc3
 ·exact(yM _).app hc4.right
 have:=A2.own;simpa[Value.ownBlock,Bi]using this
end
section
theorem vU {y:Rat}{a b:Int×Int}(h:(a.2:Rat)<y/\y<(b.2:Rat)):Do y (a,b)=some (Di a.1 a.2 b.1 b.2 y,1):=if_pos h
theorem kF {y:Rat}{a b:Int×Int}(h:(b.2:Rat)<y/\y<(a.2:Rat)):Do y (a,b)=some (Di a.1 a.2 b.1 b.2 y,-1):=by
  unfold Do;rw[if_neg (fun k=>by have h1:=h.1;have h2:=h.2;have k1:=k.1;have k2:=k.2;grind),if_pos h]
theorem vV {y:Rat}{a b:Int×Int}(h1:¬((a.2:Rat)<y/\y<(b.2:Rat)))(h2:¬((b.2:Rat)<y/\y<(a.2:Rat))):Do y (a,b)=none:=by
  unfold Do;rw[if_neg h1,if_neg h2]
theorem aI (a b:Rat):a<b\/a=b\/b<a:=by grind
theorem Tj {p q:Rat}(h:p<q):Dh p q= -1:=by
  have h1:=rcmp_lt.2 h;unfold Dh at h1⊢;have:=Int.sign_trichotomy (p.num*q.den-q.num*p.den);omega
theorem Ti {p q:Rat}(h:q<p):Dh p q=1:=by
  have h1:=Ia.2 h;unfold Dh at h1⊢;have:=Int.sign_trichotomy (p.num*q.den-q.num*p.den);omega
theorem kE {p q y:Rat}(h1:¬(p<y/\y<q))(h2:¬(q<y/\y<p)):0<=Dh p y*Dh q y/\Dh p y*Dh q y<=1:=by
  rcases aI p y with a|a|a
  · rw[Tj a]
    rcases aI q y with b|b|b
    · rw[Tj b];decide
    · rw[rcmp_eq.2 b];decide
    exact absurd ⟨a,b⟩ h1
  · rw[rcmp_eq.2 a];simp
  rw[Ti a];rcases aI q y with b|b|b
  · exact absurd ⟨b,a⟩ h2
  · rw[rcmp_eq.2 b];decide
  rw[Ti b];decide
theorem kS {y:Rat}{a b:Int}(h:((a:Rat)<y/\y<(b:Rat))\/((b:Rat)<y/\y<(a:Rat))):a≠b/\((min a b:Int):Rat)<=y/\y<=((max a b:Int):Rat):=by
  rcases h with⟨h1,h2⟩|⟨h1,h2⟩
  · have A0:a<b:=by exact_mod_cast (show(a:Rat)<(b:Rat)by grind)
    rw[Int.min_eq_left ω,Int.max_eq_right ω];exact⟨ω,by grind,by grind⟩
  have A0:b<a:=by exact_mod_cast (show(b:Rat)<(a:Rat)by grind)
  rw[Int.min_eq_right ω,Int.max_eq_left ω];exact⟨ω,by grind,by grind⟩
end
section
open Go.RowKit Go.Shelf
attribute [local go_sem] Oper.semAt_some
attribute [local go_sem ↓] Go.wp_at_zero Go.wp_at_succ Ee Ed Ae Ad
def Iq (x:Int×Int):Value:= .agg #[iV x.1,iV x.2]
def Ge (ok:Nat->Prop)(w:World)(v:Value)(rs:List Ai):Prop:=
  ∃(A:Option Addr) (cap:Nat),v= .slice A rs.length cap/\(0<rs.length->∃g off,A=some ⟨g,off,none⟩/\ok g/\∀i r,rs[i]?=some r->∃B cb,w.cell? ⟨g,off+i,none⟩=some (.slice B r.length cb)/\Fj w (.slice B r.length cb) r/\∀A,B=some A->ok A.block)
theorem qQ (m:Nat)(hm:1<=m)(l Bx N:Nat)(G:Nat->Prop)(u:Value)(rs:List Ai)(J Jx:List ((Int×Int)×(Int×Int))->World->Prop)(w:World)
  (hcb:w.cell? ⟨Bx,0,none⟩=some u)(_hGb:¬G Bx)(hR:Ge (fun k=>¬G k) w u rs)(hrl:∀r,r∈rs->r.length<=4096)(hrs:rs.length<=1048576)
  (hJ:∀s A B,J s A->Aa A B->J s B)
  (hY:∀pre x W,J pre W->pre.length<N->x∈Bk rs->YieldAt Fence.wide (m-1) prog l #[Iq x.1,Iq x.2] W fun e W'=>(e= .returned τ/\J (pre++[x]) W'/\Fr G W W')\/(e= .returned φ/\Jx (pre++[x]) W'))
  (hN:(Bk rs).length<=N)(h0:J [] w):
  CallsIn Fence.wide m prog 110 #[.func (.yield l) #[] #[],.pointer (π Bx)] w fun e W'=>(∃v,e= .returned v)/\
   ((∃ys,ys=Bk rs/\J ys W')\/(∃pre,pre<+:Bk rs/\Jx pre W')):=by
 obtain⟨A,D7,rfl,hA⟩:=hR;have HA:=zH hA;have HJ:=zH hJ;have HY:=zH hY;have D2:=zH hrl;clear hA hJ hY hrl;refine callsIn_of_wp func110 rfl trivial ?_ rfl;simp only[ntmps110,List.size_toArray,hQQ,List.length_nil,Nat.reduceAdd,Nat.reduceSub,Array.replicate_succ,Array.replicate_zero,List.push_toArray,List.append_toArray,fQQ,iZZ];gi_wp2
 gi_loopw [10] (fun i wr=>∃k:Nat,k<=rs.length/\i= iV k/\Fr G w wr/\J (Bk (rs.take k)) wr) (fun i _=>rs.length-(intOf i).toNat)
 case atStart=>exact⟨0,eXX _,rfl,Fr.of_ext Aq,h0⟩
 obtain⟨k,hk,rfl,A5,hj⟩:=hrel;have B7:=zH A5;have C1:=zH hj;clear A5 hj;by_cases hlt:k<rs.length
 ·obtain⟨r,hr⟩:∃r,rs[k]?=some r:=⟨_,aQQ hlt⟩
  obtain⟨g,D3,rfl,hg,h1⟩:=HA.1 ω;obtain⟨B,cb,B9,B8,hB⟩:=h1 k r hr;have c1:=B7.1.cell B9 hg;have C7:(k:Int)<(rs.length:Int):=ω
  have HP:=zH B8;have HB:=zH hB;have HR:=zH hr;have D4:=D2.1 r (bZZ hr);clear h1 B9 B8 hB hr;gi_wp2
  generalize wr=W0 at*;gi_loopw [16] (fun i wr=>∃j:Nat,j<=r.length/\i= iV j/\Fr G W0 wr/\J (Bk (rs.take k)++Eb r j) wr) (fun i _=>r.length-(intOf i).toNat)
  case atStart=>exact⟨0,eXX _,rfl,Fr.of_ext Aq,by have h:=C1.1;rwa[show Eb r 0=[]from rfl,gXX]⟩
  obtain⟨j,D6,rfl,A5,hj⟩:=hrel;have B0:=zH A5;have B6:=zH hj;clear A5 hj;by_cases hjt:j<r.length
  ·have C9:(j:Int)<(r.length:Int):=ω
   obtain⟨a,ha⟩:∃a,r[j]?=some a:=⟨_,aQQ hjt⟩;have A4:(j+1)%r.length<r.length:=Nat.mod_lt _ ω;obtain⟨b,hb⟩:∃b,r[(j+1)%r.length]?=some b:=⟨_,aQQ A4⟩;have C0:=zH (Sr ha hb);have B1:∃g2 A0,B=some ⟨g2,A0,none⟩/\¬G g2/\Wq w g2 A0 r:=by
    obtain⟨A2,c2,C4,h2⟩:=HP.1;injection C4 with e1 _ _
    obtain⟨g2,A0,h3,h4⟩:=h2 (fun e=>by rw[e]at hjt;simp at hjt);exact⟨g2,A0,e1.trans h3,HB.1 _ (e1.trans h3),h4⟩
   obtain⟨g2,A0,rfl,A8,B2⟩:=B1;have A9:=zH (B7.1.trans B0.1);have B4:∀i p,r[i]?=some p->r.getD i (0,0)=p:=fun i p h=>by rw[aXX,h];rfl
   have A7:=B2 j hjt;have A6:=B2 _ A4;rw[B4 j a ha]at A7;rw[B4 _ b hb]at A6;have x0:=A9.1.cell A7.1 A8;have x1:=A9.1.cell A7.2 A8;have y0:=A9.1.cell A6.1 A8;have y1:=A9.1.cell A6.2 A8;have wj:IntKind.i64.wrap ((j:Int)+1)=(j:Int)+1:=by rw[IntKind.wrap_i64];omega
   have C5:((j:Int)+1).tmod (r.length:Int)=(((j+1)%r.length:Nat):Int):=by rw[Int.tmod_eq_emod_of_nonneg ω];simp
   have D9:=zH ha;have D8:=zH hb;clear B2 A7 A6 ha hb B4;generalize hM:(j+1)%r.length=M at*
   clear hM;obtain⟨a0,a1⟩:=a;obtain⟨b0,b1⟩:=b;dsimp only at x0 x1 y0 y1
   by_cases hab:(a0,a1)=(b0,b1)
   ·injection hab with e0 e1
    subst e0;subst e1;have C6:(a0==a0&&a1==a1)=true:=by simp
    have A1:=zH (C0.1.trans (if_pos rfl));have C3:=((Aa.refl wr).alloc (.cells #[iV a0,iV a1] 44)).get y0;have C2:=((Aa.refl wr).alloc (.cells #[iV a0,iV a1] 44)).get y1;have A3:Aa wr ((wr.alloc (.cells #[iV a0,iV a1] 44)).alloc (.cells #[iV a0,iV a1] 44)):=((Aa.refl wr).alloc _).alloc _;gi_wp2
    refine⟨fun _ h=>(by cases h),?_⟩;gi_wp2
    go_roundw
    case rel=>exact⟨j+1,hjt,by go_num,B0.1.trans (Fr.of_ext A3),by rw[Qz A1.1];exact HJ.1 _ _ _ B6.1 A3⟩
    case measure=>simp[intOf];omega
   have C6:(a0==b0&&a1==b1)=false:=by
    rw[Bool.and_eq_false_iff,beq_eq_false_iff_ne,beq_eq_false_iff_ne];by_cases h0:a0=b0
    ·exact .inr fun h1=>hab (by rw[h0,h1])
    exact .inl h0
   have A1:=zH (C0.1.trans (if_neg hab));clear hab;have C3:=((Aa.refl wr).alloc (.cells #[iV a0,iV a1] 44)).get y0;have C2:=((Aa.refl wr).alloc (.cells #[iV a0,iV a1] 44)).get y1;have A3:Aa wr ((wr.alloc (.cells #[iV a0,iV a1] 44)).alloc (.cells #[iV b0,iV b1] 44)):=((Aa.refl wr).alloc _).alloc _;have B3:(Bk (rs.take k)++Eb r j).length<N:=by
    have h1:=(Rs HR.1 (show j+1<=r.length by omega)).length_le;rw[Gg A1.1]at h1;simp at h1⊢;omega
   obtain⟨fn,tmps,assign,body,hy,D0⟩:=HY.1 _ ((a0,a1),(b0,b1)) _ (HJ.1 _ _ _ B6.1 A3) B3 (by
    have h1:=Rs HR.1 (show j+1<=r.length by omega);rw[Gg A1.1]at h1;exact h1.subset (by simp))
   dsimp only[Iq]at hy
   gi_wp2
   refine D0.mono ?_;rintro e W3 (⟨rfl,D1,C8⟩|⟨rfl,B5⟩)
   ·gi_wp2
    go_roundw
    case rel=>exact⟨j+1,hjt,by go_num,(B0.1.trans (Fr.of_ext A3)).trans C8,by rw[Gg A1.1,<-jQQ];exact D1⟩
    case measure=>simp[intOf];omega
   gi_wp2
   refine bodyPost_ret (results_none rfl _ _ _) rfl ?_;exact⟨⟨_,rfl⟩,.inr ⟨_,by have h:=Rs HR.1 (show j+1<=r.length by omega);rwa[Gg A1.1,<-jQQ]at h,B5⟩⟩
  have D5:¬(j:Int)<(r.length:Int):=ω;gi_wp2
  go_roundw
  case rel=>exact⟨k+1,ω,by go_num,B7.1.trans B0.1,by rw[Sp HR.1];have h:=B6.1;rwa[show j=r.length by omega]at h⟩
  case measure=>simp[intOf];omega
 gi_wp2
 go_end0
 have e:k=rs.length:=ω;subst e;exact⟨⟨_,rfl⟩,.inl ⟨_,rfl,by have h:=C1.1;rwa[cXX (Cl _)]at h⟩⟩
end
section
attribute [local go_sem ↓] Go.wp_at_zero Go.wp_at_succ Ee Ed Ae Ad
theorem Ge.ext {ok:Nat->Prop}{w w':World}{v:Value}{rs:List Ai}(h:Ge ok w v rs)(x:Aa w w'):Ge ok w' v rs:=by
  obtain⟨A,A1,h1,h2⟩:=h;refine⟨A,A1,h1,fun h0=> ?_⟩;obtain⟨g,A0,h3,h4,h5⟩:=h2 h0;refine⟨g,A0,h3,h4,fun i r hr=> ?_⟩;obtain⟨B,cb,h6,h7,h8⟩:=h5 i r hr;exact⟨B,cb,x.get h6,h7.ext x,h8⟩
theorem Ge.imp {ok ok':Nat->Prop}{w:World}{v:Value}{rs:List Ai}(h:Ge ok w v rs)(hi:∀k,ok k->ok' k):Ge ok' w v rs:=by
  obtain⟨A,A1,h1,h2⟩:=h;refine⟨A,A1,h1,fun h0=> ?_⟩;obtain⟨g,A0,h3,h4,h5⟩:=h2 h0;refine⟨g,A0,h3,hi _ h4,fun i r hr=> ?_⟩;obtain⟨B,cb,h6,h7,h8⟩:=h5 i r hr;exact⟨B,cb,h6,h7,fun A hA=>hi _ (h8 A hA)⟩
theorem Tr.ringsO {b0:Nat}{w:World}{v:Value}{rs:List Ai}(h:Tr b0 w v rs):Ge (fun k=>b0<=k/\k<w.heap.size) w v rs:=by
 obtain⟨vs,h1,h2,h3⟩:=h;obtain⟨_,⟨rfl,hz⟩|⟨g,A0,rest,rfl,hb,hB,_⟩⟩:=h1
 ·exact⟨none,0,by rw[hz],fun h=>ω⟩
 refine⟨_,A0,rfl,fun _=>⟨g,0,rfl,⟨hb,hB.lt⟩,fun i r hr=> ?_⟩⟩;obtain⟨B,cb,h4,h5,h6,h7⟩:=h3 i r hr;refine⟨B,cb,?_,h5,fun A hA=>⟨h7 A hA,(h6 A hA).2⟩⟩;rw[cZZ,hB.cell,aZZ,dZZ (by have:=(List.getElem?_eq_some_iff.1 h4).1;exact this)];exact h4
theorem Ge.nil (ok:Nat->Prop)(w:World):Ge ok w (.slice none 0 0) []:=⟨none,0,rfl,fun h=>by simp at h⟩
theorem Zx (u:Value)(rs:List Ai)(w:World)(hu:Cv w u rs)(hv:Fm rs=false)(hn:rs.length<=1048576)(hr:∀r,r∈rs->r.length<=1048576):
  Calls prog 109 #[u,.agg #[iV 0,iV 0]] w fun e w'=>e= .returned (.slice none 0 0)/\Aa w w':=by
 have HC:=zH (fun W (hW:Aa w W)=>Ci u rs W (hu.ext hW) hn hr);have HV:=zH hv;obtain⟨Au,cu,rfl,_⟩:=hu;clear hv hr;go_enter func109,ntmps109
 have hE:Aa w (w.alloc (.cells #[iV 0,iV 0] 44)):=Aq.alloc _;go_upto_if 13 with(go_at_call 28;refine(HC.1 _ hE).mono ?_;rintro e w1 ⟨rfl,A0⟩)
 have A1:(!Fm rs)=true:=by rw[HV.1];rfl
 rw[A1];go_wp2_with fail;go_ret;exact⟨rfl,hE.trans A0⟩
theorem Ru (u:Value)(rs:List Ai)(w:World)(hu:Cv w u rs)(hn:rs.length<=1048576)(hr:∀r,r∈rs->r.length<=1048576):
  Calls prog 76 #[u] w fun e w'=>∃Bx v,e= .returned (.func (.func 110) #[] #[.pointer (π Bx)])/\w.heap.size<=Bx/\Bx<w'.heap.size/\
   w'.cell? ⟨Bx,0,none⟩=some v/\Ge (fun k=>w.heap.size<=k/\k<w'.heap.size) w' v (if Fm rs=true then rs else[])/\Aa w w':=by
 have HC:Calls prog 109 #[u,.agg #[iV 0,iV 0]] w fun e w'=>∃A n c,e= .returned (.slice A n c)/\Ge (fun k=>w.heap.size<=k/\k<w'.heap.size) w' (.slice A n c) (if Fm rs=true then rs else[])/\Aa w w':=by
  by_cases h:Fm rs=true
  ·rw[if_pos h]
   refine(Ww u rs w hu h hn).mono ?_;rintro e w' ⟨v,rfl,h2,h3⟩;have h4:=h2.ringsO;obtain⟨A,c,rfl,_⟩:=id h4;exact⟨A,_,c,rfl,h4,h3⟩
  rw[if_neg h];refine(Zx u rs w hu (by simpa using h) hn hr).mono ?_;rintro e w' ⟨rfl,h3⟩;exact⟨none,0,0,rfl,Ge.nil _ _,h3⟩
 generalize (if Fm rs=true then rs else[])=qs at HC⊢;have A1:=zH HC;clear HC hu hr;go_enter func76,ntmps76;go_wp2_with (go_at_call 109;refine A1.1.mono ?_;rintro e w1 ⟨A,n,c,rfl,hR,hx⟩)
 go_ret;have A0:Aa w1 (w1.alloc (.cells #[.slice A n c] 22)):=Aq.alloc _;refine⟨_,_,rfl,hx.size,by simp,?_,(hR.ext A0).imp (fun k h=>⟨h.1,jZZ h.2 A0.size⟩),hx.trans A0⟩;exact(Ac.new w1 _ _).cell 0
end
section
open Go.RowKit Go.Shelf
attribute [local go_sem] Oper.semAt_some
abbrev Cg:=(Int×Int)×(Int×Int)
def aFD (e:Cg):Prop:=Dd e.1.1 e.1.2=true/\Dd e.2.1 e.2.2=true
abbrev Wr:={e:Cg//aFD e}
def aDM (x:Wr):Array Value:=#[Iq x.1.1,Iq x.1.2]
theorem fS {rs:List Ai}(h:Fm rs=true):∀e,e∈Bk rs->aFD e:=by
 intro e he;obtain⟨r,hr,h2⟩:=List.mem_flatMap.1 he;obtain⟨i,_,h3⟩:=List.mem_filterMap.1 h2;unfold Fm at h;rw[hZZ]at h;have h4:=List.all_eq_true.1 h.2 r hr;unfold De at h4;have hp:∀(j:Nat) (p:Int×Int),r[j]?=some p->Dd p.1 p.2=true:=fun j p hj=>List.all_eq_true.1 h4 p (bZZ hj)
 unfold Fi at h3;split at h3
 ·rename_i a b ha hb
  split at h3
  ·cases h3
  injection h3 with h3
  subst h3;exact⟨hp _ _ ha,hp _ _ hb⟩
 cases h3
theorem Fr.putObj {G:Nat->Prop}(W:World)(l:Nat)(o':Obj)(h:G l\/W.heap.size<=l):Fr G W (W.putObj l o'):=
  Fr.trans_new (Fr.of_ext (Aa.refl W)) (grownBy_putObj' W l o') (fun j hj=>by injection hj with hj;subst hj;exact h)
theorem Oo {n p0 p1 N:Nat}{g:Operand}{assign body:Code}{Q:Exit->Act->World->Prop}{a:Act}{W1:World}(hn:2<=n)(G:Nat->Prop)(Bx:Nat)(u:Value)(rs:List Ai)
  (hg:a.eval g= .func (.func 110) #[] #[.pointer (π Bx)])(hcb:W1.cell? ⟨Bx,0,none⟩=some u)(hGb:¬G Bx)(hR:Ge (fun k=>¬G k) W1 u rs)(hrs:rs.length<=1048576)(hok:Fm rs=true)(hN:(Bk rs).length<=N)
  (hG:∀k,W1.heap.size<=k->G k)
  (I:List Wr->World->Prop)(hI:OwnFrom W1.heap.size I)(h0:I [] W1)(Ax:Wr->Act->World->Prop)(hAx:∀x a',OwnFrom W1.heap.size (fun(_:Unit) W=>Ax x a' W))
  (hassign:∀(l:Nat) (pre:List Wr) (x:Wr) (W:World) (K:Act->World->Prop),I pre W->(∀a' W',KeepsFrom W1.heap.size W W'->Fr G W W'->I pre W'->Ax x a' W'->K a' W')->
   assign.wpIn (Fence.wide.inRound l) (n-1-1) prog (Exit.then K (fun _ _ _=>False)) {tmps:=(a.tmps.setIfInBounds p0 (Iq x.1.1)).setIfInBounds p1 (Iq x.1.2),defers:=[]} W)
  (hbody:∀(l:Nat) (pre:List Wr) (x:Wr) (a':Act) (W:World),I pre W->Ax x a' W->pre.length<N->
   body.wpIn (Fence.wide.inRound l) (n-1-1) prog (ownPostG W1.heap.size (Fr G) I (fun _ _ _=>False) (pre++[x]) W) a' W)
  (hdone:∀(D:Nat) (xs:List Wr) (W:World),W1.heap.size<=D->xs.map Subtype.val=Bk rs->I xs W->W.heap[D]?=some (.deferred (some []))->Q .normal {a with defers:={target:= .collected D,args:=#[]}::a.defers} W):
  (Code.rangeFunc g #[p0,p1] assign body).wpIn Fence.wide n prog Q a W1:=by
 have A0:SeqStopsK Fence.wide (n-1) prog 110 #[.pointer (π Bx)] aDM (Fr G) (fun xs=>xs.map Subtype.val=Bk rs) (fun pre=>pre.map Subtype.val<+:Bk rs) N W1:=by
  intro l J Jx W hW A6 A5 hY A7;have hx:Aa W1 W:=hW;have A4:=hR.ext hx;have A3:∀r,r∈rs->r.length<=4096:=fun r hr=>by
   obtain⟨k,hk⟩:=List.mem_iff_getElem?.1 hr;have h1:=Ig hk;have h2:=If rs (k+1);have h3:=Hf hok;omega
  have A8:∀(s:List Wr) (A B:World),J s A->Aa A B->J s B:=fun s A B h x=>A6 s A B none h (Cu _ x) (fun r e=>by cases e)
  refine(qQ (n-1) ω l Bx N G u rs (fun s W=>∃xs:List Wr,xs.map Subtype.val=s/\J xs W) (fun s W=>∃xs:List Wr,xs.map Subtype.val=s/\Jx xs W) W (hx.get hcb) hGb A4 A3 hrs
   (fun s A B h x=>by obtain⟨xs,h1,h2⟩:=h;exact⟨xs,h1,A8 _ _ _ h2 x⟩) ?_ hN ⟨[],rfl,A7⟩).mono ?_
  ·rintro pre x W2 ⟨xs,rfl,h2⟩ A2 A1
   refine(hY xs ⟨x,fS hok x A1⟩ W2 h2 (by simpa using A2)).mono ?_;rintro e W3 (⟨rfl,h3,h4⟩|⟨rfl,h3⟩)
   ·exact .inl ⟨rfl,⟨_,by simp,h3⟩,h4⟩
   exact .inr ⟨rfl,⟨_,by simp,h3⟩⟩
  rintro e W2 ⟨h1,⟨ys,rfl,xs,h2,h3⟩|⟨pre,h2,xs,h3,h4⟩⟩
  ·exact⟨h1,.inl ⟨xs,h2,h3⟩⟩
  exact⟨h1,.inr ⟨xs,by show xs.map Subtype.val<+:Bk rs;rw[h3];exact h2,h4⟩⟩
 refine wpIn_rangeFunc_ownH rfl ω (gf:=110) (lb:=#[.pointer (π Bx)]) hg trivial (enters_of func110 kR rfl)
  A0 (fun h k=>Fr.trans h k) (fun W l o o' hl _ _ _=>Fr.putObj W l o' (.inl (hG l hl))) (Below.refl _ _) (fun _=>rfl) I (fun _ _ _=>False) hI (fun _ _ _ _ _ hs _ _=>hs) h0 Ax hAx ?assign ?body ?done ?stop
 case assign=>
  intro l pre x W K hi hK;have e:((#[p0,p1]:Array Tmp).zip (aDM x)).foldl (fun t (p,v)=>t.setIfInBounds p v) a.tmps=(a.tmps.setIfInBounds p0 (Iq x.1.1)).setIfInBounds p1 (Iq x.1.2):=by simp[aDM]
  rw[e];exact hassign l pre x W K hi hK
 case body=>exact fun l pre x a' W _ _ hi ha hlt=>hbody l pre x a' W hi ha hlt
 case done=>exact fun D xs W hD hs hi hK=>hdone D xs W hD hs hi hK
 case stop=>exact fun D c pre W _ _ h _=>h.elim
theorem KeepsFrom.of_fr {B:Nat}{G:Nat->Prop}{W W':World}(h:Fr G W W')(hG:∀k,G k->∀o:Obj,W.heap[k]?=some o->o.isCells=true):KeepsFrom B W W':=
  ⟨h.size,fun k o _ hk ho=>by
    have A0:k<W.heap.size:=(Array.getElem?_eq_some_iff.1 hk).1;rw[h.block k A0 (fun g=>by rw[hG k g o hk]at ho;cases ho)];exact hk⟩
theorem Fr.imp {G G':Nat->Prop}{W W':World}(h:Fr G W W')(hG:∀k,G k->G' k):Fr G' W W':=⟨h.os,h.tape,h.output,h.size,fun k hk hn=>h.block k hk (fun g=>hn (hG k g))⟩
theorem Hp.cells {w0 w:World}{m:List Df}{i k:Nat}{e:Df}(h:Hp w0 w m)(hi:m[i]?=some e)(hk:e.own=some k):∀o:Obj,w.heap[k]?=some o->o.isCells=true:=by
 intro o ho;cases e with
 |blk g t cs=>
  injection hk with hk
  subst hk;have:=h.blk hi;unfold Ac at this;rw[this]at ho;injection ho with ho
  rw[<-ho];rfl
 |row t size v n xs=>
  obtain⟨h4,⟨rfl,_⟩|⟨g,A0,rest,rfl,a,hb,c⟩⟩:=h.row hi
  ·simp[Df.own,Value.ownBlock]at hk
  have hk:g=k:=by simpa[Df.own,Value.ownBlock]using hk
  subst hk;unfold Ac at hb;rw[hb]at ho;injection ho with ho
  rw[<-ho];rfl
def Df.typ:Df->TypeId
  | .blk _ t _=>t
  | .row t _ _ _ _=>t
theorem Hp.typ {w0 w:World}{m:List Df}{i g:Nat}{e:Df}{T:TypeId}{cs:Array Value}(h:Hp w0 w m)(hi:m[i]?=some e)(hb:Ac w g T cs)(hk:e.own=some g):e.typ=T:=by
 unfold Ac at hb;cases e with
 |blk g' t cs'=>
  injection hk with hk
  subst hk;have:=h.blk hi;unfold Ac at this;rw[this]at hb;injection hb with hb
  injection hb with _ hb _
 |row t size v n xs=>
  obtain⟨h4,⟨rfl,_⟩|⟨g',A1,rest,rfl,a,A0,c⟩⟩:=h.row hi
  ·simp[Df.own,Value.ownBlock]at hk
  have hk:g'=g:=by simpa[Df.own,Value.ownBlock]using hk
  subst hk;unfold Ac at A0;rw[A0]at hb;injection hb with hb
  injection hb with _ hb _
theorem Hp.addTyp2 {w0 w:World}{m:List Df}{X Y:Nat}{T:TypeId}{zs us:List Value}(h:Hp w0 w m)(B1:Ac w X T zs.toArray)(B2:Ac w Y T us.toArray)(hne:X≠Y)(z1:w0.heap.size<=X)(z2:w0.heap.size<=Y)(n1:Ar zs)(n2:Ar us)
  (ht:∀e,e∈m->e.typ≠T):Hp w0 w (m++[.blk X T zs]++[.blk Y T us]):=by
 have h1:Hp w0 w (m++[.blk X T zs]):=h.add ⟨z1,B1,n1⟩ (fun i f hf k hk e=>by
  injection e with e
  subst e;exact ht f (bZZ hf) (h.typ hf B1 hk))
 refine h1.add ⟨z2,B2,n2⟩ (fun i f hf k hk e=> ?_);injection e with e
 subst e;rcases List.mem_append.1 (bZZ hf)with hm|hm
 ·obtain⟨j,hj⟩:=List.mem_iff_getElem?.1 hm
  exact ht f hm (h.typ hj B2 hk)
 simp at hm;subst hm;injection hk with hk
 exact hne hk
theorem Ac.kept {w w':World}{g:Nat}{t:TypeId}{cs:Array Value}{r:Option Nat}(h:Ac w g t cs)(hg:w.grownBy w' r)(hr:∀k,r=some k->∃o:Obj,w.heap[k]?=some o/\o.isCells=false):Ac w' g t cs:=
  h.grown hg (fun e=>by
    obtain⟨o,h2,h3⟩:=hr g e;unfold Ac at h;rw[h]at h2;injection h2 with h2
    rw[<-h2]at h3;cases h3)
end
section
attribute [local go_sem ↓] Go.wp_at_zero Go.wp_at_succ Ae Ad
theorem aDC {P:Program}{ρ:Operand->Value}{o:Oper}{w:World}{A B E:Int}{t t':TypeId}{x y:Operand}(ho:o.op= .binOp .rem t x y t')(hx:ρ x= iV A)(hy:ρ y= iV B)(hB:B≠0)(hE:A.tmod B=E)(_h1: -9223372036854775808<=E)(_h2:E<=9223372036854775807):(execOp ρ o).run P w= .ok (.value (iV E)) w:=by
  unfold execOp;simp only[ho,hx,hy];simp[go_sem,hB,hE]
theorem fP {ρ:Operand->Value}{o:Oper}{w:World}{a b c d:Int}{bb:Bool}{t':TypeId}{x y:Operand}(ho:o.op= .binOp .neq 44 x y t')(hx:ρ x= .agg #[iV a,iV b])(hy:ρ y= .agg #[iV c,iV d])(h:(!(a==c&&b==d))=bb):
    (execOp ρ o).run prog w= .ok (.value (.bool bb)) w:=by
  subst h;unfold execOp;simp only[ho,hx,hy];simp[go_sem,Ed]
def vI (e:Cg):List Value:=[iV e.1.1,iV e.1.2,iV e.2.1,iV e.2.2]
theorem aAC (e:Cg):(vI e).length=4:=rfl
theorem Nf {w:World}{g o:Nat}{v:Value}(h:w.cell? ⟨g,o,none⟩=some v):w.rangeAt g o [v]:=by
  intro j u hj;match j,hj with
  |0,hj=>injection hj with hj;rw[<-hj];exact h
  |k+1,hj=>simp at hj
theorem Mg {w:World}{g off i:Nat}{ps:List (Int×Int)}{a:Int×Int}(h:Wq w g off ps)(hi:ps[i]?=some a):w.rangeAt g (off+i*2) [iV a.1,iV a.2]:=by
  have hl:=(List.getElem?_eq_some_iff.1 hi).1;have h1:=h i hl;have e:ps.getD i (0,0)=a:=by rw[aXX,hi];rfl
  rw[e]at h1;intro j u hj;match j,hj with
  |0,hj=>injection hj with hj;rw[<-hj];exact h1.1
  |1,hj=>injection hj with hj;rw[<-hj];exact h1.2
  |k+2,hj=>simp at hj
def Dc (rs:List Ai):List Cg:=Bk (if Fm rs=true then rs else[])
theorem Hu {rs:List Ai}(h:Fm rs=true):Dc rs=Bk rs:=by unfold Dc;rw[if_pos h]
theorem yA {w0 w:World}{m:List Df}{X i:Nat}{a b c d:Int×Int}(h:Hp w0 w m)(h1:m[i]?=some (.blk X 44 [iV a.1,iV a.2,iV b.1,iV b.2,iV c.1,iV c.2,iV d.1,iV d.2])):Fj w (.slice (π X) 4 4) [a,b,c,d]:=by
 refine⟨_,4,rfl,fun _=>⟨X,0,rfl,fun i hi=> ?_⟩⟩;have hi:i<4:=hi;have:i=0\/i=1\/i=2\/i=3:=ω
 rcases this with rfl|rfl|rfl|rfl
 ·exact⟨h.cell h1 0 rfl,h.cell h1 1 rfl⟩
 ·exact⟨h.cell h1 2 rfl,h.cell h1 3 rfl⟩
 ·exact⟨h.cell h1 4 rfl,h.cell h1 5 rfl⟩
 exact⟨h.cell h1 6 rfl,h.cell h1 7 rfl⟩
theorem Js {w0 w:World}{m:List Df}{X i:Nat}{a b:Int×Int}(h:Hp w0 w m)(h1:m[i]?=some (.blk X 44 [iV a.1,iV a.2,iV b.1,iV b.2])):Fj w (.slice (π X) 2 2) [a,b]:=by
  refine⟨_,2,rfl,fun _=>⟨X,0,rfl,fun i hi=> ?_⟩⟩;have hi:i<2:=hi;have:i=0\/i=1:=ω
  rcases this with rfl|rfl
  · exact⟨h.cell h1 0 rfl,h.cell h1 1 rfl⟩
  exact⟨h.cell h1 2 rfl,h.cell h1 3 rfl⟩
theorem Xu (a b c d:Int×Int):0<=(Ay a b c d).2/\(Ay a b c d).2<=2:=by
  unfold Ay;split
  · exact⟨by decide,by decide⟩
  split
  · exact⟨(show(0:Int)<=1 by decide),(show(1:Int)<=2 by decide)⟩
  exact⟨by decide,by decide⟩
theorem Qw {a b c d:Int×Int}(ha:Du a)(hb:Du b)(hc:Du c)(hd:Du d):Du (Ay a b c d).1:=by
  unfold Ay;split
  · exact(show Dd 0 0=true by decide)
  split
  · exact aCM ha hb hc hd
  exact(show Dd 0 0=true by decide)
def Lc (a b c d:Int×Int):Rat:=((cr (dv a c) (dv c d):Int):Rat)/((cr (dv a b) (dv c d):Int):Rat)
def Su (a b c d:Int×Int):Rat:=((cr (dv a c) (dv a b):Int):Rat)/((cr (dv a b) (dv c d):Int):Rat)
def qD (x:Rat):Prop:=¬x<(((0):Int):Rat)/\¬(((1):Int):Rat)<x
instance aFE (x:Rat):Decidable (qD x):=inferInstanceAs (Decidable (_/\_))
def Cp (a b c d:Int×Int):Int×Int:=if dv a b=(0,0)then dv c d else dv a b
def Gm (a b c d:Int×Int):Int:=
  if cr (dv a b) (dv c d)≠0 then(if qD (Lc a b c d)/\qD (Su a b c d)then 1 else 0)
  else if cr (Cp a b c d) (dv a c)≠0\/(Cp a b c d=(0,0)/\a≠c)then 0 else(Ay a b c d).2
def iN (a b c d:Int×Int):Rat:=if cr (dv a b) (dv c d)≠0 then(a.1:Rat)+Lc a b c d*((b.1-a.1:Int):Rat)else(((Ay a b c d).1.1:Int):Rat)
def Qx (a b c d:Int×Int):Rat:=if cr (dv a b) (dv c d)≠0 then(a.2:Rat)+Lc a b c d*((b.2-a.2:Int):Rat)else(((Ay a b c d).1.2:Int):Rat)
def Oz (a b c d:Int×Int)(w:World)(e:Ending)(w':World):Prop:=
  ((∃r s:RV,Gm a b c d=1/\e= .returned (.tuple #[(rg r),(rg s),iV 1])/\r.Is w' (iN a b c d)/\s.Is w' (Qx a b c d))\/
    (Gm a b c d≠1/\e= .returned (.tuple #[.agg z4,.agg z4,iV (Gm a b c d)])))/\Aa w w'
theorem dW (a b:Int)(h1: -9223372036854775808<=a/\a<=9223372036854775807)(h2: -9223372036854775808<=b/\b<=9223372036854775807):Nm.rl ((a:Rat)/(b:Rat))<=8:=by
  have h:=Nm.rl_div (a:Rat) (b:Rat);have h3:=Bu a h1.1 h1.2;have h4:=Bu b h2.1 h2.2;omega
theorem Pj (a b c d:Int×Int)(w:World)(ha:Du a)(hb:Du b)(hc:Du c)(hd:Du d):
  Calls prog 142 #[.agg #[iV a.1,iV a.2],.agg #[iV b.1,iV b.2],.agg #[iV c.1,iV c.2],.agg #[iV d.1,iV d.2]] w (Oz a b c d w):=by
 have R3:=zH (show De [a,b,c,d]=true from by simp[De,ha,hb,hc,hd]);have l4:=Zj (Gc ha hb) (Gc hc hd);have l3:=Zj (Gc ha hc) (Gc hc hd);have l1:=Zj (Gc ha hc) (Gc ha hb);have oa:=Bd ha;have ob:=Bd hb;have oc:=Bd hc;have od:=Bd hd;go_enter func142,ntmps142
 have H0:=zH (Hp.start w);go_upto_region 0 with fail;apply wl;apply Cm 44 [iV a.1,iV a.2] H0.1;intro D0 j9 i5 _;apply Cm 44 [iV b.1,iV b.2] i5.1;intro D6 j8 i4 _;apply Cm 44 [iV c.1,iV c.2] i4.1;intro H5 j7 i3 _;apply Cm 44 [iV d.1,iV d.2] i3.1;intro O0 j6 i2 _;refine Cm 58 rz i2.1 ?_;intro E6 j5 i1 _;refine Cm 58 rz i1.1 ?_;intro E5 j4 Z3 _;apply zq (iV 0);go_upto_region 1 with fail;apply wl;refine Fk Z3.1 _ _ _ _ ?_;apply Zp 4 44 [iV a.1,iV a.2,iV b.1,iV b.2,iV c.1,iV c.2,iV d.1,iV d.2] Z3.1;intro P3 j0 Z2 _;refine zc (Id (.slice (π P3) 4 4) [a,b,c,d] _ (yA Z2.1 (i:=6) rR) (by simp)) ?_;rintro e H4 ⟨rfl,hx⟩;have R5:=zH (Z2.1.step hx);clear hx;refine⟨.bool true,by rw[R3.1],?_⟩;try simp only[ζ]
 apply zq φ;go_upto_region 3 with fail;refine zy ?_;have i0:=zH (R5.1.step (Aa.refl H4).drew);refine aBN R5.1 zb (bs 15 219) 0 1 3 4 6 7 _ _ _ _ _ _ ?_;refine FN.go3 (j1:=⟨9,some 11,44,[iV 0,iV 0]⟩) (j2:=⟨10,some 12,44,[iV 0,iV 0]⟩) (j3:=⟨11,some 13,44,[iV 0,iV 0]⟩) (b:=H4) ?_ zb;refine gN 2 (bs 15 223) (fk (fk (fk trivial))) zb.size (fun xq B1=>Ua b a _ hb ha) (by rintro x_ e H3 ⟨rfl,hx⟩;exact hx) ?_;rintro xq e i9 B1 ⟨rfl,hx⟩;replace hx:=B1.trans hx;clear B1;have g9:=zH (i0.1.step hx);have Z1:=zH (zb.trans hx);clear hx;refine⟨_,rfl,?_⟩;try simp only[ζ]
 refine gN 5 (bs 15 255) (fk (fk (fk trivial))) Z1.1.size (fun xq B1=>Ua d c _ hd hc) (by rintro x_ e H3 ⟨rfl,hx⟩;exact hx) ?_;rintro xq e i8 B1 ⟨rfl,hx⟩;replace hx:=B1.trans hx;clear B1;have g8:=zH (g9.1.step hx);have Z0:=zH (Z1.1.trans hx);clear hx;refine⟨_,rfl,?_⟩;try simp only[ζ]
 refine gN 8 (bs 15 511) (fk (fk (fk trivial))) Z0.1.size (fun xq B1=>Ua c a _ hc ha) (by rintro x_ e H3 ⟨rfl,hx⟩;exact hx) ?_;rintro xq e i7 B1 ⟨rfl,hx⟩;replace hx:=B1.trans hx;clear B1;have g7:=zH (g8.1.step hx);have Q0:=zH (Z0.1.trans hx);clear hx;refine⟨_,rfl,?_⟩;try simp only[ζ]
 refine aGY (bs 15 4095) (fk (fk (fk trivial))) Q0.1.size R5.1 g7.1 ?_;intro F2 F1 C4 P0 hx hh I6 I5 Y9 hs;have W4:=hN hh;have P9:=zH (show Aa H4 P0 from hs);have W9:=zH (show H4.heap.size<=F2 from I6);have W8:=zH (show H4.heap.size<=F1 from I5);have W7:=zH (show H4.heap.size<=C4 from Y9);clear hh hx hs I6 I5 Y9;try simp only[ζ]
 refine bS 7 12 (bs 15 8191) [iV ((dv a b).1),iV ((dv a b).2)] W4.1 P9.1 W9.1 ?_;intro f3 W3 _ P8;refine bS 8 13 (bs 15 16383) [iV ((dv c d).1),iV ((dv c d).2)] W3.1 P8.1 W8.1 ?_;intro f2 W2 _ P7;refine bS 9 14 (bs 15 32767) [iV ((dv a c).1),iV ((dv a c).2)] W2.1 P7.1 W7.1 ?_;intro f1 L3 _ g5;refine wpAnyH_done kR ?_ _;go_upto_region 4 with fail;apply wl;refine Cc L3.1 _ _ ?_;refine aC L3.1 (Gw (dv a b) (dv c d) _ (Gc ha hb) (Gc hc hd)) ?_;intro D3 D5 _;apply zq (iV (cr (dv a b) (dv c d)));rcases Cx (cr (dv a b) (dv c d)≠0)with HNZ|HNZ
 ·go_upto_region 5 with fail
  apply wl;apply zq (iV (cr (dv a b) (dv c d)));apply zp τ (by exact Nw (e:=(An HNZ.1)));go_upto_region 6 with fail;refine zy ?_;have W1:=zH (D5.1.step (Aa.refl D3).drew);refine aBN D5.1 zb (bs 14 363) 0 1 3 5 6 8 _ _ (iV (cr (dv a b) (dv c d))) _ _ (iV (cr (dv a b) (dv c d))) ?_;refine FN.go2 (j1:=⟨10,some 15,58,[.bool false,.slice none 0 0,.bool false,.slice none 0 0]⟩) (j2:=⟨11,some 16,58,[.bool false,.slice none 0 0,.bool false,.slice none 0 0]⟩) (b:=D3) ?_ zb;refine gN 2 (bs 14 367) (fk (fk trivial)) zb.size (fun xq B1=>Gw (dv a c) (dv c d) _ (Gc ha hc) (Gc hc hd)) (by rintro x_ e H3 ⟨rfl,hx⟩;exact hx) ?_;rintro xq e f0 B1 ⟨rfl,hx⟩;replace hx:=B1.trans hx;clear B1;have W0:=zH (W1.1.step hx);have K8:=zH (zb.trans hx);clear hx;refine⟨_,rfl,?_⟩;try simp only[ζ]
  refine gN 4 (bs 14 383) (fk (fk trivial)) K8.1.size (fun xq B1=>Ox (cr (dv a c) (dv c d)) (cr (dv a b) (dv c d)) _ ω ω ω ω HNZ.1) (by rintro x_ e H3 ⟨c_,rfl,B2,hx⟩;exact hx) ?_;rintro xq e d9 B1 ⟨c_,rfl,B2,hx⟩;replace hx:=B1.trans hx;clear B1;have V9:=zH (W0.1.step hx);have K7:=zH (K8.1.trans hx);obtain⟨A0,rfl,A3⟩:=B2;have F6:=zH A3;have H2:=zH (dW (cr (dv a c) (dv c d)) (cr (dv a b) (dv c d)) ω ω);clear A3 hx;refine⟨_,rfl,?_⟩;try simp only[ζ]
  refine gN 7 (bs 14 511) (fk (fk trivial)) K7.1.size (fun xq B1=>Gw (dv a c) (dv a b) _ (Gc ha hc) (Gc ha hb)) (by rintro x_ e H3 ⟨rfl,hx⟩;exact hx) ?_;rintro xq e d8 B1 ⟨rfl,hx⟩;replace hx:=B1.trans hx;clear B1;have V8:=zH (V9.1.step hx);have N8:=zH (Ah.of_ext hx);have K6:=zH (K7.1.trans hx);clear hx;refine⟨_,rfl,?_⟩;try simp only[ζ]
  refine gN 9 (bs 14 1023) (fk (fk trivial)) K6.1.size (fun xq B1=>Ox (cr (dv a c) (dv a b)) (cr (dv a b) (dv c d)) _ ω ω ω ω HNZ.1) (by rintro x_ e H3 ⟨c_,rfl,B2,hx⟩;exact hx) ?_;rintro xq e d7 B1 ⟨c_,rfl,B2,hx⟩;replace hx:=B1.trans hx;clear B1;have V7:=zH (V8.1.step hx);have N7:=zH (Ah.of_ext hx);have P6:=zH (K6.1.trans hx);obtain⟨A1,rfl,A3⟩:=B2;have R2:=zH A3;have Y8:=zH (dW (cr (dv a c) (dv a b)) (cr (dv a b) (dv c d)) ω ω);clear A3 hx;refine⟨_,rfl,?_⟩;try simp only[ζ]
  refine aGL (bs 14 4095) (fk (fk trivial)) P6.1.size D5.1 V7.1 ?_;intro C8 I8 O9 hx hh I6 I5 hs;have V6:=hN hh;have G9:=zH (Ah.of_ext hx);have P5:=zH (show Aa D3 O9 from hs);have W6:=zH (show D3.heap.size<=C8 from I6);have W5:=zH (show D3.heap.size<=I8 from I5);clear hh hx hs I6 I5;try simp only[ζ]
  refine bS 10 12 (bs 14 8191) (rc A0) V6.1 P5.1 W6.1 ?_;intro d6 V5 G8 P4;refine bS 11 13 (bs 14 16383) (rc A1) V5.1 P4.1 W5.1 ?_;intro d5 L2 G7 g4;refine wpAnyH_done kR ?_ _;go_upto_region 7 with fail;apply wl;refine Cc L2.1 _ _ ?_;apply Zp 2 58 [.bool A0.n,.slice A0.p A0.l A0.c,.bool A0.m,.slice A0.p2 A0.l2 A0.c2,.bool A1.n,.slice A1.p A1.l A1.c,.bool A1.m,.slice A1.p2 A1.l2 A1.c2] L2.1;intro D7 O8 L1 G6;refine Cc Af _ _ ?_;go_wp2_with fail;go_loopg [59] (2) (fun cq P1 wr=>∃(k:Nat),cq=2-k/\P1= iV (k:Int)/\(k<=2)/\(1<=k->qD (Lc a b c d))/\(2<=k->qD (Su a b c d))/\Hp w wr [.blk D0 44 [iV a.1,iV a.2],.blk D6 44 [iV b.1,iV b.2],.blk H5 44 [iV c.1,iV c.2],.blk O0 44 [iV d.1,iV d.2],.blk E6 58 [.bool false,.slice none 0 0,.bool false,.slice none 0 0],.blk E5 58 [.bool false,.slice none 0 0,.bool false,.slice none 0 0],.blk P3 44 [iV a.1,iV a.2,iV b.1,iV b.2,iV c.1,iV c.2,iV d.1,iV d.2],.blk F2 44 [iV ((dv a b).1),iV ((dv a b).2)],.blk F1 44 [iV ((dv c d).1),iV ((dv c d).2)],.blk C4 44 [iV ((dv a c).1),iV ((dv a c).2)],.blk C8 58 (rc A0),.blk I8 58 (rc A1),.blk D7 58 [.bool A0.n,.slice A0.p A0.l A0.c,.bool A0.m,.slice A0.p2 A0.l2 A0.c2,.bool A1.n,.slice A1.p A1.l A1.c,.bool A1.m,.slice A1.p2 A1.l2 A1.c2]]/\Ah O8 wr)
  case atStart=>exact⟨0,rfl,rfl,(by decide),(fun h_=>absurd h_ (by decide)),(fun h_=>absurd h_ (by decide)),L1.1,Ah.refl _⟩
  obtain⟨k,rfl,rfl,H8,I0,H9,I4,I7⟩:=hrel;generalize wr=B0 at*;have HK:=zH H8;clear H8;have H0:=zH I0;clear I0;have H1:=zH H9;clear H9;have A2:=zH I4;have E4:=zH I7;clear I4 I7 L1;rcases Cx (k<2)with HLT|HLT
  ·have M6:=tD (tD (tD (tD (tD (tD N8 N7) G9) G8) G7) G6) E4
   have M5:=tD (tD (tD (tD G9 G8) G7) G6) E4;have I3:k=0\/k=1:=by have h_:=HLT.1;omega
   have H6:=zH I3;clear I3;obtain⟨rk,D4⟩:∃r:RV,r=if k=0 then A0 else A1:=⟨_,rfl⟩
   obtain⟨xk,C5⟩:∃x:Rat,x=if k=0 then Lc a b c d else Su a b c d:=⟨_,rfl⟩
   have O1:=zH C5;have K9:=zH (show rk.Is B0 xk from by rcases H6.1 with h_|h_;rw[D4,C5,if_pos h_,if_pos h_];exact(F6.1.dig M6.1);rw[D4,C5,if_neg ω,if_neg ω];exact(R2.1.dig M5.1));have L0:=zH (show Nm.rl xk<=8 from by rcases H6.1 with h_|h_;rw[C5,if_pos h_];exact H2.1;rw[C5,if_neg ω];exact Y8.1);have g6:=zH (show World.rangeAt B0 D7 (k*4) (rc rk)from by rcases H6.1 with h_|h_;rw[D4,if_pos h_,h_];exact A2.1.range (i:=12) (by rfl) 0 4;have g2:k=1:=h_;rw[D4,if_neg ω,g2];exact A2.1.range (i:=12) (by rfl) 4 4);clear D4 C5;go_upto_region 8 with fail
   apply wl;apply zp τ (by exact Eg (e:=(An (by have B4:=HLT.1;omega))));go_upto_region 9 with fail;apply wl;apply zp (.pointer (some ⟨D7,k*4,none⟩)) (by exact Ha (k:=k) underlying127 (l:=HLT.1) (f:=(cZZ _).symm));refine zd D7 (k*4) (rc rk) g6.1 underlying58 ?_;refine Cm 58 rz A2.1 ?_;intro g3 d4 V4 E3;apply Da 13 (rc rk) V4.1;intro B6 C3 E2;rcases Cx (xk<(((0):Int):Rat))with C1|C1
   ·go_upto_region 10 with fail
    refine zy ?_;have V3:=zH (C3.1.step (Aa.refl B6).drew);have Y2:=zH (Ah.of_ext (w:=B6) zb);refine Mz C3.1 zb (bs 10 1) 0 _ ?_;refine mC 1 (bs 10 3) (Cz 0 _ (by have B4:=HLT.1;omega) (by have B4:=HLT.1;omega)) ?_;rintro e O7 ⟨c_,rfl,B2,hx⟩;have V2:=zH (V3.1.step hx);have Y1:=zH (show Ah B6.drew O7 from Ah.of_ext hx);have K5:=zH (zb.trans hx);obtain⟨f8,rfl,A3⟩:=B2;have R1:=zH A3;have Y7:=zH (Bu 0 (by have B4:=HLT.1;omega) (by have B4:=HLT.1;omega));clear A3 hx;apply zm K5.1;have M4:=tD (tD (tD E3 E2) Y2) Y1;refine mC 2 (bs 10 7) (Ga (L:=60000) (RV.Is.nin (K9.1.dig M4.1) (Av L0.1 ω)) (RV.Is.nin R1.1 (Av Y7.1 ω)) ω) ?_;rintro e d3 ⟨rfl,hx⟩;have V1:=zH (V2.1.step hx);have F5:=zH (K5.1.trans hx);clear hx;apply zm F5.1;refine zu 3 (bs 10 15) (v:= .bool true) F5.1 ?_ (hv:=by intro w N9;exact Eg (e:=(An (rcmp_lt.2 C1.1))));refine aBN Af F5.1 (bs 10 1023) 4 5 6 7 8 9 τ _ _ _ _ τ ?_;refine wpAnyH_done kR ?_ _;go_upto_region 11 with fail
    apply wl;refine Cc Af _ _ ?_;refine Da 4 rz V1.1 ?_;intro d2 V0 _;refine Da 5 rz V0.1 ?_;intro d1 G5 _;apply zq (iV 0);have B5:=zH (show Gm a b c d=0 from by unfold Gm;rw[if_pos HNZ.1,if_neg (fun h_=>by have e_:=O1.1;rcases H6.1 with k_|k_;rw[if_pos k_]at e_;exact h_.1.1 (e_▸C1.1);rw[if_neg ω]at e_;exact h_.2.1 (e_▸C1.1))]);go_wp2_with fail
    refine bodyPost_ret (v:= .tuple #[.agg z4,.agg z4,iV 0]) ?_ rfl ⟨.inr ⟨by rw[B5.1];decide,by rw[B5.1]⟩,G5.1.ext⟩;exact Co rfl rfl rfl ((G5.1.blk (i:=4) rR).loadVar rfl rfl rR) ((G5.1.blk (i:=5) rR).loadVar rfl rfl rR) rfl
   rcases Cx ((((1):Int):Rat)<xk)with C2|C2
   ·go_upto_region 10 with fail
    refine zy ?_;have U9:=zH (C3.1.step (Aa.refl B6).drew);have Y0:=zH (Ah.of_ext (w:=B6) zb);refine Mz C3.1 zb (bs 10 1) 0 _ ?_;refine mC 1 (bs 10 3) (Cz 0 _ (by have B4:=HLT.1;omega) (by have B4:=HLT.1;omega)) ?_;rintro e O6 ⟨c_,rfl,B2,hx⟩;have U8:=zH (U9.1.step hx);have X9:=zH (show Ah B6.drew O6 from Ah.of_ext hx);have K4:=zH (zb.trans hx);obtain⟨f7,rfl,A3⟩:=B2;have R0:=zH A3;have Y6:=zH (Bu 0 (by have B4:=HLT.1;omega) (by have B4:=HLT.1;omega));clear A3 hx;apply zm K4.1;have E9:=tD (tD (tD E3 E2) Y0) X9;refine mC 2 (bs 10 7) (Ga (L:=60000) (RV.Is.nin (K9.1.dig E9.1) (Av L0.1 ω)) (RV.Is.nin R0.1 (Av Y6.1 ω)) ω) ?_;rintro e d0 ⟨rfl,hx⟩;have U7:=zH (U8.1.step hx);have X8:=zH (Ah.of_ext hx);have D9:=zH (K4.1.trans hx);clear hx;apply zm D9.1;refine zu 3 (bs 10 15) (v:= .bool false) D9.1 ?_ (hv:=by intro w N9;exact Eg (e:=(Al (fun hh=>C1.1 (rcmp_lt.1 hh)))));refine cR C3.1 D9.1 (bs 10 63) 4 5 φ _ ?_;refine mC 6 (bs 10 127) (Cz 1 _ (by have B4:=HLT.1;omega) (by have B4:=HLT.1;omega)) ?_;rintro e c9 ⟨c_,rfl,B2,hx⟩;have U6:=zH (U7.1.step hx);have X7:=zH (Ah.of_ext hx);have K3:=zH (D9.1.trans hx);obtain⟨f6,rfl,A3⟩:=B2;have Q9:=zH A3;have Y5:=zH (Bu 1 (by have B4:=HLT.1;omega) (by have B4:=HLT.1;omega));clear A3 hx;apply zm K3.1;have M3:=tD (tD E9 X8) X7;refine mC 7 (bs 10 255) (Ga (L:=60000) (RV.Is.nin (K9.1.dig M3.1) (Av L0.1 ω)) (RV.Is.nin Q9.1 (Av Y5.1 ω)) ω) ?_;rintro e c8 ⟨rfl,hx⟩;have U5:=zH (U6.1.step hx);have F4:=zH (K3.1.trans hx);clear hx;apply zm F4.1;refine zu 8 (bs 10 511) (v:= .bool true) F4.1 ?_ (hv:=by intro w N9;exact Sn (e:=(An (Ia.2 C2.1))));refine zx 9 (bs 10 1023) τ F4.1 ?_;refine wpAnyH_done kR ?_ _;go_upto_region 11 with fail
    apply wl;refine Cc Af _ _ ?_;refine Da 4 rz U5.1 ?_;intro c7 U4 _;refine Da 5 rz U4.1 ?_;intro c6 G4 _;apply zq (iV 0);have B5:=zH (show Gm a b c d=0 from by unfold Gm;rw[if_pos HNZ.1,if_neg (fun h_=>by have e_:=O1.1;rcases H6.1 with k_|k_;rw[if_pos k_]at e_;exact h_.1.2 (e_▸C2.1);rw[if_neg ω]at e_;exact h_.2.2 (e_▸C2.1))]);go_wp2_with fail
    refine bodyPost_ret (v:= .tuple #[.agg z4,.agg z4,iV 0]) ?_ rfl ⟨.inr ⟨by rw[B5.1];decide,by rw[B5.1]⟩,G4.1.ext⟩;exact Co rfl rfl rfl ((G4.1.blk (i:=4) rR).loadVar rfl rfl rR) ((G4.1.blk (i:=5) rR).loadVar rfl rfl rR) rfl
   go_upto_region 10 with fail;refine zy ?_;have U3:=zH (C3.1.step (Aa.refl B6).drew);have N6:=zH (Ah.of_ext (w:=B6) zb);refine Mz C3.1 zb (bs 10 1) 0 _ ?_;refine mC 1 (bs 10 3) (Cz 0 _ (by have B4:=HLT.1;omega) (by have B4:=HLT.1;omega)) ?_;rintro e O5 ⟨c_,rfl,B2,hx⟩;have U2:=zH (U3.1.step hx);have N5:=zH (show Ah B6.drew O5 from Ah.of_ext hx);have K2:=zH (zb.trans hx);obtain⟨f5,rfl,A3⟩:=B2;have Q8:=zH A3;have Y4:=zH (Bu 0 (by have B4:=HLT.1;omega) (by have B4:=HLT.1;omega));clear A3 hx;apply zm K2.1;have E8:=tD (tD (tD E3 E2) N6) N5;refine mC 2 (bs 10 7) (Ga (L:=60000) (RV.Is.nin (K9.1.dig E8.1) (Av L0.1 ω)) (RV.Is.nin Q8.1 (Av Y4.1 ω)) ω) ?_;rintro e c5 ⟨rfl,hx⟩;have U1:=zH (U2.1.step hx);have N4:=zH (Ah.of_ext hx);have D8:=zH (K2.1.trans hx);clear hx;apply zm D8.1;refine zu 3 (bs 10 15) (v:= .bool false) D8.1 ?_ (hv:=by intro w N9;exact Eg (e:=(Al (fun hh=>C1.1 (rcmp_lt.1 hh)))));refine cR C3.1 D8.1 (bs 10 63) 4 5 φ _ ?_;refine mC 6 (bs 10 127) (Cz 1 _ (by have B4:=HLT.1;omega) (by have B4:=HLT.1;omega)) ?_;rintro e c4 ⟨c_,rfl,B2,hx⟩;have U0:=zH (U1.1.step hx);have N3:=zH (Ah.of_ext hx);have K1:=zH (D8.1.trans hx);obtain⟨f4,rfl,A3⟩:=B2;have Q7:=zH A3;have Y3:=zH (Bu 1 (by have B4:=HLT.1;omega) (by have B4:=HLT.1;omega));clear A3 hx;apply zm K1.1;have M2:=tD (tD E8 N4) N3;refine mC 7 (bs 10 255) (Ga (L:=60000) (RV.Is.nin (K9.1.dig M2.1) (Av L0.1 ω)) (RV.Is.nin Q7.1 (Av Y3.1 ω)) ω) ?_;rintro e c3 ⟨rfl,hx⟩;have T9:=zH (U0.1.step hx);have X6:=zH (Ah.of_ext hx);have F3:=zH (K1.1.trans hx);clear hx;apply zm F3.1;refine zu 8 (bs 10 511) (v:= .bool false) F3.1 ?_ (hv:=by intro w N9;exact Sn (e:=(Al (fun hh=>C2.1 (Ia.1 hh)))));refine zx 9 (bs 10 1023) φ F3.1 ?_;refine wpAnyH_done kR ?_ _;go_upto_region 12 with fail
   apply wl;apply zp (iV ((k+1:Nat):Int)) (by exact Ht (by have B4:=HLT.1;omega));apply zq (iV ((k+1:Nat):Int));have M1:=tD (tD (tD (tD (tD (tD (tD E4 E3) E2) N6) N5) N4) N3) X6;go_wp2_with fail
   go_roundg (2-(k+1))
   case measure=>exact(by have B4:=HLT.1;omega)
   case rel=>exact⟨k+1,rfl,(by go_num),(by have h_:=HLT.1;omega),(fun _=>by rcases H6.1 with k_|k_;have e_:=O1.1;rw[if_pos k_]at e_;rw[<-e_];exact⟨C1.1,C2.1⟩;exact H0.1 ω),(fun g1=>by have e_:=O1.1;rw[if_neg ω]at e_;rw[<-e_];exact⟨C1.1,C2.1⟩),T9.1.take 13,M1.1⟩
  obtain rfl:k=2:=by have h_:=HLT.1;have g1:=HK.1;omega
  have B5:=zH (show Gm a b c d=1 from by unfold Gm;rw[if_pos HNZ.1,if_pos ⟨H0.1 (by decide),H1.1 (by decide)⟩]);go_upto_region 8 with fail;apply wl;apply zp φ (by exact Eg (e:=(Al dC)));go_upto_region 13 with fail;refine wp_region_held_drew (S:=fun x=>Fr (fun kz=>kz=E6\/kz=E5) B0 x) kR (Fr.of_ext zb) (fun _=> ?_);have T8:=zH (A2.1.step (Aa.refl B0).drew);have X5:=zH (Ah.of_ext (w:=B0) zb);refine zx 0 (bs 15 1) (.pointer (π D0)) (Fr.of_ext zb) ?_;refine Ec (g:=D0) (o:=0) (v:= iV a.1) (i:=1) (listed':=(bs 15 3)) rR kR kR kR (by intro _ _ _ h;exact h) rR (fun x hx=>Fr.cell hx (show World.cell? B0 ⟨D0,0,none⟩=some (iV a.1)from Aj (A2.1.range (i:=0) rR 0 1)) (fun hk=>hk.elim (A2.1.offBlk (i:=0) (j:=4) rR rR dC rR) (A2.1.offBlk (i:=0) (j:=5) rR rR dC rR))) (by intro x hq;go_simp<;>with_reducible rfl) (Fr.of_ext zb) kR ?_;try simp only[ζ]
  refine zx 2 (bs 15 7) (.pointer (π D6)) (Fr.of_ext zb) ?_;refine Ec (g:=D6) (o:=0) (v:= iV b.1) (i:=3) (listed':=(bs 15 15)) rR kR kR kR (by intro _ _ _ h;exact h) rR (fun x hx=>Fr.cell hx (show World.cell? B0 ⟨D6,0,none⟩=some (iV b.1)from Aj (A2.1.range (i:=1) rR 0 1)) (fun hk=>hk.elim (A2.1.offBlk (i:=1) (j:=4) rR rR dC rR) (A2.1.offBlk (i:=1) (j:=5) rR rR dC rR))) (by intro x hq;go_simp<;>with_reducible rfl) (Fr.of_ext zb) kR ?_;refine zr 4 (bs 15 31) C8 (0) (rc A0) (fun x hx=>Fr.range hx (show World.rangeAt B0 C8 (0) (rc A0)from(A2.1.range (i:=10) rR 0 4)) (fun hk=>hk.elim (A2.1.offBlk (i:=10) (j:=4) rR rR dC rR) (A2.1.offBlk (i:=10) (j:=5) rR rR dC rR))) underlying58 (Fr.of_ext zb) ?_;refine zx 6 (bs 15 95) (.pointer (some ⟨D0,1,none⟩)) (Fr.of_ext zb) ?_;refine Ec (g:=D0) (o:=1) (v:= iV a.2) (i:=7) (listed':=(bs 15 223)) rR kR kR kR (by intro _ _ _ h;exact h) rR (fun x hx=>Fr.cell hx (show World.cell? B0 ⟨D0,1,none⟩=some (iV a.2)from Aj (A2.1.range (i:=0) rR 1 1)) (fun hk=>hk.elim (A2.1.offBlk (i:=0) (j:=4) rR rR dC rR) (A2.1.offBlk (i:=0) (j:=5) rR rR dC rR))) (by intro x hq;go_simp<;>with_reducible rfl) (Fr.of_ext zb) kR ?_;try simp only[ζ]
  refine zx 8 (bs 15 479) (.pointer (some ⟨D6,1,none⟩)) (Fr.of_ext zb) ?_;refine Ec (g:=D6) (o:=1) (v:= iV b.2) (i:=9) (listed':=(bs 15 991)) rR kR kR kR (by intro _ _ _ h;exact h) rR (fun x hx=>Fr.cell hx (show World.cell? B0 ⟨D6,1,none⟩=some (iV b.2)from Aj (A2.1.range (i:=1) rR 1 1)) (fun hk=>hk.elim (A2.1.offBlk (i:=1) (j:=4) rR rR dC rR) (A2.1.offBlk (i:=1) (j:=5) rR rR dC rR))) (by intro x hq;go_simp<;>with_reducible rfl) (Fr.of_ext zb) kR ?_;refine zr 10 (bs 15 2015) C8 (0) (rc A0) (fun x hx=>Fr.range hx (show World.rangeAt B0 C8 (0) (rc A0)from(A2.1.range (i:=10) rR 0 4)) (fun hk=>hk.elim (A2.1.offBlk (i:=10) (j:=4) rR rR dC rR) (A2.1.offBlk (i:=10) (j:=5) rR rR dC rR))) underlying58 (Fr.of_ext zb) ?_;have E7:=tD (tD (tD (tD (tD (tD (tD N8 N7) G9) G8) G7) G6) E4) X5;refine mC 5 (bs 15 2047) (Nr 20 a.1 b.1 _ (((cr (dv a c) (dv c d):Int):Rat)/((cr (dv a b) (dv c d):Int):Rat)) _ (RV.Is.nin (F6.1.dig E7.1) (Av H2.1 ω)) dC dC ⟨ω,ω⟩ ⟨ω,ω⟩) ?_;rintro e H7 ⟨c_,rfl,B2,hx⟩;have T7:=zH (T8.1.step hx);have X4:=zH (show Ah B0.drew H7 from Ah.of_ext hx);have K0:=zH (show Fr (fun kz=>kz=E6\/kz=E5) B0 H7 from(Fr.of_ext zb).trans (Fr.of_ext hx));obtain⟨A9,rfl,A3⟩:=B2;have Q6:=zH A3;clear A3 hx;apply zm K0.1;have M0:=tD E7 X4;refine mC 11 (bs 15 4095) (Nr 20 a.2 b.2 _ (((cr (dv a c) (dv c d):Int):Rat)/((cr (dv a b) (dv c d):Int):Rat)) _ (RV.Is.nin (F6.1.dig M0.1) (Av H2.1 ω)) dC dC ⟨ω,ω⟩ ⟨ω,ω⟩) ?_;rintro e c1 ⟨c_,rfl,B2,hx⟩;have T6:=zH (T7.1.step hx);have X3:=zH (Ah.of_ext hx);have J9:=zH (K0.1.trans (Fr.of_ext hx));obtain⟨A8,rfl,A3⟩:=B2;have Q5:=zH A3;clear A3 hx;apply zm J9.1;refine Ef (i:=12) (listed':=(bs 15 8191)) rR kR rR kR _ _ _ rR T6.1 (ix:=4) rR 0 (rc A9) rR rR (by simp) kR (by simp[Value.oneCell']) (by simp[Ar]) ?_;intro c0 hh hd ho;have T5:=hN hh;have N2:=zH (hd);have J8:=zH (Fr.trans_new J9.1 ho (fun j hj=> .inl (.inl (by injection hj with hj;exact hj.symm))));clear hh hd ho;refine⟨J8.1,?_⟩
  (try simp only[Act.put])
  refine Ef (i:=13) (listed':=(bs 15 16383)) rR kR rR kR _ _ _ rR T5.1 (ix:=5) rR 0 (rc A8) rR rR (by simp) kR (by simp[Value.oneCell']) (by simp[Ar]) ?_;intro b9 hh hd ho;have G3:=hN hh;have N1:=zH (hd);have J7:=zH (Fr.trans_new J8.1 ho (fun j hj=> .inl (.inr (by injection hj with hj;exact hj.symm))));clear hh hd ho;refine⟨J7.1,?_⟩
  (try simp only[Act.put])
  refine zx 14 (bs 15 32767) (iV 1) J7.1 ?_;refine wpAnyH_done kR ?_ _;have L9:=tD (tD X3 N2) N1;have L8:=tD N2 N1;go_wp2_with fail
  refine bodyPost_ret (v:= .tuple #[(rg A9),(rg A8),iV 1]) ?_ rfl ⟨.inl ⟨A9,A8,B5.1,rfl,by unfold iN;rw[if_pos HNZ.1];exact(Q6.1.dig L9.1),by unfold Qx;rw[if_pos HNZ.1];exact(Q5.1.dig L8.1)⟩,G3.1.ext⟩;exact Co rfl rfl rfl ((G3.1.blk (i:=4) rR).loadVar rfl rfl rR) ((G3.1.blk (i:=5) rR).loadVar rfl rfl rR) rfl
 go_upto_region 5 with fail;apply wl;apply zq (iV (cr (dv a b) (dv c d)));apply zp φ (by exact Nw (e:=(Al HNZ.1)));go_upto_region 14 with fail;apply wl;refine Cn D5.1 _ ?_;apply Cm 44 [iV 0,iV 0] D5.1;intro B7 b8 T4 _;apply Da 10 [iV ((dv a b).1),iV ((dv a b).2)] T4.1;intro O4 E1 _;go_upto_region 15 with fail;apply wl;refine Cc E1.1 _ _ ?_;apply zp (.bool ((dv a b).1==0&&(dv a b).2==0)) (by exact Ku rR rR rR rfl);go_upto_if 91 with fail
 go_cut [] (fun wx=>Hp w wx [.blk D0 44 [iV a.1,iV a.2],.blk D6 44 [iV b.1,iV b.2],.blk H5 44 [iV c.1,iV c.2],.blk O0 44 [iV d.1,iV d.2],.blk E6 58 [.bool false,.slice none 0 0,.bool false,.slice none 0 0],.blk E5 58 [.bool false,.slice none 0 0,.bool false,.slice none 0 0],.blk P3 44 [iV a.1,iV a.2,iV b.1,iV b.2,iV c.1,iV c.2,iV d.1,iV d.2],.blk F2 44 [iV ((dv a b).1),iV ((dv a b).2)],.blk F1 44 [iV ((dv c d).1),iV ((dv c d).2)],.blk C4 44 [iV ((dv a c).1),iV ((dv a c).2)],.blk B7 44 [iV ((Cp a b c d).1),iV ((Cp a b c d).2)]]/\Ah O4 wx)
 case first=>
  by_cases cj:((dv a b).1==0&&(dv a b).2==0)=true
  ·rw[cj]
   go_upto_region 16 with fail;apply wl;refine Cn E1.1 _ ?_;apply Da 10 [iV ((dv c d).1),iV ((dv c d).2)] E1.1;intro b7 T3 X2;go_wp2_with fail;go_meet
   exact⟨(by rw[show Cp a b c d=dv c d from if_pos ((Ps (a:=dv a b) (b:=(0,0))).1 cj)];exact T3.1),X2.1⟩
  rw[Bool.eq_false_iff.2 cj];go_wp2_with fail;go_meet
  exact⟨(by rw[show Cp a b c d=dv a b from if_neg (fun h_=>cj ((Ps (a:=dv a b) (b:=(0,0))).2 h_))];exact E1.1),(Ah.refl _)⟩
 obtain⟨I4,I7⟩:=hcut;generalize wc=b6 at*;have B3:=zH I4;have i6:=zH I7;clear I4 I7;have HL:=zH (show Cp a b c d=Cp a b c d from rfl);have I1:(-2097152<=(Cp a b c d).1/\(Cp a b c d).1<=2097152)/\(-2097152<=(Cp a b c d).2/\(Cp a b c d).2<=2097152):=by unfold Cp;split;exact Gc hc hd;exact Gc ha hb
 have l0:=Zj I1 (Gc ha hc);rcases Cx (cr (Cp a b c d) (dv a c)≠0)with HX|HX
 ·go_upto_region 17 with fail
  apply wl;refine zd B7 (0) [iV ((Cp a b c d).1),iV ((Cp a b c d).2)] (B3.1.range (i:=10) rR 0 2) underlying44 ?_;refine zd C4 (0) [iV ((dv a c).1),iV ((dv a c).2)] (B3.1.range (i:=9) rR 0 2) underlying44 ?_;refine aC B3.1 (Gw (Cp a b c d) (dv a c) _ I1 (Gc ha hc)) ?_;intro b5 T2 _;apply zp τ (by exact Nw (e:=(An HX.1)));refine Iu Af τ _ _ _ _ _ _ _ ?_;refine zk ?_;apply zq τ;go_upto_region 18 with fail;apply wl;refine Cc Af _ _ ?_;refine Da 4 rz T2.1 ?_;intro b4 T1 _;refine Da 5 rz T1.1 ?_;intro b3 G2 _;apply zq (iV 0);have B5:=zH (show Gm a b c d=0 from by unfold Gm;rw[if_neg HNZ.1,HL.1];exact if_pos (.inl HX.1));go_wp2_with fail
  refine bodyPost_ret (v:= .tuple #[.agg z4,.agg z4,iV 0]) ?_ rfl ⟨.inr ⟨by rw[B5.1];decide,by rw[B5.1]⟩,G2.1.ext⟩;exact Co rfl rfl rfl ((G2.1.blk (i:=4) rR).loadVar rfl rfl rR) ((G2.1.blk (i:=5) rR).loadVar rfl rfl rR) rfl
 rcases Cx (Cp a b c d=(0,0))with HL0|HL0
 ·rcases Cx (a≠c)with HAC|HAC
  ·go_upto_region 17 with fail
   apply wl;refine zd B7 (0) [iV ((Cp a b c d).1),iV ((Cp a b c d).2)] (B3.1.range (i:=10) rR 0 2) underlying44 ?_;refine zd C4 (0) [iV ((dv a c).1),iV ((dv a c).2)] (B3.1.range (i:=9) rR 0 2) underlying44 ?_;refine aC B3.1 (Gw (Cp a b c d) (dv a c) _ I1 (Gc ha hc)) ?_;intro b2 E0 _;apply zp φ (by exact Nw (e:=(Al HX.1)));apply qV φ;refine zd B7 (0) [iV ((Cp a b c d).1),iV ((Cp a b c d).2)] (E0.1.range (i:=10) rR 0 2) underlying44 ?_;refine Cn Af _ ?_;apply zp τ (by exact Ku rR rR rR ((Ps (a:=Cp a b c d) (b:=(0,0))).2 HL0.1));apply qV τ;refine zd D0 (0) [iV a.1,iV a.2] (E0.1.range (i:=0) rR 0 2) underlying44 ?_;refine zd H5 (0) [iV c.1,iV c.2] (E0.1.range (i:=2) rR 0 2) underlying44 ?_;apply zp τ (by exact fP rR rR rR (by rw[Bool.not_eq_true',Bool.eq_false_iff];exact fun h_=>HAC.1 (Ps.1 h_)));refine Cc Af τ τ ?_;go_upto_region 18 with fail;apply wl;refine Cc Af _ _ ?_;refine Da 4 rz E0.1 ?_;intro b1 T0 _;refine Da 5 rz T0.1 ?_;intro b0 G1 _;apply zq (iV 0);have B5:=zH (show Gm a b c d=0 from by unfold Gm;rw[if_neg HNZ.1,HL.1];exact if_pos (.inr ⟨HL0.1,HAC.1⟩));go_wp2_with fail
   refine bodyPost_ret (v:= .tuple #[.agg z4,.agg z4,iV 0]) ?_ rfl ⟨.inr ⟨by rw[B5.1];decide,by rw[B5.1]⟩,G1.1.ext⟩;exact Co rfl rfl rfl ((G1.1.blk (i:=4) rR).loadVar rfl rfl rR) ((G1.1.blk (i:=5) rR).loadVar rfl rfl rR) rfl
  have HR:=zH (show¬(Cp a b c d=(0,0)/\a≠c)from fun h_=>HAC.1 h_.2);go_upto_region 17 with fail;apply wl;refine zd B7 (0) [iV ((Cp a b c d).1),iV ((Cp a b c d).2)] (B3.1.range (i:=10) rR 0 2) underlying44 ?_;refine zd C4 (0) [iV ((dv a c).1),iV ((dv a c).2)] (B3.1.range (i:=9) rR 0 2) underlying44 ?_;refine aC B3.1 (Gw (Cp a b c d) (dv a c) _ I1 (Gc ha hc)) ?_;intro a9 C0 _;apply zp φ (by exact Nw (e:=(Al HX.1)));apply qV φ;refine zd B7 (0) [iV ((Cp a b c d).1),iV ((Cp a b c d).2)] (C0.1.range (i:=10) rR 0 2) underlying44 ?_;refine Cn Af _ ?_;apply zp τ (by exact Ku rR rR rR ((Ps (a:=Cp a b c d) (b:=(0,0))).2 HL0.1));apply qV τ;refine zd D0 (0) [iV a.1,iV a.2] (C0.1.range (i:=0) rR 0 2) underlying44 ?_;refine zd H5 (0) [iV c.1,iV c.2] (C0.1.range (i:=2) rR 0 2) underlying44 ?_;apply zp φ (by exact fP rR rR rR (by rw[Bool.not_eq_false'];exact Ps.2 (Classical.not_not.1 HAC.1)));refine Cc Af φ φ ?_;go_upto_region 19 with fail;apply wl;refine zd D0 (0) [iV a.1,iV a.2] (C0.1.range (i:=0) rR 0 2) underlying44 ?_;refine zd D6 (0) [iV b.1,iV b.2] (C0.1.range (i:=1) rR 0 2) underlying44 ?_;refine zd H5 (0) [iV c.1,iV c.2] (C0.1.range (i:=2) rR 0 2) underlying44 ?_;refine zd O0 (0) [iV d.1,iV d.2] (C0.1.range (i:=3) rR 0 2) underlying44 ?_;refine aC C0.1 (Ul a b c d _ ha hb hc hd) ?_;intro a8 S9 _;refine Dt Af _ _ (iV ((Ay a b c d).2)) ?_;apply Cm 44 [iV 0,iV 0] S9.1;intro C7 a7 S8 _;apply Da 11 [iV ((Ay a b c d).1.1),iV ((Ay a b c d).1.2)] S8.1;intro D2 B9 _;apply zq (iV ((Ay a b c d).2));have B5:=zH (show Gm a b c d=(Ay a b c d).2 from by unfold Gm;rw[if_neg HNZ.1,HL.1];exact if_neg (fun h_=>h_.elim (fun h_=>HX.1 h_) (fun h_=>HR.1 h_)));have g0:=Xu a b c d;rcases Cx ((Ay a b c d).2≠1)with HK1|HK1
  ·go_upto_region 20 with fail
   apply wl;apply zq (iV ((Ay a b c d).2));apply zp τ (by exact Nw (e:=(An HK1.1)));go_upto_region 21 with fail;apply wl;refine Dt Af _ _ (iV ((Ay a b c d).2)) ?_;refine Da 4 rz B9.1 ?_;intro a6 S7 _;refine Da 5 rz S7.1 ?_;intro a5 G0 _;apply zq (iV ((Ay a b c d).2));go_wp2_with fail;refine bodyPost_ret (v:= .tuple #[.agg z4,.agg z4,iV (Ay a b c d).2]) ?_ rfl ⟨.inr ⟨by rw[B5.1];exact HK1.1,by rw[B5.1]⟩,G0.1.ext⟩;exact Co rfl rfl rfl ((G0.1.blk (i:=4) rR).loadVar rfl rfl rR) ((G0.1.blk (i:=5) rR).loadVar rfl rfl rR) rfl
  have F0:(Ay a b c d).2=1:=by have h_:=HK1.1;omega
  have P2:=Qw ha hb hc hd;have f9:=Bd P2;go_upto_region 20 with fail
  apply wl;apply zq (iV ((Ay a b c d).2));apply zp φ (by exact Nw (e:=(Al HK1.1)));go_upto_region 22 with fail;refine wp_region_held_drew (S:=fun x=>Fr (fun kz=>kz=E6\/kz=E5) D2 x) kR (Fr.of_ext zb) (fun _=> ?_);have S6:=zH (B9.1.step (Aa.refl D2).drew);refine zx 0 (bs 9 1) (.pointer (π C7)) (Fr.of_ext zb) ?_;refine Ec (g:=C7) (o:=0) (v:= iV ((Ay a b c d).1.1)) (i:=1) (listed':=(bs 9 3)) rR kR kR kR (by intro _ _ _ h;exact h) rR (fun x hx=>Fr.cell hx (show World.cell? D2 ⟨C7,0,none⟩=some (iV ((Ay a b c d).1.1))from Aj (B9.1.range (i:=11) rR 0 1)) (fun hk=>hk.elim (B9.1.offBlk (i:=11) (j:=4) rR rR dC rR) (B9.1.offBlk (i:=11) (j:=5) rR rR dC rR))) (by intro x hq;go_simp<;>with_reducible rfl) (Fr.of_ext zb) kR ?_;try simp only[ζ]
  refine zx 3 (bs 9 11) (.pointer (some ⟨C7,1,none⟩)) (Fr.of_ext zb) ?_;refine Ec (g:=C7) (o:=1) (v:= iV ((Ay a b c d).1.2)) (i:=4) (listed':=(bs 9 27)) rR kR kR kR (by intro _ _ _ h;exact h) rR (fun x hx=>Fr.cell hx (show World.cell? D2 ⟨C7,1,none⟩=some (iV ((Ay a b c d).1.2))from Aj (B9.1.range (i:=11) rR 1 1)) (fun hk=>hk.elim (B9.1.offBlk (i:=11) (j:=4) rR rR dC rR) (B9.1.offBlk (i:=11) (j:=5) rR rR dC rR))) (by intro x hq;go_simp<;>with_reducible rfl) (Fr.of_ext zb) kR ?_;try simp only[ζ]
  refine mC 2 (bs 9 31) (Cz ((Ay a b c d).1.1) _ ω ω) ?_;rintro e O3 ⟨c_,rfl,B2,hx⟩;have S5:=zH (S6.1.step hx);have J6:=zH (show Fr (fun kz=>kz=E6\/kz=E5) D2 O3 from(Fr.of_ext zb).trans (Fr.of_ext hx));obtain⟨A7,rfl,A3⟩:=B2;have Q4:=zH A3;clear A3 hx;apply zm J6.1;refine mC 5 (bs 9 63) (Cz ((Ay a b c d).1.2) _ ω ω) ?_;rintro e a4 ⟨c_,rfl,B2,hx⟩;have S4:=zH (S5.1.step hx);have X1:=zH (Ah.of_ext hx);have J5:=zH (J6.1.trans (Fr.of_ext hx));obtain⟨A6,rfl,A3⟩:=B2;have Q3:=zH A3;clear A3 hx;apply zm J5.1;refine Ef (i:=6) (listed':=(bs 9 127)) rR kR rR kR _ _ _ rR S4.1 (ix:=4) rR 0 (rc A7) rR rR (by simp) kR (by simp[Value.oneCell']) (by simp[Ar]) ?_;intro a3 hh hd ho;have S3:=hN hh;have N0:=zH (hd);have J4:=zH (Fr.trans_new J5.1 ho (fun j hj=> .inl (.inl (by injection hj with hj;exact hj.symm))));clear hh hd ho;refine⟨J4.1,?_⟩
  (try simp only[Act.put])
  refine Ef (i:=7) (listed':=(bs 9 255)) rR kR rR kR _ _ _ rR S3.1 (ix:=5) rR 0 (rc A6) rR rR (by simp) kR (by simp[Value.oneCell']) (by simp[Ar]) ?_;intro a2 hh hd ho;have F9:=hN hh;have M9:=zH (hd);have J3:=zH (Fr.trans_new J4.1 ho (fun j hj=> .inl (.inr (by injection hj with hj;exact hj.symm))));clear hh hd ho;refine⟨J3.1,?_⟩
  (try simp only[Act.put])
  refine zx 8 (bs 9 511) (iV 1) J3.1 ?_;refine wpAnyH_done kR ?_ _;have L7:=tD (tD X1 N0) M9;have L6:=tD N0 M9;go_wp2_with fail
  refine bodyPost_ret (v:= .tuple #[(rg A7),(rg A6),iV 1]) ?_ rfl ⟨.inl ⟨A7,A6,B5.1.trans F0,rfl,by unfold iN;rw[if_neg HNZ.1];exact(Q4.1.dig L7.1),by unfold Qx;rw[if_neg HNZ.1];exact(Q3.1.dig L6.1)⟩,F9.1.ext⟩;exact Co rfl rfl rfl ((F9.1.blk (i:=4) rR).loadVar rfl rfl rR) ((F9.1.blk (i:=5) rR).loadVar rfl rfl rR) rfl
 have HR:=zH (show¬(Cp a b c d=(0,0)/\a≠c)from fun h_=>HL0.1 h_.1);go_upto_region 17 with fail;apply wl;refine zd B7 (0) [iV ((Cp a b c d).1),iV ((Cp a b c d).2)] (B3.1.range (i:=10) rR 0 2) underlying44 ?_;refine zd C4 (0) [iV ((dv a c).1),iV ((dv a c).2)] (B3.1.range (i:=9) rR 0 2) underlying44 ?_;refine aC B3.1 (Gw (Cp a b c d) (dv a c) _ I1 (Gc ha hc)) ?_;intro a1 C9 _;apply zp φ (by exact Nw (e:=(Al HX.1)));apply qV φ;refine zd B7 (0) [iV ((Cp a b c d).1),iV ((Cp a b c d).2)] (C9.1.range (i:=10) rR 0 2) underlying44 ?_;refine Cn Af _ ?_;apply zp φ (by exact Ku rR rR rR (Bool.eq_false_iff.2 (fun h_=>HL0.1 ((Ps (a:=Cp a b c d) (b:=(0,0))).1 h_))));refine Tx Af φ _ _ _ φ φ ?_;go_upto_region 19 with fail;apply wl;refine zd D0 (0) [iV a.1,iV a.2] (C9.1.range (i:=0) rR 0 2) underlying44 ?_;refine zd D6 (0) [iV b.1,iV b.2] (C9.1.range (i:=1) rR 0 2) underlying44 ?_;refine zd H5 (0) [iV c.1,iV c.2] (C9.1.range (i:=2) rR 0 2) underlying44 ?_;refine zd O0 (0) [iV d.1,iV d.2] (C9.1.range (i:=3) rR 0 2) underlying44 ?_;refine aC C9.1 (Ul a b c d _ ha hb hc hd) ?_;intro a0 S2 _;refine Dt Af _ _ (iV ((Ay a b c d).2)) ?_;apply Cm 44 [iV 0,iV 0] S2.1;intro C6 Z9 S1 _;apply Da 11 [iV ((Ay a b c d).1.1),iV ((Ay a b c d).1.2)] S1.1;intro D1 B8 _;apply zq (iV ((Ay a b c d).2));have B5:=zH (show Gm a b c d=(Ay a b c d).2 from by unfold Gm;rw[if_neg HNZ.1,HL.1];exact if_neg (fun h_=>h_.elim (fun h_=>HX.1 h_) (fun h_=>HR.1 h_)));have g0:=Xu a b c d;rcases Cx ((Ay a b c d).2≠1)with HK1|HK1
 ·go_upto_region 20 with fail
  apply wl;apply zq (iV ((Ay a b c d).2));apply zp τ (by exact Nw (e:=(An HK1.1)));go_upto_region 21 with fail;apply wl;refine Dt Af _ _ (iV ((Ay a b c d).2)) ?_;refine Da 4 rz B8.1 ?_;intro Z8 S0 _;refine Da 5 rz S0.1 ?_;intro Z7 F8 _;apply zq (iV ((Ay a b c d).2));go_wp2_with fail;refine bodyPost_ret (v:= .tuple #[.agg z4,.agg z4,iV (Ay a b c d).2]) ?_ rfl ⟨.inr ⟨by rw[B5.1];exact HK1.1,by rw[B5.1]⟩,F8.1.ext⟩;exact Co rfl rfl rfl ((F8.1.blk (i:=4) rR).loadVar rfl rfl rR) ((F8.1.blk (i:=5) rR).loadVar rfl rfl rR) rfl
 have F0:(Ay a b c d).2=1:=by have h_:=HK1.1;omega
 have P2:=Qw ha hb hc hd;have f9:=Bd P2;go_upto_region 20 with fail
 apply wl;apply zq (iV ((Ay a b c d).2));apply zp φ (by exact Nw (e:=(Al HK1.1)));go_upto_region 22 with fail;refine wp_region_held_drew (S:=fun x=>Fr (fun kz=>kz=E6\/kz=E5) D1 x) kR (Fr.of_ext zb) (fun _=> ?_);have R9:=zH (B8.1.step (Aa.refl D1).drew);refine zx 0 (bs 9 1) (.pointer (π C6)) (Fr.of_ext zb) ?_;refine Ec (g:=C6) (o:=0) (v:= iV ((Ay a b c d).1.1)) (i:=1) (listed':=(bs 9 3)) rR kR kR kR (by intro _ _ _ h;exact h) rR (fun x hx=>Fr.cell hx (show World.cell? D1 ⟨C6,0,none⟩=some (iV ((Ay a b c d).1.1))from Aj (B8.1.range (i:=11) rR 0 1)) (fun hk=>hk.elim (B8.1.offBlk (i:=11) (j:=4) rR rR dC rR) (B8.1.offBlk (i:=11) (j:=5) rR rR dC rR))) (by intro x hq;go_simp<;>with_reducible rfl) (Fr.of_ext zb) kR ?_;try simp only[ζ]
 refine zx 3 (bs 9 11) (.pointer (some ⟨C6,1,none⟩)) (Fr.of_ext zb) ?_;refine Ec (g:=C6) (o:=1) (v:= iV ((Ay a b c d).1.2)) (i:=4) (listed':=(bs 9 27)) rR kR kR kR (by intro _ _ _ h;exact h) rR (fun x hx=>Fr.cell hx (show World.cell? D1 ⟨C6,1,none⟩=some (iV ((Ay a b c d).1.2))from Aj (B8.1.range (i:=11) rR 1 1)) (fun hk=>hk.elim (B8.1.offBlk (i:=11) (j:=4) rR rR dC rR) (B8.1.offBlk (i:=11) (j:=5) rR rR dC rR))) (by intro x hq;go_simp<;>with_reducible rfl) (Fr.of_ext zb) kR ?_;try simp only[ζ]
 refine mC 2 (bs 9 31) (Cz ((Ay a b c d).1.1) _ ω ω) ?_;rintro e O2 ⟨c_,rfl,B2,hx⟩;have R8:=zH (R9.1.step hx);have J2:=zH (show Fr (fun kz=>kz=E6\/kz=E5) D1 O2 from(Fr.of_ext zb).trans (Fr.of_ext hx));obtain⟨A5,rfl,A3⟩:=B2;have Q2:=zH A3;clear A3 hx;apply zm J2.1;refine mC 5 (bs 9 63) (Cz ((Ay a b c d).1.2) _ ω ω) ?_;rintro e Z6 ⟨c_,rfl,B2,hx⟩;have R7:=zH (R8.1.step hx);have X0:=zH (Ah.of_ext hx);have J1:=zH (J2.1.trans (Fr.of_ext hx));obtain⟨A4,rfl,A3⟩:=B2;have Q1:=zH A3;clear A3 hx;apply zm J1.1;refine Ef (i:=6) (listed':=(bs 9 127)) rR kR rR kR _ _ _ rR R7.1 (ix:=4) rR 0 (rc A5) rR rR (by simp) kR (by simp[Value.oneCell']) (by simp[Ar]) ?_;intro Z5 hh hd ho;have R6:=hN hh;have M8:=zH (hd);have J0:=zH (Fr.trans_new J1.1 ho (fun j hj=> .inl (.inl (by injection hj with hj;exact hj.symm))));clear hh hd ho;refine⟨J0.1,?_⟩
 (try simp only[Act.put])
 refine Ef (i:=7) (listed':=(bs 9 255)) rR kR rR kR _ _ _ rR R6.1 (ix:=5) rR 0 (rc A4) rR rR (by simp) kR (by simp[Value.oneCell']) (by simp[Ar]) ?_;intro Z4 hh hd ho;have F7:=hN hh;have M7:=zH (hd);have I9:=zH (Fr.trans_new J0.1 ho (fun j hj=> .inl (.inr (by injection hj with hj;exact hj.symm))));clear hh hd ho;refine⟨I9.1,?_⟩
 (try simp only[Act.put])
 refine zx 8 (bs 9 511) (iV 1) I9.1 ?_;refine wpAnyH_done kR ?_ _;have L5:=tD (tD X0 M8) M7;have L4:=tD M8 M7;go_wp2_with fail
 refine bodyPost_ret (v:= .tuple #[(rg A5),(rg A4),iV 1]) ?_ rfl ⟨.inl ⟨A5,A4,B5.1.trans F0,rfl,by unfold iN;rw[if_neg HNZ.1];exact(Q2.1.dig L5.1),by unfold Qx;rw[if_neg HNZ.1];exact(Q1.1.dig L4.1)⟩,F7.1.ext⟩;exact Co rfl rfl rfl ((F7.1.blk (i:=4) rR).loadVar rfl rfl rR) ((F7.1.blk (i:=5) rR).loadVar rfl rfl rR) rfl
def Qu (C:Prop)(q:Rat)(w:World)(e:Ending)(w':World):Prop:=
  ((∃r:RV,C/\e= .returned (.tuple #[(rg r),.bool true])/\r.Is w' q)\/
    (¬C/\e= .returned (.tuple #[.agg z4,.bool false])))/\Aa w w'
def cZ (a b:Int×Int)(x:Int):Prop:=Du a/\Du b/\a.1≠b.1/\min a.1 b.1<=x/\x<=max a.1 b.1
def Im (a b:Int×Int)(x:Int):Rat:=(a.2:Rat)+((x-a.1:Int):Rat)/((b.1-a.1:Int):Rat)*((b.2-a.2:Int):Rat)
theorem aX {a b:Int×Int}:De [a,b]=true↔Du a/\Du b:=by simp[De,Du]
theorem Tb (a b:Int×Int)(x:Int)(w:World)(hx0: -9223372036854775808<=x/\x<=9223372036854775807):
  Calls prog 141 #[.agg #[iV a.1,iV a.2],.agg #[iV b.1,iV b.2],iV x] w (Qu (cZ a b x) (Im a b x) w):=by
 go_enter func141,ntmps141;have H0:=zH (Hp.start w);go_upto_region 0 with fail;apply wl;apply Cm 44 [iV a.1,iV a.2] H0.1;intro X1 w2 H3 _;apply Cm 44 [iV b.1,iV b.2] H3.1;intro X6 w7 H8 _;refine Cm 58 rz H8.1 ?_;intro D1 G1 A4 _;apply zq φ;rcases Cx (De [a,b]=true)with HB|HB
 ·have A3:=HB
  have B5:=aX.1 HB.1;have oa:=Bd B5.1;have ob:=Bd B5.2;have D2:=zH B5;rcases Cx (a.1=b.1)with C1|C1
  ·go_upto_region 1 with fail
   apply wl;refine Cc A4.1 _ _ ?_;apply Zp 2 44 [iV a.1,iV a.2,iV b.1,iV b.2] A4.1;intro F0 G0 D9 _;refine zc (Id (.slice (π F0) 2 2) [a,b] _ (Js D9.1 (i:=3) rR) (by simp)) ?_;rintro e F9 ⟨rfl,hx⟩;have D8:=zH (D9.1.step hx);clear hx;refine⟨.bool true,by rw[A3.1],?_⟩;try simp only[ζ]
   refine Tx D8.1 φ φ _ _ _ _ ?_;apply zp τ (by exact Rr (e:=(An C1.1)));refine Iu Af τ τ _ _ _ _ _ _ ?_;refine Iu Af _ τ τ _ _ _ _ _ ?_;refine Dt Af _ _ τ ?_;go_upto_region 2 with fail;apply wl;apply zq (.agg z4);refine Da 2 rz D8.1 ?_;intro F8 D7 _;apply zq φ;go_wp2_with fail;refine bodyPost_ret (v:= .tuple #[.agg z4,.bool false]) ?_ rfl ⟨.inr ⟨fun h=>h.2.2.1 C1.1,rfl⟩,D7.1.ext⟩;exact At rfl rfl ((D7.1.blk (i:=2) rR).loadVar rfl rfl rR) rfl
  rcases Cx (x<min a.1 b.1)with C2|C2
  ·go_upto_region 1 with fail
   apply wl;refine Cc A4.1 _ _ ?_;apply Zp 2 44 [iV a.1,iV a.2,iV b.1,iV b.2] A4.1;intro E9 F7 D6 _;refine zc (Id (.slice (π E9) 2 2) [a,b] _ (Js D6.1 (i:=3) rR) (by simp)) ?_;rintro e F6 ⟨rfl,hx⟩;have C4:=zH (D6.1.step hx);clear hx;refine⟨.bool true,by rw[A3.1],?_⟩;try simp only[ζ]
   refine Tx C4.1 φ φ _ _ _ _ ?_;apply zp φ (by exact Rr (e:=(Al C1.1)));refine Iu C4.1 φ φ (iV x) _ _ _ _ (iV (min a.1 b.1)) ?_;apply zp τ (by exact Eg (e:=(An C2.1)));refine Iu Af τ τ _ _ _ _ _ _ ?_;refine zk ?_;apply zq τ;go_upto_region 2 with fail;apply wl;apply zq (.agg z4);refine Da 2 rz C4.1 ?_;intro F5 D5 _;apply zq φ;go_wp2_with fail;refine bodyPost_ret (v:= .tuple #[.agg z4,.bool false]) ?_ rfl ⟨.inr ⟨fun h=>by have h1:=h.2.2.2.1;have h2:=C2.1;omega,rfl⟩,D5.1.ext⟩;exact At rfl rfl ((D5.1.blk (i:=2) rR).loadVar rfl rfl rR) rfl
  rcases Cx (max a.1 b.1<x)with C3|C3
  ·go_upto_region 1 with fail
   apply wl;refine Cc A4.1 _ _ ?_;apply Zp 2 44 [iV a.1,iV a.2,iV b.1,iV b.2] A4.1;intro E8 F4 D4 _;refine zc (Id (.slice (π E8) 2 2) [a,b] _ (Js D4.1 (i:=3) rR) (by simp)) ?_;rintro e F3 ⟨rfl,hx⟩;have B3:=zH (D4.1.step hx);clear hx;refine⟨.bool true,by rw[A3.1],?_⟩;try simp only[ζ]
   refine Tx B3.1 φ φ _ _ _ _ ?_;apply zp φ (by exact Rr (e:=(Al C1.1)));refine Iu B3.1 φ φ (iV x) _ _ _ _ (iV (min a.1 b.1)) ?_;apply zp φ (by exact Eg (e:=(Al C2.1)));refine Iu B3.1 φ φ (iV x) _ _ _ _ (iV (max a.1 b.1)) ?_;apply zp τ (by exact Sn (e:=(An C3.1)));apply zq τ;go_upto_region 2 with fail;apply wl;apply zq (.agg z4);refine Da 2 rz B3.1 ?_;intro F2 D3 _;apply zq φ;go_wp2_with fail;refine bodyPost_ret (v:= .tuple #[.agg z4,.bool false]) ?_ rfl ⟨.inr ⟨fun h=>by have h1:=h.2.2.2.2;have h2:=C3.1;omega,rfl⟩,D3.1.ext⟩;exact At rfl rfl ((D3.1.blk (i:=2) rR).loadVar rfl rfl rR) rfl
  go_upto_region 1 with fail;apply wl;refine Cc A4.1 _ _ ?_;apply Zp 2 44 [iV a.1,iV a.2,iV b.1,iV b.2] A4.1;intro B8 E5 B2 _;refine zc (Id (.slice (π B8) 2 2) [a,b] _ (Js B2.1 (i:=3) rR) (by simp)) ?_;rintro e A2 ⟨rfl,hx⟩;have A1:=zH (B2.1.step hx);clear hx;refine⟨.bool true,by rw[A3.1],?_⟩;try simp only[ζ]
  refine Tx A1.1 φ φ _ _ _ _ ?_;apply zp φ (by exact Rr (e:=(Al C1.1)));refine Iu A1.1 φ φ (iV x) _ _ _ _ (iV (min a.1 b.1)) ?_;apply zp φ (by exact Eg (e:=(Al C2.1)));refine Iu A1.1 φ φ (iV x) _ _ _ _ (iV (max a.1 b.1)) ?_;apply zp φ (by exact Sn (e:=(Al C3.1)));apply zq φ;have F1:=zH (show b.1-a.1≠0 from fun h=>C1.1 ω);have G2: -1048576<=x/\x<=1048576:=by have h2:=C2.1;have h3:=C3.1;omega
  go_upto_region 3 with fail;refine wp_region_held_drew (S:=fun x=>Fr (fun kz=>kz=D1) A2 x) kR (Fr.of_ext zb) (fun _=> ?_);have C8:=zH (A1.1.step (Aa.refl A2).drew);refine zx 0 (bs 17 1) (.pointer (some ⟨X1,1,none⟩)) (Fr.of_ext zb) ?_;refine Ec (g:=X1) (o:=1) (v:= iV a.2) (i:=1) (listed':=(bs 17 3)) rR kR kR kR (by intro _ _ _ h;exact h) rR (fun x hx=>Fr.cell hx (show World.cell? A2 ⟨X1,1,none⟩=some (iV a.2)from Aj (A1.1.range (i:=0) rR 1 1)) (A1.1.offBlk (i:=0) (j:=2) rR rR dC rR)) (by intro x hq;go_simp<;>with_reducible rfl) (Fr.of_ext zb) kR ?_;try simp only[ζ]
  refine zx 2 (bs 17 7) (.pointer (some ⟨X6,1,none⟩)) (Fr.of_ext zb) ?_;refine Ec (g:=X6) (o:=1) (v:= iV b.2) (i:=3) (listed':=(bs 17 15)) rR kR kR kR (by intro _ _ _ h;exact h) rR (fun x hx=>Fr.cell hx (show World.cell? A2 ⟨X6,1,none⟩=some (iV b.2)from Aj (A1.1.range (i:=1) rR 1 1)) (A1.1.offBlk (i:=1) (j:=2) rR rR dC rR)) (by intro x hq;go_simp<;>with_reducible rfl) (Fr.of_ext zb) kR ?_;try simp only[ζ]
  refine zx 4 (bs 17 31) (iV x) (Fr.of_ext zb) ?_;refine zx 5 (bs 17 63) (.pointer (π X1)) (Fr.of_ext zb) ?_;refine Ec (g:=X1) (o:=0) (v:= iV a.1) (i:=6) (listed':=(bs 17 127)) rR kR kR kR (by intro _ _ _ h;exact h) rR (fun x hx=>Fr.cell hx (show World.cell? A2 ⟨X1,0,none⟩=some (iV a.1)from Aj (A1.1.range (i:=0) rR 0 1)) (A1.1.offBlk (i:=0) (j:=2) rR rR dC rR)) (by intro x hq;go_simp<;>with_reducible rfl) (Fr.of_ext zb) kR ?_;try simp only[ζ]
  refine zu 7 (bs 17 255) (v:= iV (x-a.1)) (Fr.of_ext zb) ?_ (hv:=by intro w E7;exact Xg ω);refine zx 8 (bs 17 511) (.pointer (π X6)) (Fr.of_ext zb) ?_;refine Ec (g:=X6) (o:=0) (v:= iV b.1) (i:=9) (listed':=(bs 17 1023)) rR kR kR kR (by intro _ _ _ h;exact h) rR (fun x hx=>Fr.cell hx (show World.cell? A2 ⟨X6,0,none⟩=some (iV b.1)from Aj (A1.1.range (i:=1) rR 0 1)) (A1.1.offBlk (i:=1) (j:=2) rR rR dC rR)) (by intro x hq;go_simp<;>with_reducible rfl) (Fr.of_ext zb) kR ?_;try simp only[ζ]
  refine zx 10 (bs 17 2047) (.pointer (π X1)) (Fr.of_ext zb) ?_;refine Ec (g:=X1) (o:=0) (v:= iV a.1) (i:=11) (listed':=(bs 17 4095)) rR kR kR kR (by intro _ _ _ h;exact h) rR (fun x hx=>Fr.cell hx (show World.cell? A2 ⟨X1,0,none⟩=some (iV a.1)from Aj (A1.1.range (i:=0) rR 0 1)) (A1.1.offBlk (i:=0) (j:=2) rR rR dC rR)) (by intro x hq;go_simp<;>with_reducible rfl) (Fr.of_ext zb) kR ?_;try simp only[ζ]
  refine zu 12 (bs 17 8191) (v:= iV (b.1-a.1)) (Fr.of_ext zb) ?_ (hv:=by intro w E7;exact Xg ω);refine mC 13 (bs 17 16383) (Ox (x-a.1) (b.1-a.1) _ ω ω ω ω F1.1) ?_;rintro e B4 ⟨c_,rfl,B6,hx⟩;have C7:=zH (C8.1.step hx);have A8:=zH (show Fr (fun kz=>kz=D1) A2 B4 from(Fr.of_ext zb).trans (Fr.of_ext hx));obtain⟨E6,rfl,A5⟩:=B6;have C0:=zH A5;have D0:=zH (dW (x-a.1) (b.1-a.1) ω ω);clear A5 hx;apply zm A8.1;refine mC 14 (bs 17 32767) (Nr 20 a.2 b.2 _ (((x-a.1:Int):Rat)/((b.1-a.1:Int):Rat)) _ (RV.Is.nin C0.1 (Av D0.1 ω)) dC dC ⟨ω,ω⟩ ⟨ω,ω⟩) ?_;rintro e E4 ⟨c_,rfl,B6,hx⟩;have C6:=zH (C7.1.step hx);have A7:=zH (A8.1.trans (Fr.of_ext hx));obtain⟨A0,rfl,A5⟩:=B6;have B9:=zH A5;clear A5 hx;apply zm A7.1;refine Ef (i:=15) (listed':=(bs 17 65535)) rR kR rR kR _ _ _ rR C6.1 (ix:=2) rR 0 (rc A0) rR rR (by simp) kR (by simp[Value.oneCell']) (by simp[Ar]) ?_;intro E3 hh hd ho;have B1:=hN hh;have C9:=zH (hd);have A6:=zH (Fr.trans_new A7.1 ho (fun j hj=> .inl (by simpa using hj.symm)));clear hh hd ho;refine⟨A6.1,?_⟩
  (try simp only[Act.put])
  refine zx 16 (bs 17 131071) τ A6.1 ?_;refine wpAnyH_done kR ?_ _;go_wp2_with fail;refine bodyPost_ret (v:= .tuple #[(rg A0),.bool true]) ?_ rfl ⟨.inl ⟨A0,⟨D2.1.1,D2.1.2,C1.1,by have h2:=C2.1;omega,by have h3:=C3.1;omega⟩,rfl,(B9.1.dig C9.1)⟩,B1.1.ext⟩;exact At rfl rfl ((B1.1.blk (i:=2) rR).loadVar rfl rfl rR) rfl
 have A3:=zH (Bool.eq_false_iff.2 HB.1);go_upto_region 1 with fail;apply wl;refine Cc A4.1 _ _ ?_;apply Zp 2 44 [iV a.1,iV a.2,iV b.1,iV b.2] A4.1;intro B7 E2 B0 _;refine zc (Id (.slice (π B7) 2 2) [a,b] _ (Js B0.1 (i:=3) rR) (by simp)) ?_;rintro e E1 ⟨rfl,hx⟩;have C5:=zH (B0.1.step hx);clear hx;refine⟨.bool false,by rw[A3.1],?_⟩;try simp only[ζ]
 refine Iu Af τ τ _ _ _ _ _ τ ?_;refine Iu Af τ _ _ _ _ _ _ _ ?_;refine Iu Af τ τ _ _ _ _ _ _ ?_;refine zk ?_;apply zq τ;go_upto_region 2 with fail;apply wl;apply zq (.agg z4);refine Da 2 rz C5.1 ?_;intro E0 A9 _;apply zq φ;go_wp2_with fail;refine bodyPost_ret (v:= .tuple #[.agg z4,.bool false]) ?_ rfl ⟨.inr ⟨fun h=>HB.1 (aX.2 ⟨h.1,h.2.1⟩),rfl⟩,A9.1.ext⟩;exact At rfl rfl ((A9.1.blk (i:=2) rR).loadVar rfl rfl rR) rfl
structure R4 where
  x0:Int
  y0:Int
  x1:Int
  y1:Int
def cS (n:Int):Bool:=decide (-4096<=n)&&decide (n<=4096)
theorem yJ {n:Int}:cS n=true↔-4096<=n/\n<=4096:=by unfold cS;simp
def R4.ok (r:R4):Bool:=cS r.x0&&cS r.y0&&cS r.x1&&cS r.y1
def R4.emp (r:R4):Bool:= !r.ok||decide (r.x1<=r.x0)||decide (r.y1<=r.y0)
def R4.zero:R4:=⟨0,0,0,0⟩
def R4.can (r:R4):R4:=if r.emp=true then R4.zero else r
def R4.area (r:R4):Int:=(r.can.x1-r.can.x0)*(r.can.y1-r.can.y0)
def R4.has (r:R4)(x y:Int):Bool:= !r.emp&&decide (r.x0<=x)&&decide (x<r.x1)&&decide (r.y0<=y)&&decide (y<r.y1)
def R4.ix (r:R4)(x y:Int):Int:=if r.has x y=true then(y-r.y0)*(r.x1-r.x0)+x-r.x0 else-1
def R4.uni (a b:R4):R4:=if a.emp=true then b.can else if b.emp=true then a else⟨min a.x0 b.x0,min a.y0 b.y0,max a.x1 b.x1,max a.y1 b.y1⟩
theorem Rx {r:R4}:r.ok=true↔(-4096<=r.x0/\r.x0<=4096)/\(-4096<=r.y0/\r.y0<=4096)/\(-4096<=r.x1/\r.x1<=4096)/\(-4096<=r.y1/\r.y1<=4096):=by
  unfold R4.ok;simp[yJ,and_assoc]
theorem gX {r:R4}(h:r.emp=false):r.ok=true/\r.x0<r.x1/\r.y0<r.y1:=by
  unfold R4.emp at h;simp at h;exact⟨h.1.1,h.1.2,h.2⟩
theorem R4.can_bd (r:R4):((-4096<=r.can.x0/\r.can.x0<=4096)/\(-4096<=r.can.y0/\r.can.y0<=4096)/\(-4096<=r.can.x1/\r.can.x1<=4096)/\(-4096<=r.can.y1/\r.can.y1<=4096))/\r.can.x0<=r.can.x1/\r.can.y0<=r.can.y1:=by
  unfold R4.can;by_cases c:r.emp=true
  · rw[if_pos c];decide
  rw[if_neg c];have h:=gX (Bool.eq_false_iff.2 c);exact⟨Rx.1 h.1,Int.le_of_lt h.2.1,Int.le_of_lt h.2.2⟩
theorem Vr {x y:Int}(h1: -8192<=x/\x<=8192)(h2: -8192<=y/\y<=8192): -67108864<=x*y/\x*y<=67108864:=by
  have h:(x*y).natAbs<=8192*8192:=by rw[Int.natAbs_mul];exact Nat.mul_le_mul ω (ω)
  omega
theorem wU {r:R4}{x y:Int}(h:r.has x y=true):r.emp=false/\r.x0<=x/\x<r.x1/\r.y0<=y/\y<r.y1:=by
  unfold R4.has at h;simp at h;exact⟨h.1.1.1.1,h.1.1.1.2,h.1.1.2,h.1.2,h.2⟩
theorem Ju (n:Int)(w:World):Calls prog 63 #[iV n] w fun e w'=>e= .returned (.bool (cS n))/\Aa w w':=by
  unfold cS;by_cases h1: -4096<=n<;>by_cases h2:n<=4096<;>simp only[h1,h2,decide_true,decide_false,Bool.and_true,Bool.and_false]<;>
    (go_enter func63,ntmps63;go_wp2_with fail;go_ret;exact⟨rfl,Aa.refl _⟩)
theorem Sg (r:R4)(w:World):Calls prog 29 #[.agg #[iV r.x0,iV r.y0,iV r.x1,iV r.y1]] w fun e w'=>e= .returned (.bool r.ok)/\Aa w w':=by
 go_enter func29,ntmps29;have H0:=zH (Hp.start w);go_upto_region 0 with fail;apply wl;apply Cm 24 [iV r.x0,iV r.y0,iV r.x1,iV r.y1] H0.1;intro X1 w2 H3 _;apply zq φ;rcases Cx (cS r.x0=true)with C0|C0
 ·rcases Cx (cS r.y0=true)with C1|C1
  ·rcases Cx (cS r.x1=true)with C2|C2
   ·rcases Cx (cS r.y1=true)with C3|C3
    ·go_upto_region 1 with fail
     apply wl;refine Cc H3.1 _ _ ?_;refine aC H3.1 ((Ju r.x0 _).mono fun _ _ h_=>(⟨h_.1.trans (by rw[C0.1]),h_.2⟩:_=Ending.returned τ/\Aa _ _)) ?_;intro D1 A8 _;refine Dt A8.1 τ _ _ ?_;refine aC A8.1 ((Ju r.y0 _).mono fun _ _ h_=>(⟨h_.1.trans (by rw[C1.1]),h_.2⟩:_=Ending.returned τ/\Aa _ _)) ?_;intro D0 A7 _;refine Fk A7.1 τ τ _ _ ?_;refine aC A7.1 ((Ju r.x1 _).mono fun _ _ h_=>(⟨h_.1.trans (by rw[C2.1]),h_.2⟩:_=Ending.returned τ/\Aa _ _)) ?_;intro C9 A6 _;refine Fk A6.1 τ τ _ _ ?_;refine aC A6.1 ((Ju r.y1 _).mono fun _ _ h_=>(⟨h_.1.trans (by rw[C3.1]),h_.2⟩:_=Ending.returned τ/\Aa _ _)) ?_;intro C8 B3 _;refine Cc Af τ τ ?_;have HV:=zH (show r.ok=true from by unfold R4.ok;rw[C0.1,C1.1,C2.1,C3.1]<;>rfl);go_wp2_with fail
     go_ret;exact⟨by rw[HV.1]<;>rfl,B3.1.ext⟩
    have F3:=zH (Bool.eq_false_iff.2 C3.1);go_upto_region 1 with fail;apply wl;refine Cc H3.1 _ _ ?_;refine aC H3.1 ((Ju r.x0 _).mono fun _ _ h_=>(⟨h_.1.trans (by rw[C0.1]),h_.2⟩:_=Ending.returned τ/\Aa _ _)) ?_;intro C7 A5 _;refine Dt A5.1 τ _ _ ?_;refine aC A5.1 ((Ju r.y0 _).mono fun _ _ h_=>(⟨h_.1.trans (by rw[C1.1]),h_.2⟩:_=Ending.returned τ/\Aa _ _)) ?_;intro C6 A4 _;refine Fk A4.1 τ τ _ _ ?_;refine aC A4.1 ((Ju r.x1 _).mono fun _ _ h_=>(⟨h_.1.trans (by rw[C2.1]),h_.2⟩:_=Ending.returned τ/\Aa _ _)) ?_;intro C5 A3 _;refine Fk A3.1 τ τ _ _ ?_;refine aC A3.1 ((Ju r.y1 _).mono fun _ _ h_=>(⟨h_.1.trans (by rw[F3.1]),h_.2⟩:_=Ending.returned φ/\Aa _ _)) ?_;intro C4 B2 _;refine Cc Af φ φ ?_;have HV:=zH (show r.ok=false from by unfold R4.ok;simp[F3.1]);go_wp2_with fail
    go_ret;exact⟨by rw[HV.1]<;>rfl,B2.1.ext⟩
   have F2:=zH (Bool.eq_false_iff.2 C2.1);go_upto_region 1 with fail;apply wl;refine Cc H3.1 _ _ ?_;refine aC H3.1 ((Ju r.x0 _).mono fun _ _ h_=>(⟨h_.1.trans (by rw[C0.1]),h_.2⟩:_=Ending.returned τ/\Aa _ _)) ?_;intro B9 A2 _;refine Dt A2.1 τ _ _ ?_;refine aC A2.1 ((Ju r.y0 _).mono fun _ _ h_=>(⟨h_.1.trans (by rw[C1.1]),h_.2⟩:_=Ending.returned τ/\Aa _ _)) ?_;intro B8 A1 _;refine Fk A1.1 τ τ _ _ ?_;refine aC A1.1 ((Ju r.x1 _).mono fun _ _ h_=>(⟨h_.1.trans (by rw[F2.1]),h_.2⟩:_=Ending.returned φ/\Aa _ _)) ?_;intro B7 B1 _;refine rJ Af φ φ _ _ _ φ φ ?_;have HV:=zH (show r.ok=false from by unfold R4.ok;simp[F2.1]);go_wp2_with fail
   go_ret;exact⟨by rw[HV.1]<;>rfl,B1.1.ext⟩
  have F1:=zH (Bool.eq_false_iff.2 C1.1);go_upto_region 1 with fail;apply wl;refine Cc H3.1 _ _ ?_;refine aC H3.1 ((Ju r.x0 _).mono fun _ _ h_=>(⟨h_.1.trans (by rw[C0.1]),h_.2⟩:_=Ending.returned τ/\Aa _ _)) ?_;intro B6 A0 _;refine Dt A0.1 τ _ _ ?_;refine aC A0.1 ((Ju r.y0 _).mono fun _ _ h_=>(⟨h_.1.trans (by rw[F1.1]),h_.2⟩:_=Ending.returned φ/\Aa _ _)) ?_;intro B5 B0 _;refine Iu Af φ φ _ _ _ φ φ _ ?_;refine Fk Af _ _ φ φ ?_;have HV:=zH (show r.ok=false from by unfold R4.ok;simp[F1.1]);go_wp2_with fail
  go_ret;exact⟨by rw[HV.1]<;>rfl,B0.1.ext⟩
 have F0:=zH (Bool.eq_false_iff.2 C0.1);go_upto_region 1 with fail;apply wl;refine Cc H3.1 _ _ ?_;refine aC H3.1 ((Ju r.x0 _).mono fun _ _ h_=>(⟨h_.1.trans (by rw[F0.1]),h_.2⟩:_=Ending.returned φ/\Aa _ _)) ?_;intro B4 A9 _;refine Iu Af φ _ _ _ φ φ _ _ ?_;refine Iu Af _ φ φ _ _ _ φ φ ?_;have HV:=zH (show r.ok=false from by unfold R4.ok;simp[F0.1]);go_wp2_with fail
 go_ret;exact⟨by rw[HV.1]<;>rfl,A9.1.ext⟩
theorem Ip (r:R4)(w:World):Calls prog 64 #[.agg #[iV r.x0,iV r.y0,iV r.x1,iV r.y1]] w fun e w'=>e= .returned (.bool r.emp)/\Aa w w':=by
 go_enter func64,ntmps64;have H0:=zH (Hp.start w);go_upto_region 0 with fail;apply wl;apply Cm 24 [iV r.x0,iV r.y0,iV r.x1,iV r.y1] H0.1;intro B0 A9 A0 _;apply zq φ;rcases Cx (r.ok=true)with C0|C0
 ·rcases Cx (r.x0<r.x1)with C1|C1
  ·rcases Cx (r.y0<r.y1)with C2|C2
   ·go_upto_region 1 with fail
    apply wl;refine Cn A0.1 _ ?_;refine aC A0.1 ((Sg r _).mono fun _ _ h_=>(⟨h_.1.trans (by rw[C0.1]),h_.2⟩:_=Ending.returned τ/\Aa _ _)) ?_;intro A8 A2 _;refine Tx A2.1 φ φ _ _ _ _ ?_;apply zp φ (by exact Qg (e:=(Al (by have h_:=C1.1;omega))));refine Tx A2.1 φ φ _ _ _ _ ?_;apply zp φ (by exact Qg (e:=(Al (by have h_:=C2.1;omega))));refine Cc Af φ φ ?_;have HV:=zH (show r.emp=false from by unfold R4.emp;simp[C0.1];have B2:=C1.1;have B1:=C2.1;omega);go_wp2_with fail
    go_ret;exact⟨by rw[HV.1]<;>rfl,A2.1.ext⟩
   go_upto_region 1 with fail;apply wl;refine Cn A0.1 _ ?_;refine aC A0.1 ((Sg r _).mono fun _ _ h_=>(⟨h_.1.trans (by rw[C0.1]),h_.2⟩:_=Ending.returned τ/\Aa _ _)) ?_;intro A7 A1 _;refine Tx A1.1 φ φ _ _ _ _ ?_;apply zp φ (by exact Qg (e:=(Al (by have h_:=C1.1;omega))));refine Tx A1.1 φ φ _ _ _ _ ?_;apply zp τ (by exact Qg (e:=(An (by have h_:=C2.1;omega))));refine Cc Af τ τ ?_;have HV:=zH (show r.emp=true from by unfold R4.emp;have h_:=C2.1;simp[C0.1];omega);go_wp2_with fail
   go_ret;exact⟨by rw[HV.1]<;>rfl,A1.1.ext⟩
  go_upto_region 1 with fail;apply wl;refine Cn A0.1 _ ?_;refine aC A0.1 ((Sg r _).mono fun _ _ h_=>(⟨h_.1.trans (by rw[C0.1]),h_.2⟩:_=Ending.returned τ/\Aa _ _)) ?_;intro A6 A3 _;refine Tx A3.1 φ φ _ _ _ _ ?_;apply zp τ (by exact Qg (e:=(An (by have h_:=C1.1;omega))));refine Iu Af τ τ _ _ _ _ _ τ ?_;apply zq τ;have HV:=zH (show r.emp=true from by unfold R4.emp;have h_:=C1.1;simp[C0.1];omega);go_wp2_with fail
  go_ret;exact⟨by rw[HV.1]<;>rfl,A3.1.ext⟩
 have F0:=zH (Bool.eq_false_iff.2 C0.1);go_upto_region 1 with fail;apply wl;refine Cn A0.1 _ ?_;refine aC A0.1 ((Sg r _).mono fun _ _ h_=>(⟨h_.1.trans (by rw[F0.1]),h_.2⟩:_=Ending.returned φ/\Aa _ _)) ?_;intro A5 A4 _;refine Iu Af τ τ _ _ _ _ _ τ ?_;refine Iu Af τ _ _ _ _ _ τ τ ?_;have HV:=zH (show r.emp=true from by unfold R4.emp;simp[F0.1]);go_wp2_with fail
 go_ret;exact⟨by rw[HV.1]<;>rfl,A4.1.ext⟩
theorem Uw (r:R4)(w:World):Calls prog 31 #[.agg #[iV r.x0,iV r.y0,iV r.x1,iV r.y1]] w fun e w'=>e= .returned (.agg #[iV r.can.x0,iV r.can.y0,iV r.can.x1,iV r.can.y1])/\Aa w w':=by
 go_enter func31,ntmps31;have H0:=zH (Hp.start w);go_upto_region 0 with fail;apply wl;apply Cm 24 [iV r.x0,iV r.y0,iV r.x1,iV r.y1] H0.1;intro B3 B1 A5 _;apply Cm 24 [iV 0,iV 0,iV 0,iV 0] A5.1;intro B2 B0 A0 _;rcases Cx (r.emp=true)with C0|C0
 ·go_upto_region 1 with fail
  apply wl;refine Cn A0.1 _ ?_;refine aC A0.1 ((Ip r _).mono fun _ _ h_=>(⟨h_.1.trans (by rw[C0.1]),h_.2⟩:_=Ending.returned τ/\Aa _ _)) ?_;intro A9 A4 _;go_upto_region 2 with fail;apply wl;refine Cn Af _ ?_;apply Da 1 [iV 0,iV 0,iV 0,iV 0] A4.1;intro A8 A3 _;have HC:=zH (show r.can=R4.zero from if_pos C0.1);go_wp2_with fail
  refine bodyPost_ret (v:= .agg #[iV R4.zero.x0,iV R4.zero.y0,iV R4.zero.x1,iV R4.zero.y1]) ?_ rfl ⟨by rw[HC.1],A3.1.ext⟩;exact Ak rfl rfl ((A3.1.blk (i:=1) rR).loadVar rfl rfl rR)
 have F0:=zH (Bool.eq_false_iff.2 C0.1);go_upto_region 1 with fail;apply wl;refine Cn A0.1 _ ?_;refine aC A0.1 ((Ip r _).mono fun _ _ h_=>(⟨h_.1.trans (by rw[F0.1]),h_.2⟩:_=Ending.returned φ/\Aa _ _)) ?_;intro A7 A2 _;go_upto_region 3 with fail;apply wl;refine Cn A2.1 _ ?_;apply Da 1 [iV r.x0,iV r.y0,iV r.x1,iV r.y1] A2.1;intro A6 A1 _;have HC:=zH (show r.can=r from if_neg C0.1);go_wp2_with fail
 refine bodyPost_ret (v:= .agg #[iV r.x0,iV r.y0,iV r.x1,iV r.y1]) ?_ rfl ⟨by rw[HC.1],A1.1.ext⟩;exact Ak rfl rfl ((A1.1.blk (i:=1) rR).loadVar rfl rfl rR)
theorem Pp (r:R4)(w:World):Calls prog 30 #[.agg #[iV r.x0,iV r.y0,iV r.x1,iV r.y1]] w fun e w'=>e= .returned (iV r.area)/\Aa w w':=by
 have hb:=r.can_bd;have hm:=Vr (x:=r.can.x1-r.can.x0) (y:=r.can.y1-r.can.y0) ω ω;go_enter func30,ntmps30
 have H0:=zH (Hp.start w);go_upto_region 0 with fail;apply wl;apply Cm 24 [iV r.x0,iV r.y0,iV r.x1,iV r.y1] H0.1;intro A6 A5 A1 _;apply zq (iV 0);go_upto_region 1 with fail;apply wl;refine Cn A1.1 _ ?_;refine aC A1.1 (Uw r _) ?_;intro A4 A2 _;apply Da 0 [iV r.can.x0,iV r.can.y0,iV r.can.x1,iV r.can.y1] A2.1;intro A3 A0 _;go_upto_region 2 with fail;apply wl;refine Fk A0.1 _ _ _ _ ?_;apply zp (iV (r.can.x1-r.can.x0)) (by exact Xg ω);refine Fk A0.1 _ _ _ _ ?_;apply zp (iV (r.can.y1-r.can.y0)) (by exact Xg ω);apply zp (iV ((r.can.x1-r.can.x0)*(r.can.y1-r.can.y0))) (by exact gZ ω);apply zq (iV ((r.can.x1-r.can.x0)*(r.can.y1-r.can.y0)));go_wp2_with fail;go_ret;exact⟨rfl,A0.1.ext⟩
theorem tH (r:R4)(px py:Int)(w:World):Calls prog 67 #[.agg #[iV r.x0,iV r.y0,iV r.x1,iV r.y1],iV px,iV py] w fun e w'=>e= .returned (.bool (r.has px py))/\Aa w w':=by
 go_enter func67,ntmps67;have H0:=zH (Hp.start w);go_upto_region 0 with fail;apply wl;apply Cm 24 [iV r.x0,iV r.y0,iV r.x1,iV r.y1] H0.1;intro B4 B3 A0 _;apply zq φ;rcases Cx (r.emp=false)with C0|C0
 ·rcases Cx (r.x0<=px)with C1|C1
  ·rcases Cx (px<r.x1)with C2|C2
   ·rcases Cx (r.y0<=py)with C3|C3
    ·rcases Cx (py<r.y1)with C4|C4
     ·go_upto_region 1 with fail
      apply wl;refine Cn A0.1 _ ?_;refine aC A0.1 ((Ip r _).mono fun _ _ h_=>(⟨h_.1.trans (by rw[C0.1]),h_.2⟩:_=Ending.returned φ/\Aa _ _)) ?_;intro B2 A2 _;refine Na A2.1 τ τ (iV px) _ _ ?_;apply zp τ (by exact Od (e:=(An (by have h_:=C1.1;omega))));refine Na A2.1 τ τ (iV px) _ _ ?_;apply zp τ (by exact Eg (e:=(An (by have h_:=C2.1;omega))));refine Na A2.1 τ τ (iV py) _ _ ?_;apply zp τ (by exact Od (e:=(An (by have h_:=C3.1;omega))));refine Na A2.1 τ τ (iV py) _ _ ?_;apply zp τ (by exact Eg (e:=(An (by have h_:=C4.1;omega))));refine Cc Af τ τ ?_;have HV:=zH (show r.has px py=true from by unfold R4.has;simp[C0.1,C1.1,C2.1,C3.1,C4.1]);go_wp2_with fail
      go_ret;exact⟨by rw[HV.1]<;>rfl,A2.1.ext⟩
     go_upto_region 1 with fail;apply wl;refine Cn A0.1 _ ?_;refine aC A0.1 ((Ip r _).mono fun _ _ h_=>(⟨h_.1.trans (by rw[C0.1]),h_.2⟩:_=Ending.returned φ/\Aa _ _)) ?_;intro B1 A1 _;refine Na A1.1 τ τ (iV px) _ _ ?_;apply zp τ (by exact Od (e:=(An (by have h_:=C1.1;omega))));refine Na A1.1 τ τ (iV px) _ _ ?_;apply zp τ (by exact Eg (e:=(An (by have h_:=C2.1;omega))));refine Na A1.1 τ τ (iV py) _ _ ?_;apply zp τ (by exact Od (e:=(An (by have h_:=C3.1;omega))));refine Na A1.1 τ τ (iV py) _ _ ?_;apply zp φ (by exact Eg (e:=(Al (by have h_:=C4.1;omega))));refine Cc Af φ φ ?_;have HV:=zH (show r.has px py=false from by unfold R4.has;simp[show decide _=false from decide_eq_false C4.1]);go_wp2_with fail
     go_ret;exact⟨by rw[HV.1]<;>rfl,A1.1.ext⟩
    go_upto_region 1 with fail;apply wl;refine Cn A0.1 _ ?_;refine aC A0.1 ((Ip r _).mono fun _ _ h_=>(⟨h_.1.trans (by rw[C0.1]),h_.2⟩:_=Ending.returned φ/\Aa _ _)) ?_;intro B0 A3 _;refine Na A3.1 τ τ (iV px) _ _ ?_;apply zp τ (by exact Od (e:=(An (by have h_:=C1.1;omega))));refine Na A3.1 τ τ (iV px) _ _ ?_;apply zp τ (by exact Eg (e:=(An (by have h_:=C2.1;omega))));refine Na A3.1 τ τ (iV py) _ _ ?_;apply zp φ (by exact Od (e:=(Al (by have h_:=C3.1;omega))));refine Iu Af φ φ _ _ _ _ φ φ ?_;have HV:=zH (show r.has px py=false from by unfold R4.has;simp[show decide _=false from decide_eq_false C3.1]);go_wp2_with fail
    go_ret;exact⟨by rw[HV.1]<;>rfl,A3.1.ext⟩
   go_upto_region 1 with fail;apply wl;refine Cn A0.1 _ ?_;refine aC A0.1 ((Ip r _).mono fun _ _ h_=>(⟨h_.1.trans (by rw[C0.1]),h_.2⟩:_=Ending.returned φ/\Aa _ _)) ?_;intro A9 A4 _;refine Na A4.1 τ τ (iV px) _ _ ?_;apply zp τ (by exact Od (e:=(An (by have h_:=C1.1;omega))));refine Na A4.1 τ τ (iV px) _ _ ?_;apply zp φ (by exact Eg (e:=(Al (by have h_:=C2.1;omega))));refine Iu Af φ φ _ _ _ _ φ φ ?_;refine Tx Af _ _ _ _ φ φ ?_;have HV:=zH (show r.has px py=false from by unfold R4.has;simp[show decide _=false from decide_eq_false C2.1]);go_wp2_with fail
   go_ret;exact⟨by rw[HV.1]<;>rfl,A4.1.ext⟩
  go_upto_region 1 with fail;apply wl;refine Cn A0.1 _ ?_;refine aC A0.1 ((Ip r _).mono fun _ _ h_=>(⟨h_.1.trans (by rw[C0.1]),h_.2⟩:_=Ending.returned φ/\Aa _ _)) ?_;intro A8 A5 _;refine Na A5.1 τ τ (iV px) _ _ ?_;apply zp φ (by exact Od (e:=(Al (by have h_:=C1.1;omega))));refine Iu Af φ φ _ _ _ _ φ φ ?_;refine Iu Af _ _ _ _ φ φ _ _ ?_;refine Fk Af _ _ φ φ ?_;have HV:=zH (show r.has px py=false from by unfold R4.has;simp[show decide _=false from decide_eq_false C1.1]);go_wp2_with fail
  go_ret;exact⟨by rw[HV.1]<;>rfl,A5.1.ext⟩
 have F0:=zH (show r.emp=true from by simpa using C0.1);go_upto_region 1 with fail;apply wl;refine Cn A0.1 _ ?_;refine aC A0.1 ((Ip r _).mono fun _ _ h_=>(⟨h_.1.trans (by rw[F0.1]),h_.2⟩:_=Ending.returned τ/\Aa _ _)) ?_;intro A7 A6 _;refine Iu Af φ φ _ _ _ _ φ φ ?_;refine Iu Af _ _ _ _ φ φ _ _ ?_;refine Iu Af _ _ φ φ _ _ _ _ ?_;apply qV φ;apply zq φ;have HV:=zH (show r.has px py=false from by unfold R4.has;simp[F0.1]);go_wp2_with fail
 go_ret;exact⟨by rw[HV.1]<;>rfl,A6.1.ext⟩
theorem tG (r:R4)(px py:Int)(w:World):Calls prog 33 #[.agg #[iV r.x0,iV r.y0,iV r.x1,iV r.y1],iV px,iV py] w fun e w'=>e= .returned (iV (r.ix px py))/\Aa w w':=by
 go_enter func33,ntmps33;have H0:=zH (Hp.start w);go_upto_region 0 with fail;apply wl;apply Cm 24 [iV r.x0,iV r.y0,iV r.x1,iV r.y1] H0.1;intro A6 A5 A1 _;apply zq (iV 0);rcases Cx (r.has px py=true)with C0|C0
 ·have HT:=zH (wU C0.1)
  have ho:=Rx.1 (gX HT.1.1).1;have ht:=HT.1.2;have hm:=Vr (x:=py-r.y0) (y:=r.x1-r.x0) ω ω;have HX:=zH (show r.ix px py=(py-r.y0)*(r.x1-r.x0)+px-r.x0 from if_pos C0.1);go_upto_region 1 with fail
  apply wl;refine Dt A1.1 _ (iV px) (iV py) ?_;refine aC A1.1 ((tH r px py _).mono fun _ _ h_=>(⟨h_.1.trans (by rw[C0.1]),h_.2⟩:_=Ending.returned τ/\Aa _ _)) ?_;intro A4 A0 _;apply zq φ;go_upto_region 3 with fail;apply wl;refine Dt A0.1 (iV py) _ _ ?_;apply zp (iV (py-r.y0)) (by exact Xg ω);refine Fk A0.1 _ _ _ _ ?_;apply zp (iV (r.x1-r.x0)) (by exact Xg ω);apply zp (iV ((py-r.y0)*(r.x1-r.x0))) (by exact gZ ω);apply zq (iV px);apply zp (iV (((py-r.y0)*(r.x1-r.x0))+px)) (by exact Ht ω);refine Cc A0.1 _ _ ?_;apply zp (iV ((((py-r.y0)*(r.x1-r.x0))+px)-r.x0)) (by exact Xg ω);apply zq (iV ((((py-r.y0)*(r.x1-r.x0))+px)-r.x0));go_wp2_with fail;go_ret;exact⟨by rw[HX.1]<;>rfl,A0.1.ext⟩
 have F0:=zH (Bool.eq_false_iff.2 C0.1);go_upto_region 1 with fail;apply wl;refine Dt A1.1 _ (iV px) (iV py) ?_;refine aC A1.1 ((tH r px py _).mono fun _ _ h_=>(⟨h_.1.trans (by rw[F0.1]),h_.2⟩:_=Ending.returned φ/\Aa _ _)) ?_;intro A3 A2 _;apply zq τ;go_upto_region 2 with fail;apply wl;apply zq (iV (-1));go_wp2_with fail;go_ret;exact⟨by rw[show r.ix px py= -1 from if_neg C0.1]<;>rfl,A2.1.ext⟩
theorem aBZ (a b:R4)(w:World):Calls prog 47 #[.agg #[iV a.x0,iV a.y0,iV a.x1,iV a.y1],.agg #[iV b.x0,iV b.y0,iV b.x1,iV b.y1]] w fun e w'=>e= .returned (.agg #[iV (a.uni b).x0,iV (a.uni b).y0,iV (a.uni b).x1,iV (a.uni b).y1])/\Aa w w':=by
 go_enter func47,ntmps47;have H0:=zH (Hp.start w);go_upto_region 0 with fail;apply wl;apply Cm 24 [iV a.x0,iV a.y0,iV a.x1,iV a.y1] H0.1;intro C6 C3 B0 _;apply Cm 24 [iV b.x0,iV b.y0,iV b.x1,iV b.y1] B0.1;intro C5 C2 A9 _;apply Cm 24 [iV 0,iV 0,iV 0,iV 0] A9.1;intro C4 B9 A2 _;rcases Cx (a.emp=true)with C0|C0
 ·go_upto_region 1 with fail
  apply wl;refine Cn A2.1 _ ?_;refine aC A2.1 ((Ip a _).mono fun _ _ h_=>(⟨h_.1.trans (by rw[C0.1]),h_.2⟩:_=Ending.returned τ/\Aa _ _)) ?_;intro B8 A7 _;apply zq τ;go_upto_region 2 with fail;apply wl;refine Cn A7.1 _ ?_;refine aC A7.1 (Uw b _) ?_;intro B7 A8 _;apply Da 2 [iV b.can.x0,iV b.can.y0,iV b.can.x1,iV b.can.y1] A8.1;intro B6 A6 _;have HC:=zH (show a.uni b=b.can from if_pos C0.1);go_wp2_with fail
  refine bodyPost_ret (v:= .agg #[iV b.can.x0,iV b.can.y0,iV b.can.x1,iV b.can.y1]) ?_ rfl ⟨by rw[HC.1],A6.1.ext⟩;exact Ak rfl rfl ((A6.1.blk (i:=2) rR).loadVar rfl rfl rR)
 have F0:=zH (Bool.eq_false_iff.2 C0.1);go_upto_region 1 with fail;apply wl;refine Cn A2.1 _ ?_;refine aC A2.1 ((Ip a _).mono fun _ _ h_=>(⟨h_.1.trans (by rw[F0.1]),h_.2⟩:_=Ending.returned φ/\Aa _ _)) ?_;intro B5 A1 _;apply zq φ;rcases Cx (b.emp=true)with C1|C1
 ·go_upto_region 3 with fail
  apply wl;refine Cn A1.1 _ ?_;refine aC A1.1 ((Ip b _).mono fun _ _ h_=>(⟨h_.1.trans (by rw[C1.1]),h_.2⟩:_=Ending.returned τ/\Aa _ _)) ?_;intro B4 A5 _;apply zq τ;go_upto_region 4 with fail;apply wl;refine Cn A5.1 _ ?_;apply Da 2 [iV a.x0,iV a.y0,iV a.x1,iV a.y1] A5.1;intro B3 A4 _;have HC:=zH (show a.uni b=a from(if_neg C0.1).trans (if_pos C1.1));go_wp2_with fail
  refine bodyPost_ret (v:= .agg #[iV a.x0,iV a.y0,iV a.x1,iV a.y1]) ?_ rfl ⟨by rw[HC.1],A4.1.ext⟩;exact Ak rfl rfl ((A4.1.blk (i:=2) rR).loadVar rfl rfl rR)
 have F1:=zH (Bool.eq_false_iff.2 C1.1);go_upto_region 3 with fail;apply wl;refine Cn A1.1 _ ?_;refine aC A1.1 ((Ip b _).mono fun _ _ h_=>(⟨h_.1.trans (by rw[F1.1]),h_.2⟩:_=Ending.returned φ/\Aa _ _)) ?_;intro B2 A0 _;apply zq φ;go_upto_region 5 with fail;apply wl;refine Iu A0.1 _ _ _ _ (iV (min a.x0 b.x0)) _ _ _ ?_;refine Iu A0.1 _ (iV (min a.y0 b.y0)) _ _ _ _ (iV (max a.x1 b.x1)) _ ?_;refine Na A0.1 _ _ _ (iV (max a.y1 b.y1)) _ ?_;apply Da 2 [iV (min a.x0 b.x0),iV (min a.y0 b.y0),iV (max a.x1 b.x1),iV (max a.y1 b.y1)] A0.1;intro B1 A3 _;have HC:=zH (show a.uni b=_ from(if_neg C0.1).trans (if_neg C1.1));go_wp2_with fail
 refine bodyPost_ret (v:= .agg #[iV (min a.x0 b.x0),iV (min a.y0 b.y0),iV (max a.x1 b.x1),iV (max a.y1 b.y1)]) ?_ rfl ⟨by rw[HC.1],A3.1.ext⟩;exact Ak rfl rfl ((A3.1.blk (i:=2) rR).loadVar rfl rfl rR)
theorem Jy (n:Int)(w:World):Calls prog 44 #[iV n] w fun e w'=>e= .returned (.bool (cS n))/\Aa w w':=by
  unfold cS;by_cases h1: -4096<=n<;>by_cases h2:n<=4096<;>simp only[h1,h2,decide_true,decide_false,Bool.and_true,Bool.and_false]<;>
    (go_enter func44,ntmps44;go_wp2_with fail;go_ret;exact⟨rfl,Aa.refl _⟩)
theorem Yb (r:R4)(w:World):Calls prog 20 #[.agg #[iV r.x0,iV r.y0,iV r.x1,iV r.y1]] w fun e w'=>e= .returned (.bool r.ok)/\Aa w w':=by
 go_enter func20,ntmps20;have H0:=zH (Hp.start w);go_upto_region 0 with fail;apply wl;apply Cm 24 [iV r.x0,iV r.y0,iV r.x1,iV r.y1] H0.1;intro X1 w2 H3 _;apply zq φ;rcases Cx (cS r.x0=true)with C0|C0
 ·rcases Cx (cS r.y0=true)with C1|C1
  ·rcases Cx (cS r.x1=true)with C2|C2
   ·rcases Cx (cS r.y1=true)with C3|C3
    ·go_upto_region 1 with fail
     apply wl;refine Cc H3.1 _ _ ?_;refine aC H3.1 ((Jy r.x0 _).mono fun _ _ h_=>(⟨h_.1.trans (by rw[C0.1]),h_.2⟩:_=Ending.returned τ/\Aa _ _)) ?_;intro D1 A8 _;refine Dt A8.1 τ _ _ ?_;refine aC A8.1 ((Jy r.y0 _).mono fun _ _ h_=>(⟨h_.1.trans (by rw[C1.1]),h_.2⟩:_=Ending.returned τ/\Aa _ _)) ?_;intro D0 A7 _;refine Fk A7.1 τ τ _ _ ?_;refine aC A7.1 ((Jy r.x1 _).mono fun _ _ h_=>(⟨h_.1.trans (by rw[C2.1]),h_.2⟩:_=Ending.returned τ/\Aa _ _)) ?_;intro C9 A6 _;refine Fk A6.1 τ τ _ _ ?_;refine aC A6.1 ((Jy r.y1 _).mono fun _ _ h_=>(⟨h_.1.trans (by rw[C3.1]),h_.2⟩:_=Ending.returned τ/\Aa _ _)) ?_;intro C8 B3 _;refine Cc Af τ τ ?_;have HV:=zH (show r.ok=true from by unfold R4.ok;rw[C0.1,C1.1,C2.1,C3.1]<;>rfl);go_wp2_with fail
     go_ret;exact⟨by rw[HV.1]<;>rfl,B3.1.ext⟩
    have F3:=zH (Bool.eq_false_iff.2 C3.1);go_upto_region 1 with fail;apply wl;refine Cc H3.1 _ _ ?_;refine aC H3.1 ((Jy r.x0 _).mono fun _ _ h_=>(⟨h_.1.trans (by rw[C0.1]),h_.2⟩:_=Ending.returned τ/\Aa _ _)) ?_;intro C7 A5 _;refine Dt A5.1 τ _ _ ?_;refine aC A5.1 ((Jy r.y0 _).mono fun _ _ h_=>(⟨h_.1.trans (by rw[C1.1]),h_.2⟩:_=Ending.returned τ/\Aa _ _)) ?_;intro C6 A4 _;refine Fk A4.1 τ τ _ _ ?_;refine aC A4.1 ((Jy r.x1 _).mono fun _ _ h_=>(⟨h_.1.trans (by rw[C2.1]),h_.2⟩:_=Ending.returned τ/\Aa _ _)) ?_;intro C5 A3 _;refine Fk A3.1 τ τ _ _ ?_;refine aC A3.1 ((Jy r.y1 _).mono fun _ _ h_=>(⟨h_.1.trans (by rw[F3.1]),h_.2⟩:_=Ending.returned φ/\Aa _ _)) ?_;intro C4 B2 _;refine Cc Af φ φ ?_;have HV:=zH (show r.ok=false from by unfold R4.ok;simp[F3.1]);go_wp2_with fail
    go_ret;exact⟨by rw[HV.1]<;>rfl,B2.1.ext⟩
   have F2:=zH (Bool.eq_false_iff.2 C2.1);go_upto_region 1 with fail;apply wl;refine Cc H3.1 _ _ ?_;refine aC H3.1 ((Jy r.x0 _).mono fun _ _ h_=>(⟨h_.1.trans (by rw[C0.1]),h_.2⟩:_=Ending.returned τ/\Aa _ _)) ?_;intro B9 A2 _;refine Dt A2.1 τ _ _ ?_;refine aC A2.1 ((Jy r.y0 _).mono fun _ _ h_=>(⟨h_.1.trans (by rw[C1.1]),h_.2⟩:_=Ending.returned τ/\Aa _ _)) ?_;intro B8 A1 _;refine Fk A1.1 τ τ _ _ ?_;refine aC A1.1 ((Jy r.x1 _).mono fun _ _ h_=>(⟨h_.1.trans (by rw[F2.1]),h_.2⟩:_=Ending.returned φ/\Aa _ _)) ?_;intro B7 B1 _;refine rJ Af φ φ _ _ _ φ φ ?_;have HV:=zH (show r.ok=false from by unfold R4.ok;simp[F2.1]);go_wp2_with fail
   go_ret;exact⟨by rw[HV.1]<;>rfl,B1.1.ext⟩
  have F1:=zH (Bool.eq_false_iff.2 C1.1);go_upto_region 1 with fail;apply wl;refine Cc H3.1 _ _ ?_;refine aC H3.1 ((Jy r.x0 _).mono fun _ _ h_=>(⟨h_.1.trans (by rw[C0.1]),h_.2⟩:_=Ending.returned τ/\Aa _ _)) ?_;intro B6 A0 _;refine Dt A0.1 τ _ _ ?_;refine aC A0.1 ((Jy r.y0 _).mono fun _ _ h_=>(⟨h_.1.trans (by rw[F1.1]),h_.2⟩:_=Ending.returned φ/\Aa _ _)) ?_;intro B5 B0 _;refine Iu Af φ φ _ _ _ φ φ _ ?_;refine Fk Af _ _ φ φ ?_;have HV:=zH (show r.ok=false from by unfold R4.ok;simp[F1.1]);go_wp2_with fail
  go_ret;exact⟨by rw[HV.1]<;>rfl,B0.1.ext⟩
 have F0:=zH (Bool.eq_false_iff.2 C0.1);go_upto_region 1 with fail;apply wl;refine Cc H3.1 _ _ ?_;refine aC H3.1 ((Jy r.x0 _).mono fun _ _ h_=>(⟨h_.1.trans (by rw[F0.1]),h_.2⟩:_=Ending.returned φ/\Aa _ _)) ?_;intro B4 A9 _;refine Iu Af φ _ _ _ φ φ _ _ ?_;refine Iu Af _ φ φ _ _ _ φ φ ?_;have HV:=zH (show r.ok=false from by unfold R4.ok;simp[F0.1]);go_wp2_with fail
 go_ret;exact⟨by rw[HV.1]<;>rfl,A9.1.ext⟩
theorem tK (r:R4)(w:World):Calls prog 34 #[.agg #[iV r.x0,iV r.y0,iV r.x1,iV r.y1]] w fun e w'=>e= .returned (.bool r.emp)/\Aa w w':=by
 go_enter func34,ntmps34;have H0:=zH (Hp.start w);go_upto_region 0 with fail;apply wl;apply Cm 24 [iV r.x0,iV r.y0,iV r.x1,iV r.y1] H0.1;intro B0 A9 A0 _;apply zq φ;rcases Cx (r.ok=true)with C0|C0
 ·rcases Cx (r.x0<r.x1)with C1|C1
  ·rcases Cx (r.y0<r.y1)with C2|C2
   ·go_upto_region 1 with fail
    apply wl;refine Cn A0.1 _ ?_;refine aC A0.1 ((Yb r _).mono fun _ _ h_=>(⟨h_.1.trans (by rw[C0.1]),h_.2⟩:_=Ending.returned τ/\Aa _ _)) ?_;intro A8 A2 _;refine Tx A2.1 φ φ _ _ _ _ ?_;apply zp φ (by exact Qg (e:=(Al (by have h_:=C1.1;omega))));refine Tx A2.1 φ φ _ _ _ _ ?_;apply zp φ (by exact Qg (e:=(Al (by have h_:=C2.1;omega))));refine Cc Af φ φ ?_;have HV:=zH (show r.emp=false from by unfold R4.emp;simp[C0.1];have B2:=C1.1;have B1:=C2.1;omega);go_wp2_with fail
    go_ret;exact⟨by rw[HV.1]<;>rfl,A2.1.ext⟩
   go_upto_region 1 with fail;apply wl;refine Cn A0.1 _ ?_;refine aC A0.1 ((Yb r _).mono fun _ _ h_=>(⟨h_.1.trans (by rw[C0.1]),h_.2⟩:_=Ending.returned τ/\Aa _ _)) ?_;intro A7 A1 _;refine Tx A1.1 φ φ _ _ _ _ ?_;apply zp φ (by exact Qg (e:=(Al (by have h_:=C1.1;omega))));refine Tx A1.1 φ φ _ _ _ _ ?_;apply zp τ (by exact Qg (e:=(An (by have h_:=C2.1;omega))));refine Cc Af τ τ ?_;have HV:=zH (show r.emp=true from by unfold R4.emp;have h_:=C2.1;simp[C0.1];omega);go_wp2_with fail
   go_ret;exact⟨by rw[HV.1]<;>rfl,A1.1.ext⟩
  go_upto_region 1 with fail;apply wl;refine Cn A0.1 _ ?_;refine aC A0.1 ((Yb r _).mono fun _ _ h_=>(⟨h_.1.trans (by rw[C0.1]),h_.2⟩:_=Ending.returned τ/\Aa _ _)) ?_;intro A6 A3 _;refine Tx A3.1 φ φ _ _ _ _ ?_;apply zp τ (by exact Qg (e:=(An (by have h_:=C1.1;omega))));refine Iu Af τ τ _ _ _ _ _ τ ?_;apply zq τ;have HV:=zH (show r.emp=true from by unfold R4.emp;have h_:=C1.1;simp[C0.1];omega);go_wp2_with fail
  go_ret;exact⟨by rw[HV.1]<;>rfl,A3.1.ext⟩
 have F0:=zH (Bool.eq_false_iff.2 C0.1);go_upto_region 1 with fail;apply wl;refine Cn A0.1 _ ?_;refine aC A0.1 ((Yb r _).mono fun _ _ h_=>(⟨h_.1.trans (by rw[F0.1]),h_.2⟩:_=Ending.returned φ/\Aa _ _)) ?_;intro A5 A4 _;refine Iu Af τ τ _ _ _ _ _ τ ?_;refine Iu Af τ _ _ _ _ _ τ τ ?_;have HV:=zH (show r.emp=true from by unfold R4.emp;simp[F0.1]);go_wp2_with fail
 go_ret;exact⟨by rw[HV.1]<;>rfl,A4.1.ext⟩
theorem aCC (r:R4)(w:World):Calls prog 10 #[.agg #[iV r.x0,iV r.y0,iV r.x1,iV r.y1]] w fun e w'=>e= .returned (.agg #[iV r.can.x0,iV r.can.y0,iV r.can.x1,iV r.can.y1])/\Aa w w':=by
 go_enter func10,ntmps10;have H0:=zH (Hp.start w);go_upto_region 0 with fail;apply wl;apply Cm 24 [iV r.x0,iV r.y0,iV r.x1,iV r.y1] H0.1;intro B3 B1 A5 _;apply Cm 24 [iV 0,iV 0,iV 0,iV 0] A5.1;intro B2 B0 A0 _;rcases Cx (r.emp=true)with C0|C0
 ·go_upto_region 1 with fail
  apply wl;refine Cn A0.1 _ ?_;refine aC A0.1 ((tK r _).mono fun _ _ h_=>(⟨h_.1.trans (by rw[C0.1]),h_.2⟩:_=Ending.returned τ/\Aa _ _)) ?_;intro A9 A4 _;go_upto_region 2 with fail;apply wl;refine Cn Af _ ?_;apply Da 1 [iV 0,iV 0,iV 0,iV 0] A4.1;intro A8 A3 _;have HC:=zH (show r.can=R4.zero from if_pos C0.1);go_wp2_with fail
  refine bodyPost_ret (v:= .agg #[iV R4.zero.x0,iV R4.zero.y0,iV R4.zero.x1,iV R4.zero.y1]) ?_ rfl ⟨by rw[HC.1],A3.1.ext⟩;exact Ak rfl rfl ((A3.1.blk (i:=1) rR).loadVar rfl rfl rR)
 have F0:=zH (Bool.eq_false_iff.2 C0.1);go_upto_region 1 with fail;apply wl;refine Cn A0.1 _ ?_;refine aC A0.1 ((tK r _).mono fun _ _ h_=>(⟨h_.1.trans (by rw[F0.1]),h_.2⟩:_=Ending.returned φ/\Aa _ _)) ?_;intro A7 A2 _;go_upto_region 3 with fail;apply wl;refine Cn A2.1 _ ?_;apply Da 1 [iV r.x0,iV r.y0,iV r.x1,iV r.y1] A2.1;intro A6 A1 _;have HC:=zH (show r.can=r from if_neg C0.1);go_wp2_with fail
 refine bodyPost_ret (v:= .agg #[iV r.x0,iV r.y0,iV r.x1,iV r.y1]) ?_ rfl ⟨by rw[HC.1],A1.1.ext⟩;exact Ak rfl rfl ((A1.1.blk (i:=1) rR).loadVar rfl rfl rR)
theorem Pq (r:R4)(w:World):Calls prog 9 #[.agg #[iV r.x0,iV r.y0,iV r.x1,iV r.y1]] w fun e w'=>e= .returned (iV r.area)/\Aa w w':=by
 have hb:=r.can_bd;have hm:=Vr (x:=r.can.x1-r.can.x0) (y:=r.can.y1-r.can.y0) ω ω;go_enter func9,ntmps9
 have H0:=zH (Hp.start w);go_upto_region 0 with fail;apply wl;apply Cm 24 [iV r.x0,iV r.y0,iV r.x1,iV r.y1] H0.1;intro A9 A7 A1 _;apply zq (iV 0);go_upto_region 1 with fail;apply wl;refine Cn A1.1 _ ?_;refine aC A1.1 (aCC r _) ?_;intro A6 A3 _;apply Cm 24 [iV 0,iV 0,iV 0,iV 0] A3.1;intro A8 A5 A2 _;apply Da 1 [iV r.can.x0,iV r.can.y0,iV r.can.x1,iV r.can.y1] A2.1;intro A4 A0 _;go_upto_region 2 with fail;apply wl;refine Fk A0.1 _ _ _ _ ?_;apply zp (iV (r.can.x1-r.can.x0)) (by exact Xg ω);refine Fk A0.1 _ _ _ _ ?_;apply zp (iV (r.can.y1-r.can.y0)) (by exact Xg ω);apply zp (iV ((r.can.x1-r.can.x0)*(r.can.y1-r.can.y0))) (by exact gZ ω);apply zq (iV ((r.can.x1-r.can.x0)*(r.can.y1-r.can.y0)));go_wp2_with fail;go_ret;exact⟨rfl,A0.1.ext⟩
end
section
open Go.RowKit Go.Shelf
attribute [local go_sem] Oper.semAt_some
structure Kq (Bm:Nat) (T:TypeId) (l:Nat) (W W':World):Prop where
  size:W.heap.size<=W'.heap.size
  same:∀(k:Nat) (o:Obj),W.heap[k]?=some o->k≠Bm->(o.isCells=true\/k≠l)->(∀cs,o≠ .cells cs T)->W'.heap[k]?=some o
theorem Kq.trans {Bm l:Nat}{T:TypeId}{A B C:World}(h:Kq Bm T l A B)(k:Kq Bm T l B C):Kq Bm T l A C:=⟨Av h.size k.size,fun i o h1 h2 h3 h4=>k.same i o (h.same i o h1 h2 h3 h4) h2 h3 h4⟩
theorem Kq.put (Bm:Nat)(T:TypeId){l:Nat}{W:World}{o:Obj}(o':Obj)(hl:W.heap[l]?=some o)(ho:o.isCells=false):Kq Bm T l W (W.putObj l o'):=⟨by simp,fun k p h _ h3 _=>by
  by_cases e:k=l
  · subst e
    rw[hl]at h;injection h with h
    subst h;rcases h3 with h3|h3
    · rw[ho]at h3;cases h3
    exact absurd rfl h3
  exact(World.putObj_heap_other e).trans h⟩
theorem Kq.of_ext {Bm l:Nat}{T:TypeId}{W W':World}(x:Aa W W'):Kq Bm T l W W':=⟨x.size,fun k _ h _ _ _=>(x.block k (Array.getElem?_eq_some_iff.1 h).1).trans h⟩
def aEV {α:Type}(n:Nat)(P:Program)(g:Nat)(lb:Array Value)(encs:α->Array Value)(Bm:Nat)(T:TypeId)(N:Nat)(S:List α->Prop)(w:World):Prop:=
  ∀ (l:Nat) (J:List α->World->Prop) (W:World),Aa w W->w.heap.size<=l->l<W.heap.size->OwnFrom W.heap.size J->
    (∀pre x W1,J pre W1->pre.length<N->YieldAt Fence.wide (n-1) P l (encs x) W1 fun e W'=>e= .returned τ/\J (pre++[x]) W'/\Kq Bm T l W1 W')->
    J [] W->CallsIn Fence.wide n P g (#[.func (.yield l) #[] #[]]++lb) W fun e W'=>(∃v,e= .returned v)/\∃xs,S xs/\J xs W'
theorem Xd {α:Type}{n:Nat}{P:Program}{g:Operand}{p0:Nat}{assign body:Code}{Q:Exit->Act->World->Prop}{a:Act}{w:World}
  (h1:1<=n){gf:Nat}{lb:Array Value}(hg:a.eval g= .func (.func gf) #[] lb)(eg:∀args w,(callFunc gf args).run P w= .ok (.enter gf args) w)
  {enc:α->Value}{Bm:Nat}{T:TypeId}{N:Nat}{S:List α->Prop}(hseq:aEV (n-1) P gf lb (fun x=>#[enc x]) Bm T N S w)
  (I:List α->World->Prop)(hI:OwnFrom w.heap.size I)(h0:I [] w)(Ax:α->Act->World->Prop)(hAx:∀x a',OwnFrom w.heap.size (fun(_:Unit) W=>Ax x a' W))
  (hassign:∀(l:Nat) (pre:List α) (x:α) (W:World) (K:Act->World->Prop),I pre W->(∀a' W',KeepsFrom w.heap.size W W'->Kq Bm T l W W'->I pre W'->Ax x a' W'->K a' W')->
   assign.wpIn (Fence.wide.inRound l) (n-1-1) P (Exit.then K (fun _ _ _=>False)) {tmps:=a.tmps.setIfInBounds p0 (enc x),defers:=[]} W)
  (hbody:∀(l:Nat) (pre:List α) (x:α) (a':Act) (W:World),I pre W->Ax x a' W->pre.length<N->
   body.wpIn (Fence.wide.inRound l) (n-1-1) P (ownPostG w.heap.size (Kq Bm T l) I (fun _ _ _=>False) (pre++[x]) W) a' W)
  (hdone:∀(D:Nat) (xs:List α) (W:World),w.heap.size<=D->S xs->I xs W->W.heap[D]?=some (.deferred (some []))->Q .normal {a with defers:={target:= .collected D,args:=#[]}::a.defers} W):
  (Code.rangeFunc g #[p0] assign body).wpIn Fence.wide n P Q a w:=by
 refine wpIn_rangeFunc ?_;intro fn B3;obtain⟨A1,A0⟩:∃A1:LoopState->Loop,A1=fun st=>{state:=st,pending:=none,fn,tmps:=a.tmps,params:=#[p0],assign,body,defers:=w.heap.size}:=⟨_,rfl⟩
 obtain⟨W1,A2⟩:∃W1,(w.alloc (.deferred (some []))).alloc (.loop (A1 .ready))=W1:=⟨_,rfl⟩;have B4:W1.heap[w.heap.size+1]?=some (.loop (A1 .ready)):=by
  rw[<-A2];have h2:=World.alloc_heap_new (w.alloc (.deferred (some []))) (.loop (A1 .ready));rwa[bXX]at h2
 have x1:Aa w W1:=by rw[<-A2];exact((Aa.refl w).alloc _).alloc _
 have s1:W1.heap.size=w.heap.size+2:=by rw[<-A2];simp
 have B5:W1.heap[w.heap.size]?=some (.deferred (some [])):=by
  rw[<-A2];exact(((Aa.refl (w.alloc (.deferred (some [])))).alloc (.loop (A1 .ready))).block _ (by simp)).trans (World.alloc_heap_new w _)
 have B6:I [] W1:=by rw[<-A2];exact hI.alloc _ (hI.alloc _ h0)
 refine⟨w.heap.size+1,[{target:= .collected w.heap.size,args:=#[]}],W1,{target:= .fn (.func gf) lb,args:=#[.func (.yield (w.heap.size+1)) #[] #[]]},W1,gf,
  #[.func (.yield (w.heap.size+1)) #[] #[]]++lb,W1,?_,?_,fun _ _=>trivial,?_,fun _=>h1,?_⟩
 ·rw[<-A2,A0];exact run_enterLoop_outer _ _ _ _ _
 ·simp only[resolve,hg]
  simp[go_sem]
 ·simp[invoke,go_sem,eg]
 have A3:∀{A B:World} {row:Option Nat} {k:Nat} {o:Obj},A.grownBy B row->(∀r,row=some r->W1.heap.size<=r/\∃o:Obj,A.heap[r]?=some o/\o.isCells=false)->k<W1.heap.size->A.heap[k]?=some o->B.heap[k]?=some o:=fun hg' hr hk ho=>
  (hg'.block _ (Array.getElem?_eq_some_iff.1 ho).1 (fun e=>by have:=(hr _ e.symm).1;omega)).trans ho
 refine(hseq (w.heap.size+1) (fun pre W=>I pre W/\W.heap[w.heap.size+1]?=some (.loop (A1 .ready))/\W.heap[w.heap.size]?=some (.deferred (some []))) W1 x1 ω (ω)
  (fun s A B row hs hg' hr=>⟨hI s A B row hs.1 hg' (fun r e=>⟨by have:=(hr r e).1;omega,(hr r e).2⟩),A3 hg' hr ω hs.2.1,A3 hg' hr ω hs.2.2⟩) ?_ ⟨B6,B4,B5⟩).mono ?_
 ·rintro pre x W ⟨hi,hl,hk⟩ A8
  have B7:w.heap.size+1<W.heap.size:=(Array.getElem?_eq_some_iff.1 hl).1;have hy:=run_yield (P:=P) (args:=#[enc x]) hl (by rw[A0];rfl);rw[A0]at hy;refine⟨fn,_,assign,body,hy,roundIn_of_wpIn B3 ?_⟩;have e:(((#[p0]:Array Tmp).zip #[enc x]).foldl (fun t (p,v)=>t.setIfInBounds p v) a.tmps)=a.tmps.setIfInBounds p0 (enc x):=by simp
  rw[e];refine hassign _ pre x W _ hi ?_;intro a' Wa kf kp ia ax;have A4:=kf.same _ _ ω hl rfl;have B2:=kf.same _ _ (Cl _) hk rfl;have A7:w.heap.size+1<Wa.heap.size:=(Array.getElem?_eq_some_iff.1 A4).1;refine⟨_,run_beginRound A4 (by rw[A0]),?_⟩;have A9:(Wa.putObj (w.heap.size+1) (.loop {A1 .ready with state:= .busy})).heap[w.heap.size+1]?=some (.loop {A1 .ready with state:= .busy}):=World.putObj_heap_same A7;have B1:(Wa.putObj (w.heap.size+1) (.loop {A1 .ready with state:= .busy})).heap[w.heap.size]?=some (.deferred (some [])):=(World.putObj_heap_other ω).trans B2;refine wpIn_mono (hbody _ pre x a' _ (hI.putObj _ ia ω A4 rfl) ((hAx x a').putObj (s:=()) _ ax ω A4 rfl) A8) ?_;rintro e a3 W3 hp;cases e with
  |normal=>
   obtain⟨k3,p3,i3⟩:=hp;have A5:=k3.same _ _ ω A9 rfl;have B0:=k3.same _ _ (Cl _) B1 rfl;have A6:w.heap.size+1<W3.heap.size:=(Array.getElem?_eq_some_iff.1 A5).1;have hr:=run_endRound (P:=P) none A5;refine⟨_,_,hr,rfl,⟨hI.putObj _ i3 ω A5 rfl,?_,(World.putObj_heap_other ω).trans B0⟩,kp.trans ((Kq.put _ _ _ A4 rfl).trans (p3.trans (Kq.put _ _ _ A5 rfl)))⟩;rw[World.putObj_heap_same A6,A0];rfl
  |ret=>exact hp.2.elim
  |exit id=>exact hp.2.elim
  |goto t=>exact hp.2.elim
  |panic ch=>exact hp.elim
  |outgrown=>exact hp.elim
 rintro e W2 ⟨⟨v,rfl⟩,xs,hS,hi,hl,hk⟩;have hr:=run_endLoop (P:=P) hl (by rw[A0];simp);rw[A0]at hr;exact⟨none,_,hr,hdone _ xs _ (Cl _) hS (hI.putObj _ hi ω hl rfl) ((World.putObj_heap_other ω).trans hk)⟩
end
section
open Go.RowKit Go.Shelf
attribute [local go_sem] Oper.semAt_some
attribute [local go_sem ↓] Go.wp_at_zero Go.wp_at_succ Ae Ad
structure Kc (Bm:Nat) (T:TypeId) (W W':World):Prop where
  size:W.heap.size<=W'.heap.size
  same:∀(k:Nat) (t:TypeId) (cs:Array Value),Ac W k t cs->k≠Bm->t≠T->Ac W' k t cs
theorem Kc.trans {Bm:Nat}{T:TypeId}{A B C:World}(h:Kc Bm T A B)(k:Kc Bm T B C):Kc Bm T A C:=⟨Av h.size k.size,fun i t cs h1 h2 h3=>k.same i t cs (h.same i t cs h1 h2 h3) h2 h3⟩
theorem Kc.of_ext {Bm:Nat}{T:TypeId}{W W':World}(x:Aa W W'):Kc Bm T W W':=⟨x.size,fun _ _ _ h _ _=>h.ext x⟩
theorem Kc.put {Bm:Nat}{T:TypeId}(W:World)(l:Nat)(o o':Obj)(hl:W.heap[l]?=some o)(ho:o.isCells=false):Kc Bm T W (W.putObj l o'):=⟨by simp,fun k t cs h _ _=>by
  have e:k≠l:=fun e=>by
    subst e;unfold Ac at h;rw[hl]at h;injection h with h
    subst h;cases ho
  unfold Ac at h⊢;exact(World.putObj_heap_other e).trans h⟩
theorem Kq.kc {Bm l:Nat}{T:TypeId}{W W':World}(h:Kq Bm T l W W'):Kc Bm T W W':=⟨h.size,fun k t cs hb hk ht=>h.same k _ hb hk (.inl rfl) (fun cs' e=>ht (by injection e))⟩
theorem Kq.kf {Bm l B:Nat}{T:TypeId}{W W':World}(h:Kq Bm T l W W')(hl:l<B)(hm:Bm<B):KeepsFrom B W W':=⟨h.size,fun k o hB ho hc=>h.same k o ho ω (.inr ω) (fun cs e=>by subst e;cases hc)⟩
theorem uP {B:Nat}{Bm:Nat}{T:TypeId}(W0:World):OwnFrom B (fun(_:Unit) W=>Kc Bm T W0 W):=fun _ W W' row h hg hr=>h.trans ⟨hg.size,fun k t cs hb _ _=>hb.grown hg (fun e=>by
  obtain⟨_,o,h1,h2⟩:=hr k e;unfold Ac at hb;rw[hb]at h1;injection h1 with h1
  subst h1;cases h2)⟩
def Hm (p q:Int):List Int:=(List.range (q-p).toNat).map fun(k:Nat)=>p+(k:Int)
theorem Ii (p q:Int):(Hm p q).length=(q-p).toNat:=by unfold Hm;simp
theorem Nj {p q:Int}{k:Nat}(h:p+(k:Int)<q):(Hm p q).take (k+1)=(Hm p q).take k++[p+(k:Int)]:=by
  rw[List.take_add_one];unfold Hm;rw[lQQ,List.getElem?_range ω];rfl
abbrev I2 (p q:Int):={x:Int//p<=x/\x<q}
def aFP (p:Int×Int):Prop:=(-4096<=p.1/\p.1<4096)/\ -4096<=p.2/\p.2<4096
abbrev kO:={p:Int×Int//aFP p}
def iP (R:R4)(y:Int):List (Int×Int):=(Hm R.x0 R.x1).map fun x=>(x,y)
def Sv (R:R4):List (Int×Int):=(Hm R.y0 R.y1).flatMap (iP R)
theorem aF (R:R4)(y:Int):(iP R y).length=(Hm R.x0 R.x1).length:=fXX _
theorem Rq {α β:Type}{f:α->List β}{c:Nat}(h:∀x,(f x).length=c):∀l:List α,(l.flatMap f).length=l.length*c
  | []=>by simp
  |x::l=>by rw[List.flatMap_cons,bQQ,h,Rq h l,hQQ,kQQ];omega
theorem Vb (R:R4):(Sv R).length=(Hm R.y0 R.y1).length*(Hm R.x0 R.x1).length:=Rq (aF R) _
def xI (p:Int×Int):Value:= .agg #[iV p.1,iV p.2,iV (p.1+1),iV (p.2+1)]
theorem Si {α:Type}{l:List α}{k:Nat}{x:α}(h:l.take (k+1)=l.take k++[x]):l.take k++[x]<+:l:=by rw[<-h];exact List.take_prefix _ _
theorem YieldAt.any {m:Nat}(m':Nat){P:Program}{l:Nat}{args:Array Value}{W:World}{R:Ending->World->Prop}(h:YieldAt Fence.wide m P l args W R):YieldAt Fence.wide m' P l args W R:=by
  obtain⟨fn,tmps,assign,body,h1,h2,h3⟩:=h;exact⟨fn,tmps,assign,body,h1,h2,fun c cs _=>h3 c cs (fun d h=>by cases h)⟩
theorem iF (m:Nat)(hm:1<=m)(l N Bf Bt Bb Bm:Nat)(T:TypeId)(p q:Int)(J Jx:List Int->World->Prop)(w:World)
  (cf:Ac w Bf 3 #[iV p])(ct:Ac w Bt 3 #[iV q])(cb:Ac w Bb 3 #[iV 1])(ht:Bt≠Bm)(hb:Bb≠Bm)(hT:3≠T)(hp: -4096<=p/\p<=4096)(hq: -4096<=q/\q<=4096)
  (hY:∀pre x W,J pre W->pre.length<N->(p<=x/\x<q)->YieldAt Fence.wide (m-1) prog l #[iV x] W fun e W'=>(e= .returned τ/\J (pre++[x]) W'/\Kc Bm T W W')\/(e= .returned φ/\Jx (pre++[x]) W'))
  (hN:(Hm p q).length<=N)(h0:J [] w):
  CallsIn Fence.wide m prog 108 #[.func (.yield l) #[] #[],.pointer (π Bf),.pointer (π Bt),.pointer (π Bb)] w fun e W'=>(∃v,e= .returned v)/\((∃ys,ys=Hm p q/\J ys W')\/(∃pre,pre<+:Hm p q/\Jx pre W')):=by
 have HY:=zH hY;clear hY;have A9:w.cell? ⟨Bf,0,none⟩=some (iV p):=cf.cell 0;refine callsIn_of_wp func108 rfl trivial ?_ rfl;simp only[ntmps108,List.size_toArray,hQQ,List.length_nil,Nat.reduceAdd,Nat.reduceSub,Array.replicate_succ,Array.replicate_zero,List.push_toArray,List.append_toArray,fQQ,iZZ];gi_wp2
 gi_loopw [5] (fun i wr=>∃(k:Nat) (n:Int),n=p+(k:Int)/\(k:Int)<=max 0 (q-p)/\i= iV n/\Kc Bm T w wr/\J ((Hm p q).take k) wr) (fun i _=>(q-intOf i).toNat)
 case atStart=>exact⟨0,p,ω,ω,rfl,Kc.of_ext Aq,h0⟩
 obtain⟨k,n,hn,hk,rfl,A1,hj⟩:=hrel;have HK:=zH A1;have HJ:=zH hj;have HN:=zH hn;have cT:wr.cell? ⟨Bt,0,none⟩=some (iV q):=(A1.same _ _ _ ct ht hT).cell 0;clear hj A1 hn;by_cases hlt:n<q
 ·have A0:=Nj (p:=p) (q:=q) (k:=k) (by have:=HN.1;omega)
  rw[<-HN.1]at A0;have A7:=zH A0;obtain⟨fn,tmps,assign,body,hy,A5⟩:=HY.1 _ n _ HJ.1 (by
   have h1:=(Si A0).length_le;simp at h1⊢;omega) ⟨by have:=HN.1;omega,hlt⟩
  clear A0;gi_wp2
  refine A5.mono ?_;rintro e W3 (⟨rfl,A6,A4⟩|⟨rfl,A3⟩)
  ·have A2:=HK.1.trans A4
   have B0:W3.cell? ⟨Bt,0,none⟩=some (iV q):=(A2.same _ _ _ ct ht hT).cell 0;have B1:W3.cell? ⟨Bb,0,none⟩=some (iV 1):=(A2.same _ _ _ cb hb hT).cell 0;have w1:IntKind.i64.wrap (q-n)=q-n:=by rw[IntKind.wrap_i64];have:=HN.1;omega
   have w2:IntKind.i64.wrap (n+1)=n+1:=by rw[IntKind.wrap_i64];have:=HN.1;omega
   have A8:¬q-n<1:=ω;gi_wp2
   go_roundw
   case rel=>exact⟨k+1,n+1,by have:=HN.1;omega,by have:=HN.1;omega,rfl,A2,by rw[Nj (by have:=HN.1;omega),<-HN.1];exact A6⟩
   case measure=>simp[intOf];omega
  gi_wp2
  go_end0
  exact⟨⟨_,rfl⟩,.inr ⟨_,Si A7.1,A3⟩⟩
 have e:(Hm p q).take k=Hm p q:=cXX (by rw[Ii];have:=HN.1;omega);gi_wp2
 refine⟨fun _ h=>(by cases h),?_⟩;gi_wp2
 go_end0
 exact⟨⟨_,rfl⟩,.inl ⟨_,rfl,by rw[<-e];exact HJ.1⟩⟩
theorem Ug (n:Nat)(hn:1<=n)(Bf Bt Bb Bm:Nat)(T:TypeId)(p q:Int)(w:World)(cf:Ac w Bf 3 #[iV p])(ct:Ac w Bt 3 #[iV q])(cb:Ac w Bb 3 #[iV 1])(ht:Bt≠Bm)(hb:Bb≠Bm)(hT:3≠T)(hp: -4096<=p/\p<=4096)(hq: -4096<=q/\q<=4096):
    SeqStopsK Fence.wide n prog 108 #[.pointer (π Bf),.pointer (π Bt),.pointer (π Bb)] (fun x:I2 p q=>#[Value.int .i64 x.1]) (Kc Bm T) (fun ys=>ys.map Subtype.val=Hm p q) (fun pre=>pre.map Subtype.val<+:Hm p q) (Hm p q).length w:=fun l J Jx W hW _ _ hY h0=>by
  refine(iF n hn l _ Bf Bt Bb Bm T p q (fun s W=>∃xs:List (I2 p q),xs.map Subtype.val=s/\J xs W) (fun s W=>∃xs:List (I2 p q),xs.map Subtype.val=s/\Jx xs W) W (cf.ext hW) (ct.ext hW) (cb.ext hW) ht hb hT hp hq ?_ (Cl _) ⟨[],rfl,h0⟩).mono ?_
  · rintro pre x W2 ⟨xs,rfl,h2⟩ A1 A0
    refine(hY xs ⟨x,A0⟩ W2 h2 (by simpa using A1)).mono ?_;rintro e W3 (⟨rfl,h3,h4⟩|⟨rfl,h3⟩)
    · exact .inl ⟨rfl,⟨_,by simp,h3⟩,h4⟩
    exact .inr ⟨rfl,⟨_,by simp,h3⟩⟩
  rintro e W2 ⟨h1,⟨ys,rfl,xs,h2,h3⟩|⟨pre,h2,xs,h3,h4⟩⟩
  · exact⟨h1,.inl ⟨xs,h2,h3⟩⟩
  exact⟨h1,.inr ⟨xs,by show xs.map Subtype.val<+:Hm p q;rw[h3];exact h2,h4⟩⟩
theorem Uh (p q:Int)(w:World):Calls prog 75 #[iV p,iV q,iV 1] w fun e w'=>∃Bf Bt Bb,e= .returned (.func (.func 108) #[] #[.pointer (π Bf),.pointer (π Bt),.pointer (π Bb)])/\Ac w' Bf 3 #[iV p]/\Ac w' Bt 3 #[iV q]/\Ac w' Bb 3 #[iV 1]/\w.heap.size<=Bf/\w.heap.size<=Bt/\w.heap.size<=Bb/\Aa w w':=by
 go_enter func75,ntmps75;go_wp2_with fail;go_ret;have b1:=Ac.new w 3 #[iV p];have b2:=Ac.new (w.alloc (.cells #[iV p] 3)) 3 #[iV q];have b3:=Ac.new ((w.alloc (.cells #[iV p] 3)).alloc (.cells #[iV q] 3)) 3 #[iV 1];have x2:=(Aa.refl (w.alloc (.cells #[iV p] 3))).alloc (.cells #[iV q] 3);have x3:=(Aa.refl ((w.alloc (.cells #[iV p] 3)).alloc (.cells #[iV q] 3))).alloc (.cells #[iV 1] 3);rw[bXX]at b2 b3;rw[bXX]at b3;exact⟨_,_,_,rfl,(b1.ext x2).ext x3,b2.ext x3,b3,Cl _,ω,ω,(((Aa.refl w).alloc _).trans x2).trans x3⟩
def aGD (Bw Bh Br By B0:Nat)(y:Int)(a':Act)(W:World):Prop:=∃(J:Nat->Value) (Bv:Nat),Ac W Bv 3 #[iV y]/\B0<=Bv/\a'={tmps:=#[J 0,.pointer (π Bw),.pointer (π Bh),.pointer (π Br),.pointer (π By),.pointer (π Bv),J 6,J 7,J 8,J 9,J 10,J 11,J 12,J 13,J 14,J 15,J 16,J 17,J 18,J 19,J 20,J 21,J 22,J 23,J 24,J 25,J 26,J 27,J 28,J 29,J 30,J 31,J 32,J 33,J 34,J 35,J 36,J 37,J 38,J 39,J 40,J 41,J 42,J 43,J 44,J 45,J 46,J 47,J 48,J 49,J 50],defers:=[]}
def aGC (Bw Bh Br By Bv:Nat)(x:Int)(a':Act):Prop:=∃J:Nat->Value,a'={tmps:=#[J 0,.pointer (π Bw),.pointer (π Bh),.pointer (π Br),.pointer (π By),.pointer (π Bv),iV x,J 7,J 8,J 9,J 10,J 11,J 12,J 13,J 14,J 15,J 16,J 17,J 18,J 19,J 20,J 21,J 22,J 23,J 24,J 25,J 26,J 27,J 28,J 29,J 30,J 31,J 32,J 33,J 34,J 35,J 36,J 37,J 38,J 39,J 40,J 41,J 42,J 43,J 44,J 45,J 46,J 47,J 48,J 49,J 50],defers:=[]}
theorem xH (Bw Bh Br By B0 B:Nat)(y:Int)(a':Act):OwnFrom B (fun(_:Unit) W=>aGD Bw Bh Br By B0 y a' W):=by
  rintro _ W W' row ⟨J,Bv,h1,h2⟩ hg hr;exact⟨J,Bv,h1.kept hg (fun k hk=>(hr k hk).2),h2⟩
theorem aBT {Bw Bh Br By B0 Bv:Nat}{y:Int}{a':Act}{W:World}(h1:Ac W Bv 3 #[iV y])(h2:B0<=Bv)(h3:a'={tmps:=#[γ a' 0,.pointer (π Bw),.pointer (π Bh),.pointer (π Br),.pointer (π By),.pointer (π Bv),γ a' 6,γ a' 7,γ a' 8,γ a' 9,γ a' 10,γ a' 11,γ a' 12,γ a' 13,γ a' 14,γ a' 15,γ a' 16,γ a' 17,γ a' 18,γ a' 19,γ a' 20,γ a' 21,γ a' 22,γ a' 23,γ a' 24,γ a' 25,γ a' 26,γ a' 27,γ a' 28,γ a' 29,γ a' 30,γ a' 31,γ a' 32,γ a' 33,γ a' 34,γ a' 35,γ a' 36,γ a' 37,γ a' 38,γ a' 39,γ a' 40,γ a' 41,γ a' 42,γ a' 43,γ a' 44,γ a' 45,γ a' 46,γ a' 47,γ a' 48,γ a' 49,γ a' 50],defers:=[]}):aGD Bw Bh Br By B0 y a' W:=⟨fun q=>a'.tmps.getD q undef,Bv,h1,h2,h3⟩
theorem aBS {Bw Bh Br By Bv:Nat}{x:Int}{a':Act}(h3:a'={tmps:=#[γ a' 0,.pointer (π Bw),.pointer (π Bh),.pointer (π Br),.pointer (π By),.pointer (π Bv),iV x,γ a' 7,γ a' 8,γ a' 9,γ a' 10,γ a' 11,γ a' 12,γ a' 13,γ a' 14,γ a' 15,γ a' 16,γ a' 17,γ a' 18,γ a' 19,γ a' 20,γ a' 21,γ a' 22,γ a' 23,γ a' 24,γ a' 25,γ a' 26,γ a' 27,γ a' 28,γ a' 29,γ a' 30,γ a' 31,γ a' 32,γ a' 33,γ a' 34,γ a' 35,γ a' 36,γ a' 37,γ a' 38,γ a' 39,γ a' 40,γ a' 41,γ a' 42,γ a' 43,γ a' 44,γ a' 45,γ a' 46,γ a' 47,γ a' 48,γ a' 49,γ a' 50],defers:=[]}):aGC Bw Bh Br By Bv x a':=⟨fun q=>a'.tmps.getD q undef,h3⟩
def aGO (R:R4)(J:List kO->World->Prop)(pre:List (I2 R.y0 R.y1))(W:World):Prop:=∃zs:List kO,zs.map Subtype.val=(pre.map Subtype.val).flatMap (iP R)/\J zs W
theorem kX {B n:Nat}{R:R4}{J:List kO->World->Prop}(h:OwnFrom n J)(hB:n<=B):OwnFrom B (aGO R J):=fun _ W W' row hs hg hr=>by
  obtain⟨zs,h1,h2⟩:=hs;exact⟨zs,h1,h zs W W' row h2 hg (fun r e=>⟨Av hB (hr r e).1,(hr r e).2⟩)⟩
def aGN (R:R4)(J:List kO->World->Prop)(zs:List kO)(y:Int)(pre:List (I2 R.x0 R.x1))(W:World):Prop:=∃us:List kO,us.map Subtype.val=zs.map Subtype.val++(pre.map Subtype.val).map (fun x=>(x,y))/\J us W
theorem xG {B n:Nat}{R:R4}{J:List kO->World->Prop}(h:OwnFrom n J)(hB:n<=B)(zs:List kO)(y:Int):OwnFrom B (aGN R J zs y):=fun _ W W' row hs hg hr=>by
  obtain⟨us,h1,h2⟩:=hs;exact⟨us,h1,h us W W' row h2 hg (fun r e=>⟨Av hB (hr r e).1,(hr r e).2⟩)⟩
theorem nO (m:Nat)(hm:9<=m)(l Br Bw Bh Bm:Nat)(T:TypeId)(R:R4)(J:List kO->World->Prop)(w:World)
  (cr:Ac w Br 24 #[iV R.x0,iV R.y0,iV R.x1,iV R.y1])(cw:Ac w Bw 3 #[iV 1])(ch:Ac w Bh 3 #[iV 1])(hr:Br≠Bm)(hw:Bw≠Bm)(hh:Bh≠Bm)(hT:3≠T)(hT2:24≠T)(hT3:53≠T)
  (hR:((-4096<=R.x0/\R.x0<=4096)/\(-4096<=R.y0/\R.y0<=4096)/\(-4096<=R.x1/\R.x1<=4096)/\(-4096<=R.y1/\R.y1<=4096)))(hl:l<w.heap.size)(hBm:Bm<w.heap.size)
  (hJ:OwnFrom w.heap.size J)
  (hY:∀pre x W,J pre W->pre.length<(Sv R).length->YieldAt Fence.wide (m-1) prog l #[xI x.1] W fun e W'=>e= .returned τ/\J (pre++[x]) W'/\Kq Bm T l W W')(h0:J [] w):
  CallsIn Fence.wide m prog 74 #[.func (.yield l) #[] #[],.pointer (π Bw),.pointer (π Bh),.pointer (π Br)] w fun e W'=>(∃v,e= .returned v)/\∃xs:List kO,xs.map Subtype.val=Sv R/\J xs W':=by
 have HY:=zH hY;have HJ:=zH hJ;clear hY hJ;have c1:w.cell? ⟨Bw,0,none⟩=some (iV 1):=cw.cell 0;have c2:w.cell? ⟨Bh,0,none⟩=some (iV 1):=ch.cell 0;have c3:w.cell? ⟨Br,1,none⟩=some (iV R.y0):=cr.cell 1;have c4:w.cell? ⟨Br,3,none⟩=some (iV R.y1):=cr.cell 3;have xa:=(Aa.refl w).alloc (.cells #[.func (.yield l) #[] #[]] 53);have d1:=xa.get c1;have d2:=xa.get c2;have d3:=xa.get c3;have d4:=xa.get c4;have D0:=Ac.new w 53 #[.func (.yield l) #[] #[]];clear c1 c2 c3 c4;have E6:1<=m:=ω
 refine callsIn_of_wp_marks func74 rfl trivial ?_ rfl;simp only[ntmps74,List.size_toArray,hQQ,List.length_nil,Nat.reduceAdd,Nat.reduceSub,Array.replicate_succ,Array.replicate_zero,List.push_toArray,List.append_toArray,fQQ,iZZ];gi_wp2_with (refine⟨trivial,?_⟩;gi_at_call 75;refine(callsIn_wide.2 (Uh R.y0 R.y1 _)).mono ?_;rintro e W0 ⟨Bf,Bt,Bb,rfl,bF,bT,bB,sF,sT,sB,B2⟩)
 have A4:=xa.trans B2;have bR:=cr.ext A4;have bW:=cw.ext A4;have bH:=ch.ext A4;have bY:=D0.ext B2;have A5:w.heap.size<=W0.heap.size:=A4.size;have E0:w.heap.size+1<=Bf:=by rw[bXX]at sF;exact sF
 have D9:w.heap.size+1<=Bt:=by rw[bXX]at sT;exact sT
 have E1:w.heap.size+1<=Bb:=by rw[bXX]at sB;exact sB
 have j0:J [] W0:=by
  refine HJ.1 [] w W0 none h0 (Cu _ A4) (fun r e=>by cases e)
 generalize w.heap.size=By at*;clear sF sT sB d1 d2 d3 d4;have yl:By<W0.heap.size:=bY.lt;refine wpIn_rangeFunc_ownH rfl ω (gf:=108) (lb:=#[.pointer (π Bf),.pointer (π Bt),.pointer (π Bb)]) rfl trivial (enters_of func108 kR rfl)
  (Ug (m-1) ω Bf Bt Bb Bm T R.y0 R.y1 W0 bF bT bB ω ω hT hR.2.1 hR.2.2.2) (fun h k=>Kc.trans h k) (fun W l o o' _ h1 h2 _=>Kc.put W l o o' h1 h2) (Below.refl _ _) (fun _=>rfl)
  (fun pre W=>aGO R J pre W/\Kc Bm T W0 W) (fun _ _ _=>False)
  (OwnFrom.and (kX HJ.1 A5) (fun _ W W' row h hg hr=>uP W0 () W W' row h hg hr)) (fun _ _ _ _ _ hs _ _=>hs)
  ⟨⟨[],rfl,j0⟩,Kc.of_ext Aq⟩ (fun y a' W=>aGD Bw Bh Br By W0.heap.size y.1 a' W) (fun y a'=>xH _ _ _ _ _ _ y.1 a') ?assign ?body ?done ?stop
 case assign=>
  rintro l1 pre y W K ⟨hj,A2⟩ hK;have HK:=zH hK;have B1:=(Aa.refl W).alloc (.cells #[iV y.1] 3);have bN:=Ac.new W 3 #[iV y.1];gi_wp2
  exact HK.1 _ _ ((KeepsOthers.alloc _ _).from _) (Kc.of_ext B1) ⟨(kX HJ.1 A5).alloc _ hj,A2.trans (Kc.of_ext B1)⟩ (aBT bN A2.size rfl)
 case body=>
  rintro l1 pre y a' W E8 ⟨r1,B3⟩ ⟨⟨zs,hz,hj⟩,A2⟩ ⟨Jv,Bv,bV,sV,rfl⟩ A8;have HZ:=zH hz;have B0:=A2.same _ _ _ bR ω hT2;have B5:=A2.same _ _ _ bW ω hT;have D8:=A2.same _ _ _ bH ω hT;have C9:=A2.same _ _ _ bY ω hT3;have e1:W.cell? ⟨Br,0,none⟩=some (iV R.x0):=B0.cell 0;have e2:W.cell? ⟨Br,2,none⟩=some (iV R.x1):=B0.cell 2;have e3:W.cell? ⟨Bw,0,none⟩=some (iV 1):=B5.cell 0;have E5:1<=m-1-1:=ω
  have C1:l1<W.heap.size:=(Array.getElem?_eq_some_iff.1 B3).1;clear hz;gi_wp2_with (refine⟨trivial,?_⟩;gi_at_call 75;refine(CallsIn.inRound l1 (callsIn_wide.2 (Uh R.x0 R.x1 _))).mono ?_;rintro e W2 ⟨Cf,Ct,Cb,rfl,cF,cT,cB,qF,qT,qB,A1⟩)
  have B9:W2.heap[l1]?=some (.loop r1):=(A1.block _ C1).trans B3;have D4:=bV.ext A1;have D5:=B0.ext A1;have D2:=B5.ext A1;have D7:=D8.ext A1;have C8:=C9.ext A1;have B8:W0.heap.size<=W2.heap.size:=Av A2.size A1.size;have j2:J zs W2:=HJ.1 zs W W2 none hj (Cu _ A1) (fun r e=>by cases e);have q0:W0.heap.size<=W.heap.size:=A2.size;clear e1 e2 e3;refine wpIn_rangeFunc_ownN (l₀:=l1) (r₀:=r1) rfl B9 ω (gf:=108) (lb:=#[.pointer (π Cf),.pointer (π Ct),.pointer (π Cb)]) rfl trivial (enters_of func108 kR rfl)
   ((Ug (m-1-1-1) ω Cf Ct Cb Bm T R.x0 R.x1 W2 cF cT cB ω ω hT hR.1 hR.2.2.1).inRound l1) (fun h k=>Kc.trans h k) (fun W l o o' _ h1 h2 _=>Kc.put W l o o' h1 h2) (Below.refl _ _) (fun _=>rfl)
   (fun A3 W'=>aGN R J zs y.1 A3 W'/\Kc Bm T W2 W'/\KeepsFrom W0.heap.size W2 W') (fun _ _ _=>False)
   (OwnFrom.and (xG HJ.1 (Av A5 B8) zs y.1) (OwnFrom.and (fun _ W W' row h hg hr=>uP W2 () W W' row h hg hr) (ownFrom_keepsFrom (Cl _)))) (fun _ _ _ _ _ hs _ _=>hs)
   ⟨⟨zs,by simp,j2⟩,Kc.of_ext Aq,KeepsFrom.refl _ _⟩ (fun x a' _=>aGC Bw Bh Br By Bv x.1 a') (fun x a'=>ownFrom_pure _ (fun _=>aGC Bw Bh Br By Bv x.1 a')) ?assign2 ?body2 ?done2 ?stop2
  case assign2=>
   rintro l2 A3 x W' K hi hK;have HK:=zH hK;clear hK;gi_wp2
   exact HK.1 _ _ (KeepsFrom.refl _ _) (Kc.of_ext Aq) hi (aBS rfl)
  case body2=>
   rintro l2 A3 x E9 W' E7 ⟨r2,E4⟩ ⟨⟨us,hu,A9⟩,A0,A7⟩ ⟨Jw,rfl⟩ B4;have HU:=zH hu;have HF:=zH A7;clear hu A7;have E2:=y.2;have E3:=x.2;have ox:aFP (x.1,y.1):=⟨⟨by have:=hR.1;omega,by have:=hR.2.2.1;omega⟩,by have:=hR.2.1;omega,by have:=hR.2.2.2;omega⟩;have C2:us.length<(Sv R).length:=by
    rw[Vb];have h1:=congrArg List.length HU.1;have h2:=congrArg List.length HZ.1;rw[bQQ,fXX,fXX,fXX,fXX]at h1;rw[fXX,Rq (aF R),fXX]at h2;have h3:=hXX (Hm R.x0 R.x1).length (show pre.length+1<=(Hm R.y0 R.y1).length from A8);rw[kQQ,Nat.one_mul]at h3;omega
   have B6:=A0.same _ _ _ D5 ω hT2;have D1:=A0.same _ _ _ D2 ω hT;have D6:=A0.same _ _ _ D7 ω hT;have C7:=A0.same _ _ _ C8 ω hT3;have D3:=A0.same _ _ _ D4 ω hT;have f1:W'.cell? ⟨Bv,0,none⟩=some (iV y.1):=D3.cell 0;have f2:W'.cell? ⟨Bw,0,none⟩=some (iV 1):=D1.cell 0;have f3:W'.cell? ⟨Bh,0,none⟩=some (iV 1):=D6.cell 0;have f4:W'.cell? ⟨Br,2,none⟩=some (iV R.x1):=B6.cell 2;have f5:W'.cell? ⟨Br,3,none⟩=some (iV R.y1):=B6.cell 3;have f6:W'.cell? ⟨By,0,none⟩=some (.func (.yield l) #[] #[]):=C7.cell 0;have xt:=(Aa.refl W').alloc (.cells #[iV x.1,iV y.1,iV (x.1+1),iV (y.1+1)] 24);have g6:=xt.get f6;have w1:IntKind.i64.wrap (R.x1-x.1)=R.x1-x.1:=by rw[IntKind.wrap_i64];have:=hR;omega
   have w2:IntKind.i64.wrap (R.y1-y.1)=R.y1-y.1:=by rw[IntKind.wrap_i64];have:=hR;omega
   have w3:IntKind.i64.wrap (x.1+1)=x.1+1:=by rw[IntKind.wrap_i64];have:=ox;omega
   have w4:IntKind.i64.wrap (y.1+1)=y.1+1:=by rw[IntKind.wrap_i64];have:=ox;omega
   have m1:min 1 (R.x1-x.1)=1:=ω;have m2:min 1 (R.y1-y.1)=1:=ω;have jt:J us (W'.alloc (.cells #[iV x.1,iV y.1,iV (x.1+1),iV (y.1+1)] 24)):=HJ.1 us _ _ none A9 (Cu _ xt) (fun r e=>by cases e);obtain⟨fn,tmps,assign,body,hy,C5⟩:=YieldAt.any (m-1-1-1-1-1) (HY.1 us ⟨(x.1,y.1),ox⟩ _ jt C2);dsimp only[xI]at hy
   gi_wp2
   refine⟨fun _=>ω,RoundIn.mono (show RoundIn ((Fence.wide.inRound l1).inRound l2) _ _ _ _ _ _ _ _ _ from C5) ?_⟩;rintro e W3 ⟨rfl,C6,C3⟩;have A6:=(Kq.of_ext (Bm:=Bm) (T:=T) (l:=l) xt).trans C3;gi_wp2
   exact⟨A6.kf ω ω,A6.kc,⟨us++[⟨(x.1,y.1),ox⟩],by rw[jXX,HU.1];simp,C6⟩,A0.trans A6.kc,HF.1.trans (A6.kf ω ω)⟩
  case done2=>
   rintro ps W' C0 ⟨⟨us,hu,A9⟩,A0,A7⟩;gi_wp2
   have C4:KeepsFrom W0.heap.size W W2:=⟨A1.size,fun k o _ hk _=>(A1.block _ (Array.getElem?_eq_some_iff.1 hk).1).trans hk⟩;exact⟨C4.trans A7,(Kc.of_ext A1).trans A0,⟨us,by rw[hu,HZ.1,C0,jXX,List.flatMap_append];simp[iP],A9⟩,A2.trans ((Kc.of_ext A1).trans A0)⟩
  rintro c A3 W' _ h;exact h.elim
 case done=>
  rintro D xs W hD B7 ⟨⟨zs,hz,hj⟩,A2⟩ hK;gi_wp2
  refine⟨by simp,.inl ⟨_,_,rfl,run_takeDeferred hK,?_⟩⟩;exact⟨_,results_none rfl _ _ _,⟨_,rfl⟩,zs,by rw[hz,B7];rfl,HJ.1.putObj _ hj (Av A5 hD) hK rfl⟩
 rintro D c pre W _ _ h _;exact h.elim
theorem nN (R:R4)(w:World):Calls prog 42 #[.agg #[iV R.x0,iV R.y0,iV R.x1,iV R.y1],iV 1,iV 1] w fun e w'=>∃Br Bw Bh,e= .returned (.func (.func 74) #[] #[.pointer (π Bw),.pointer (π Bh),.pointer (π Br)])/\
  Ac w' Br 24 #[iV R.can.x0,iV R.can.y0,iV R.can.x1,iV R.can.y1]/\Ac w' Bw 3 #[iV 1]/\Ac w' Bh 3 #[iV 1]/\w.heap.size<=Br/\w.heap.size<=Bw/\w.heap.size<=Bh/\Br<w'.heap.size/\Bw<w'.heap.size/\Bh<w'.heap.size/\Aa w w':=by
 go_enter func42,ntmps42;have H0:=zH (Hp.start w);go_upto_region 0 with fail;apply wl;apply Cm 24 [iV R.x0,iV R.y0,iV R.x1,iV R.y1] H0.1;intro X1 w2 H3 _;apply Cm 3 [iV 1] H3.1;intro X6 w7 H8 _;apply Cm 3 [iV 1] H8.1;intro A2 A6 A1 _;apply zq (.nilFunc);go_upto_region 1 with fail;apply wl;refine Cn A1.1 _ ?_;refine aC A1.1 (Uw R _) ?_;intro A5 A3 _;apply Da 0 [iV R.can.x0,iV R.can.y0,iV R.can.x1,iV R.can.y1] A3.1;intro A4 A0 _;go_upto_region 2 with fail;apply wl;refine Cc Af _ _ ?_;go_wp2_with fail;go_ret;exact⟨X1,X6,A2,rfl,A0.1.blk (i:=0) (by rfl),A0.1.blk (i:=1) (by rfl),A0.1.blk (i:=2) (by rfl),A0.1.ge (i:=0) (by rfl) rfl,A0.1.ge (i:=1) (by rfl) rfl,A0.1.ge (i:=2) (by rfl) rfl,A0.1.lt (i:=0) (by rfl) rfl,A0.1.lt (i:=1) (by rfl) rfl,A0.1.lt (i:=2) (by rfl) rfl,A0.1.ext⟩
theorem nM (n:Nat)(hn:9<=n)(Br Bw Bh Bm:Nat)(T:TypeId)(R:R4)(w:World)
    (cr:Ac w Br 24 #[iV R.x0,iV R.y0,iV R.x1,iV R.y1])(cw:Ac w Bw 3 #[iV 1])(ch:Ac w Bh 3 #[iV 1])(hr:Br≠Bm)(hw:Bw≠Bm)(hh:Bh≠Bm)(hT:3≠T)(hT2:24≠T)(hT3:53≠T)
    (hR:((-4096<=R.x0/\R.x0<=4096)/\(-4096<=R.y0/\R.y0<=4096)/\(-4096<=R.x1/\R.x1<=4096)/\(-4096<=R.y1/\R.y1<=4096)))(hBm:Bm<w.heap.size):
    aEV n prog 74 #[.pointer (π Bw),.pointer (π Bh),.pointer (π Br)] (fun p:kO=>#[xI p.1]) Bm T (Sv R).length (fun xs=>xs.map Subtype.val=Sv R) w:=fun l J W hW _ hlt hJ hY h0=>
  nO n hn l Br Bw Bh Bm T R J W (cr.ext hW) (cw.ext hW) (ch.ext hW) hr hw hh hT hT2 hT3 hR hlt (jZZ hBm hW.size) hJ hY h0
end
section
attribute [local go_sem ↓] Go.wp_at_zero Go.wp_at_succ Ae Ad
def Qb (rs:List Ai)(k:Nat):Nat:=((rs.take k).map fun r=>min r.length 100).sum
theorem pW {rs:List Ai}{k:Nat}{r:Ai}(h:rs[k]?=some r):Qb rs (k+1)=Qb rs k+min r.length 100:=by
  unfold Qb;rw[List.take_add_one,h,jXX,List.sum_append];simp
def Ei (rs:List Ai)(r:R4):Bool:= !Fm rs|| !r.ok||(decide (rs.length<=8)&&decide (Qb rs (min rs.length 20)<=16)&&(decide (r.area<=24)||decide (65536<r.area)))
theorem eZ (A:Option Addr)(cap:Nat)(rs:List Ai)(q:R4)(w:World)(hu:Cv w (.slice A rs.length cap) rs)(hn:rs.length<=1048576)(hr:∀r,r∈rs->r.length<=1048576):
  Calls prog 6 #[.slice A rs.length cap,.agg #[iV q.x0,iV q.y0,iV q.x1,iV q.y1]] w fun e w'=>e= .returned (.bool (Ei rs q))/\Aa w w':=by
 have HU:=zH hu;have HN:=zH hn;have B5:=zH hr;obtain⟨N,C7⟩:∃N,N=min rs.length 20:=⟨_,rfl⟩;have A0:=zH C7;clear hu hr hn C7;go_enter func6,ntmps6
 have H0:=zH (Hp.start w);go_upto_region 0 with fail;apply wl;apply Cm 24 [iV q.x0,iV q.y0,iV q.x1,iV q.y1] H0.1;intro X1 w2 H3 _;apply zq φ;go_upto_region 1 with fail;apply wl;apply zq (iV 0);go_upto_region 2 with fail;apply wl;apply zq (iV 0);go_wp2_with fail;go_loopg [5,6] (N) (fun cq v9 E1 wr=>∃(k:Nat),cq=N-k/\v9= iV ((Qb rs k:Nat):Int)/\E1= iV (k:Int)/\(k<=N)/\(Qb rs k<=100*k)/\Hp w wr [.blk X1 24 [iV q.x0,iV q.y0,iV q.x1,iV q.y1]]/\Ah w2 wr)
 case atStart=>exact⟨0,rfl,rfl,rfl,eXX _,Cl _,H3.1,Ah.refl _⟩
 obtain⟨k,rfl,rfl,rfl,A2,A1,B0,B1⟩:=hrel;generalize wr=D9 at*;have F1:=zH A2;clear A2;have B9:=zH A1;clear A1;have B6:=zH B0;have F4:=zH B1;clear B0 B1 H3;rcases Cx (k<N)with HLT|HLT
 ·have E4:=HLT.1
  have E3:=A0.1;have E5:=B9.1;have hn:=HN.1;have A9:k<rs.length:=ω
  go_upto_region 3 with fail;apply wl;refine Dt Af (iV (k:Int)) _ (iV ((rs.length:Nat):Int)) ?_;apply zp τ (by exact Eg (e:=(An ω)));refine Cc Af τ (iV (k:Int)) ?_;apply zp τ (by exact Eg (e:=(An ω)));apply zq τ;obtain⟨r,A6⟩:∃r,rs[k]?=some r:=⟨_,aQQ A9⟩;have D1:=zH A6;obtain⟨g,A5,rfl,C5⟩:∃g A5,A=some ⟨g,A5,none⟩/\∀i r,rs[i]?=some r->∃B cb,World.cell? w ⟨g,A5+i,none⟩=some (.slice B r.length cb)/\Fj w (.slice B r.length cb) r:=by obtain⟨A_,G3,E2,E6⟩:=HU.1;injection E2 with e1_ e2_ e3_;subst e1_;obtain⟨g_,B7,e_,h_⟩:=E6 ω;exact⟨g_,B7,e_,h_⟩
  obtain⟨B,cb,D0,C8⟩:=C5 k r A6;have E9:=zH D0;have G4:=zH C8;clear A6 C5 D0 C8;have C6:=pW D1.1;have F0:=zH C6;have G1:r.length<=1048576:=B5.1 r (bZZ D1.1);go_upto_region 5 with fail
  apply wl;refine Dt Af (iV ((Qb rs k:Nat):Int)) _ (iV (k:Int)) ?_;apply zp (.pointer (some ⟨g,A5+k,none⟩)) (by exact Ha (k:=k) underlying22 (l:=A9) (f:=(show A5+k=A5+k*1 by omega)));refine ze g (A5+k) (.slice B r.length cb) (Nf (B6.1.ext.get E9.1)) ?_;refine Cc Af (iV ((r.length:Nat):Int)) (iV (min ((r.length:Nat):Int) 100)) ?_;apply zp (iV (((Qb rs k:Nat):Int)+(min ((r.length:Nat):Int) 100))) (by exact Ht (by have C4:=HN.1;omega));apply zq (iV (((Qb rs k:Nat):Int)+(min ((r.length:Nat):Int) 100)));go_upto_region 4 with fail;apply wl;apply zq (iV (k:Int));apply zp (iV ((k+1:Nat):Int)) (by exact Ht (by have C4:=HN.1;omega));apply zq (iV ((k+1:Nat):Int));go_wp2_with fail;go_roundg (N-(k+1))
  case measure=>exact(by have C4:=HN.1;omega)
  case rel=>exact⟨k+1,rfl,(by rw[C6];go_num),(by go_num),(by have:=HLT.1;omega),(by have:=B9.1;have:=F0.1;omega),B6.1,F4.1⟩
 have E4:=HLT.1;have G2:=F1.1;have E3:=A0.1;have E5:=B9.1;have hn:=HN.1;obtain rfl:k=N:=ω
 go_upto_region 3 with fail;go_cut [14]from 7 to 14 (fun E0 wx=>E0= .bool false/\Hp w wx [.blk X1 24 [iV q.x0,iV q.y0,iV q.x1,iV q.y1]]/\Ah D9 wx)
 case first=>
  rcases Cx (rs.length<=k)with HA|HA
  ·have ha:=HA.1
   apply wl;refine Dt Af (iV (k:Int)) _ (iV ((rs.length:Nat):Int)) ?_;apply zp φ (by exact Eg (e:=(Al ω)));refine Fk Af φ _ _ φ ?_;go_wp2_with fail;go_meet
   exact⟨rfl,B6.1,(Ah.refl _)⟩
  have ha:=HA.1;apply wl;refine Dt Af (iV (k:Int)) _ (iV ((rs.length:Nat):Int)) ?_;apply zp τ (by exact Eg (e:=(An ω)));refine Cc Af τ (iV (k:Int)) ?_;apply zp φ (by exact Eg (e:=(Al ω)));apply zq φ;go_wp2_with fail;go_meet
  exact⟨rfl,B6.1,(Ah.refl _)⟩
 obtain⟨rfl,B0,B1⟩:=hcut;generalize wc=G0 at*;have A7:=zH B0;have G5:=zH B1;clear B0 B1;rcases Cx (Fm rs=true)with HV|HV
 ·rcases Cx (q.ok=true)with HK|HK
  ·go_upto_region 6 with fail
   apply wl;refine Cn Af _ ?_;refine zc (Hc _ rs _ (HU.1.ext A7.1.ext) HN.1 B5.1) ?_;rintro e F9 ⟨rfl,hx⟩;have D3:=zH (A7.1.step hx);clear hx;refine⟨.bool true,by rw[HV.1],?_⟩;try simp only[ζ]
   refine Cc Af φ φ ?_;refine zd X1 (0) [iV q.x0,iV q.y0,iV q.x1,iV q.y1] (D3.1.range (i:=0) rR 0 4) underlying24 ?_;refine zc (Yb q _) ?_;rintro e F8 ⟨rfl,hx⟩;have A3:=zH (D3.1.step hx);clear hx;refine⟨.bool true,by rw[HK.1],?_⟩;try simp only[ζ]
   refine Cc Af φ φ ?_;rcases Cx (rs.length<=8)with H8|H8
   ·rcases Cx (Qb rs k<=16)with A4|A4
    ·rcases Cx (q.area<=24)with A8|A8
     ·have h8:=H8.1
      have B8:=A4.1;have C9:=A8.1;go_upto_region 8 with fail
      apply wl;refine Cc Af _ (iV ((rs.length:Nat):Int)) ?_;apply zp τ (by exact Qg (e:=(An ω)));refine Cc Af τ (iV ((Qb rs k:Nat):Int)) ?_;apply zp τ (by exact Qg (e:=(An ω)));refine Cc Af τ τ ?_;refine zd X1 (0) [iV q.x0,iV q.y0,iV q.x1,iV q.y1] (A3.1.range (i:=0) rR 0 4) underlying24 ?_;refine aC A3.1 (Pq q _) ?_;intro F7 F3 _;apply zp τ (by exact Qg (e:=(An ω)));refine rJ Af τ _ _ _ τ τ τ ?_;go_wp2_with fail;go_ret;exact⟨by rw[show Ei rs q=true from by unfold Ei;rw[<-A0.1];simp[HV.1,HK.1,H8.1,A4.1,A8.1]]<;>rfl,F3.1.ext⟩
     rcases Cx (65536<q.area)with B2|B2
     ·have h8:=H8.1
      have B8:=A4.1;have C9:=A8.1;have E7:=B2.1;go_upto_region 8 with fail
      apply wl;refine Cc Af _ (iV ((rs.length:Nat):Int)) ?_;apply zp τ (by exact Qg (e:=(An ω)));refine Cc Af τ (iV ((Qb rs k:Nat):Int)) ?_;apply zp τ (by exact Qg (e:=(An ω)));refine Cc Af τ τ ?_;refine zd X1 (0) [iV q.x0,iV q.y0,iV q.x1,iV q.y1] (A3.1.range (i:=0) rR 0 4) underlying24 ?_;refine aC A3.1 (Pq q _) ?_;intro F6 D2 _;apply zp φ (by exact Qg (e:=(Al ω)));apply qV φ;refine zd X1 (0) [iV q.x0,iV q.y0,iV q.x1,iV q.y1] (D2.1.range (i:=0) rR 0 4) underlying24 ?_;refine aC D2.1 (Pq q _) ?_;intro F5 C3 _;apply zp τ (by exact Sn (e:=(An ω)));refine Dt Af τ τ τ ?_;go_wp2_with fail;go_ret;exact⟨by rw[show Ei rs q=true from by unfold Ei;rw[<-A0.1];simp[HV.1,HK.1,H8.1,A4.1,B2.1]]<;>rfl,C3.1.ext⟩
     have h8:=H8.1;have B8:=A4.1;have C9:=A8.1;have E7:=B2.1;go_upto_region 8 with fail
     apply wl;refine Cc Af _ (iV ((rs.length:Nat):Int)) ?_;apply zp τ (by exact Qg (e:=(An ω)));refine Cc Af τ (iV ((Qb rs k:Nat):Int)) ?_;apply zp τ (by exact Qg (e:=(An ω)));refine Cc Af τ τ ?_;refine zd X1 (0) [iV q.x0,iV q.y0,iV q.x1,iV q.y1] (A3.1.range (i:=0) rR 0 4) underlying24 ?_;refine aC A3.1 (Pq q _) ?_;intro D8 B4 _;apply zp φ (by exact Qg (e:=(Al ω)));apply qV φ;refine zd X1 (0) [iV q.x0,iV q.y0,iV q.x1,iV q.y1] (B4.1.range (i:=0) rR 0 4) underlying24 ?_;refine aC B4.1 (Pq q _) ?_;intro D7 C2 _;apply zp φ (by exact Sn (e:=(Al ω)));refine Dt Af φ φ φ ?_;go_wp2_with fail;go_ret;exact⟨by rw[show Ei rs q=false from by unfold Ei;rw[<-A0.1];simp[HV.1,HK.1,A8.1,B2.1]]<;>rfl,C2.1.ext⟩
    have h8:=H8.1;have B8:=A4.1;go_upto_region 8 with fail
    apply wl;refine Cc Af _ (iV ((rs.length:Nat):Int)) ?_;apply zp τ (by exact Qg (e:=(An ω)));refine Cc Af τ (iV ((Qb rs k:Nat):Int)) ?_;apply zp φ (by exact Qg (e:=(Al ω)));refine Iu Af φ φ _ _ _ _ _ _ ?_;refine Fk Af _ _ φ φ ?_;go_wp2_with fail;go_ret;exact⟨by rw[show Ei rs q=false from by unfold Ei;rw[<-A0.1];simp[HV.1,HK.1,A4.1]]<;>rfl,A3.1.ext⟩
   have h8:=H8.1;go_upto_region 8 with fail;apply wl;refine Cc Af _ (iV ((rs.length:Nat):Int)) ?_;apply zp φ (by exact Qg (e:=(Al ω)));refine Iu Af φ _ _ φ φ _ _ _ ?_;refine rJ Af _ _ _ _ _ φ φ ?_;go_wp2_with fail;go_ret;exact⟨by rw[show Ei rs q=false from by unfold Ei;rw[<-A0.1];simp[HV.1,HK.1,H8.1]]<;>rfl,A3.1.ext⟩
  have F2:=HK;replace HK:=zH (Bool.eq_false_iff.2 F2.1);go_upto_region 6 with fail;apply wl;refine Cn Af _ ?_;refine zc (Hc _ rs _ (HU.1.ext A7.1.ext) HN.1 B5.1) ?_;rintro e D6 ⟨rfl,hx⟩;have B3:=zH (A7.1.step hx);clear hx;refine⟨.bool true,by rw[HV.1],?_⟩;try simp only[ζ]
  refine Cc Af φ φ ?_;refine zd X1 (0) [iV q.x0,iV q.y0,iV q.x1,iV q.y1] (B3.1.range (i:=0) rR 0 4) underlying24 ?_;refine zc (Yb q _) ?_;rintro e D5 ⟨rfl,hx⟩;have C1:=zH (B3.1.step hx);clear hx;refine⟨.bool false,by rw[HK.1],?_⟩;try simp only[ζ]
  refine Cc Af τ τ ?_;go_upto_region 7 with fail;apply wl;apply zq τ;go_wp2_with fail;go_ret;exact⟨by rw[show Ei rs q=true from by unfold Ei;rw[<-A0.1];simp[HK.1]]<;>rfl,C1.1.ext⟩
 have E8:=HV;replace HV:=zH (Bool.eq_false_iff.2 E8.1);go_upto_region 6 with fail;apply wl;refine Cn Af _ ?_;refine zc (Hc _ rs _ (HU.1.ext A7.1.ext) HN.1 B5.1) ?_;rintro e D4 ⟨rfl,hx⟩;have C0:=zH (A7.1.step hx);clear hx;refine⟨.bool false,by rw[HV.1],?_⟩;try simp only[ζ]
 refine Tx Af τ τ _ _ _ τ ?_;go_upto_region 7 with fail;apply wl;apply zq τ;go_wp2_with fail;go_ret;exact⟨by rw[show Ei rs q=true from by unfold Ei;rw[<-A0.1];simp[HV.1]]<;>rfl,C0.1.ext⟩
end
section
def gI (lo hi:Rat)(q:Rat):List Rat:=if lo<q/\q<hi then[q]else[]
instance aEC (a b:Int×Int) (x:Int):Decidable (cZ a b x):=inferInstanceAs (Decidable (_/\_))
def Lz (e:Cg)(x:Int):List Rat:=if cZ e.1 e.2 x then[Im e.1 e.2 x]else[]
def Up (o e:Cg):List Rat:=if Gm o.1 o.2 e.1 e.2=1 then[Qx o.1 o.2 e.1 e.2]else[]
def Wd (a b:Int×Int)(pre:List Cg)(x:Cg):List Rat:=
  (Lz x a.1).flatMap (gI a.2 b.2)++(Lz x b.1).flatMap (gI a.2 b.2)++pre.flatMap (fun o=>(Up o x).flatMap (gI a.2 b.2))
def qP (a b:Int×Int):List Cg->List Cg->List Rat
  |_,[]=>[]
  |pre,x::l=>Wd a b pre x++qP a b (pre++[x]) l
theorem fQ (a b:Int×Int)(x:Cg):∀(l p:List Cg),qP a b p (l++[x])=qP a b p l++Wd a b (p++l) x
  | [],p=>by simp[qP]
  | y::l,p=>by
    have h:=fQ a b x l (p++[y]);simp only[iZZ,qP];rw[h,jQQ,jQQ];rfl
def aBG (a b:Int×Int)(rs:List Ai):List Rat:=rs.flatMap fun r=>r.flatMap fun p=>gI a.2 b.2 (p.2:Rat)
def Lk (a b:Int×Int)(rs:List Ai):Prop:=Fm rs=true/\Du a/\Du b/\a.2<b.2
instance aEO (a b:Int×Int) (rs:List Ai):Decidable (Lk a b rs):=inferInstanceAs (Decidable (_/\_))
def aDK (a b:Int×Int)(rs:List Ai):List Rat:=if Lk a b rs then[(a.2:Rat),(b.2:Rat)]++aBG a b rs++qP a b [] (Bk rs)else[]
theorem iR {r:Ai}{k:Nat}{p:Int×Int}(h:r[k]?=some p)(f:Int×Int->List Rat):(r.take (k+1)).flatMap f=(r.take k).flatMap f++f p:=by
  rw[List.take_add_one,h,List.flatMap_append];simp
theorem aG {a b:Int×Int}{x:Int}(ha:Du a)(hb:Du b)(hx: -1048576<=x/\x<=1048576):Nm.rl (Im a b x)<=20:=by
  have h1:=Bd ha;have h2:=Bd hb;have h3:=dW (x-a.1) (b.1-a.1) ω ω;have h4:=Bu (b.2-a.2) ω ω;have h5:=Bu a.2 ω ω;have h6:=Nm.rl_mul (((x-a.1:Int):Rat)/((b.1-a.1:Int):Rat)) ((b.2-a.2:Int):Rat);have h7:=Nm.rl_add (a.2:Rat) (((x-a.1:Int):Rat)/((b.1-a.1:Int):Rat)*((b.2-a.2:Int):Rat));unfold Im;omega
theorem xX {a b c d:Int×Int}(ha:Du a)(hb:Du b)(hc:Du c)(hd:Du d):Nm.rl (Lc a b c d)<=8:=by
  have h1:=Zj (Gc ha hc) (Gc hc hd);have h2:=Zj (Gc ha hb) (Gc hc hd);exact dW _ _ ω (ω)
theorem tE {a b c d:Int×Int}(ha:Du a)(hb:Du b)(hc:Du c)(hd:Du d):Nm.rl (iN a b c d)<=20/\Nm.rl (Qx a b c d)<=20:=by
 have h1:=Bd ha;have h2:=Bd hb;have ht:=xX ha hb hc hd;have hs:=Bd (Qw ha hb hc hd);have k1:=Bu (b.1-a.1) ω ω;have k2:=Bu (b.2-a.2) ω ω;have k3:=Bu a.1 ω ω;have k4:=Bu a.2 ω ω;have k5:=Bu (Ay a b c d).1.1 ω ω;have k6:=Bu (Ay a b c d).1.2 ω ω;have m1:=Nm.rl_mul (Lc a b c d) ((b.1-a.1:Int):Rat);have m2:=Nm.rl_mul (Lc a b c d) ((b.2-a.2:Int):Rat);have a1:=Nm.rl_add (a.1:Rat) (Lc a b c d*((b.1-a.1:Int):Rat));have a2:=Nm.rl_add (a.2:Rat) (Lc a b c d*((b.2-a.2:Int):Rat));unfold iN Qx;constructor
 ·split<;>omega
 split<;>omega
end
section
theorem Yt {a b:Int×Int}:Et a b=true↔a.2<b.2\/(a.2=b.2/\a.1<b.1):=by
  unfold Et;simp
theorem lQ {a b:Int×Int}(h:¬Et a b=true)(k:¬Et b a=true):a=b:=by
  rw[Yt]at h k;exact Prod.ext ω (ω)
theorem Ys {a b:Int×Int}(h:Et a b=true):¬Et b a=true:=by
  rw[Yt]at h⊢;omega
theorem sK (a b c d:Int×Int):Ns c d a b=Ns a b c d:=by
  unfold Ns;by_cases h:Et (Gz a b) (Gz c d)=true
  · rw[if_pos h,if_neg (Ys h)]
  by_cases k:Et (Gz c d) (Gz a b)=true
  · rw[if_neg h,if_pos k]
  rw[if_neg h,if_neg k,lQ h k]
theorem sL (a b c d:Int×Int):Um c d a b=Um a b c d:=by
  unfold Um;by_cases h:Et (Fn a b) (Fn c d)=true
  · rw[if_pos h,if_neg (Ys h)]
  by_cases k:Et (Fn c d) (Fn a b)=true
  · rw[if_neg h,if_pos k]
  rw[if_neg h,if_neg k,lQ h k]
theorem Sc (a b c d:Int×Int):Ay c d a b=Ay a b c d:=by unfold Ay;rw[sK,sL]
theorem Ot {u v:Int×Int}:cr u v= -cr v u:=by unfold cr;grind
theorem Qn (x y:Int):(((-x:Int)):Rat)/(((-y:Int)):Rat)=(x:Rat)/(y:Rat):=by
  rw[Rat.intCast_neg,Rat.intCast_neg];by_cases h:(y:Rat)=0
  · rw[h];simp[Rat.div_def]
  grind
theorem Xy (a b c d:Int×Int):Lc c d a b=Su a b c d:=by
  unfold Lc Su;rw[show cr (dv c a) (dv a b)= -cr (dv a c) (dv a b)by unfold cr dv;grind,show cr (dv c d) (dv a b)= -cr (dv a b) (dv c d)from Ot,Qn]
theorem oC (a b c d:Int×Int):Su c d a b=Lc a b c d:=by
  unfold Lc Su;rw[show cr (dv c a) (dv c d)= -cr (dv a c) (dv c d)by unfold cr dv;grind,show cr (dv c d) (dv a b)= -cr (dv a b) (dv c d)from Ot,Qn]
theorem cE {a b:Int×Int}:dv a b=(0,0)↔a=b:=by
  unfold dv;constructor
  · intro h;injection h with h1 h2;exact Prod.ext ω (ω)
  intro h;subst h;simp
theorem Yr {a b c d:Int×Int}:Cp a b c d=(0,0)↔a=b/\c=d:=by
  unfold Cp;split
  · rename_i h;rw[cE]at h;rw[cE];exact⟨fun k=>⟨h,k⟩,fun k=>k.2⟩
  rename_i h;exact⟨fun k=>absurd k h,fun k=>absurd (cE.2 k.1) h⟩
def eS (a b c d:Int×Int):Prop:=cr (Cp a b c d) (dv a c)≠0\/(Cp a b c d=(0,0)/\a≠c)
theorem aCH {u v z:Int×Int}(hu:u≠(0,0))(h:cr u v=0)(k:cr u z=0):cr v z=0:=by
  obtain⟨u1,u2⟩:=u;obtain⟨v1,v2⟩:=v;obtain⟨z1,z2⟩:=z;unfold cr at h k⊢;dsimp only at h k⊢
  have A0:u1≠0\/u2≠0:=by
    by_cases e:u1=0
    · right;intro e2;exact hu (by rw[e,e2])
    exact .inl e
  rcases A0 with e|e
  · have:u1*(v1*z2-v2*z1)=0:=by grind
    exact(Int.mul_eq_zero.1 this).resolve_left e
  have:u2*(v1*z2-v2*z1)=0:=by grind
  exact(Int.mul_eq_zero.1 this).resolve_left e
theorem Vi {a b c d:Int×Int}(h0:cr (dv a b) (dv c d)=0)(h:eS c d a b):eS a b c d:=by
 unfold eS at h⊢;rcases h with h|⟨h1,h2⟩
 ·left
  intro k;apply h;have hz:cr (Cp a b c d) (dv c a)=0:=by
   have:cr (Cp a b c d) (dv c a)= -cr (Cp a b c d) (dv a c):=by unfold cr dv;grind
   omega
  by_cases e1:dv a b=(0,0)
  ·have e3:Cp a b c d=dv c d:=if_pos e1
   rw[e3]at hz;by_cases e2:dv c d=(0,0)
   ·rw[show Cp c d a b=dv a b from if_pos e2,e1];unfold cr;simp
   rw[show Cp c d a b=dv c d from if_neg e2];exact hz
  have e3:Cp a b c d=dv a b:=if_neg e1;rw[e3]at hz;by_cases e2:dv c d=(0,0)
  ·rw[show Cp c d a b=dv a b from if_pos e2];exact hz
  rw[show Cp c d a b=dv c d from if_neg e2];exact aCH e1 h0 hz
 rw[Yr]at h1;exact .inr ⟨Yr.2 ⟨h1.2,h1.1⟩,fun e=>h2 e.symm⟩
theorem Ym {a b c d:Int×Int}(h0:cr (dv a b) (dv c d)=0):eS c d a b↔eS a b c d:=
  ⟨Vi h0,Vi (by rw[Ot,h0];rfl)⟩
theorem sR {a b c d:Int×Int}(h:cr (dv a b) (dv c d)=0):Gm a b c d=(open Classical in if eS a b c d then 0 else(Ay a b c d).2):=by
  unfold Gm;rw[if_neg (by simpa using h)];by_cases k:eS a b c d
  · rw[if_pos k];exact if_pos k
  rw[if_neg k];exact if_neg k
theorem sQ {a b c d:Int×Int}(h:cr (dv a b) (dv c d)≠0):Gm a b c d=if qD (Lc a b c d)/\qD (Su a b c d)then 1 else 0:=if_pos h
theorem oD (a b c d:Int×Int):Gm c d a b=Gm a b c d:=by
  by_cases h:cr (dv a b) (dv c d)=0
  · rw[sR h,sR (by rw[Ot,h];rfl),Sc]
    by_cases k:eS a b c d
    · rw[if_pos k,if_pos ((Ym h).2 k)]
    rw[if_neg k,if_neg (fun e=>k ((Ym h).1 e))]
  rw[sQ h,sQ (by rw[Ot];omega),Xy a b c d,oC a b c d];by_cases k:qD (Lc a b c d)/\qD (Su a b c d)
  · rw[if_pos k,if_pos k.symm]
  rw[if_neg k,if_neg (fun e=>k e.symm)]
theorem aDR {u v:Int×Int}:((cr u v:Int):Rat)=(u.1:Rat)*(v.2:Rat)-(u.2:Rat)*(v.1:Rat):=by unfold cr;rw[Rat.intCast_sub,Rat.intCast_mul,Rat.intCast_mul]
theorem aHA (a b:Int×Int):(((dv a b).1:Int):Rat)=(b.1:Rat)-(a.1:Rat):=by unfold dv;rw[Rat.intCast_sub]
theorem aGZ (a b:Int×Int):(((dv a b).2:Int):Rat)=(b.2:Rat)-(a.2:Rat):=by unfold dv;rw[Rat.intCast_sub]
theorem yB {a b c d:Int×Int}(h:cr (dv a b) (dv c d)≠0):
  (c.1:Rat)+Su a b c d*((d.1-c.1:Int):Rat)=(a.1:Rat)+Lc a b c d*((b.1-a.1:Int):Rat)/\(c.2:Rat)+Su a b c d*((d.2-c.2:Int):Rat)=(a.2:Rat)+Lc a b c d*((b.2-a.2:Int):Rat):=by
 have h2:((cr (dv a b) (dv c d):Int):Rat)≠0:=fun e=>h (by exact_mod_cast e)
 unfold Su Lc;rw[Rat.intCast_sub,Rat.intCast_sub,Rat.intCast_sub,Rat.intCast_sub];simp only[aDR,aHA,aGZ]at h2⊢;generalize (a.1:Rat)=a1 at*;generalize (a.2:Rat)=a2 at*;generalize (b.1:Rat)=b1 at*;generalize (b.2:Rat)=b2 at*;generalize (c.1:Rat)=c1 at*;generalize (c.2:Rat)=c2 at*;generalize (d.1:Rat)=d1 at*;generalize (d.2:Rat)=d2 at*;constructor<;>grind
theorem oB {a b c d:Int×Int}:Qx c d a b=Qx a b c d:=by
  unfold Qx;by_cases h:cr (dv a b) (dv c d)=0
  · rw[if_neg (by rw[Ot,h];decide),if_neg (by rw[h];decide),Sc]
  rw[if_pos (by rw[Ot];omega),if_pos h,Xy];exact(yB h).2
theorem lR {p q:Int}{t:Rat}(h:qD t):((min p q:Int):Rat)<=(p:Rat)+t*((q-p:Int):Rat)/\(p:Rat)+t*((q-p:Int):Rat)<=((max p q:Int):Rat):=by
 unfold qD at h;have h1:(0:Rat)<=t:=by have:=Rat.not_lt.1 h.1;simpa using this
 have h2:t<=1:=by have:=Rat.not_lt.1 h.2;simpa using this
 rw[Rat.intCast_sub];rcases Int.le_total p q with k|k
 ·rw[Int.min_eq_left k,Int.max_eq_right k]
  have k2:(p:Rat)<=(q:Rat):=by exact_mod_cast k
  have m1:=Rat.mul_nonneg h1 (show(0:Rat)<=(q:Rat)-(p:Rat)by grind);have m2:=Rat.mul_nonneg (show(0:Rat)<=1-t by grind) (show(0:Rat)<=(q:Rat)-(p:Rat)by grind);constructor<;>grind
 rw[Int.min_eq_right k,Int.max_eq_left k];have k2:(q:Rat)<=(p:Rat):=by exact_mod_cast k
 have m1:=Rat.mul_nonneg h1 (show(0:Rat)<=(p:Rat)-(q:Rat)by grind);have m2:=Rat.mul_nonneg (show(0:Rat)<=1-t by grind) (show(0:Rat)<=(p:Rat)-(q:Rat)by grind);constructor<;>grind
end
end Go.Proofs.YtlipfipniibpoabGreat
