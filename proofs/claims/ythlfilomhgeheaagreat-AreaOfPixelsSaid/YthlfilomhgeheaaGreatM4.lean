import Derived.Deep.DeepCutAuto
import Derived.Test.YthlfilomhgeheaaGreatM3
set_option maxRecDepth 100000
set_option maxHeartbeats 4000000
namespace Go.Proofs.YthlfilomhgeheaaGreat
open Go.RowKit
open Go.Proofs.Tryz
section
namespace Stb
variable {α:Type} {lt:α->α->Bool}
def Blks (lt:α->α->Bool)(s:Nat)(xs row:List α):Prop:=∃(D:List (List α)) (t:List α),(∀c,c∈D->c.length=s)/\t.length<s/\xs=D.flatten++t/\row=(D.map (stab lt)).flatten++stab lt t
def Half (lt:α->α->Bool)(s a:Nat)(xs row:List α):Prop:=∃(D R:List (List α)) (t:List α),(∀c,c∈D->c.length=2*s)/\(∀c,c∈R->c.length=s)/\t.length<s/\xs=D.flatten++(R.flatten++t)/\row=(D.map (stab lt)).flatten++((R.map (stab lt)).flatten++stab lt t)/\a=D.flatten.length
def Fst (lt:α->α->Bool)(s a:Nat)(xs row:List α):Prop:=∃(D:List (List α)) (t:List α),(∀c,c∈D->c.length=s)/\xs=D.flatten++t/\row=(D.map (stab lt)).flatten++t/\a=D.flatten.length
theorem flat_stab_len (D:List (List α)):(D.map (stab lt)).flatten.length=D.flatten.length:=by
  induction D with
  |nil=>rfl
  |cons c D ih=>simp only[List.map_cons,List.flatten_cons,wD,stab_len,ih]
theorem flat_len_mul {s:Nat}(R:List (List α))(h:∀c,c∈R->c.length=s):R.flatten.length=R.length*s:=by
  induction R with
  |nil=>simp
  |cons c R ih=>rw[List.flatten_cons,wD,h c (by simp),ih (fun c hc=>h c (by simp[hc])),xB,xL];omega
theorem Fst.start (s:Nat)(xs:List α):Fst lt s 0 xs xs:=⟨[],xs,by simp,by simp,by simp,by simp⟩
theorem Fst.cut {s a:Nat}{xs row:List α}(h:Fst lt s a xs row)(hb:a+s<=xs.length):
  ∃P X S:List α,row=P++(X++S)/\P.length=a/\X.length=s/\Fst lt s (a+s) xs (P++(stab lt X++S)):=by
 obtain⟨D,t,h1,rfl,rfl,rfl⟩:=h;rw[wD]at hb;have lx:(t.take s).length=s:=by rw[wK];omega
 refine⟨(D.map (stab lt)).flatten,t.take s,t.drop s,by rw[List.take_append_drop],flat_stab_len D,lx,D++[t.take s],t.drop s,?_,?_,?_,?_⟩
 ·intro c hc
  rcases List.mem_append.1 hc with hc|hc
  ·exact h1 c hc
  simp at hc;rw[hc];exact lx
 ·simp
 ·simp
 simp;omega
theorem Fst.last {s a:Nat}{xs row:List α}(h:Fst lt s a xs row)(hb:xs.length<a+s):∃P X:List α,row=P++(X++[])/\P.length=a/\a+X.length=xs.length/\Blks lt s xs (P++(stab lt X++[])):=by
  obtain⟨D,t,h1,rfl,rfl,rfl⟩:=h;rw[wD]at hb;exact⟨(D.map (stab lt)).flatten,t,by simp,flat_stab_len D,by simp,D,t,h1,ω,rfl,by simp⟩
theorem Blks.half {s:Nat}{xs row:List α}(h:Blks lt s xs row):Half lt s 0 xs row:=by
  obtain⟨D,t,h1,h2,rfl,rfl⟩:=h;exact⟨[],D,t,by simp,h1,h2,by simp,by simp,by simp⟩
theorem Half.cut (W:Wk lt){s a:Nat}{xs row:List α}(h:Half lt s a xs row)(hs:0<s)(hb:a+2*s<=xs.length):
  ∃P A B S:List α,row=P++(A++(B++S))/\P.length=a/\A.length=s/\B.length=s/\Srt lt A/\Srt lt B/\Half lt s (a+2*s) xs (P++(mrg lt A B++S)):=by
 obtain⟨D,R,t,h1,h2,h3,rfl,rfl,rfl⟩:=h;have hl:=flat_len_mul R h2;rw[wD,wD,hl]at hb;match R,h2,hl with
 | [],_,_=>exfalso;simp at hb;omega
 | [c],_,_=>exfalso;simp at hb;omega
 |c::c2::R,h2,_=>
  have l1:=h2 c (by simp);have l2:=h2 c2 (by simp);refine⟨(D.map (stab lt)).flatten,stab lt c,stab lt c2,(R.map (stab lt)).flatten++stab lt t,by simp,flat_stab_len D,by rw[stab_len,l1],by rw[stab_len,l2],stab_srt W c,stab_srt W c2,D++[c++c2],R,t,?_,fun c hc=>h2 c (by simp[hc]),h3,?_,?_,?_⟩
  ·intro x hx
   rcases List.mem_append.1 hx with hx|hx
   ·exact h1 x hx
   simp at hx;rw[hx];simp;omega
  ·simp
  ·rw[mrg_stab W];simp
  simp;omega
theorem Half.last (W:Wk lt){s a:Nat}{xs row:List α}(h:Half lt s a xs row)(hb:xs.length<a+2*s)(hm:a+s<xs.length):
  ∃P A B:List α,row=P++(A++(B++[]))/\P.length=a/\A.length=s/\a+s+B.length=xs.length/\Srt lt A/\Srt lt B/\Blks lt (2*s) xs (P++(mrg lt A B++[])):=by
 obtain⟨D,R,t,h1,h2,h3,rfl,rfl,rfl⟩:=h;have hl:=flat_len_mul R h2;rw[wD,wD,hl]at hb hm;match R,h2,hl with
 | [],_,_=>exfalso;simp at hm;omega
 | [c],h2,_=>
  have l1:=h2 c (by simp);refine⟨(D.map (stab lt)).flatten,stab lt c,stab lt t,by simp,flat_stab_len D,by rw[stab_len,l1],by rw[stab_len];simp;omega,stab_srt W c,stab_srt W t,D,c++t,h1,by simp;omega,by simp,?_⟩;rw[mrg_stab W];simp
 |c::c2::R,_,_=>
  exfalso;simp only[xB]at hb;have:=xC s (show 2<=R.length+1+1 by omega);omega
theorem Half.none {s a:Nat}{xs row:List α}(h:Half lt s a xs row)(hb:xs.length<a+2*s)(hm:¬a+s<xs.length):Blks lt (2*s) xs row:=by
 obtain⟨D,R,t,h1,h2,h3,rfl,rfl,rfl⟩:=h;have hl:=flat_len_mul R h2;rw[wD,wD,hl]at hb hm;match R,h2,hl with
 | [],_,_=>exact⟨D,t,h1,ω,by simp,by simp⟩
 | [c],h2,_=>
  have l1:=h2 c (by simp);have e1: [c].length*s=s:=by simp
  rw[e1]at hm hb;have:t=[]:=wP ω;subst this;exact⟨D,c,h1,by simp at h3;omega,by simp,by simp[stab_nil]⟩
 |c::c2::R,_,_=>
  exfalso;simp only[xB]at hb;have:=xC s (show 2<=R.length+1+1 by omega);omega
theorem Blks.all {s:Nat}{xs row:List α}(h:Blks lt s xs row)(hs:xs.length<=s):row=stab lt xs:=by
 obtain⟨D,t,h1,h2,rfl,rfl⟩:=h;have hl:=flat_len_mul D h1;rw[wD,hl]at hs;match D,h1 with
 | [],_=>simp
 | [c],h1=>
  have l1:=h1 c (by simp);have e1: [c].length*s=s:=by simp
  rw[e1]at hs;have:t=[]:=wP ω;subst this;simp[stab_nil]
 |c::c2::D,_=>
  exfalso;simp only[xB]at hs;have:=xC s (show 2<=D.length+1+1 by omega);omega
theorem Half.len {s a:Nat}{xs row:List α}(h:Half lt s a xs row):row.length=xs.length:=by
  obtain⟨D,R,t,_,_,_,rfl,rfl,_⟩:=h;simp only[wD,flat_stab_len,stab_len]
theorem Fst.len {s a:Nat}{xs row:List α}(h:Fst lt s a xs row):row.length=xs.length:=by
  obtain⟨D,t,_,rfl,rfl,_⟩:=h;rw[wD,wD,flat_stab_len]
end Stb
end
section
structure Bv where
  a:RV
  b:RV
  p:Rat
  q:Rat
def Bv.cells (e:Bv):List Value:=[.bool e.a.n,.slice e.a.p e.a.l e.a.c,.bool e.a.m,.slice e.a.p2 e.a.l2 e.a.c2,.bool e.b.n,.slice e.b.p e.b.l e.b.c,.bool e.b.m,.slice e.b.p2 e.b.l2 e.b.c2]
def Bv.vl (e:Bv):Rat×Rat:=(e.p,e.q)
def Bv.Ok (L:Nat)(w:World)(e:Bv):Prop:=e.a.Is w e.p/\e.b.Is w e.q/\Nm.rl e.p<=L/\Nm.rl e.q<=L
def Cv (es:List Bv):List Value:=es.flatMap Bv.cells
theorem Bv.len (e:Bv):e.cells.length=8:=rfl
theorem Bv.one (e:Bv):∀v,v∈e.cells->v.oneCell'=true:=by simp[Bv.cells,Value.oneCell']
theorem Bv.noU (e:Bv):Ar e.cells:=by intro x hx k;simp[Bv.cells]at hx;rcases hx with rfl|rfl|rfl|rfl|rfl|rfl|rfl|rfl<;>simp
theorem Rn (es:List Bv):Ar (Cv es):=by
  intro x hx;obtain⟨e,_,he⟩:=List.mem_flatMap.1 hx;exact Bv.noU e x he
theorem Bv.Ok.ptIn {L:Nat}{w:World}{e:Bv}(h:e.Ok L w):Mw L w e.cells.toArray e.p e.q:=⟨e.a,e.b,rfl,h.1.isIn h.2.2.1,h.2.1.isIn h.2.2.2⟩
theorem Bv.Ok.ext {L:Nat}{w w':World}{e:Bv}(h:e.Ok L w)(x:Aa w w'):e.Ok L w':=⟨h.1.ext x,h.2.1.ext x,h.2.2⟩
theorem Bv.Ok.map {L:Nat}{w w':World}{e:Bv}(h:e.Ok L w)(x:∀(r:RV) (q:Rat),r.Is w q->r.Is w' q):e.Ok L w':=⟨x _ _ h.1,x _ _ h.2.1,h.2.2⟩
theorem Da (es:List Bv):(Cv es).length=es.length*8:=Kc Bv.len es
theorem Kl (es:List Bv)(e:Bv):Cv (es++[e])=Cv es++e.cells:=by simp[Cv]
def Hf (L:Nat)(w:World)(base:Nat)(v:Value)(es:List Bv):Prop:=Bi w base 73 8 v es.length (Cv es)/\∀e,e∈es->e.Ok L w
theorem Hf.ext {L:Nat}{w w':World}{base:Nat}{v:Value}{es:List Bv}(h:Hf L w base v es)(x:Aa w w'):Hf L w' base v es:=⟨h.1.ext x,fun e he=>(h.2 e he).ext x⟩
theorem Hf.form {L:Nat}{w:World}{base:Nat}{v:Value}{es:List Bv}(h:Hf L w base v es):
    (v= .slice none 0 0/\es=[])\/∃g cap rest,v= .slice (π g) es.length cap/\base<=g/\Sw w w g 73 Bv.cells rest es/\es.length<=cap/\cap<=maxLen/\(Cv es).length+rest.length=cap*8/\Ar rest:=by
  obtain⟨h1,⟨rfl,h2⟩|⟨g,cap,rest,rfl,hb,hg,h3,h4,h5,h6⟩⟩:=h.1
  · exact Or.inl ⟨rfl,wP h2⟩
  exact Or.inr ⟨g,cap,rest,rfl,hb,Sw.refl hg,h3,h4,h5,h6.right⟩
def Hs (L:Nat)(w:World)(v:Value)(ps:List (Rat×Rat)):Prop:=
  ∃(A:Option Addr) (cap:Nat),v= .slice A ps.length cap/\(0<ps.length->∃g off,A=some ⟨g,off,none⟩/\∀i p,ps[i]?=some p->∃cs:List Value,w.rangeAt g (off+i*8) cs/\Mw L w cs.toArray p.1 p.2)
theorem Hs.ext {L:Nat}{w w':World}{v:Value}{ps:List (Rat×Rat)}(h:Hs L w v ps)(x:Aa w w'):Hs L w' v ps:=by
  obtain⟨A,A1,h1,h2⟩:=h;refine⟨A,A1,h1,fun h0=> ?_⟩;obtain⟨g,A0,h3,h4⟩:=h2 h0;refine⟨g,A0,h3,fun i p hp=> ?_⟩;obtain⟨cs,h5,h6⟩:=h4 i p hp;exact⟨cs,fun j v hv=>x.get (h5 j v hv),h6.ext x⟩
theorem Hf.reads {L:Nat}{w:World}{base:Nat}{v:Value}{es:List Bv}(h:Hf L w base v es):Hs L w v (es.map Bv.vl):=by
  rcases h.form with⟨rfl,rfl⟩|⟨g,cap,rest,rfl,_,hs,_⟩
  · exact⟨none,0,rfl,fun h0=>absurd h0 (by simp)⟩
  refine⟨some ⟨g,0,none⟩,cap,by rw[wU],fun _=>⟨g,0,rfl,fun i p hp=> ?_⟩⟩;rw[xJ]at hp;obtain⟨e,he,rfl⟩:=Option.map_eq_some_iff.1 hp;refine⟨e.cells,by rw[wH];exact hs.read he Bv.len,(h.2 e (wE he)).ptIn⟩
end
section
attribute [local go_sem ↓] Go.wp_at_zero Go.wp_at_succ Az Ay
theorem Xv (L:Nat)(ca cb:Array Value)(p q r s:Rat)(w:World)(ha:Mw L w ca p q)(hb:Mw L w cb r s)(hL:L<=70000):
  Calls prog 86 #[.agg ca,.agg cb] w fun e w'=>e= .returned (iV (Di p r))/\Aa w w':=by
 have ZA:=ha.size;have ZB:=hb.size;have Fa:=zH ha;have Fb:=zH hb;clear ha hb;go_enter func86,ntmps86
 go_upto_region 1 with fail;have A1:Al ((w.alloc (.cells ca 73)).alloc (.cells cb 73)) (w.heap.size) 73 ca:=Al.ext (Al.new_at w _ (by simp) _ _) (Ak.alloc _);have A0:Al ((w.alloc (.cells ca 73)).alloc (.cells cb 73)) (w.heap.size+1) 73 cb:=Al.ext (Al.new_at (w.alloc (.cells ca 73)) _ (by simp) _ _) Ak;have hE:Aa w ((w.alloc (.cells ca 73)).alloc (.cells cb 73)):=((Ak.alloc _).alloc _);generalize ((w.alloc (.cells ca 73)).alloc (.cells cb 73))=wa at*
 generalize w.heap.size+1=bx1 at*;have E1:=zH hE;have A3:=zH A1;have A2:=zH A0;clear hE A1 A0;refine wp_region_lit ?_;refine pV (w':=wa) ?_;try simp only[ζ]
 refine pP 0 4 A3.1 underlying31 (by rw[show(ca:Array Value).size=8 from ZA];omega) ?_;try simp only[ζ]
 refine pV (w':=wa) ?_;try simp only[ζ]
 refine pP 0 4 A2.1 underlying31 (by rw[show(cb:Array Value).size=8 from ZB];omega) ?_;try simp only[ζ]
 refine Ge (by rfl) (by go_simp) (Ig (Fa.1.ext E1.1).c0 (Fb.1.ext E1.1).c0 hL) ?_;rintro e w2 ⟨rfl,hx⟩;have E2:=zH hx;clear hx;refine⟨_,rfl,?_⟩;try simp only[ζ]
 refine pV (w':=w2) ?_;try simp only[ζ]
 go_wp2_with fail;go_ret;exact⟨rfl,(tr E1 E2).1⟩
theorem Dn (L:Nat)(ca cb:Array Value)(p r:Rat)(w:World)(ha:Ee L w ca p)(hb:Ee L w cb r)(hL:L<=60000):
  Calls prog 121 #[.agg ca,.agg cb] w fun e w'=>e= .returned (.bool (decide (p<r)))/\Aa w w':=by
 have ZA:=ha.size;have ZB:=hb.size;have hd:decide (Di p r<0)=decide (p<r):=decide_eq_decide.2 rcmp_lt;have Fa:=zH ha;have Fb:=zH hb;clear ha hb;go_enter func121,ntmps121
 go_upto_region 1 with fail;have A1:Al ((w.alloc (.cells ca 31)).alloc (.cells cb 31)) (w.heap.size) 31 ca:=Al.ext (Al.new_at w _ (by simp) _ _) (Ak.alloc _);have A0:Al ((w.alloc (.cells ca 31)).alloc (.cells cb 31)) (w.heap.size+1) 31 cb:=Al.ext (Al.new_at (w.alloc (.cells ca 31)) _ (by simp) _ _) Ak;have hE:Aa w ((w.alloc (.cells ca 31)).alloc (.cells cb 31)):=((Ak.alloc _).alloc _);generalize ((w.alloc (.cells ca 31)).alloc (.cells cb 31))=wa at*
 generalize w.heap.size+1=bx1 at*;have E1:=zH hE;have A3:=zH A1;have A2:=zH A0;clear hE A1 A0;refine wp_region_lit ?_;refine pL A3.1 underlying31 (by rw[show(ca:Array Value).size=4 from ZA];kernel_rfl) ?_;try simp only[ζ]
 refine pL A2.1 underlying31 (by rw[show(cb:Array Value).size=4 from ZB];kernel_rfl) ?_;try simp only[ζ]
 refine Ge (by rfl) (by go_simp) (Gg (Fa.1.ext E1.1) (Fb.1.ext E1.1) hL) ?_;rintro e w2 ⟨rfl,hx⟩;have E2:=zH hx;clear hx;refine⟨_,rfl,?_⟩;try simp only[ζ]
 refine pV (w':=w2) ?_;try simp only[ζ]
 refine pV (w':=w2) ?_;try simp only[ζ]
 go_wp2_with fail;go_ret;exact⟨by rw[<-hd];rfl,(tr E1 E2).1⟩
theorem Ee.own {L:Nat}{w w':World}{cs:Array Value}{q:Rat}(h:Ee L w cs q){g:Nat}{t:TypeId}{zs:Array Value}(hb:Al w g t zs)(hn:Pp zs)(o:Ba g w w'):Ee L w' cs q:=by
  obtain⟨a,h1,h2⟩:=h;exact⟨a,h1,h2.own hb hn o⟩
theorem fA (L:Nat)(ca cb:Array Value)(p q:Rat)(k:Int)(w:World)(ha:Ee L w ca p)(hb:Ee L w cb q)(hL:L<=60000)(hz:(Di p q=k)):
  Calls prog 46 #[.agg ca,.agg cb,iV k] w fun e w'=>∃c,e= .returned (.agg c)/\Ee L w' c p/\Aa w w':=by
 have ZA:=ha.size;have ZB:=hb.size;have OA:=ha.one;have OB:=hb.one;have Fa:=zH ha;have Fb:=zH hb;clear ha hb;go_enter func46,ntmps46
 go_upto_region 1 with fail;have A1:Al (((w.alloc (.cells ca 31)).alloc (.cells cb 31)).alloc (.cells z4 31)) (w.heap.size) 31 ca:=Al.ext (Al.new_at w _ (by simp) _ _) ((Ak.alloc _).alloc _);have A0:Al (((w.alloc (.cells ca 31)).alloc (.cells cb 31)).alloc (.cells z4 31)) (w.heap.size+1) 31 cb:=Al.ext (Al.new_at (w.alloc (.cells ca 31)) _ (by simp) _ _) (Ak.alloc _);have A7:Al (((w.alloc (.cells ca 31)).alloc (.cells cb 31)).alloc (.cells z4 31)) (w.heap.size+1+1) 31 z4:=Al.ext (Al.new_at ((w.alloc (.cells ca 31)).alloc (.cells cb 31)) _ (by simp) _ _) Ak;have hE:Aa w (((w.alloc (.cells ca 31)).alloc (.cells cb 31)).alloc (.cells z4 31)):=(((Ak.alloc _).alloc _).alloc _);have A9:w.heap.size<=w.heap.size+1+1:=ω
 have A4:w.heap.size≠w.heap.size+1+1:=ω;have A3:w.heap.size+1≠w.heap.size+1+1:=ω;generalize (((w.alloc (.cells ca 31)).alloc (.cells cb 31)).alloc (.cells z4 31))=wa at*;generalize w.heap.size+1+1=R0 at*;generalize w.heap.size+1=bx1 at*;have E1:=zH hE;have A2:=zH A1;have A6:=zH A0;have B0:=zH A7;clear hE A1 A0 A7;refine wp_region_lit ?_;refine pL A2.1 underlying31 (by rw[show(ca:Array Value).size=4 from ZA];kernel_rfl) ?_;try simp only[ζ]
 refine pL A6.1 underlying31 (by rw[show(cb:Array Value).size=4 from ZB];kernel_rfl) ?_;try simp only[ζ]
 refine Ge (by rfl) (by go_simp) (Ig (Fa.1.ext E1.1) (Fb.1.ext E1.1) ω) ?_;rintro e w2 ⟨rfl,hx⟩;have E2:=zH hx;clear hx;refine⟨_,rfl,?_⟩;try simp only[ζ]
 refine pV (w':=w2) ?_;try simp only[ζ]
 refine pV (w':=w2) ?_;try simp only[ζ]
 go_upto_region 2 with fail;refine wp_region_lit ?_;refine pL (A2.1.ext E2.1) underlying31 (by rw[show(ca:Array Value).size=4 from ZA];kernel_rfl) ?_;try simp only[ζ]
 have o1:=Ba.setCells w2 R0 ca;have A5:=(B0.1.ext E2.1);refine pO ca A5 (Eq.trans ZA rfl) (by rw[show(ca:Array Value).size=4 from ZA];kernel_rfl) OA ?_
 (try simp only[Act.put])
 have A8:=A5.setCells ca (Eq.trans ZA rfl);go_wp2_with fail;refine bodyPost_ret (v:= .agg ca) ?_ rfl ⟨_,rfl,((Fa.1.ext (tr E1 E2).1).own A5 oX o1),(o1.ext (tr E1 E2).1 A9)⟩;exact By rfl rfl (A8.loadVar rfl rfl (by rw[ZA];rfl))
theorem eZ (L:Nat)(ca cb:Array Value)(p q:Rat)(k:Int)(w:World)(ha:Ee L w ca p)(hb:Ee L w cb q)(hL:L<=60000)(hz:¬(Di p q=k)):
  Calls prog 46 #[.agg ca,.agg cb,iV k] w fun e w'=>∃c,e= .returned (.agg c)/\Ee L w' c q/\Aa w w':=by
 have ZA:=ha.size;have ZB:=hb.size;have OA:=ha.one;have OB:=hb.one;have Fa:=zH ha;have Fb:=zH hb;clear ha hb;go_enter func46,ntmps46
 go_upto_region 1 with fail;have A1:Al (((w.alloc (.cells ca 31)).alloc (.cells cb 31)).alloc (.cells z4 31)) (w.heap.size) 31 ca:=Al.ext (Al.new_at w _ (by simp) _ _) ((Ak.alloc _).alloc _);have A0:Al (((w.alloc (.cells ca 31)).alloc (.cells cb 31)).alloc (.cells z4 31)) (w.heap.size+1) 31 cb:=Al.ext (Al.new_at (w.alloc (.cells ca 31)) _ (by simp) _ _) (Ak.alloc _);have A7:Al (((w.alloc (.cells ca 31)).alloc (.cells cb 31)).alloc (.cells z4 31)) (w.heap.size+1+1) 31 z4:=Al.ext (Al.new_at ((w.alloc (.cells ca 31)).alloc (.cells cb 31)) _ (by simp) _ _) Ak;have hE:Aa w (((w.alloc (.cells ca 31)).alloc (.cells cb 31)).alloc (.cells z4 31)):=(((Ak.alloc _).alloc _).alloc _);have A9:w.heap.size<=w.heap.size+1+1:=ω
 have A4:w.heap.size≠w.heap.size+1+1:=ω;have A3:w.heap.size+1≠w.heap.size+1+1:=ω;generalize (((w.alloc (.cells ca 31)).alloc (.cells cb 31)).alloc (.cells z4 31))=wa at*;generalize w.heap.size+1+1=R0 at*;generalize w.heap.size+1=bx1 at*;have E1:=zH hE;have A6:=zH A1;have A2:=zH A0;have B0:=zH A7;clear hE A1 A0 A7;refine wp_region_lit ?_;refine pL A6.1 underlying31 (by rw[show(ca:Array Value).size=4 from ZA];kernel_rfl) ?_;try simp only[ζ]
 refine pL A2.1 underlying31 (by rw[show(cb:Array Value).size=4 from ZB];kernel_rfl) ?_;try simp only[ζ]
 refine Ge (by rfl) (by go_simp) (Ig (Fa.1.ext E1.1) (Fb.1.ext E1.1) ω) ?_;rintro e w2 ⟨rfl,hx⟩;have E2:=zH hx;clear hx;refine⟨_,rfl,?_⟩;try simp only[ζ]
 refine pV (w':=w2) ?_;try simp only[ζ]
 refine pV (w':=w2) ?_;try simp only[ζ]
 go_upto_region 3 with fail;refine wp_region_lit ?_;refine pL (A2.1.ext E2.1) underlying31 (by rw[show(cb:Array Value).size=4 from ZB];kernel_rfl) ?_;try simp only[ζ]
 have o1:=Ba.setCells w2 R0 cb;have A5:=(B0.1.ext E2.1);refine pO cb A5 (Eq.trans ZB rfl) (by rw[show(cb:Array Value).size=4 from ZB];kernel_rfl) OB ?_
 (try simp only[Act.put])
 have A8:=A5.setCells cb (Eq.trans ZB rfl);go_wp2_with fail;refine bodyPost_ret (v:= .agg cb) ?_ rfl ⟨_,rfl,((Fb.1.ext (tr E1 E2).1).own A5 oX o1),(o1.ext (tr E1 E2).1 A9)⟩;exact By rfl rfl (A8.loadVar rfl rfl (by rw[ZB];rfl))
theorem Zm {q r:Rat}:Di q r=1↔r<q:=by rw[<-If];unfold Di;rw[Int.sign_eq_one_iff_pos,Int.sign_pos_iff]
theorem Vh {q r:Rat}:Di q r= -1↔q<r:=by rw[<-rcmp_lt];unfold Di;rw[Int.sign_eq_neg_one_iff_neg,Int.sign_neg_iff]
theorem iO (L:Nat)(ca cb:Array Value)(p f:Rat)(w:World)(ha:Ee L w ca p)(hb:Ee L w cb f)(hL:L<=60000):
    Calls prog 46 #[.agg ca,.agg cb,iV 1] w fun e w'=>∃c,e= .returned (.agg c)/\Ee L w' c (if p<f then f else p)/\Aa w w':=by
  by_cases h:Di p f=1
  · have h2:=Zm.1 h
    rw[if_neg (by grind)];exact fA L ca cb p f 1 w ha hb hL h
  have h2:¬f<p:=fun k=>h (Zm.2 k)
  have e:(if p<f then f else p)=f:=by grind
  rw[e];exact eZ L ca cb p f 1 w ha hb hL h
theorem cV (L:Nat)(ca cb:Array Value)(q t:Rat)(w:World)(ha:Ee L w ca q)(hb:Ee L w cb t)(hL:L<=60000):
    Calls prog 46 #[.agg ca,.agg cb,iV (-1)] w fun e w'=>∃c,e= .returned (.agg c)/\Ee L w' c (if t<q then t else q)/\Aa w w':=by
  by_cases h:Di q t= -1
  · have h2:=Vh.1 h
    rw[if_neg (by grind)];exact fA L ca cb q t (-1) w ha hb hL h
  have h2:¬q<t:=fun k=>h (Vh.2 k)
  have e:(if t<q then t else q)=t:=by grind
  rw[e];exact eZ L ca cb q t (-1) w ha hb hL h
end
namespace srt
def kS:Bool->Nat
  |false=>8
  |true=>5
def fCm:Bool->Nat
  |false=>86
  |true=>89
def fIn:Bool->Nat
  |false=>164
  |true=>166
def fRo:Bool->Nat
  |false=>186
  |true=>187
def fSs:Bool->Nat
  |false=>85
  |true=>88
def fSt:Bool->Nat
  |false=>133
  |true=>134
def fSw:Bool->Nat
  |false=>196
  |true=>197
def fSy:Bool->Nat
  |false=>165
  |true=>167
attribute [local go_sem ↓] Go.wp_at_zero Go.wp_at_succ Az Ay
theorem swapRange_any (t:Bool){α:Type}(enc:α->List Value)(hk:∀x,(enc x).length=(kS t))(h1:∀x,∀v,v∈enc x->v.oneCell'=true)(w0 w:World)(g cap a b n:Nat)(T:TypeId)(rest:List Value)(xs:List α)(cb:Value)(hst:Sw w0 w g T enc rest xs)(ha:a+n<=xs.length)(hb:b+n<=xs.length)(hsz:xs.length<=100000):
  Calls prog (fSw t) #[.slice (π g) xs.length cap,iV a,iV b,iV n,cb] w fun e w'=>e= .returned (.tuple #[])/\Sw w0 w' g T enc rest (Oa xs a b n):=by
 let sB:=t
 cases t;all_goals
  (try dsimp only[kS,fCm,fIn,fRo,fSs,fSt,fSw,fSy]at*)
  have A1:=zH hst;clear hst;first|go_enter func196,ntmps196|go_enter func197,ntmps197
  go_wp2_with fail;go_loopg [10] n (fun c i wr=>∃t:Nat,t<=n/\c=n-t/\i= iV t/\Sw w0 wr g T enc rest (Oa xs a b t))
  case atStart=>exact⟨0,wM _,rfl,rfl,A1.1⟩
  clear A1;obtain⟨t,ht,rfl,rfl,hst⟩:=hrel;by_cases hlt:t<n
  ·have A7:(t:Int)<(n:Int):=ω
   obtain⟨i,hi⟩:∃i,i=a+t:=⟨_,rfl⟩;obtain⟨j,hj⟩:∃j,j=b+t:=⟨_,rfl⟩;have e1:(a:Int)+(t:Int)=(i:Int):=ω
   have e2:(b:Int)+(t:Int)=(j:Int):=ω;have HI:=zH hi;have HJ:=zH hj;have B1:(Oa xs a b t).length=xs.length:=jU _ _ _ _;have A4:=zH (Pq xs a b t);rw[<-hi,<-hj]at A4;have B0:i<xs.length:=ω
   have A9:j<xs.length:=ω;clear hi hj;generalize Oa xs a b t=ys at*;have wi:IntKind.i64.wrap (i:Int)=(i:Int):=by rw[IntKind.wrap_i64];omega
   have wj:IntKind.i64.wrap (j:Int)=(j:Int):=by rw[IntKind.wrap_i64];omega
   have bi:(i:Int)<(xs.length:Int):=ω;have bj:(j:Int)<(xs.length:Int):=ω;have B4:i<xs.length:=ω;have B3:j<xs.length:=ω;have hN:(xs.length:Int)<=100000:=ω;obtain⟨x,hx⟩:∃x,ys[i]?=some x:=⟨_,wC ω⟩;obtain⟨y,hy⟩:∃y,ys[j]?=some y:=⟨_,wC ω⟩;have Hx:=zH hx;have Hy:=zH hy;have A6:=zH (show i<ys.length by omega);have A5:=zH (show j<ys.length by omega);have HE:=zH (Lh hx hy);have A0:=zH hst;clear hx hy hst;go_upto_region 3 with fail
   refine wp_region_held_drew (S:=fun x=>Ba g wr x) (by kernel_rfl) (Ba.refl _ _).drew (fun _=> ?_);refine zv 0 (bs 24 1) (Ba.refl _ _).drew ?_;refine zv 1 (bs 24 3) (Ba.refl _ _).drew ?_;refine zv 2 (bs 24 7) (Ba.refl _ _).drew ?_;refine zv 3 (bs 24 15) (Ba.refl _ _).drew ?_;refine zv 4 (bs 24 31) (Ba.refl _ _).drew ?_;refine zv 5 (bs 24 63) (Ba.refl _ _).drew ?_;refine zv 6 (bs 24 127) (Ba.refl _ _).drew ?_;refine zv 7 (bs 24 255) (Ba.refl _ _).drew ?_;refine zv 8 (bs 24 511) (Ba.refl _ _).drew ?_;refine zv 9 (bs 24 1023) (Ba.refl _ _).drew ?_;refine zv 10 (bs 24 2047) (Ba.refl _ _).drew ?_;refine zv 11 (bs 24 4095) (Ba.refl _ _).drew ?_;refine zv 12 (bs 24 8191) (Ba.refl _ _).drew ?_;refine zv 14 (bs 24 24575) (Ba.refl _ _).drew ?_;refine zv 15 (bs 24 57343) (Ba.refl _ _).drew ?_;refine zv 16 (bs 24 122879) (Ba.refl _ _).drew ?_;refine zv 17 (bs 24 253951) (Ba.refl _ _).drew ?_;refine zv 18 (bs 24 516095) (Ba.refl _ _).drew ?_;refine Mj (i:=13) (j:=19) (li:=(bs 24 524287)) (lj:=(bs 24 1040383)) (listed':=(bs 24 1048575)) (by rfl) (by rfl) (by kernel_rfl) (by kernel_rfl) (by kernel_rfl) (by kernel_rfl) (by kernel_rfl) (by kernel_rfl) (by kernel_rfl) _ _ _ (by rfl) (by rfl) (by rfl) (by rfl) g _ _ (enc y) (enc x) _ (by first|exact underlying73|exact underlying77) (by rfl) (by rfl) (by rfl) (by rfl) (by rfl) (A0.1.ext Ak.drew |>.read Hy.1 hk) (A0.1.ext Ak.drew |>.read Hx.1 hk) (by rw[hk];kernel_rfl) (by rw[hk];kernel_rfl) (Ba.refl _ _).drew (by rfl) ?_;try simp only[ζ]
   refine zv 20 (bs 24 2097151) (Ba.refl _ _).drew ?_;have A2:=(A0.1.ext Ak.drew).put (i:=i) A6.1 hk y;have A3:=A2.put (i:=j) (by rw[wO];exact A5.1) hk x;refine Gu (i:=21) (listed':=(bs 24 4194303)) (by rfl) (by kernel_rfl) (by rfl) _ _ _ (by rfl) g _ (enc y) (by rfl) (by rfl) (by rw[hk];exact(A0.1.ext Ak.drew).there A6.1 hk) (by rw[hk];kernel_rfl) (h1 y) (Ba.setCells_l _ _ (Ba.refl _ _).drew) (by kernel_rfl) ?_
   (try simp only[Act.put])
   refine zv 22 (bs 24 8388607) (Ba.setCells_l _ _ (Ba.refl _ _).drew) ?_;refine Gu (i:=23) (listed':=(bs 24 16777215)) (by rfl) (by kernel_rfl) (by rfl) _ _ _ (by rfl) g _ (enc x) (by rfl) (by rfl) (by rw[hk];exact A2.there (by rw[wO];exact A5.1) hk) (by rw[hk];kernel_rfl) (h1 x) (Ba.setCells_l _ _ (Ba.setCells_l _ _ (Ba.refl _ _).drew)) (by kernel_rfl) ?_
   (try simp only[Act.put])
   refine wpAnyH_done (by kernel_rfl) ?_ _;have A8:=zH A3;clear A2 A3;generalize (World.setCells _ g _ (enc x))=w2 at*
   go_wp2_with fail;go_roundg (n-(t+1))
   case measure=>omega
   case rel=>exact⟨t+1,hlt,rfl,by go_num,by rw[A4.1,HE.1];exact A8.1⟩
  obtain rfl:t=n:=ω;have A0:=zH hst;have B2:¬(t:Int)<(t:Int):=ω
  clear hst;go_wp2_with fail;go_end0
  exact⟨rfl,A0.1⟩
theorem rotate_any (t:Bool){α:Type}(enc:α->List Value)(hk:∀x,(enc x).length=(kS t))(h1:∀x,∀v,v∈enc x->v.oneCell'=true)(w0 w:World)(g cap a m b N:Nat)(T:TypeId)(rest:List Value)(P A B S:List α)(cb:Value)(hst:Sw w0 w g T enc rest (P++(A++(B++S))))(ha:P.length=a)(hm:a+A.length=m)(hb:m+B.length=b)(hA:A≠ [])(hB:B≠ [])(hN:(P++(A++(B++S))).length=N)(hsz:N<=100000):
  Calls prog (fRo t) #[.slice (π g) N cap,iV a,iV m,iV b,cb] w fun e w'=>e= .returned (.tuple #[])/\Sw w0 w' g T enc rest (P++(B++(A++S))):=by
 let sB:=t
 cases t;all_goals
  (try dsimp only[kS,fCm,fIn,fRo,fSs,fSt,fSw,fSy]at*)
  have A0:P.length+(A.length+(B.length+S.length))=N:=by rw[<-hN];simp
  have A4:=zH hst;have B1:=zH (And.intro hA hB);have HN:=zH hN;have A2:=zH A0;have B4:=zH (show P.length+A.length=m by omega);have e1:(m:Int)-(a:Int)=(A.length:Int):=ω
  have e2:(b:Int)-(m:Int)=(B.length:Int):=ω;have b1:m<=100000:=ω;have b2:b<=100000:=ω;have b3:A.length<=100000:=ω;have b4:B.length<=100000:=ω;have B3:IntKind.i64.wrap (A.length:Int)=(A.length:Int):=by rw[IntKind.wrap_i64];omega
  have B2:IntKind.i64.wrap (B.length:Int)=(B.length:Int):=by rw[IntKind.wrap_i64];omega
  clear hst ha hm hb hA hB hN A0;first|go_enter func186,ntmps186|go_enter func187,ntmps187
  go_wp2_with fail;go_loopg [10,11] (A.length+B.length) (fun c u v wr=>∃(P' A' B' S':List α),c=A'.length+B'.length/\u= iV A'.length/\v= iV B'.length/\A'≠ []/\B'≠ []/\P'.length+A'.length=m/\(P'++(A'++(B'++S'))).length=N/\P'++(B'++(A'++S'))=P++(B++(A++S))/\Sw w0 wr g T enc rest (P'++(A'++(B'++S'))))
  case atStart=>exact⟨P,A,B,S,rfl,rfl,rfl,B1.1.1,B1.1.2,B4.1,HN.1,rfl,A4.1⟩
  clear A4 B1 HN A2 B4 e1 e2 b3 b4 B3 B2;obtain⟨P',A',B',S',rfl,rfl,rfl,hA,hB,A7,hN,hT,hst⟩:=hrel;have A0:P'.length+(A'.length+(B'.length+S'.length))=N:=by rw[<-hN];simp
  have B7:0<A'.length:=by cases A' with|nil=>exact absurd rfl hA|cons _ _=>simp
  have B6:0<B'.length:=by cases B' with|nil=>exact absurd rfl hB|cons _ _=>simp
  have HT:=zH hT;have A4:=zH hst;have HN:=zH hN;clear hT hst hA hB hN;obtain⟨i,hi⟩:∃i,A'.length=i:=⟨_,rfl⟩;obtain⟨j,hj⟩:∃j,B'.length=j:=⟨_,rfl⟩;rw[hi]at A7 A0 B7⊢;rw[hj]at A0 B6⊢;have HI:=zH hi;have HJ:=zH hj;clear hi hj;obtain⟨p,hp⟩:∃p,P'.length=p:=⟨_,rfl⟩;rw[hp]at A7 A0;have HP:=zH hp;clear hp;have e1:(m:Int)-(i:Int)=(p:Int):=ω
  have b3:i<=100000:=ω;have b4:j<=100000:=ω;have b5:p<=100000:=ω;have B3:IntKind.i64.wrap (i:Int)=(i:Int):=by rw[IntKind.wrap_i64];omega
  have B2:IntKind.i64.wrap (j:Int)=(j:Int):=by rw[IntKind.wrap_i64];omega
  have C0:IntKind.i64.wrap (p:Int)=(p:Int):=by rw[IntKind.wrap_i64];omega
  have A2:=zH A0;have A3:=zH A7;clear A0 A7;rcases Nat.lt_trichotomy i j with hij|hij|hij
  ·-- i < j
   obtain⟨d,hd⟩:∃d,d+i=j:=⟨j-i,ω⟩;have e2:(j:Int)-(i:Int)=(d:Int):=ω
   obtain⟨q,hq⟩:∃q,q=m+d:=⟨_,rfl⟩;have e3:(m:Int)+(j:Int)-(i:Int)=(q:Int):=ω
   have n1:¬(i:Int)=(j:Int):=ω;have n2:((i:Int) != (j:Int))=true:=by simp;omega
   have n3:¬(j:Int)<(i:Int):=ω;have B5:IntKind.i64.wrap (d:Int)=(d:Int):=by rw[IntKind.wrap_i64];omega
   have B9:IntKind.i64.wrap (q:Int)=(q:Int):=by rw[IntKind.wrap_i64];have:=A2.1;have:=A3.1;omega
   have B8:IntKind.i64.wrap ((m:Int)+(j:Int))=(m:Int)+(j:Int):=by rw[IntKind.wrap_i64];omega
   have A8:B'=B'.take d++B'.drop d:=(List.take_append_drop d B').symm;have l1:(B'.take d).length=d:=by rw[wK];have:=HJ.1;omega
   have l2:(B'.drop d).length=i:=by rw[List.length_drop];have:=HJ.1;omega
   have HC:=zH (swapRange_any sB enc hk h1 w0 wr g cap p q i T rest (P'++(A'++(B'++S'))) cb A4.1 (by rw[HN.1];have:=A2.1;omega) (by rw[HN.1];have:=A2.1;have:=A3.1;omega) (by rw[HN.1];exact hsz));rw[HN.1]at HC;have A1:Oa (P'++(A'++(B'++S'))) p q i=P'++(B'.drop d++(B'.take d++(A'++S'))):=by
    have h:=Rz P' A' (B'.take d) (B'.drop d) S' i HI.1 l2;rw[l1,HP.1,show p+i+d=q by have:=A3.1;omega,<-wN (B'.take d) (B'.drop d) S',<-A8]at h;exact h
   rw[A1]at HC;have A6:P'++(B'.take d++(B'.drop d++(A'++S')))=P++(B++(A++S)):=by rw[<-wN (B'.take d),<-A8];exact HT.1
   have B0:=zH A6;have HD:=zH (And.intro hd (And.intro l1 l2));clear A1 A6 A8 l1 l2 hd hq hij;go_wp2_with ((first|go_at_call 196|go_at_call 197);refine HC.1.mono ?_;rintro e w2 ⟨rfl,A5⟩)
   go_roundg (i+d)
   case measure=>have:=HD.1.1;have:=HI.1;have:=HJ.1;omega
   case rel=>exact⟨P',B'.drop d,B'.take d,A'++S',by rw[HD.1.2.1,HD.1.2.2],by rw[HD.1.2.2],by rw[HD.1.2.1],by intro h;have:=HD.1.2.2;rw[h]at this;simp at this;omega,by intro h;have h2:=HD.1.2.1;rw[h]at h2;simp at h2;omega,by rw[HP.1,HD.1.2.2];exact A3.1,by have:=A2.1;have:=HD.1;simp[HP.1,HI.1,HD.1.2.1,HD.1.2.2]at*;omega,B0.1,A5⟩
  ·-- i = j
   subst hij;have n2:((i:Int) != (i:Int))=false:=by simp
   have HC:=zH (swapRange_any sB enc hk h1 w0 wr g cap p m i T rest (P'++(A'++(B'++S'))) cb A4.1 (by rw[HN.1];have:=A2.1;omega) (by rw[HN.1];have:=A2.1;have:=A3.1;omega) (by rw[HN.1];exact hsz));rw[HN.1]at HC;have A1:Oa (P'++(A'++(B'++S'))) p m i=P++(B++(A++S)):=by
    have h:=Rz P' A' [] B' S' i HI.1 HJ.1;rw[HP.1,List.length_nil,xO,A3.1]at h;exact h.trans HT.1
   rw[A1]at HC;clear A1;go_wp2_with ((first|go_at_call 196|go_at_call 197);refine HC.1.mono ?_;rintro e w2 ⟨rfl,A5⟩)
   go_end0
   exact⟨rfl,A5⟩
  -- i > j
  obtain⟨d,hd⟩:∃d,d+j=i:=⟨i-j,ω⟩;have e2:(i:Int)-(j:Int)=(d:Int):=ω
  have n2:((i:Int) != (j:Int))=true:=by simp;omega
  have n3:(j:Int)<(i:Int):=ω;have B5:IntKind.i64.wrap (d:Int)=(d:Int):=by rw[IntKind.wrap_i64];omega
  have A9:A'=A'.take j++A'.drop j:=(List.take_append_drop j A').symm;have l1:(A'.take j).length=j:=by rw[wK];have:=HI.1;omega
  have l2:(A'.drop j).length=d:=by rw[List.length_drop];have:=HI.1;omega
  have HC:=zH (swapRange_any sB enc hk h1 w0 wr g cap p m j T rest (P'++(A'++(B'++S'))) cb A4.1 (by rw[HN.1];have:=A2.1;omega) (by rw[HN.1];have:=A2.1;have:=A3.1;omega) (by rw[HN.1];exact hsz));rw[HN.1]at HC;have A1:Oa (P'++(A'++(B'++S'))) p m j=(P'++B')++(A'.drop j++(A'.take j++S')):=by
   have h:=Rz P' (A'.take j) (A'.drop j) B' S' j l1 HJ.1;rw[l2,HP.1,show p+j+d=m by have:=A3.1;omega,<-wN (A'.take j),<-A9]at h;rw[h];simp only[wN]
  rw[A1]at HC;have A6:(P'++B')++(A'.take j++(A'.drop j++S'))=P++(B++(A++S)):=by rw[<-wN (A'.take j),<-A9,wN];exact HT.1
  have B0:=zH A6;have HD:=zH (And.intro hd (And.intro l1 l2));clear A1 A6 A9 l1 l2 hd hij;go_wp2_with ((first|go_at_call 196|go_at_call 197);refine HC.1.mono ?_;rintro e w2 ⟨rfl,A5⟩)
  go_roundg (d+j)
  case measure=>have:=HD.1.1;have:=HI.1;have:=HJ.1;omega
  case rel=>exact⟨P'++B',A'.drop j,A'.take j,S',by rw[HD.1.2.1,HD.1.2.2],by rw[HD.1.2.2],by rw[HD.1.2.1],by intro h;have h2:=HD.1.2.2;rw[h]at h2;simp at h2;omega,by intro h;have h2:=HD.1.2.1;rw[h]at h2;simp at h2;omega,by rw[wD,HP.1,HJ.1,HD.1.2.2];have:=A3.1;have:=HD.1.1;omega,by have:=A2.1;have:=HD.1;simp[HP.1,HJ.1,HD.1.2.1,HD.1.2.2]at*;omega,B0.1,A5⟩
theorem insertion_any (t:Bool){α:Type}(enc:α->List Value)(hk:∀x,(enc x).length=(kS t))(h1:∀x,∀v,v∈enc x->v.oneCell'=true)(lt:α->α->Bool)(W:Stb.Wk lt)(w0 w:World)(g cap a b N:Nat)(T:TypeId)(rest:List Value)(P X S:List α)(hc:(∀wr,Ba g w0 wr->∀x y:α,Calls prog (fCm t) #[.agg (enc x).toArray,.agg (enc y).toArray] wr fun e w'=>∃z:Int,e= .returned (iV z)/\(z<0↔lt x y=true)/\Aa wr w'))(hst:Sw w0 w g T enc rest (P++(X++S)))(ha:P.length=a)(hb:a+X.length=b)(hN:(P++(X++S)).length=N)(hsz:N<=100000):
  Calls prog (fIn t) #[.slice (π g) N cap,iV a,iV b,.func (.func (fCm t)) #[] #[]] w fun e w'=>e= .returned (.tuple #[])/\Sw w0 w' g T enc rest (P++(Stb.stab lt X++S)):=by
 let sB:=t
 cases t;all_goals
  (try dsimp only[kS,fCm,fIn,fRo,fSs,fSt,fSw,fSy]at*)
  have A6:P.length+(X.length+S.length)=N:=by rw[<-hN];simp
  have HC:=zH hc;have B0:=zH (show Sw w0 w g T enc rest (P++(Stb.stab lt (X.take 1)++(X.drop 1++S)))by rw[Stb.stab_take1,<-wN (X.take 1),List.take_append_drop];exact hst);have b1:a<=100000:=ω
  have b2:b<=100000:=ω;have C7:=zH ha;have D0:=zH A6;have HB:=zH hb;clear hst hc ha hb hN A6;first|go_enter func164,ntmps164|go_enter func166,ntmps166
  go_wp2_with fail;go_loopg [8] (b+1-a) (fun c v wr=>∃t i:Nat,1<=t/\(t<=X.length\/t=1)/\i=a+t/\c=b+1-i+1/\v= iV i/\Sw w0 wr g T enc rest (P++(Stb.stab lt (X.take t)++(X.drop t++S))))
  case atStart=>exact⟨1,a+1,Bz _,Or.inr rfl,rfl,by have:=HB.1;omega,by go_num,B0.1⟩
  clear B0;obtain⟨t,i,D8,D1,hi,rfl,rfl,hst⟩:=hrel;have D4:=HB.1;have E0:i<=100001:=by have:=D0.1;have:=C7.1;omega
  by_cases hlt:i<b
  ·have D2:(i:Int)<(b:Int):=ω
   have B5:t<X.length:=ω;obtain⟨y,hy⟩:∃y,X[t]=y:=⟨_,rfl⟩;have C4:X.drop t=y::X.drop (t+1):=by rw[<-hy];exact List.drop_eq_getElem_cons B5
   have C1:X.take (t+1)=X.take t++[y]:=by rw[wV B5,hy]
   have C6:=zH (show Stb.stab lt (X.take (t+1))=Stb.ins lt (Stb.stab lt (X.take t)) y by rw[C1,Stb.stab_snoc]);have B1:=zH (Stb.stab_srt W (X.take t));have C5:(Stb.stab lt (X.take t)).length=t:=by rw[Stb.stab_len,wK];omega
   rw[C4]at hst;generalize Stb.stab lt (X.take t)=L at*;have B2:=zH C5;have B6:=zH B5;have HI:=zH hi;have A9:=zH (show Sw w0 wr g T enc rest (P++(L.take t++y::(L.drop t++(X.drop (t+1)++S))))by rw[wI ω,List.drop_of_length_le ω];exact hst);clear hst C4 C1 hy C5 hi D1 D4;go_wp2_with fail
   go_loopg [9] t (fun c v wr=>∃u j:Nat,u<=t/\c=0+u/\j=a+u/\v= iV j/\(∀z,z∈L.drop u->lt y z=true)/\Sw w0 wr g T enc rest (P++(L.take u++y::(L.drop u++(X.drop (t+1)++S)))))
   case atStart=>exact⟨t,i,Bz _,ω,HI.1,rfl,by intro z hz;rw[List.drop_of_length_le (by have:=B2.1;omega)]at hz;simp at hz,A9.1⟩
   clear A9;obtain⟨u,j,hu,rfl,hj,rfl,A7,hst⟩:=hrel;have A3:=zH A7;have A0:=zH hst;have D9:j<=100000:=by have:=HI.1;omega
   have wj:IntKind.i64.wrap (j:Int)=(j:Int):=by rw[IntKind.wrap_i64];omega
   have C2:(P++(L.take u++y::(L.drop u++(X.drop (t+1)++S)))).length=N:=by
    have h1:=D0.1;have h2:=B6.1;have h3:=B2.1
    simp;omega
   have HJ:=zH hj;have HU:=zH hu;clear A7 hst;by_cases hu0:0<u
   ·obtain⟨p,hp⟩:∃p,p+1=j:=⟨j-1,ω⟩
    obtain⟨q,hq⟩:∃q,q+1=u:=⟨u-1,ω⟩;have C3:(a:Int)<(j:Int):=ω
    have e1:(j:Int)-1=(p:Int):=ω;have wp:IntKind.i64.wrap (p:Int)=(p:Int):=by rw[IntKind.wrap_i64];omega
    have D5:=C7.1;have A5:q<L.length:=by have:=B2.1;omega
    have gx:(P++(L.take u++y::(L.drop u++(X.drop (t+1)++S))))[p]?=some L[q]:=by
     have h:=Pf P (L.take u) (y::(L.drop u++(X.drop (t+1)++S))) q (by rw[wK];omega);rw[show P.length+q=p by omega]at h;rw[h,List.getElem?_take,if_pos ω];exact wC A5
    have gy:(P++(L.take u++y::(L.drop u++(X.drop (t+1)++S))))[j]?=some y:=by
     rw[wJ ω,wJ (by rw[wK];omega),wK,show j-P.length-min u L.length=0 by have:=B2.1;omega];rfl
    have A8:=zH (show jV (P++(L.take u++y::(L.drop u++(X.drop (t+1)++S)))) j p=P++(L.take q++y::(L.drop q++(X.drop (t+1)++S)))by
     have h:=Me P L (X.drop (t+1)++S) y q A5;rw[show P.length+q=p by omega,hp,hq]at h;exact h)
    have D7:=zH (show∀z,z∈L.drop q->z=L[q]\/z∈L.drop u by
     intro z hz;rw[List.drop_eq_getElem_cons A5,hq]at hz;simpa using hz)
    have A2:=zH (fun h=>Stb.ins_stop W (y:=y) B1.1 A3.1 (by have:=B2.1;omega) (Or.inr ⟨q,hq,A5,h⟩));have bj:(j:Int)<(N:Int):=by rw[<-C2];have:=(List.getElem?_eq_some_iff.1 gy).1;omega
    have bp:(p:Int)<(N:Int):=ω;have HE:=zH (Lh gy gx);have C9:=zH (List.getElem?_eq_some_iff.1 gy).1;have C8:=zH (List.getElem?_eq_some_iff.1 gx).1;have Hx:=zH gx;have Hy:=zH gy;generalize L[q]=x at*
    generalize hrow:P++(L.take u++y::(L.drop u++(X.drop (t+1)++S)))=row at*;have HQ:=zH (And.intro hq hp);have B7:=zH hrow;clear gx gy A5 hu hq hp hj D5 hrow;go_upto_region 4 with fail
    refine wp_region_held_drew (S:=fun x=>Aa wr x) (by kernel_rfl) Ak.drew (fun _=> ?_);refine zv 0 (bs 17 1) Ak.drew ?_;refine zv 1 (bs 17 3) Ak.drew ?_;refine zv 2 (bs 17 7) Ak.drew ?_;refine zv 3 (bs 17 15) Ak.drew ?_;refine zv 4 (bs 17 31) Ak.drew ?_;refine zv 5 (bs 17 63) Ak.drew ?_;refine zv 6 (bs 17 127) Ak.drew ?_;refine zv 7 (bs 17 255) Ak.drew ?_;refine Fg (i:=8) (listed':=(bs 17 511)) (by rfl) (by kernel_rfl) (by kernel_rfl) (by kernel_rfl) _ _ (by rfl) g _ (enc y) _ (by intro _ _ _ h;exact h) (by rfl) (by rfl) (fun w1 hw1=>(A0.1.ext hw1).read Hy.1 hk) (by first|exact underlying73|exact underlying77) (by rfl) (by rw[hk];kernel_rfl) Ak.drew (by kernel_rfl) ?_;try simp only[ζ]
    refine zv 9 (bs 17 1023) Ak.drew ?_;refine zv 10 (bs 17 2047) Ak.drew ?_;refine zv 11 (bs 17 4095) Ak.drew ?_;refine zv 12 (bs 17 8191) Ak.drew ?_;refine Fg (i:=13) (listed':=(bs 17 16383)) (by rfl) (by kernel_rfl) (by kernel_rfl) (by kernel_rfl) _ _ (by rfl) g _ (enc x) _ (by intro _ _ _ h;exact h) (by rfl) (by rfl) (fun w1 hw1=>(A0.1.ext hw1).read Hx.1 hk) (by first|exact underlying73|exact underlying77) (by rfl) (by rw[hk];kernel_rfl) Ak.drew (by kernel_rfl) ?_;try simp only[ζ]
    refine mC 14 (bs 17 32767) (HC.1 _ ((A0.1.ext Ak.drew).own) y x) ?_;rintro e w2 ⟨z,rfl,hz,C0⟩;have A1:=zH (show Aa wr w2 from Ak.drew.trans C0);clear C0;refine⟨_,rfl,A1.1,?_⟩;try simp only[ζ]
    by_cases hlt:lt y x=true
    ·have B8:=zH hlt
     have A4:z<0:=hz.2 hlt;have B4:decide (z<0)=true:=by simpa using A4
     clear hz;refine zv 15 (bs 17 65535) A1.1 ?_;refine zv 16 (bs 17 131071) A1.1 ?_;refine wpAnyH_done (by kernel_rfl) ?_ _;clear hlt A4 B4;have A0:=zH (A0.1.ext A1.1);clear A1;have E2:row.length=N:=C2;generalize w2=wr at*
     go_upto_region 6 with fail;refine wp_region_held_drew (S:=fun x=>Ba g wr x) (by kernel_rfl) (Ba.refl _ _).drew (fun _=> ?_);refine zv 0 (bs 18 1) (Ba.refl _ _).drew ?_;refine zv 1 (bs 18 3) (Ba.refl _ _).drew ?_;refine zv 2 (bs 18 7) (Ba.refl _ _).drew ?_;refine zv 3 (bs 18 15) (Ba.refl _ _).drew ?_;refine zv 4 (bs 18 31) (Ba.refl _ _).drew ?_;refine zv 5 (bs 18 63) (Ba.refl _ _).drew ?_;refine zv 6 (bs 18 127) (Ba.refl _ _).drew ?_;refine zv 7 (bs 18 255) (Ba.refl _ _).drew ?_;refine zv 8 (bs 18 511) (Ba.refl _ _).drew ?_;refine zv 10 (bs 18 1535) (Ba.refl _ _).drew ?_;refine zv 11 (bs 18 3583) (Ba.refl _ _).drew ?_;refine zv 12 (bs 18 7679) (Ba.refl _ _).drew ?_;refine Mj (i:=9) (j:=13) (li:=(bs 18 8191)) (lj:=(bs 18 15871)) (listed':=(bs 18 16383)) (by rfl) (by rfl) (by kernel_rfl) (by kernel_rfl) (by kernel_rfl) (by kernel_rfl) (by kernel_rfl) (by kernel_rfl) (by kernel_rfl) _ _ _ (by rfl) (by rfl) (by rfl) (by rfl) g _ _ (enc x) (enc y) _ (by first|exact underlying73|exact underlying77) (by rfl) (by rfl) (by rfl) (by rfl) (by rfl) (A0.1.ext Ak.drew |>.read Hx.1 hk) (A0.1.ext Ak.drew |>.read Hy.1 hk) (by rw[hk];kernel_rfl) (by rw[hk];kernel_rfl) (Ba.refl _ _).drew (by rfl) ?_;try simp only[ζ]
     refine zv 14 (bs 18 32767) (Ba.refl _ _).drew ?_;have B3:=(A0.1.ext Ak.drew).put (i:=j) C9.1 hk x;have B9:=B3.put (i:=p) (by rw[wO];exact C8.1) hk y;refine Gu (i:=15) (listed':=(bs 18 65535)) (by rfl) (by kernel_rfl) (by rfl) _ _ _ (by rfl) g _ (enc x) (by rfl) (by rfl) (by rw[hk];exact(A0.1.ext Ak.drew).there C9.1 hk) (by rw[hk];kernel_rfl) (h1 x) (Ba.setCells_l _ _ (Ba.refl _ _).drew) (by kernel_rfl) ?_
     (try simp only[Act.put])
     refine zv 16 (bs 18 131071) (Ba.setCells_l _ _ (Ba.refl _ _).drew) ?_;refine Gu (i:=17) (listed':=(bs 18 262143)) (by rfl) (by kernel_rfl) (by rfl) _ _ _ (by rfl) g _ (enc y) (by rfl) (by rfl) (by rw[hk];exact B3.there (by rw[wO];exact C8.1) hk) (by rw[hk];kernel_rfl) (h1 y) (Ba.setCells_l _ _ (Ba.setCells_l _ _ (Ba.refl _ _).drew)) (by kernel_rfl) ?_
     (try simp only[Act.put])
     refine wpAnyH_done (by kernel_rfl) ?_ _;have D6:=zH B9;clear B3 B9;generalize (World.setCells _ g _ (enc y))=w3 at*
     go_wp2_with fail;go_roundg q
     case measure=>have:=HQ.1.1;omega
     case rel=>exact⟨q,p,by have:=HQ.1;have:=HU.1;omega,ω,by have:=HQ.1;have:=HJ.1;omega,rfl,fun z hz=>(D7.1 z hz).elim (fun h=>by rw[h];exact B8.1) (A3.1 z),by rw[<-A8.1,HE.1];exact D6.1⟩
    have B8:=zH (eq_false_of_ne_true hlt);have A4:¬z<0:=fun h=>hlt (hz.1 h)
    have B4:decide (z<0)=false:=by simpa using A4
    clear hz;refine zv 15 (bs 17 65535) A1.1 ?_;refine zv 16 (bs 17 131071) A1.1 ?_;refine wpAnyH_done (by kernel_rfl) ?_ _;clear hlt A4 B4;have HR:=zH (show Sw w0 w2 g T enc rest (P++(Stb.stab lt (X.take (t+1))++(X.drop (t+1)++S)))by rw[C6.1,A2.1 B8.1];have h:=A0.1.ext A1.1;rw[<-B7.1]at h;simpa using h);go_wp2_with fail
    go_roundg (b+1-(i+1)+1)
    case measure=>omega
    case rel=>exact⟨t+1,i+1,ω,Or.inl B6.1,by have:=HI.1;omega,ω,by go_num,HR.1⟩
   obtain rfl:u=0:=ω;have C3:¬(a:Int)<(j:Int):=ω;have D3:decide ((a:Int)<(j:Int))=false:=by simpa using C3
   have A2:=zH (Stb.ins_stop W (y:=y) B1.1 A3.1 (wM _) (Or.inl rfl));go_upto_region 4 with fail;refine wp_region_held_drew (S:=fun x=>Aa wr x) (by kernel_rfl) Ak.drew (fun _=> ?_);refine zv 0 (bs 17 1) Ak.drew ?_;refine zv 1 (bs 17 3) Ak.drew ?_;refine zv 2 (bs 17 7) Ak.drew ?_;refine zv 3 (bs 17 15) Ak.drew ?_;refine zs 4 (bs 17 31) Ak.drew ?_;refine zs 5 (bs 17 63) Ak.drew ?_;refine zs 6 (bs 17 127) Ak.drew ?_;refine zs 7 (bs 17 255) Ak.drew ?_;refine zs 8 (bs 17 511) Ak.drew ?_;refine zs 9 (bs 17 1023) Ak.drew ?_;refine zs 10 (bs 17 2047) Ak.drew ?_;refine zs 11 (bs 17 4095) Ak.drew ?_;refine zs 12 (bs 17 8191) Ak.drew ?_;refine zs 13 (bs 17 16383) Ak.drew ?_;refine zs 14 (bs 17 32767) Ak.drew ?_;refine zs 15 (bs 17 65535) Ak.drew ?_;refine zv 16 (bs 17 131071) Ak.drew ?_;refine wpAnyH_done (by kernel_rfl) ?_ _;have HR:=zH (show Sw w0 wr.drew g T enc rest (P++(Stb.stab lt (X.take (t+1))++(X.drop (t+1)++S)))by rw[C6.1,A2.1];have h:=A0.1.ext Ak.drew;simpa using h);go_wp2_with fail
   go_roundg (b+1-(i+1)+1)
   case measure=>omega
   case rel=>exact⟨t+1,i+1,ω,Or.inl B6.1,by have:=HI.1;omega,ω,by go_num,HR.1⟩
  have A0:=zH (show Sw w0 wr g T enc rest (P++(Stb.stab lt X++S))by rw[wI ω,List.drop_of_length_le ω]at hst;exact hst);have E1:¬(i:Int)<(b:Int):=ω
  clear hst;go_wp2_with fail;go_end0
  exact⟨rfl,A0.1⟩
end srt
namespace srt
attribute [local go_sem ↓] Go.wp_at_zero Go.wp_at_succ Az Ay
theorem symA_any (t:Bool){α:Type}(enc:α->List Value)(hk:∀x,(enc x).length=(kS t))(h1:∀x,∀v,v∈enc x->v.oneCell'=true)(lt:α->α->Bool)(W:Stb.Wk lt)(w0 w:World)(g cap a m b N:Nat)(T:TypeId)(rest:List Value)(P B S:List α)(x:α)(hc:(∀wr,Ba g w0 wr->∀x y:α,Calls prog (fCm t) #[.agg (enc x).toArray,.agg (enc y).toArray] wr fun e w'=>∃z:Int,e= .returned (iV z)/\(z<0↔lt x y=true)/\Aa wr w'))(hst:Sw w0 w g T enc rest (P++(x::(B++S))))(ha:P.length=a)(hm:a+1=m)(hb:m+B.length=b)(hB:Stb.Srt lt B)(hN:(P++(x::(B++S))).length=N)(hsz:N<=100000):
  Calls prog (fSy t) #[.slice (π g) N cap,iV a,iV m,iV b,.func (.func (fCm t)) #[] #[]] w fun e w'=>e= .returned (.tuple #[])/\Sw w0 w' g T enc rest (P++(Stb.mrg lt [x] B++S)):=by
 let sB:=t
 cases t;all_goals
  (try dsimp only[kS,fCm,fIn,fRo,fSs,fSt,fSw,fSy]at*)
  have A3:P.length+(1+(B.length+S.length))=N:=by rw[<-hN];simp;omega
  have e1:(m:Int)-(a:Int)=1:=ω;have b1:a<=100000:=ω;have b2:m<=100000:=ω;have b3:b<=100000:=ω;have ba:(a:Int)<(N:Int):=ω;have D8:IntKind.i64.wrap (a:Int)=(a:Int):=by rw[IntKind.wrap_i64];omega
  have C2:(P++(x::(B++S)))[a]?=some x:=by rw[<-ha];simp
  have gz:∀t z,B[t]?=some z->(P++(x::(B++S)))[m+t]?=some z:=fun t z h=>by
   have h2:=Pf (P++[x]) B S t (List.getElem?_eq_some_iff.1 h).1;rw[show(P++[x]).length+t=m+t by simp;omega,h]at h2;simpa using h2
  have HC:=zH hc;have A5:=zH hst;have D3:=zH gz;have Hx:=zH C2;have HF:=zH (And.intro ha (And.intro hm (And.intro hb A3)));have HN:=zH hN;have D4:=zH hB;have E3:m+B.length=b:=hb;have E0:b<=N:=ω
  clear hst hc ha hm hb hN A3 gz C2 hB;first|go_enter func165,ntmps165|go_enter func167,ntmps167
  go_wp2_with fail;go_loopg [10,11] B.length (fun c u v wr=>∃s e i j:Nat,s<=e/\e<=B.length/\c=e-s/\i=m+s/\j=m+e/\u= iV i/\v= iV j/\(s=0\/∃z,B[s-1]?=some z/\lt z x=true)/\(B.length<=e\/∃z,B[e]?=some z/\lt z x=false)/\Sw w0 wr g T enc rest (P++(x::(B++S))))
  case atStart=>exact⟨0,B.length,m,b,wM _,Bz _,ω,rfl,ω,rfl,rfl,Or.inl rfl,Or.inl (Bz _),A5.1⟩
  clear A5;obtain⟨s,e,i,j,E1,C9,rfl,hi,hj,rfl,rfl,C1,C0,hst⟩:=hrel;have A0:=zH hst;have HI:=zH (And.intro hi hj);have H1:=zH C1;have H2:=zH C0;have bi:i<=100000:=ω
  have bj:j<=100000:=ω;clear hst C1 C0;by_cases hlt0:s<e
  ·have C8:(i:Int)<(j:Int):=ω
   obtain⟨ss,C6⟩:∃ss,ss=i+j:=⟨_,rfl⟩;obtain⟨h,hh⟩:∃h,h=ss/2:=⟨_,rfl⟩;have e3:(i:Int)+(j:Int)=(ss:Int):=ω
   obtain⟨c,B2⟩:∃c,h=m+c:=⟨h-m,ω⟩;have B9:s<=c/\c<e:=ω
   have wu:IntKind.u64.wrap (ss:Int)=(ss:Int):=by rw[IntKind.wrap_u64];omega
   have ws:IntKind.i64.wrap (ss:Int)=(ss:Int):=by rw[IntKind.wrap_i64];omega
   have wh:IntKind.i64.wrap (h:Int)=(h:Int):=by rw[IntKind.wrap_i64];omega
   have D5:IntKind.u64.wrap (h:Int)=(h:Int):=by rw[IntKind.wrap_u64];omega
   have e2:(ss:Int)/2=(h:Int):=ω;have bh:(h:Int)<(N:Int):=ω;obtain⟨z0,A1⟩:∃z,B[c]?=some z:=⟨_,wC ω⟩;have B3:=zH (show(P++(x::(B++S)))[h]?=some z0 by rw[B2];exact D3.1 c z0 A1);have C3:=zH A1;have HH:=zH (And.intro B2 B9);clear A1 B2 B9 C6 hh hi hj;generalize hrow:P++(x::(B++S))=row at*
   have D2:=zH hrow;clear hrow;go_upto_region 5 with fail;refine wp_region_held_drew (S:=fun x=>Aa wr x) (by kernel_rfl) Ak.drew (fun _=> ?_);refine zv 0 (bs 11 1) Ak.drew ?_;refine zv 1 (bs 11 3) Ak.drew ?_;refine zv 2 (bs 11 7) Ak.drew ?_;refine zv 3 (bs 11 15) Ak.drew ?_;refine Fg (i:=4) (listed':=(bs 11 31)) (by rfl) (by kernel_rfl) (by kernel_rfl) (by kernel_rfl) _ _ (by rfl) g _ (enc z0) _ (by intro _ _ _ h;exact h) (by rfl) (by rfl) (fun w1 hw1=>(A0.1.ext hw1).read B3.1 hk) (by first|exact underlying73|exact underlying77) (by rfl) (by rw[hk];kernel_rfl) Ak.drew (by kernel_rfl) ?_;try simp only[ζ]
   refine zv 5 (bs 11 63) Ak.drew ?_;refine zv 6 (bs 11 127) Ak.drew ?_;refine zv 7 (bs 11 255) Ak.drew ?_;refine Fg (i:=8) (listed':=(bs 11 511)) (by rfl) (by kernel_rfl) (by kernel_rfl) (by kernel_rfl) _ _ (by rfl) g _ (enc x) _ (by intro _ _ _ h;exact h) (by rfl) (by rfl) (fun w1 hw1=>(A0.1.ext hw1).read Hx.1 hk) (by first|exact underlying73|exact underlying77) (by rfl) (by rw[hk];kernel_rfl) Ak.drew (by kernel_rfl) ?_;try simp only[ζ]
   refine mC 9 (bs 11 1023) (HC.1 _ ((A0.1.ext Ak.drew).own) z0 x) ?_;rintro e w2 ⟨z,rfl,hz,B6⟩;have A4:=zH (show Aa wr w2 from Ak.drew.trans B6);clear B6;refine⟨_,rfl,A4.1,?_⟩;try simp only[ζ]
   by_cases hlt:lt z0 x=true
   ·have B4:=zH hlt
    have A2:z<0:=hz.2 hlt;have A9:decide (z<0)=true:=by simpa using A2
    clear hz;refine zv 10 (bs 11 2047) A4.1 ?_;refine wpAnyH_done (by kernel_rfl) ?_ _;clear hlt A2 A9;have A0:=zH (A0.1.ext A4.1);go_wp2_with fail
    go_roundg (e-(c+1))
    case measure=>have:=HH.1;omega
    case rel=>exact⟨c+1,e,h+1,j,by have:=HH.1;omega,C9,rfl,by have:=HH.1;omega,HI.1.2,by go_num,rfl,Or.inr ⟨z0,C3.1,B4.1⟩,H2.1,A0.1⟩
   have B4:=zH (eq_false_of_ne_true hlt);have A2:¬z<0:=fun h=>hlt (hz.1 h)
   have A9:decide (z<0)=false:=by simpa using A2
   clear hz;refine zv 10 (bs 11 2047) A4.1 ?_;refine wpAnyH_done (by kernel_rfl) ?_ _;clear hlt A2 A9;have A0:=zH (A0.1.ext A4.1);go_wp2_with fail
   go_roundg (c-s)
   case measure=>have:=HH.1;omega
   case rel=>exact⟨s,c,i,h,by have:=HH.1;omega,by have:=HH.1;omega,rfl,HI.1.1,by have:=HH.1;omega,rfl,rfl,H1.1,Or.inr ⟨z0,C3.1,B4.1⟩,A0.1⟩
  obtain rfl:s=e:=ω;have C8:¬(i:Int)<(j:Int):=ω;have HM:=zH (Stb.one_left W D4.1 H1.1 H2.1);obtain⟨im,B8⟩:∃im,im+1=i:=⟨i-1,by have:=HF.1;omega⟩;have e4:(i:Int)-1=(im:Int):=ω
  have D7:IntKind.i64.wrap (im:Int)=(im:Int):=by rw[IntKind.wrap_i64];omega
  have C4:=zH B8;clear hi hj B8 Hx;go_wp2_with fail;go_loopg [13] s (fun c v wr=>∃t k:Nat,t<=s/\c=s-t/\k=a+t/\v= iV k/\Sw w0 wr g T enc rest (P++(B.take t++x::(B.drop t++S))))
  case atStart=>exact⟨0,a,wM _,rfl,rfl,rfl,by simpa using A0.1⟩
  clear A0;obtain⟨t,k0,D9,rfl,B7,rfl,hst⟩:=hrel;by_cases hlt:t<s
  ·have hF:=HF.1
   have hI:=HI.1;have D0:=C4.1;have C7:(k0:Int)<(im:Int):=ω
   obtain⟨k1,B1⟩:∃k1,k1=k0+1:=⟨_,rfl⟩;have e5:(k0:Int)+1=(k1:Int):=ω
   have wk:IntKind.i64.wrap (k1:Int)=(k1:Int):=by rw[IntKind.wrap_i64];omega
   have D6:IntKind.i64.wrap (k0:Int)=(k0:Int):=by rw[IntKind.wrap_i64];omega
   have E4:(k1:Int)<(N:Int):=ω;have E5:(k0:Int)<(N:Int):=ω;have C5:t<B.length:=ω;have B0:=bP P B S x t C5;rw[show P.length+t=k0 by omega,<-B1]at B0;have E2:(P++(B.take t++x::(B.drop t++S))).length=N:=by simp;omega
   have gx:(P++(B.take t++x::(B.drop t++S)))[k0]?=some x:=by
    rw[wJ ω,wJ (by rw[wK];omega),wK,show k0-P.length-min t B.length=0 by omega];rfl
   obtain⟨z0,A1⟩:∃z,(P++(B.take t++x::(B.drop t++S)))[k1]?=some z:=⟨_,wC ω⟩;have HE:=zH ((Lh gx A1).symm.trans B0);have Hx:=zH gx;have B3:=zH A1;have A7:=zH (List.getElem?_eq_some_iff.1 gx).1;have A6:=zH (List.getElem?_eq_some_iff.1 A1).1;have A0:=zH hst;generalize P++(B.take t++x::(B.drop t++S))=row at*
   have HK:=zH (And.intro B7 B1);clear gx A1 B0 hst hF hI D0 B7 B1;go_upto_region 11 with fail;refine wp_region_held_drew (S:=fun x=>Ba g wr x) (by kernel_rfl) (Ba.refl _ _).drew (fun _=> ?_);refine zv 0 (bs 18 1) (Ba.refl _ _).drew ?_;refine zv 1 (bs 18 3) (Ba.refl _ _).drew ?_;refine zv 2 (bs 18 7) (Ba.refl _ _).drew ?_;refine zv 3 (bs 18 15) (Ba.refl _ _).drew ?_;refine zv 4 (bs 18 31) (Ba.refl _ _).drew ?_;refine zv 5 (bs 18 63) (Ba.refl _ _).drew ?_;refine zv 6 (bs 18 127) (Ba.refl _ _).drew ?_;refine zv 7 (bs 18 255) (Ba.refl _ _).drew ?_;refine zv 8 (bs 18 511) (Ba.refl _ _).drew ?_;refine zv 10 (bs 18 1535) (Ba.refl _ _).drew ?_;refine zv 11 (bs 18 3583) (Ba.refl _ _).drew ?_;refine zv 12 (bs 18 7679) (Ba.refl _ _).drew ?_;refine Mj (i:=9) (j:=13) (li:=(bs 18 8191)) (lj:=(bs 18 15871)) (listed':=(bs 18 16383)) (by rfl) (by rfl) (by kernel_rfl) (by kernel_rfl) (by kernel_rfl) (by kernel_rfl) (by kernel_rfl) (by kernel_rfl) (by kernel_rfl) _ _ _ (by rfl) (by rfl) (by rfl) (by rfl) g _ _ (enc z0) (enc x) _ (by first|exact underlying73|exact underlying77) (by rfl) (by rfl) (by rfl) (by rfl) (by rfl) (A0.1.ext Ak.drew |>.read B3.1 hk) (A0.1.ext Ak.drew |>.read Hx.1 hk) (by rw[hk];kernel_rfl) (by rw[hk];kernel_rfl) (Ba.refl _ _).drew (by rfl) ?_;try simp only[ζ]
   refine zv 14 (bs 18 32767) (Ba.refl _ _).drew ?_;have A8:=(A0.1.ext Ak.drew).put (i:=k0) A7.1 hk z0;have B5:=A8.put (i:=k1) (by rw[wO];exact A6.1) hk x;refine Gu (i:=15) (listed':=(bs 18 65535)) (by rfl) (by kernel_rfl) (by rfl) _ _ _ (by rfl) g _ (enc z0) (by rfl) (by rfl) (by rw[hk];exact(A0.1.ext Ak.drew).there A7.1 hk) (by rw[hk];kernel_rfl) (h1 z0) (Ba.setCells_l _ _ (Ba.refl _ _).drew) (by kernel_rfl) ?_
   (try simp only[Act.put])
   refine zv 16 (bs 18 131071) (Ba.setCells_l _ _ (Ba.refl _ _).drew) ?_;refine Gu (i:=17) (listed':=(bs 18 262143)) (by rfl) (by kernel_rfl) (by rfl) _ _ _ (by rfl) g _ (enc x) (by rfl) (by rfl) (by rw[hk];exact A8.there (by rw[wO];exact A6.1) hk) (by rw[hk];kernel_rfl) (h1 x) (Ba.setCells_l _ _ (Ba.setCells_l _ _ (Ba.refl _ _).drew)) (by kernel_rfl) ?_
   (try simp only[Act.put])
   refine wpAnyH_done (by kernel_rfl) ?_ _;have D1:=zH B5;clear A8 B5;generalize (World.setCells _ g _ (enc x))=w3 at*
   go_wp2_with fail;go_roundg (s-(t+1))
   case measure=>omega
   case rel=>exact⟨t+1,k1,hlt,rfl,by have:=HK.1;omega,rfl,by rw[<-HE.1];exact D1.1⟩
  obtain rfl:t=s:=ω;have HR:=zH (show Sw w0 wr g T enc rest (P++(Stb.mrg lt [x] B++S))by rw[HM.1];simpa using hst);have C7:¬(k0:Int)<(im:Int):=by have:=HF.1;have:=HI.1;have:=C4.1;omega
  clear hst;go_wp2_with fail;refine bodyPost_ret (results_none rfl _ _ _) rfl ?_;exact⟨rfl,HR.1⟩
theorem symB_any (t:Bool){α:Type}(enc:α->List Value)(hk:∀x,(enc x).length=(kS t))(h1:∀x,∀v,v∈enc x->v.oneCell'=true)(lt:α->α->Bool)(W:Stb.Wk lt)(w0 w:World)(g cap a m b N:Nat)(T:TypeId)(rest:List Value)(P A S:List α)(y:α)(hc:(∀wr,Ba g w0 wr->∀x y:α,Calls prog (fCm t) #[.agg (enc x).toArray,.agg (enc y).toArray] wr fun e w'=>∃z:Int,e= .returned (iV z)/\(z<0↔lt x y=true)/\Aa wr w'))(hst:Sw w0 w g T enc rest (P++(A++(y::S))))(ha:P.length=a)(hm:a+A.length=m)(hb:m+1=b)(hA1:A.length≠1)(hA:Stb.Srt lt A)(hN:(P++(A++(y::S))).length=N)(hsz:N<=100000):
  Calls prog (fSy t) #[.slice (π g) N cap,iV a,iV m,iV b,.func (.func (fCm t)) #[] #[]] w fun e w'=>e= .returned (.tuple #[])/\Sw w0 w' g T enc rest (P++(Stb.mrg lt A [y]++S)):=by
 let sB:=t
 cases t;all_goals
  (try dsimp only[kS,fCm,fIn,fRo,fSs,fSt,fSw,fSy]at*)
  have A4:P.length+(A.length+(1+S.length))=N:=by rw[<-hN];simp;omega
  obtain⟨d1,C7⟩:∃d1,a+d1=m:=⟨A.length,hm⟩;have e0:(m:Int)-(a:Int)=(d1:Int):=ω
  have E0:((d1:Int)==1)=false:=by simp;omega
  have wd:IntKind.i64.wrap (d1:Int)=(d1:Int):=by rw[IntKind.wrap_i64];omega
  have e1:(b:Int)-(m:Int)=1:=ω;have b1:a<=100000:=ω;have b2:m<=100000:=ω;have b3:b<=100000:=ω;have ba:(m:Int)<(N:Int):=ω;have D3:IntKind.i64.wrap (m:Int)=(m:Int):=by rw[IntKind.wrap_i64];omega
  have C2:(P++(A++(y::S)))[m]?=some y:=by
   rw[wJ ω,wJ ω,show m-P.length-A.length=0 by omega];rfl
  have gz:∀t z,A[t]?=some z->(P++(A++(y::S)))[a+t]?=some z:=fun t z h=>by
   have h2:=Pf P A (y::S) t (List.getElem?_eq_some_iff.1 h).1;rw[show P.length+t=a+t by omega,h]at h2;exact h2
  have HC:=zH hc;have A5:=zH hst;have C9:=zH gz;have Hy:=zH C2;have HF:=zH (And.intro ha (And.intro hm (And.intro hb A4)));have HN:=zH hN;have D0:=zH hA;have D9:a+A.length=m:=hm;have D6:m<N:=ω
  clear hst hc ha hm hb hN A4 gz C2 hA C7;first|go_enter func165,ntmps165|go_enter func167,ntmps167
  go_wp2_with fail;go_loopg [14,15] A.length (fun c u v wr=>∃s e i j:Nat,s<=e/\e<=A.length/\c=e-s/\i=a+s/\j=a+e/\u= iV i/\v= iV j/\(s=0\/∃z,A[s-1]?=some z/\lt y z=false)/\(A.length<=e\/∃z,A[e]?=some z/\lt y z=true)/\Sw w0 wr g T enc rest (P++(A++(y::S))))
  case atStart=>exact⟨0,A.length,a,m,wM _,Bz _,ω,rfl,ω,rfl,rfl,Or.inl rfl,Or.inl (Bz _),A5.1⟩
  clear A5;obtain⟨s,e,i,j,D7,B8,rfl,hi,hj,rfl,rfl,C1,C0,hst⟩:=hrel;have A0:=zH hst;have HI:=zH (And.intro hi hj);have H1:=zH C1;have H2:=zH C0;have bi:i<=100000:=ω
  have bj:j<=100000:=ω;clear hst C1 C0;by_cases hlt0:s<e
  ·have C6:(i:Int)<(j:Int):=ω
   obtain⟨ss,C4⟩:∃ss,ss=i+j:=⟨_,rfl⟩;obtain⟨h,hh⟩:∃h,h=ss/2:=⟨_,rfl⟩;have e3:(i:Int)+(j:Int)=(ss:Int):=ω
   obtain⟨c,B2⟩:∃c,h=a+c:=⟨h-a,ω⟩;have B9:s<=c/\c<e:=ω
   have wu:IntKind.u64.wrap (ss:Int)=(ss:Int):=by rw[IntKind.wrap_u64];omega
   have ws:IntKind.i64.wrap (ss:Int)=(ss:Int):=by rw[IntKind.wrap_i64];omega
   have wh:IntKind.i64.wrap (h:Int)=(h:Int):=by rw[IntKind.wrap_i64];omega
   have D1:IntKind.u64.wrap (h:Int)=(h:Int):=by rw[IntKind.wrap_u64];omega
   have e2:(ss:Int)/2=(h:Int):=ω;have bh:(h:Int)<(N:Int):=ω;obtain⟨z0,A1⟩:∃z,A[c]?=some z:=⟨_,wC ω⟩;have B3:=zH (show(P++(A++(y::S)))[h]?=some z0 by rw[B2];exact C9.1 c z0 A1);have C3:=zH A1;have HH:=zH (And.intro B2 B9);clear A1 B2 B9 C4 hh hi hj;generalize hrow:P++(A++(y::S))=row at*
   clear hrow;go_upto_region 17 with fail;refine wp_region_held_drew (S:=fun x=>Aa wr x) (by kernel_rfl) Ak.drew (fun _=> ?_);refine zv 0 (bs 12 1) Ak.drew ?_;refine zv 1 (bs 12 3) Ak.drew ?_;refine zv 2 (bs 12 7) Ak.drew ?_;refine zv 3 (bs 12 15) Ak.drew ?_;refine Fg (i:=4) (listed':=(bs 12 31)) (by rfl) (by kernel_rfl) (by kernel_rfl) (by kernel_rfl) _ _ (by rfl) g _ (enc y) _ (by intro _ _ _ h;exact h) (by rfl) (by rfl) (fun w1 hw1=>(A0.1.ext hw1).read Hy.1 hk) (by first|exact underlying73|exact underlying77) (by rfl) (by rw[hk];kernel_rfl) Ak.drew (by kernel_rfl) ?_;try simp only[ζ]
   refine zv 5 (bs 12 63) Ak.drew ?_;refine zv 6 (bs 12 127) Ak.drew ?_;refine zv 7 (bs 12 255) Ak.drew ?_;refine Fg (i:=8) (listed':=(bs 12 511)) (by rfl) (by kernel_rfl) (by kernel_rfl) (by kernel_rfl) _ _ (by rfl) g _ (enc z0) _ (by intro _ _ _ h;exact h) (by rfl) (by rfl) (fun w1 hw1=>(A0.1.ext hw1).read B3.1 hk) (by first|exact underlying73|exact underlying77) (by rfl) (by rw[hk];kernel_rfl) Ak.drew (by kernel_rfl) ?_;try simp only[ζ]
   refine mC 9 (bs 12 1023) (HC.1 _ ((A0.1.ext Ak.drew).own) y z0) ?_;rintro e w2 ⟨z,rfl,hz,B6⟩;have A2:=zH (show Aa wr w2 from Ak.drew.trans B6);clear B6;refine⟨_,rfl,A2.1,?_⟩;try simp only[ζ]
   by_cases hlt:lt y z0=true
   ·have B4:=zH hlt
    have A3:z<0:=hz.2 hlt;have A9:decide (z<0)=true:=by simpa using A3
    clear hz;refine zv 10 (bs 12 2047) A2.1 ?_;refine zv 11 (bs 12 4095) A2.1 ?_;refine wpAnyH_done (by kernel_rfl) ?_ _;clear hlt A3 A9;have A0:=zH (A0.1.ext A2.1);go_wp2_with fail
    go_roundg (c-s)
    case measure=>have:=HH.1;omega
    case rel=>exact⟨s,c,i,h,by have:=HH.1;omega,by have:=HH.1;omega,rfl,HI.1.1,by have:=HH.1;omega,rfl,rfl,H1.1,Or.inr ⟨z0,C3.1,B4.1⟩,A0.1⟩
   have B4:=zH (eq_false_of_ne_true hlt);have A3:¬z<0:=fun h=>hlt (hz.1 h)
   have A9:decide (z<0)=false:=by simpa using A3
   clear hz;refine zv 10 (bs 12 2047) A2.1 ?_;refine zv 11 (bs 12 4095) A2.1 ?_;refine wpAnyH_done (by kernel_rfl) ?_ _;clear hlt A3 A9;have A0:=zH (A0.1.ext A2.1);go_wp2_with fail
   go_roundg (e-(c+1))
   case measure=>have:=HH.1;omega
   case rel=>exact⟨c+1,e,h+1,j,by have:=HH.1;omega,B8,rfl,by have:=HH.1;omega,HI.1.2,by go_num,rfl,Or.inr ⟨z0,C3.1,B4.1⟩,H2.1,A0.1⟩
  obtain rfl:s=e:=ω;have C6:¬(i:Int)<(j:Int):=ω;have HM:=zH (Stb.one_right W D0.1 H1.1 H2.1);clear hi hj Hy;go_wp2_with fail;go_loopg [17] (A.length-s) (fun c v wr=>∃t k:Nat,s<=t/\t<=A.length/\c=t-s/\k=a+t/\v= iV k/\Sw w0 wr g T enc rest (P++(A.take t++y::(A.drop t++S))))
  case atStart=>exact⟨A.length,m,B8,Bz _,ω,ω,rfl,by simpa using A0.1⟩
  clear A0;obtain⟨t,k0,D4,D5,rfl,B7,rfl,hst⟩:=hrel;by_cases hlt:s<t
  ·have hF:=HF.1
   have hI:=HI.1;have C5:(i:Int)<(k0:Int):=ω
   obtain⟨k1,B1⟩:∃k1,k1+1=k0:=⟨k0-1,ω⟩;have e5:(k0:Int)-1=(k1:Int):=ω
   have wk:IntKind.i64.wrap (k1:Int)=(k1:Int):=by rw[IntKind.wrap_i64];omega
   have D2:IntKind.i64.wrap (k0:Int)=(k0:Int):=by rw[IntKind.wrap_i64];omega
   have E1:(k1:Int)<(N:Int):=ω;have E2:(k0:Int)<(N:Int):=ω;obtain⟨q,hq⟩:∃q,q+1=t:=⟨t-1,ω⟩;have B0:=Me P A S y q ω;rw[show P.length+q=k1 by omega,B1,hq]at B0;have D8:(P++(A.take t++y::(A.drop t++S))).length=N:=by simp;omega
   have gx:(P++(A.take t++y::(A.drop t++S)))[k0]?=some y:=by
    rw[wJ ω,wJ (by rw[wK];omega),wK,show k0-P.length-min t A.length=0 by omega];rfl
   obtain⟨z0,A1⟩:∃z,(P++(A.take t++y::(A.drop t++S)))[k1]?=some z:=⟨_,wC ω⟩;have HE:=zH ((Lh gx A1).symm.trans B0);have Hy:=zH gx;have B3:=zH A1;have A7:=zH (List.getElem?_eq_some_iff.1 gx).1;have A6:=zH (List.getElem?_eq_some_iff.1 A1).1;have A0:=zH hst;generalize P++(A.take t++y::(A.drop t++S))=row at*
   have HK:=zH (And.intro B7 (And.intro B1 hq));clear gx A1 B0 hst hF hI B7 B1 hq;go_upto_region 23 with fail;refine wp_region_held_drew (S:=fun x=>Ba g wr x) (by kernel_rfl) (Ba.refl _ _).drew (fun _=> ?_);refine zv 0 (bs 18 1) (Ba.refl _ _).drew ?_;refine zv 1 (bs 18 3) (Ba.refl _ _).drew ?_;refine zv 2 (bs 18 7) (Ba.refl _ _).drew ?_;refine zv 3 (bs 18 15) (Ba.refl _ _).drew ?_;refine zv 4 (bs 18 31) (Ba.refl _ _).drew ?_;refine zv 5 (bs 18 63) (Ba.refl _ _).drew ?_;refine zv 6 (bs 18 127) (Ba.refl _ _).drew ?_;refine zv 7 (bs 18 255) (Ba.refl _ _).drew ?_;refine zv 8 (bs 18 511) (Ba.refl _ _).drew ?_;refine zv 10 (bs 18 1535) (Ba.refl _ _).drew ?_;refine zv 11 (bs 18 3583) (Ba.refl _ _).drew ?_;refine zv 12 (bs 18 7679) (Ba.refl _ _).drew ?_;refine Mj (i:=9) (j:=13) (li:=(bs 18 8191)) (lj:=(bs 18 15871)) (listed':=(bs 18 16383)) (by rfl) (by rfl) (by kernel_rfl) (by kernel_rfl) (by kernel_rfl) (by kernel_rfl) (by kernel_rfl) (by kernel_rfl) (by kernel_rfl) _ _ _ (by rfl) (by rfl) (by rfl) (by rfl) g _ _ (enc z0) (enc y) _ (by first|exact underlying73|exact underlying77) (by rfl) (by rfl) (by rfl) (by rfl) (by rfl) (A0.1.ext Ak.drew |>.read B3.1 hk) (A0.1.ext Ak.drew |>.read Hy.1 hk) (by rw[hk];kernel_rfl) (by rw[hk];kernel_rfl) (Ba.refl _ _).drew (by rfl) ?_;try simp only[ζ]
   refine zv 14 (bs 18 32767) (Ba.refl _ _).drew ?_;have A8:=(A0.1.ext Ak.drew).put (i:=k0) A7.1 hk z0;have B5:=A8.put (i:=k1) (by rw[wO];exact A6.1) hk y;refine Gu (i:=15) (listed':=(bs 18 65535)) (by rfl) (by kernel_rfl) (by rfl) _ _ _ (by rfl) g _ (enc z0) (by rfl) (by rfl) (by rw[hk];exact(A0.1.ext Ak.drew).there A7.1 hk) (by rw[hk];kernel_rfl) (h1 z0) (Ba.setCells_l _ _ (Ba.refl _ _).drew) (by kernel_rfl) ?_
   (try simp only[Act.put])
   refine zv 16 (bs 18 131071) (Ba.setCells_l _ _ (Ba.refl _ _).drew) ?_;refine Gu (i:=17) (listed':=(bs 18 262143)) (by rfl) (by kernel_rfl) (by rfl) _ _ _ (by rfl) g _ (enc y) (by rfl) (by rfl) (by rw[hk];exact A8.there (by rw[wO];exact A6.1) hk) (by rw[hk];kernel_rfl) (h1 y) (Ba.setCells_l _ _ (Ba.setCells_l _ _ (Ba.refl _ _).drew)) (by kernel_rfl) ?_
   (try simp only[Act.put])
   refine wpAnyH_done (by kernel_rfl) ?_ _;have C8:=zH B5;clear A8 B5;generalize (World.setCells _ g _ (enc y))=w3 at*
   go_wp2_with fail;go_roundg (q-s)
   case measure=>have:=HK.1;omega
   case rel=>exact⟨q,k1,by have:=HK.1;omega,by have:=HK.1;omega,rfl,by have:=HK.1;omega,rfl,by rw[<-HE.1];exact C8.1⟩
  obtain rfl:t=s:=ω;have HR:=zH (show Sw w0 wr g T enc rest (P++(Stb.mrg lt A [y]++S))by rw[HM.1];simpa using hst);have C5:¬(i:Int)<(k0:Int):=by have:=HI.1;omega
  clear hst;go_wp2_with fail;refine bodyPost_ret (results_none rfl _ _ _) rfl ?_;exact⟨rfl,HR.1⟩
theorem symC_any (t:Bool){α:Type}(enc:α->List Value)(hk:∀x,(enc x).length=(kS t))(h1:∀x,∀v,v∈enc x->v.oneCell'=true)(lt:α->α->Bool)(W:Stb.Wk lt)(w0 w:World)(g cap a m b N:Nat)(T:TypeId)(rest:List Value)(P A B S:List α)(hc:(∀wr,Ba g w0 wr->∀x y:α,Calls prog (fCm t) #[.agg (enc x).toArray,.agg (enc y).toArray] wr fun e w'=>∃z:Int,e= .returned (iV z)/\(z<0↔lt x y=true)/\Aa wr w'))(ih:(∀(P' A' B' S':List α) (a m b:Nat) (wr:World),A'≠ []->B'≠ []->A'.length+B'.length<A.length+B.length->Sw w0 wr g T enc rest (P'++(A'++(B'++S')))->P'.length=a->a+A'.length=m->m+B'.length=b->Stb.Srt lt A'->Stb.Srt lt B'->(P'++(A'++(B'++S'))).length=N->Calls prog (fSy t) #[.slice (π g) N cap,iV a,iV m,iV b,.func (.func (fCm t)) #[] #[]] wr fun e w'=>e= .returned (.tuple #[])/\Sw w0 w' g T enc rest (P'++(Stb.mrg lt A' B'++S'))))(hst:Sw w0 w g T enc rest (P++(A++(B++S))))(ha:P.length=a)(hm:a+A.length=m)(hb:m+B.length=b)(hA0:A≠ [])(hB0:B≠ [])(hA1:A.length≠1)(hB1:B.length≠1)(hA:Stb.Srt lt A)(hB:Stb.Srt lt B)(hN:(P++(A++(B++S))).length=N)(hsz:N<=100000):
  Calls prog (fSy t) #[.slice (π g) N cap,iV a,iV m,iV b,.func (.func (fCm t)) #[] #[]] w fun e w'=>e= .returned (.tuple #[])/\Sw w0 w' g T enc rest (P++(Stb.mrg lt A B++S)):=by
 let sB:=t
 cases t;all_goals
  (try dsimp only[kS,fCm,fIn,fRo,fSs,fSt,fSw,fSy]at*)
  have C1:P.length+(A.length+(B.length+S.length))=N:=by rw[<-hN];simp
  have E3:2<=A.length:=by have:A.length≠0:=fun h=>hA0 (wP h);omega
  have E1:2<=B.length:=by have:B.length≠0:=fun h=>hB0 (wP h);omega
  have e0:(m:Int)-(a:Int)=(A.length:Int):=ω;have e1:(b:Int)-(m:Int)=(B.length:Int):=ω;have G5:((A.length:Int)==1)=false:=by simp;omega
  have G4:((B.length:Int)==1)=false:=by simp;omega
  have wA:IntKind.i64.wrap (A.length:Int)=(A.length:Int):=by rw[IntKind.wrap_i64];omega
  have wB:IntKind.i64.wrap (B.length:Int)=(B.length:Int):=by rw[IntKind.wrap_i64];omega
  have b1:a<=100000:=ω;have b2:m<=100000:=ω;have b3:b<=100000:=ω;obtain⟨ss,D7⟩:∃ss,ss=a+b:=⟨_,rfl⟩;obtain⟨A3,B9⟩:∃A3,A3=ss/2:=⟨_,rfl⟩;obtain⟨M,hM⟩:∃M,a+M=A3:=⟨A3-a,ω⟩;obtain⟨n,hn⟩:∃n,n=A3+m:=⟨_,rfl⟩;obtain⟨p,hp⟩:∃p,p+1=n:=⟨n-1,ω⟩;have e3:(a:Int)+(b:Int)=(ss:Int):=ω
  have wu:IntKind.u64.wrap (ss:Int)=(ss:Int):=by rw[IntKind.wrap_u64];omega
  have ws:IntKind.i64.wrap (ss:Int)=(ss:Int):=by rw[IntKind.wrap_i64];omega
  have wh:IntKind.i64.wrap (A3:Int)=(A3:Int):=by rw[IntKind.wrap_i64];omega
  have G0:IntKind.u64.wrap (A3:Int)=(A3:Int):=by rw[IntKind.wrap_u64];omega
  have e2:(ss:Int)/2=(A3:Int):=ω;have e4:(A3:Int)+(m:Int)=(n:Int):=ω;have wn:IntKind.i64.wrap (n:Int)=(n:Int):=by rw[IntKind.wrap_i64];omega
  have e5:(n:Int)-1=(p:Int):=ω;have wp:IntKind.i64.wrap (p:Int)=(p:Int):=by rw[IntKind.wrap_i64];omega
  have HC:=zH hc;have F1:=zH ih;have C5:=zH hst;have HF:=zH (show nN P.length A.length B.length S.length a m b N ss A3 M n p from⟨ha,hm,hb,C1,E3,E1,D7,B9,hM,hn,hp⟩);have HN:=zH hN;have HS:=zH (And.intro hA hB);clear hst hc ih ha hm hb hN C1 hA hB hA0 hB0 hA1 hB1 E3 E1 D7 B9 hM hn hp;first|go_enter func165,ntmps165|go_enter func167,ntmps167
  go_upto_if 140 with fail
  go_cut [20,21] (fun u v wx=>∃lo hi st r0:Nat,st=a+lo/\r0=a+hi/\u= iV st/\v= iV r0/\lo<=hi/\hi<=A.length/\hi<=M/\M<=lo+B.length/\(lo=0\/lo+B.length<=M)/\(A.length<=hi\/M<=hi)/\wx=w)
  case first=>as_aux_lemma=>
   by_cases hmm:A3<m
   ·have h2:(A3:Int)<(m:Int):=ω
    obtain⟨st,lo,k0,k9,k⟩:=nZ hsz HF.1 hmm;have e6:(n:Int)-(b:Int)=(st:Int):=ω
    have G1:IntKind.i64.wrap (st:Int)=(st:Int):=by rw[IntKind.wrap_i64];omega
    have HK:=zH k;clear k k0 hmm;go_wp2_with fail;go_meet
    obtain⟨k1,k2,k3,k4,k5⟩:=HK.1;exact⟨lo,M,st,A3,k1,k3,rfl,rfl,k4,k5,Bz _,xF k2.symm,Or.inr (xF k2),Or.inr (Bz _),rfl⟩
   have h2:¬(A3:Int)<(m:Int):=ω;have HK:=zH (nW HF.1 hmm);clear hmm;go_wp2_with fail;go_meet
   obtain⟨k1,k2,k3⟩:=HK.1;exact⟨0,A.length,a,m,rfl,k3,rfl,rfl,wM _,Bz _,k1,by rw[wH];exact k2,Or.inl rfl,Or.inl (Bz _),rfl⟩
  obtain⟨lo,hi,st,r0,hst,D8,rfl,rfl,g1,g2,g3,g4,g5,g6,rfl⟩:=hcut;have HG:=zH (show tT A.length B.length a M lo hi st r0 from⟨hst,D8,g1,g2,g3,g4⟩);have F2:=zH (And.intro g5 g6);clear hst D8 g1 g2 g3 g4 g5 g6;go_wp2_with fail
  go_loopg [20,21] (hi-lo) (fun c u v wr=>∃s e i j:Nat,lo<=s/\s<=e/\e<=hi/\c=e-s/\i=a+s/\j=a+e/\u= iV i/\v= iV j/\(s=lo\/∃x y,A[s-1]?=some x/\B[M-s]?=some y/\lt y x=false)/\(e=hi\/∃x y,A[e]?=some x/\B[M-e-1]?=some y/\lt y x=true)/\Sw w0 wr g T enc rest (P++(A++(B++S))))
  case atStart=>exact⟨lo,hi,st,r0,Bz _,HG.1.2.2.1,Bz _,rfl,HG.1.1,HG.1.2.1,rfl,rfl,Or.inl rfl,Or.inl rfl,C5.1⟩
  case round=>as_aux_lemma=>
   clear C5;obtain⟨s,e,i,j,C0,F3,C3,rfl,C2,C6,rfl,rfl,E5,E4,hst⟩:=hrel;have A5:=zH hst;have HI:=zH (And.intro C2 (And.intro C6 (And.intro C0 C3)));have H1:=zH E5;have H2:=zH E4;clear hst E5 E4;by_cases hlt0:s<e
   ·obtain⟨sq,h,c,ph,⟨k1,k2,k3,k4,k5,k6,k7,k8,k9⟩,D9,q1,q2,q3,q4⟩:=rS hsz HF.1 HG.1 C0 C3 C2 C6 hlt0
    have F4:(i:Int)<(j:Int):=ω;have f3:(i:Int)+(j:Int)=(sq:Int):=ω;have fu:IntKind.u64.wrap (sq:Int)=(sq:Int):=by rw[IntKind.wrap_u64];omega
    have fs:IntKind.i64.wrap (sq:Int)=(sq:Int):=by rw[IntKind.wrap_i64];omega
    have fh:IntKind.i64.wrap (h:Int)=(h:Int):=by rw[IntKind.wrap_i64];omega
    have G3:IntKind.u64.wrap (h:Int)=(h:Int):=by rw[IntKind.wrap_u64];omega
    have f2:(sq:Int)/2=(h:Int):=ω;have f4:(p:Int)-(h:Int)=(ph:Int):=ω;have fp:IntKind.i64.wrap (ph:Int)=(ph:Int):=by rw[IntKind.wrap_i64];omega
    have bh:(h:Int)<(N:Int):=ω;have bp:(ph:Int)<(N:Int):=ω;have bi:i<=100000:=k8;obtain⟨x0,D4⟩:∃z,A[c]?=some z:=⟨_,wC q1⟩;obtain⟨y0,D3⟩:∃z,B[M-c-1]?=some z:=⟨_,wC q2⟩;have F6:=zH (show(P++(A++(B++S)))[h]?=some x0 by
     have q:=Pf P A (B++S) c q1;rw[q3,D4]at q;exact q)
    have F5:=zH (show(P++(A++(B++S)))[ph]?=some y0 by
     have q:=Pf (P++A) B S (M-c-1) q2;rw[wD,q4,D3]at q;simpa using q)
    have E7:=zH D4;have E6:=zH D3;have HH:=zH D9;clear D4 D3 D9 C2 C6 k1 k2 k3 k4 q1 q2 q3 q4;generalize hrow:P++(A++(B++S))=row at*
    clear hrow;go_upto_region 35 with fail;refine wp_region_held_drew (S:=fun x=>Aa wr x) (by kernel_rfl) Ak.drew (fun _=> ?_);refine zv 0 (bs 14 1) Ak.drew ?_;refine zv 1 (bs 14 3) Ak.drew ?_;refine zv 2 (bs 14 7) Ak.drew ?_;refine zv 3 (bs 14 15) Ak.drew ?_;refine zv 4 (bs 14 31) Ak.drew ?_;refine zv 5 (bs 14 63) Ak.drew ?_;refine Fg (i:=6) (listed':=(bs 14 127)) (by rfl) (by kernel_rfl) (by kernel_rfl) (by kernel_rfl) _ _ (by rfl) g _ (enc y0) _ (by intro _ _ _ h;exact h) (by rfl) (by rfl) (fun w1 hw1=>(A5.1.ext hw1).read F5.1 hk) (by first|exact underlying73|exact underlying77) (by rfl) (by rw[hk];kernel_rfl) Ak.drew (by kernel_rfl) ?_;try simp only[ζ]
    refine zv 7 (bs 14 255) Ak.drew ?_;refine zv 8 (bs 14 511) Ak.drew ?_;refine zv 9 (bs 14 1023) Ak.drew ?_;refine Fg (i:=10) (listed':=(bs 14 2047)) (by rfl) (by kernel_rfl) (by kernel_rfl) (by kernel_rfl) _ _ (by rfl) g _ (enc x0) _ (by intro _ _ _ h;exact h) (by rfl) (by rfl) (fun w1 hw1=>(A5.1.ext hw1).read F6.1 hk) (by first|exact underlying73|exact underlying77) (by rfl) (by rw[hk];kernel_rfl) Ak.drew (by kernel_rfl) ?_;try simp only[ζ]
    refine mC 11 (bs 14 4095) (HC.1 _ ((A5.1.ext Ak.drew).own) y0 x0) ?_;rintro e w2 ⟨z,rfl,hz,D6⟩;have A7:=zH (show Aa wr w2 from Ak.drew.trans D6);clear D6;refine⟨_,rfl,A7.1,?_⟩;try simp only[ζ]
    by_cases hlt:lt y0 x0=true
    ·as_aux_lemma=>
     have B0:=zH hlt;have B7:z<0:=hz.2 hlt;have D2:decide (z<0)=true:=by simpa using B7
     clear hz;refine zv 12 (bs 14 8191) A7.1 ?_;refine zv 13 (bs 14 16383) A7.1 ?_;refine wpAnyH_done (by kernel_rfl) ?_ _;clear hlt B7 D2;have A5:=zH (A5.1.ext A7.1);go_wp2_with fail
     go_roundg (c-s)
     case measure=>have:=HH.1;omega
     case rel=>exact⟨s,c,i,h,C0,by have:=HH.1;omega,by have:=HH.1;omega,rfl,HI.1.1,by have:=HH.1;omega,rfl,rfl,H1.1,Or.inr ⟨x0,y0,E7.1,E6.1,B0.1⟩,A5.1⟩
    as_aux_lemma=>
    have B0:=zH (eq_false_of_ne_true hlt);have B7:¬z<0:=fun h=>hlt (hz.1 h)
    have D2:decide (z<0)=false:=by simpa using B7
    clear hz;refine zv 12 (bs 14 8191) A7.1 ?_;refine zv 13 (bs 14 16383) A7.1 ?_;refine wpAnyH_done (by kernel_rfl) ?_ _;clear hlt B7 D2;have A5:=zH (A5.1.ext A7.1);go_wp2_with fail
    go_roundg (e-(c+1))
    case measure=>have:=HH.1;omega
    case rel=>exact⟨c+1,e,h+1,j,by have:=HH.1;omega,by have:=HH.1;omega,C3,rfl,by have:=HH.1;omega,HI.1.2.1,by go_num,rfl,Or.inr ⟨x0,y0,E7.1,by rw[show M-(c+1)=M-c-1 by omega];exact E6.1,B0.1⟩,H2.1,A5.1⟩
   as_aux_lemma=>
   obtain rfl:s=e:=ω;have F4:¬(i:Int)<(j:Int):=ω;obtain⟨r,en,⟨k1,k2,k3,k4,k5⟩,B5,B6,D5,B4,B3⟩:=nV hsz HF.1 HG.1 C0 C3 C2;have HM:=zH (Stb.sym_split (lt:=lt) (s:=s) (r:=r) W HS.1.1 HS.1.2 (by
    rcases H1.1 with h|⟨x,y,q1,q2,q3⟩
    ·rcases F2.1.1 with q|q
     ·exact Or.inl (ω)
     exact Or.inr (Or.inl ω)
    ·exact Or.inr (Or.inr ⟨x,y,q1,by rw[show r=M-s by omega];exact q2,q3⟩)) (by
    rcases H2.1 with h|⟨x,y,q1,q2,q3⟩
    ·rcases F2.1.2 with q|q
     ·exact Or.inr (Or.inl ω)
     exact Or.inl (ω)
    exact Or.inr (Or.inr ⟨x,y,q1,by rw[show r-1=M-s-1 by omega];exact q2,q3⟩)))
   have e6:(n:Int)-(i:Int)=(en:Int):=ω;have G2:IntKind.i64.wrap (en:Int)=(en:Int):=by rw[IntKind.wrap_i64];omega
   have E2:A.take s++A.drop s=A:=List.take_append_drop s A;have E0:B.take r++B.drop r=B:=List.take_append_drop r B;have D1:(A.take s).length=s:=by rw[wK];exact Nat.min_eq_left k4
   have D0:(A.drop s).length=A.length-s:=List.length_drop;have C9:(B.take r).length=r:=by rw[wK];exact Nat.min_eq_left k3
   have C8:(B.drop r).length=B.length-r:=List.length_drop;have A0:=zH (And.intro D1 (And.intro D0 (And.intro C9 C8)));have F0:=zH B5;have A4:=zH B6;have A6:=zH D5;have B0:=zH (And.intro B4 B3);have A9:=zH (show Sw w0 wr g T enc rest ((P++A.take s)++(A.drop s++(B.take r++(B.drop r++S))))by
    have h:=A5.1;rw[<-E2,<-E0]at h;simpa only[wN]using h)
   have F7:=zH (show((P++A.take s)++(A.drop s++(B.take r++(B.drop r++S)))).length=N by simp only[wD,D1,D0,C9,C8];omega);have C7:=zH (And.intro (Stb.srt_take HS.1.1 s) (And.intro (Stb.srt_drop HS.1.1 s) (And.intro (Stb.srt_take HS.1.2 r) (Stb.srt_drop HS.1.2 r))));have F9:=zH (Stb.mrg_take_nil (lt:=lt) (A:=A) (B:=B) (s:=s) (r:=r));have F8:=zH (Stb.mrg_drop_nil (lt:=lt) (A:=A) (B:=B) (s:=s) (r:=r));clear A5 C2 C6 E2 E0 D1 D0 C9 C8 H1 H2 B5 B6 D5 B4 B3 k1 k2 k3 k4 C0 C3 F3;generalize A.take s=A1 at*
   generalize A.drop s=A2 at*;generalize B.take r=B1 at*;generalize B.drop r=B2 at*;go_upto_region 39 with fail;go_cut [185] (fun u wx=>u= .bool (decide (s<A.length/\0<r))/\wx=wr)
   case first=>as_aux_lemma=>
    by_cases c:s<A.length
    ·have c2:(i:Int)<(m:Int):=Int.ofNat_lt.2 (A4.1.1.2 c)
     by_cases d:0<r
     ·have c3:(m:Int)<(en:Int):=Int.ofNat_lt.2 (A4.1.2.1.2 d)
      go_wp2_with fail;go_meet
      exact⟨by simp[c,d],rfl⟩
     have c3:¬(m:Int)<(en:Int):=fun h=>d (A4.1.2.1.1 (Int.ofNat_lt.1 h))
     go_wp2_with fail;go_meet
     exact⟨by simp[d],rfl⟩
    have c2:¬(i:Int)<(m:Int):=fun h=>c (A4.1.1.1 (Int.ofNat_lt.1 h))
    have c4:decide ((i:Int)<(m:Int))=false:=decide_eq_false c2;go_wp2_with fail;go_meet
    exact⟨by simp[c],rfl⟩
   obtain⟨rfl,rfl⟩:=hcut;go_upto_if 185 with fail
   go_cut [] (fun wx=>Sw w0 wx g T enc rest (P++(A1++(B1++(A2++(B2++S))))))
   case first=>as_aux_lemma=>
    by_cases c1:s<A.length/\0<r
    ·have cb:decide (s<A.length/\0<r)=true:=decide_eq_true c1
     have HR:=zH (rotate_any sB enc hk h1 w0 wc g cap i m en N T rest (P++A1) A2 B1 (B2++S) (.func (.func (fCm sB)) #[] #[]) A9.1 (by rw[wD,A0.1.1];exact A6.1.1) (by rw[A0.1.2.1];exact A6.1.2.1) (by rw[A0.1.2.2.1];exact A6.1.2.2.1) (Fj (by rw[A0.1.2.1];omega)) (Fj (by rw[A0.1.2.2.1];exact c1.2)) F7.1 hsz);generalize decide (s<A.length/\0<r)=bb at*;subst cb;go_wp2_with ((first|go_at_call 186|go_at_call 187);refine HR.1.mono ?_;rintro e w2 ⟨rfl,B8⟩)
     go_meet
     simpa only[wN]using B8
    have cb:decide (s<A.length/\0<r)=false:=decide_eq_false c1;have HE:=zH (show(P++A1)++(A2++(B1++(B2++S)))=P++(A1++(B1++(A2++(B2++S))))by
     by_cases c:s<A.length
     ·have:B1=[]:=wP (by rw[A0.1.2.2.1];omega)
      rw[this];simp
     have:A2=[]:=wP (by rw[A0.1.2.1];omega);rw[this];simp)
    generalize decide (s<A.length/\0<r)=bb at*;subst cb;go_wp2_with fail;go_meet
    rw[<-HE.1];exact A9.1
   have A8:=zH hcut;clear hcut A9;go_upto_region 41 with fail;go_cut [199] (fun u wx=>u= .bool (decide (0<s/\0<r))/\wx=wc)
   case first=>as_aux_lemma=>
    by_cases c:0<s
    ·have c2:(a:Int)<(i:Int):=Int.ofNat_lt.2 (A4.1.2.2.1.2 c)
     by_cases d:0<r
     ·have c3:(i:Int)<(A3:Int):=Int.ofNat_lt.2 (A4.1.2.2.2.1.2 d)
      go_wp2_with fail;go_meet
      exact⟨by simp[c,d],rfl⟩
     have c3:¬(i:Int)<(A3:Int):=fun h=>d (A4.1.2.2.2.1.1 (Int.ofNat_lt.1 h))
     go_wp2_with fail;go_meet
     exact⟨by simp[d],rfl⟩
    have c2:¬(a:Int)<(i:Int):=fun h=>c (A4.1.2.2.1.1 (Int.ofNat_lt.1 h))
    have c4:decide ((a:Int)<(i:Int))=false:=decide_eq_false c2;go_wp2_with fail;go_meet
    exact⟨by simp[c],rfl⟩
   obtain⟨rfl,rfl⟩:=hcut;go_upto_if 199 with fail
   go_cut [] (fun wx=>Sw w0 wx g T enc rest (P++(Stb.mrg lt A1 B1++(A2++(B2++S)))))
   case first=>as_aux_lemma=>
    by_cases c1:0<s/\0<r
    ·have cb:decide (0<s/\0<r)=true:=decide_eq_true c1
     have HR:=zH (F1.1 P A1 B1 (A2++(B2++S)) a i A3 wc (Fj (by rw[A0.1.1];exact c1.1)) (Fj (by rw[A0.1.2.2.1];exact c1.2)) (by rw[A0.1.1,A0.1.2.2.1];exact B0.1.1) A8.1 A6.1.2.2.2.2.2.2.2.2 (by rw[A0.1.1];exact A6.1.2.2.2.1) (by rw[A0.1.2.2.1];exact A6.1.2.2.2.2.1) C7.1.1 C7.1.2.2.1 (by simp only[wD,A0.1.1,A0.1.2.1,A0.1.2.2.1,A0.1.2.2.2];exact F0.1));generalize decide (0<s/\0<r)=bb at*;subst cb;go_wp2_with ((first|go_at_call 165|go_at_call 167);refine HR.1.mono ?_;rintro e w2 ⟨rfl,B8⟩)
     go_meet
     exact B8
    have cb:decide (0<s/\0<r)=false:=decide_eq_false c1;have HE:=zH (F9.1 c1);generalize decide (0<s/\0<r)=bb at*
    subst cb;go_wp2_with fail;go_meet
    rw[HE.1];have h:=A8.1;simpa only[wN]using h
   have C4:=zH hcut;clear hcut A8;have E9:=zH (Stb.mrg_len (lt:=lt) A1 B1);have E8:=zH (show P++(Stb.mrg lt A1 B1++(Stb.mrg lt A2 B2++S))=P++(Stb.mrg lt A B++S)by rw[HM.1,wN]);go_upto_region 43 with fail
   go_cut [213] (fun u wx=>u= .bool (decide (s<A.length/\r<B.length))/\wx=wc)
   case first=>as_aux_lemma=>
    by_cases c:s<A.length
    ·have c2:(A3:Int)<(en:Int):=Int.ofNat_lt.2 (A4.1.2.2.2.2.1.2 c)
     by_cases d:r<B.length
     ·have c3:(en:Int)<(b:Int):=Int.ofNat_lt.2 (A4.1.2.2.2.2.2.2 d)
      go_wp2_with fail;go_meet
      exact⟨by simp[c,d],rfl⟩
     have c3:¬(en:Int)<(b:Int):=fun h=>d (A4.1.2.2.2.2.2.1 (Int.ofNat_lt.1 h))
     go_wp2_with fail;go_meet
     exact⟨by simp[d],rfl⟩
    have c2:¬(A3:Int)<(en:Int):=fun h=>c (A4.1.2.2.2.2.1.1 (Int.ofNat_lt.1 h))
    have c4:decide ((A3:Int)<(en:Int))=false:=decide_eq_false c2;go_wp2_with fail;go_meet
    exact⟨by simp[c],rfl⟩
   obtain⟨rfl,rfl⟩:=hcut;by_cases c1:s<A.length/\r<B.length
   ·have cb:decide (s<A.length/\r<B.length)=true:=decide_eq_true c1
    have HR:=zH (F1.1 (P++Stb.mrg lt A1 B1) A2 B2 S A3 en b wc (Fj (by rw[A0.1.2.1];omega)) (Fj (by rw[A0.1.2.2.2];omega)) (by rw[A0.1.2.1,A0.1.2.2.2];exact B0.1.2) (by rw[wN];exact C4.1) (by rw[wD,E9.1,A0.1.1,A0.1.2.2.1];exact A6.1.2.2.2.2.2.2.2.1) (by rw[A0.1.2.1];exact A6.1.2.2.2.2.2.1) (by rw[A0.1.2.2.2];exact A6.1.2.2.2.2.2.2.1) C7.1.2.1 C7.1.2.2.2 (by have h:=F0.1;simp only[wD,E9.1,A0.1.1,A0.1.2.1,A0.1.2.2.1,A0.1.2.2.2];omega));generalize decide (s<A.length/\r<B.length)=bb at*;subst cb;go_wp2_with ((first|go_at_call 165|go_at_call 167);refine HR.1.mono ?_;rintro e w2 ⟨rfl,B8⟩)
    go_end0
    exact⟨rfl,by rw[<-E8.1,<-wN P];exact B8⟩
   have cb:decide (s<A.length/\r<B.length)=false:=decide_eq_false c1;have HE:=zH (F8.1 c1);generalize decide (s<A.length/\r<B.length)=bb at*
   subst cb;go_wp2_with fail;go_end0
   exact⟨rfl,by rw[<-E8.1,HE.1,wN];exact C4.1⟩
theorem symMerge_any (t:Bool){α:Type}(enc:α->List Value)(hk:∀x,(enc x).length=(kS t))(h1:∀x,∀v,v∈enc x->v.oneCell'=true)(lt:α->α->Bool)(W:Stb.Wk lt)(w0:World)(g cap N:Nat)(T:TypeId)(rest:List Value)(hc:(∀wr,Ba g w0 wr->∀x y:α,Calls prog (fCm t) #[.agg (enc x).toArray,.agg (enc y).toArray] wr fun e w'=>∃z:Int,e= .returned (iV z)/\(z<0↔lt x y=true)/\Aa wr w'))(hsz:N<=100000):
  ∀(n:Nat) (P A B S:List α) (a m b:Nat) (wr:World),A≠ []->B≠ []->A.length+B.length<=n->Sw w0 wr g T enc rest (P++(A++(B++S)))->P.length=a->a+A.length=m->m+B.length=b->Stb.Srt lt A->Stb.Srt lt B->(P++(A++(B++S))).length=N->Calls prog (fSy t) #[.slice (π g) N cap,iV a,iV m,iV b,.func (.func (fCm t)) #[] #[]] wr fun e w'=>e= .returned (.tuple #[])/\Sw w0 w' g T enc rest (P++(Stb.mrg lt A B++S)):=by
 intro n;induction n with
 |zero=>intro P A B S a m b wr hA hB hl;exact absurd (wP ω) hA
 |succ n ih=>
  intro P A B S a m b wr A2 A1 hl A0 ha hm hb hA hB hN;match A,A2 with
  | [x],_=>exact symA_any t enc hk h1 lt W w0 wr g cap a m b N T rest P B S x hc A0 ha hm hb hB hN hsz
  |x::x2::A,A2=>
   match B,A1 with
   | [y],_=>exact symB_any t enc hk h1 lt W w0 wr g cap a m b N T rest P (x::x2::A) S y hc A0 ha hm hb (by simp) hA hN hsz
   |y::y2::B,A1=>
    exact symC_any t enc hk h1 lt W w0 wr g cap a m b N T rest P (x::x2::A) (y::y2::B) S hc (fun P' A' B' S' a' m' b' w' q1 q2 q3 q4 q5 q6 q7 q8 q9 A3=>ih P' A' B' S' a' m' b' w' q1 q2 ω q4 q5 q6 q7 q8 q9 A3) A0 ha hm hb A2 A1 (by simp) (by simp) hA hB hN hsz
theorem stable_any (t:Bool){α:Type}(enc:α->List Value)(hk:∀x,(enc x).length=(kS t))(h1:∀x,∀v,v∈enc x->v.oneCell'=true)(lt:α->α->Bool)(W:Stb.Wk lt)(w0 w:World)(g cap N:Nat)(T:TypeId)(rest:List Value)(xs:List α)(hc:(∀wr,Ba g w0 wr->∀x y:α,Calls prog (fCm t) #[.agg (enc x).toArray,.agg (enc y).toArray] wr fun e w'=>∃z:Int,e= .returned (iV z)/\(z<0↔lt x y=true)/\Aa wr w'))(hst:Sw w0 w g T enc rest xs)(hN:xs.length=N)(hsz:N<=20000):
  Calls prog (fSt t) #[.slice (π g) N cap,iV N,.func (.func (fCm t)) #[] #[]] w fun e w'=>e= .returned (.tuple #[])/\Sw w0 w' g T enc rest (Stb.stab lt xs):=by
 let sB:=t
 cases t;all_goals
  (try dsimp only[kS,fCm,fIn,fRo,fSs,fSt,fSw,fSy]at*)
  have HC:=zH hc;have B0:=zH hst;have HN:=zH hN;clear hst hc hN;first|go_enter func133,ntmps133|go_enter func134,ntmps134
  go_wp2_with fail;go_loopg [7,8] (N+20) (fun c u v wr=>∃(a b:Nat) (row:List α),b=a+20/\a<=N/\c=N+20-a/\u= iV a/\v= iV b/\Stb.Fst lt 20 a xs row/\Sw w0 wr g T enc rest row)
  case atStart=>exact⟨0,20,xs,rfl,wM _,rfl,rfl,rfl,Stb.Fst.start 20 xs,B0.1⟩
  clear B0;obtain⟨a,b,row,hb,B7,rfl,rfl,rfl,hf,hst⟩:=hrel;have A1:=zH hst;have HF:=zH hf;clear hst hf;by_cases hlt:b<=N
  ·have A4:(b:Int)<=(N:Int):=ω
   obtain⟨P,X,S,rfl,hP,hX,A2⟩:=HF.1.cut (by rw[HN.1];omega);have A0:=HF.1.len;have HB:=zH (insertion_any sB enc hk h1 lt W w0 wr g cap a b N T rest P X S HC.1 A1.1 hP ω (by rw[A0,HN.1]) ω);have A3:=zH A2;clear hP hX A2 A0 A1;obtain⟨b2,A9⟩:∃b2,b2=b+20:=⟨_,rfl⟩;have e1:(b:Int)+20=(b2:Int):=ω
   have wb:IntKind.i64.wrap (b2:Int)=(b2:Int):=by rw[IntKind.wrap_i64];omega
   have A6:=zH (And.intro hb A9);clear hb A9;go_wp2_with ((first|go_at_call 164|go_at_call 166);refine HB.1.mono ?_;rintro e w2 ⟨rfl,A5⟩)
   go_roundg (N+20-b)
   case measure=>have:=A6.1;omega
   case rel=>exact⟨b,b2,_,A6.1.2,hlt,rfl,rfl,rfl,by rw[A6.1.1];exact A3.1,A5⟩
  have A4:¬(b:Int)<=(N:Int):=ω;obtain⟨P,X,rfl,hP,hX,A2⟩:=HF.1.last (by rw[HN.1];omega);have A0:=HF.1.len;have HB:=zH (insertion_any sB enc hk h1 lt W w0 wr g cap a N N T rest P X [] HC.1 A1.1 hP (by rw[hX,HN.1]) (by rw[A0,HN.1]) ω);have A3:=zH A2;clear hP hX A2 A0 A1 hb;go_wp2_with ((first|go_at_call 164|go_at_call 166);refine HB.1.mono ?_;rintro e w2 ⟨rfl,A5⟩)
  have B3:=zH A5;clear A5 HB HF;go_loopg [6] (2*N) (fun c v wr=>∃(s:Nat) (row:List α),20<=s/\s<=2*N+20/\c=2*N+20-s/\v= iV s/\Stb.Blks lt s xs row/\Sw w0 wr g T enc rest row)
  case atStart=>exact⟨20,_,Bz _,ω,ω,rfl,A3.1,B3.1⟩
  clear B3 A3 A4 hlt;obtain⟨s,row,B6,B5,rfl,rfl,hf,hst⟩:=hrel;have A1:=zH hst;have HF:=zH hf;clear hst hf;by_cases hlt:s<N
  ·have A4:(s:Int)<(N:Int):=ω
   obtain⟨d,hd⟩:∃d,d=2*s:=⟨_,rfl⟩;have e1:2*(s:Int)=(d:Int):=ω
   have B8:(s:Int)*2=(d:Int):=ω;have wd:IntKind.i64.wrap (d:Int)=(d:Int):=by rw[IntKind.wrap_i64];omega
   have HD:=zH hd;clear hd;go_wp2_with fail;go_loopg [7,8] (N+d) (fun c u v wr=>∃(a b:Nat) (row:List α),b=a+d/\a<=N/\c=N+d-a/\u= iV a/\v= iV b/\Stb.Half lt s a xs row/\Sw w0 wr g T enc rest row)
   case atStart=>exact⟨0,d,row,ω,wM _,rfl,rfl,rfl,HF.1.half,A1.1⟩
   clear A1 HF;obtain⟨a,b,B4,hb,B7,rfl,rfl,rfl,hf,hst⟩:=hrel;have A1:=zH hst;have HF:=zH hf;clear hst hf;by_cases hlb:b<=N
   ·have B2:(b:Int)<=(N:Int):=ω
    obtain⟨P,A,B,S,rfl,hP,hA,hB,A8,A7,A2⟩:=HF.1.cut W ω (by rw[HN.1];have:=HD.1;omega);have A0:=HF.1.len;obtain⟨m,hm⟩:∃m,m=a+s:=⟨_,rfl⟩;have e2:(a:Int)+(s:Int)=(m:Int):=ω
    have wm:IntKind.i64.wrap (m:Int)=(m:Int):=by rw[IntKind.wrap_i64];omega
    have HB:=zH (symMerge_any sB enc hk h1 lt W w0 g cap N T rest HC.1 ω _ P A B S a m b wr (Fj ω) (Fj ω) (Bz _) A1.1 hP (by rw[hA,hm]) (by have:=HD.1;omega) A8 A7 (by rw[A0,HN.1]));obtain⟨b2,A9⟩:∃b2,b2=b+d:=⟨_,rfl⟩;have e3:(b:Int)+(d:Int)=(b2:Int):=ω
    have wb:IntKind.i64.wrap (b2:Int)=(b2:Int):=by rw[IntKind.wrap_i64];omega
    have A6:=zH (And.intro hb A9);have A3:=zH A2;clear hP hA hB A8 A7 A2 A0 A1 hb A9 hm;go_wp2_with ((first|go_at_call 165|go_at_call 167);refine HB.1.mono ?_;rintro e w2 ⟨rfl,A5⟩)
    go_roundg (N+d-b)
    case measure=>have:=A6.1;omega
    case rel=>exact⟨b,b2,_,A6.1.2,hlb,rfl,rfl,rfl,by rw[A6.1.1,HD.1];exact A3.1,A5⟩
   have B2:¬(b:Int)<=(N:Int):=ω;obtain⟨m,hm⟩:∃m,m=a+s:=⟨_,rfl⟩;have e2:(a:Int)+(s:Int)=(m:Int):=ω
   have wm:IntKind.i64.wrap (m:Int)=(m:Int):=by rw[IntKind.wrap_i64];omega
   by_cases hmN:m<N
   ·have B1:(m:Int)<(N:Int):=ω
    obtain⟨P,A,B,rfl,hP,hA,hB,A8,A7,A2⟩:=HF.1.last W (by rw[HN.1];have:=HD.1;omega) (by rw[HN.1];omega);have A0:=HF.1.len;rw[HN.1]at hB;have HB:=zH (symMerge_any sB enc hk h1 lt W w0 g cap N T rest HC.1 ω _ P A B [] a m N wr (Fj ω) (Fj ω) (Bz _) A1.1 hP (by rw[hA,hm]) ω A8 A7 (by rw[A0,HN.1]));have A3:=zH A2;clear hP hA hB A8 A7 A2 A0 A1 hb hm;go_wp2_with ((first|go_at_call 165|go_at_call 167);refine HB.1.mono ?_;rintro e w2 ⟨rfl,A5⟩)
    go_roundg (2*N+20-d)
    case measure=>have:=HD.1;omega
    case rel=>exact⟨d,_,by have:=HD.1;omega,by have:=HD.1;omega,rfl,rfl,by rw[HD.1];exact A3.1,A5⟩
   have B1:¬(m:Int)<(N:Int):=ω;have A3:=zH (HF.1.none (by rw[HN.1];have:=HD.1;omega) (by rw[HN.1];omega));clear hb hm;go_wp2_with fail;go_roundg (2*N+20-d)
   case measure=>have:=HD.1;omega
   case rel=>exact⟨d,_,by have:=HD.1;omega,by have:=HD.1;omega,rfl,rfl,by rw[HD.1];exact A3.1,A1.1⟩
  have A4:¬(s:Int)<(N:Int):=ω;have HR:=zH (HF.1.all (by rw[HN.1];omega));go_wp2_with fail;go_end0
  exact⟨rfl,by rw[<-HR.1];exact A1.1⟩
theorem sortStable_any (t:Bool){α:Type}(enc:α->List Value)(hk:∀x,(enc x).length=(kS t))(h1:∀x,∀v,v∈enc x->v.oneCell'=true)(lt:α->α->Bool)(W:Stb.Wk lt)(w0 w:World)(g cap N:Nat)(T:TypeId)(rest:List Value)(xs:List α)(hc:(∀wr,Ba g w0 wr->∀x y:α,Calls prog (fCm t) #[.agg (enc x).toArray,.agg (enc y).toArray] wr fun e w'=>∃z:Int,e= .returned (iV z)/\(z<0↔lt x y=true)/\Aa wr w'))(hst:Sw w0 w g T enc rest xs)(hN:xs.length=N)(hsz:N<=20000):
  Calls prog (fSs t) #[.slice (π g) N cap,.func (.func (fCm t)) #[] #[]] w fun e w'=>e= .returned (.tuple #[])/\Sw w0 w' g T enc rest (Stb.stab lt xs):=by
 let sB:=t
 cases t;all_goals
  (try dsimp only[kS,fCm,fIn,fRo,fSs,fSt,fSw,fSy]at*)
  have HB:=zH (stable_any sB enc hk h1 lt W w0 w g cap N T rest xs hc hst hN hsz);clear hc hst hN;first|go_enter func85,ntmps85|go_enter func88,ntmps88
  go_wp2_with ((first|go_at_call 133|go_at_call 134);refine HB.1.mono ?_;rintro e w2 ⟨rfl,A0⟩)
  go_end0
  exact⟨rfl,A0⟩
theorem insertion_none (t:Bool)(v c:Value)(w:World):Calls prog (fIn t) #[v,iV 0,iV 0,c] w fun e w'=>e= .returned (.tuple #[])/\w=w':=by
  let sB:=t
  cases t;all_goals
    (try dsimp only[kS,fCm,fIn,fRo,fSs,fSt,fSw,fSy]at*)
    first|go_enter func164,ntmps164|go_enter func166,ntmps166
    go_wp2_with fail;apply wp_loop_rounds 1;rw[rounds_succ];go_wp2_with fail;go_end0
    exact⟨rfl,rfl⟩
theorem stable_none (t:Bool)(v c:Value)(w:World):Calls prog (fSt t) #[v,iV 0,c] w fun e w'=>e= .returned (.tuple #[])/\w=w':=by
 let sB:=t
 cases t;all_goals
  (try dsimp only[kS,fCm,fIn,fRo,fSs,fSt,fSw,fSy]at*)
  first|go_enter func133,ntmps133|go_enter func134,ntmps134
  go_wp2_with fail;apply wp_loop_rounds 1;rw[rounds_succ];go_wp2_with ((first|go_at_call 164|go_at_call 166);refine(insertion_none sB _ _ _).mono ?_;rintro e w2 ⟨rfl,rfl⟩)
  apply wp_loop_rounds 1;rw[rounds_succ];go_wp2_with fail;go_end0
  exact⟨rfl,rfl⟩
theorem sortStable_none (t:Bool)(A:Option Addr)(cap:Nat)(c:Value)(w:World):Calls prog (fSs t) #[.slice A 0 cap,c] w fun e w'=>e= .returned (.tuple #[])/\w=w':=by
  let sB:=t
  cases t;all_goals
    (try dsimp only[kS,fCm,fIn,fRo,fSs,fSt,fSw,fSy]at*)
    first|go_enter func85,ntmps85|go_enter func88,ntmps88
    go_wp2_with ((first|go_at_call 133|go_at_call 134);refine(stable_none sB _ _ _).mono ?_;rintro e w2 ⟨rfl,rfl⟩)
    go_end0
    exact⟨rfl,rfl⟩
end srt
section
abbrev QQ:=Rat×Rat
def La (ps:List QQ):List QQ:=ps.filter fun p=>decide (p.1<p.2)
def pJ (a b:QQ):Bool:=decide (a.1<b.1)
def Em (out:List QQ)(s:QQ):List QQ:=match out.getLast? with
  |none=>out++[s]
  |some l=>if l.2<s.1 then out++[s]else if l.2<s.2 then out.dropLast++[(l.1,s.2)]else out
def Dk (ps:List QQ):List QQ:=Stb.stab pJ (La ps)
def Eg (ps:List QQ):List QQ:=(Dk ps).foldl Em []
theorem Sb {ps:List QQ}{k:Nat}{p:QQ}(h:ps[k]?=some p):La (ps.take (k+1))=if p.1<p.2 then La (ps.take k)++[p]else La (ps.take k):=by
  obtain⟨hk,rfl⟩:=List.getElem?_eq_some_iff.1 h;unfold La;rw[wV hk,List.filter_append];by_cases hp:ps[k].1<ps[k].2
  · rw[if_pos hp];simp[hp]
  rw[if_neg hp];simp[hp]
theorem Nr {l:List QQ}{k:Nat}{p:QQ}(h:l[k]?=some p):(l.take (k+1)).foldl Em []=Em ((l.take k).foldl Em []) p:=by
  obtain⟨hk,rfl⟩:=List.getElem?_eq_some_iff.1 h;rw[wV hk,List.foldl_append];rfl
theorem iH (out:List QQ)(s:QQ):(Em out s).length<=out.length+1:=by
  unfold Em;split
  · simp
  split
  · simp
  split
  · simp
    try omega
  omega
theorem mE (l:List QQ)(k:Nat):((l.take k).foldl Em []).length<=k:=by
  induction k with
  |zero=>simp
  | succ k ih=>
    by_cases h:k<l.length
    · rw[Nr (wC h)]
      have:=iH ((l.take k).foldl Em []) l[k];omega
    rw[wI ω];rw[wI ω]at ih;omega
theorem Xz {α β:Type}(f:α->β){lt:α->α->Bool}{lt':β->β->Bool}(h:∀x y,lt x y=lt' (f x) (f y))(l:List α)(y:α):(Stb.ins lt l y).map f=Stb.ins lt' (l.map f) (f y):=by
  induction l with
  |nil=>rfl
  | cons x l ih=>
    rw[Stb.ins,List.map_cons,Stb.ins,<-h];split
    · rfl
    rw[List.map_cons,ih]
theorem Ob {α β:Type}(f:α->β){lt:α->α->Bool}{lt':β->β->Bool}(h:∀x y,lt x y=lt' (f x) (f y))(l:List α):(Stb.stab lt l).map f=Stb.stab lt' (l.map f):=by
  induction l using Stb.rev_rec with
  |nil=>rfl
  |snoc l y ih=>rw[Stb.stab_snoc,Xz f h,ih,xI];exact(Stb.stab_snoc _ _).symm
theorem uT {α:Type}(f:α->Rat):Stb.Wk (fun x y:α=>decide (f x<f y)):=by
  refine⟨fun x y h=> ?_,fun x y z h1 h2=> ?_⟩
  · rw[decide_eq_true_iff]at h
    rw[decide_eq_false_iff_not];intro h2;grind
  rw[decide_eq_false_iff_not]at h1 h2⊢;grind
theorem cW:(prog.info? 73).map (fun i=>(i.zero,i.size,i.bytes))=some (some (.agg z8),8,128):=by kernel_rfl
theorem Jz:Ar (Value.agg z8).cells.toList:=by intro x hx k;simp[Value.cells]at hx;rcases hx with rfl|rfl|rfl|rfl|rfl|rfl|rfl|rfl<;>simp
theorem Ik (w:World)(cs:List Value)(t:TypeId):∀(j:Nat) (u:Value),cs[j]?=some u->(w.alloc (.cells cs.toArray t)).cell? ((⟨w.heap.size,0,none⟩:Addr).add j)=some u:=by
  intro j u hj;have e3:(⟨w.heap.size,0,none⟩:Addr).add j=⟨w.heap.size,j,none⟩:=by
    unfold Addr.add;by_cases hz:j=0
    · rw[if_pos hz,hz]
    rw[if_neg hz];simp
  rw[e3,(Al.new w t cs.toArray).cell j,wL];exact hj
theorem Hf.snoc {L:Nat}{w w':World}{base g cap n:Nat}{v:Value}{es:List Bv}{e:Bv}(h:Hf L w base v es)(hn:es.length=n)(he:e.Ok L w)(h2:Bi w' base 73 8 (.slice (π g) (n+1) cap) (n+1) (Cv es++e.cells))
    (h4:∀(r:RV) (q:Rat),r.Is w q->r.Is w' q):Hf L w' base (.slice (π g) (n+1) cap) (es++[e]):=by
  subst hn;refine⟨by rw[Kl,wD];exact h2,fun x hx=> ?_⟩;rcases List.mem_append.1 hx with hx|hx
  · exact(h.2 x hx).map h4
  simp at hx;rw[hx];exact he.map h4
theorem Bh {a b:World}(row:Option Nat)(h:Aa a b):a.grownBy b row:=⟨h.os,h.tape,h.output,h.size,fun i hi _=>h.block i hi⟩
theorem Wi {a b c:World}{row:Option Nat}(h:Aa a b)(k:b.grownBy c row):a.grownBy c row:=
  ⟨k.os.trans h.os,k.tape.trans h.tape,k.output.trans h.output,Aw h.size k.size,fun i hi hn=>(k.block i (xG hi h.size) hn).trans (h.block i hi)⟩
theorem bR {L:Nat}{w:World}{base X:Nat}{v:Value}{es:List Bv}(h:Hf L w base v es)(hX:w.heap.size<=X):v.ownBlock≠some X:=by
  intro e;rcases h.form with⟨rfl,_⟩|⟨g,cap,rest,rfl,_,hs,_⟩
  · simp[Value.ownBlock]at e
  simp[Value.ownBlock]at e;have:=hs.blk.lt;omega
theorem Mf {w:World}{base:Nat}{e:TypeId}{size:Nat}{v:Value}{n:Nat}{xs:List Value}(h:Bi w base e size v n xs):∃A c,v= .slice A n c:=by
  obtain⟨_,⟨rfl,hz⟩|⟨gv,A0,rest,rfl,_⟩⟩:=h
  · exact⟨none,0,by rw[hz]⟩
  exact⟨_,A0,rfl⟩
def Yn (e f:Bv):Bool:=decide (e.p<f.p)
theorem Rm {es:List Bv}{rest:List Value}(h:Ar rest):Pp (Cv es++rest).toArray:=by
  refine Sz _ fun v hv x=> ?_
  rcases List.mem_append.1 hv with hv|hv
  · exact Rn es v hv x
  exact h v hv x
theorem Tm {L:Nat}{w:World}:∀xs:List {e:Bv//e.Ok L w},xs.flatMap (fun x=>x.1.cells)=Cv (xs.map Subtype.val)
  | []=>rfl
  |x::xs=>by rw[List.flatMap_cons,Tm xs];rfl
theorem bU (L:Nat)(v:Value)(es:List Bv)(base:Nat)(w:World)(h:Hf L w base v es)(hL:L<=60000)(hn:es.length<=20000):
  Calls prog 85 #[v,.func (.func 86) #[] #[]] w fun e w'=>
   e= .returned (.tuple #[])/\Hf L w' base v (Stb.stab Yn es)/\w.grownBy w' v.ownBlock:=by
 rcases h.form with⟨rfl,rfl⟩|⟨g,cap,rest,rfl,hb,hs,hc1,hc2,hc3,hc4⟩
 ·refine(srt.sortStable_none false none 0 _ w).mono ?_
  rintro e w' ⟨rfl,rfl⟩;exact⟨rfl,h,World.grownBy.refl _ _⟩
 have A4:∃xs:List {e:Bv//e.Ok L w},xs.map Subtype.val=es:=by
  have h2:=h.2;clear h hs hc1 hc3 hn;induction es with
  |nil=>exact⟨[],rfl⟩
  |cons e es ih=>
   obtain⟨xs,hx⟩:=ih (fun f hf=>h2 f (by simp[hf]));exact⟨⟨e,h2 e (by simp)⟩::xs,by rw[List.map_cons,hx]⟩
 obtain⟨xs,rfl⟩:=A4;have A1:Pp (Cv (xs.map Subtype.val)++rest).toArray:=Rm hc4;have A2:xs.length=(xs.map Subtype.val).length:=by rw[wU]
 refine(srt.sortStable_any false (fun x: {e:Bv//e.Ok L w}=>x.1.cells) (fun _=>rfl) (fun x=>x.1.one) (fun x y=>decide (x.1.p<y.1.p)) (uT fun x: {e:Bv//e.Ok L w}=>x.1.p) w w g cap _ 73 rest xs (fun wr o x y=> ?_) ⟨by rw[Tm];exact hs.blk,Ba.refl _ _⟩ A2 hn).mono ?_
 ·have hx:x.1.Ok L wr:=x.2.map fun r q hr=>hr.own hs.blk A1 o
  have hy:y.1.Ok L wr:=y.2.map fun r q hr=>hr.own hs.blk A1 o
  refine(Xv L _ _ _ _ _ _ wr hx.ptIn hy.ptIn ω).mono ?_;rintro e w' ⟨rfl,A5⟩;exact⟨_,rfl,by rw[decide_eq_true_iff];exact rcmp_lt,A5⟩
 rintro e w' ⟨rfl,A0⟩;have hm:(Stb.stab (fun x y: {e:Bv//e.Ok L w}=>decide (x.1.p<y.1.p)) xs).map Subtype.val=Stb.stab Yn (xs.map Subtype.val):=Ob Subtype.val (lt':=Yn) (fun _ _=>rfl) xs;have A3:(Stb.stab Yn (xs.map Subtype.val)).length=(xs.map Subtype.val).length:=Stb.stab_len _;refine⟨rfl,⟨⟨Da _,Or.inr ⟨g,cap,rest,by rw[A3],hb,?_,by rw[A3];exact hc1,hc2,?_,?_⟩⟩,fun e he=> ?_⟩,?_⟩
 ·have h3:=A0.blk
  rw[Tm,hm]at h3;exact h3
 ·rw[Da,A3,<-Da];exact hc3
 ·exact(Rn _).app hc4
 ·rw[<-hm]at he
  obtain⟨x,_,rfl⟩:=List.mem_map.1 he;exact x.2.map fun r q hr=>hr.own hs.blk A1 A0.own
 show w.grownBy w' (Value.ownBlock _);have:=A0.own;simpa[Value.ownBlock,Ba]using this
theorem half (e:Bv):e.cells=[.bool e.a.n,.slice e.a.p e.a.l e.a.c,.bool e.a.m,.slice e.a.p2 e.a.l2 e.a.c2]++[.bool e.b.n,.slice e.b.p e.b.l e.b.c,.bool e.b.m,.slice e.b.p2 e.b.l2 e.b.c2]:=rfl
theorem Hf.turn {L:Nat}{w:World}{base g cap n:Nat}{es:List Bv}{l e:Bv}(h:Hf L w base (.slice (π g) (n+1) cap) (es++[l]))(hn:es.length=n)(he:e.Ok L w):
  w.there g (n*8+4) 4/\Hf L (w.setCells g (n*8+4) [.bool e.b.n,.slice e.b.p e.b.l e.b.c,.bool e.b.m,.slice e.b.p2 e.b.l2 e.b.c2]) base (.slice (π g) (n+1) cap) (es++[⟨l.a,e.b,l.p,e.q⟩])/\
   Ba g w (w.setCells g (n*8+4) [.bool e.b.n,.slice e.b.p e.b.l e.b.c,.bool e.b.m,.slice e.b.p2 e.b.l2 e.b.c2]):=by
 obtain⟨hl,⟨hv,_⟩|⟨g',A7,rest,hv,hb,hg,h3,h4,h5,h6⟩⟩:=h.1
 ·cases hv
 injection hv with e1 e2 e3
 injection e1 with e1
 injection e1 with e1
 subst e1 e3;have A1:Cv (es++[l])++rest=(Cv es++[.bool l.a.n,.slice l.a.p l.a.l l.a.c,.bool l.a.m,.slice l.a.p2 l.a.l2 l.a.c2])++([.bool l.b.n,.slice l.b.p l.b.l l.b.c,.bool l.b.m,.slice l.b.p2 l.b.l2 l.b.c2]++rest):=by
  rw[Kl,half];simp
 have A2:(Cv es++([.bool l.a.n,.slice l.a.p l.a.l l.a.c,.bool l.a.m,.slice l.a.p2 l.a.l2 l.a.c2]:List Value)).length=n*8+4:=by rw[wD,Da,hn];rfl
 have A5:Pp (Cv (es++[l])++rest).toArray:=Rm h6.right;have A6:=hg;rw[A1]at hg;have ht:=hg.therePart (n*8+4) 4 (by rw[wD,A2];simp);have hp:=hg.setMid [.bool e.b.n,.slice e.b.p e.b.l e.b.c,.bool e.b.m,.slice e.b.p2 e.b.l2 e.b.c2] (by rfl);rw[A2]at hp;have ho:Ba g w (w.setCells g (n*8+4) [.bool e.b.n,.slice e.b.p e.b.l e.b.c,.bool e.b.m,.slice e.b.p2 e.b.l2 e.b.c2]):=Ba.setCells_l _ _ (Ba.refl _ _);refine⟨ht,⟨⟨Da _,Or.inr ⟨g,cap,rest,by rw[wD,hn];rfl,hb,?_,by rw[wD]at h3⊢;exact h3,h4,?_,(Rn _).app h6.right⟩⟩,fun x hx=> ?_⟩,ho⟩
 ·have e5:Cv (es++[⟨l.a,e.b,l.p,e.q⟩])++rest=(Cv es++[.bool l.a.n,.slice l.a.p l.a.l l.a.c,.bool l.a.m,.slice l.a.p2 l.a.l2 l.a.c2])++([.bool e.b.n,.slice e.b.p e.b.l e.b.c,.bool e.b.m,.slice e.b.p2 e.b.l2 e.b.c2]++rest):=by
   rw[Kl,half];simp
  rw[e5];exact hp
 ·rw[Da,wD]at h5⊢;exact h5
 have A0:∀x:Bv,x.Ok L w->x.Ok L (w.setCells g (n*8+4) [.bool e.b.n,.slice e.b.p e.b.l e.b.c,.bool e.b.m,.slice e.b.p2 e.b.l2 e.b.c2]):=fun x hx=>hx.map fun r q hr=>hr.own A6 A5 ho
 rcases List.mem_append.1 hx with hx|hx
 ·exact A0 x (h.2 x (by simp[hx]))
 simp at hx;rw[hx];have A3:=A0 l (h.2 l (by simp));have A4:=A0 e he;exact⟨A3.1,A4.2.1,A3.2.2.1,A4.2.2.2⟩
theorem Hf.grown {L:Nat}{w w':World}{base:Nat}{v:Value}{es:List Bv}{row:Option Nat}(h:Hf L w base v es)(hg:w.grownBy w' row)(hne:∀j,v.ownBlock=some j->row≠some j)(hm:∀(r:RV) (q:Rat),r.Is w q->r.Is w' q):Hf L w' base v es:=by
  refine⟨?_,fun e he=>(h.2 e he).map hm⟩;obtain⟨hl,⟨hv,hz⟩|⟨g,A0,rest,rfl,hb,hB,h3⟩⟩:=h.1
  · exact⟨hl,Or.inl ⟨hv,hz⟩⟩
  exact⟨hl,Or.inr ⟨g,A0,rest,rfl,hb,hB.grown hg (hne g (by simp[Value.ownBlock])),h3⟩⟩
theorem Hf.lt {L:Nat}{w:World}{base:Nat}{v:Value}{es:List Bv}(h:Hf L w base v es):∀j,v.ownBlock=some j->j<w.heap.size:=fun _ hj=>Nat.lt_of_not_le fun hn=>bR h hn hj
theorem Hf.rowNoU {L:Nat}{w:World}{base g n cap:Nat}{es:List Bv}(h:Hf L w base (.slice (π g) n cap) es):∃cs:Array Value,Al w g 73 cs/\Pp cs:=by
  obtain⟨hl,⟨hv,_⟩|⟨g',A0,rest,hv,hb,hB,h3,h4,h5,h6⟩⟩:=h.1
  · cases hv
  injection hv with e1 _ _
  injection e1 with e1
  injection e1 with e1
  subst e1;exact⟨_,hB,Rm h6.right⟩
theorem Vs (s:QQ):Em [] s=[s]:=rfl
theorem Vt (os:List QQ)(l s:QQ):Em (os++[l]) s=if l.2<s.1 then os++[l]++[s]else if l.2<s.2 then os++[(l.1,s.2)]else os++[l]:=by
  unfold Em;rw[List.getLast?_concat];simp only[List.dropLast_concat]
theorem eC {α:Type}(l:List α):l=[]\/∃l' x,l=l'++[x]:=by
  rcases List.eq_nil_or_concat l with h|⟨a,b,h⟩
  · exact Or.inl h
  exact Or.inr ⟨a,b,by simpa using h⟩
theorem Hf.readEnd {L:Nat}{w:World}{base g cap n:Nat}{es:List Bv}{l:Bv}(h:Hf L w base (.slice (π g) (n+1) cap) (es++[l]))(hn:es.length=n):
  w.rangeAt g (n*8+4) [.bool l.b.n,.slice l.b.p l.b.l l.b.c,.bool l.b.m,.slice l.b.p2 l.b.l2 l.b.c2]:=by
 rcases h.form with⟨hv,_⟩|⟨g',cap',rest,hv,_,hs,_⟩
 ·cases hv
 injection hv with e1 _ _
 injection e1 with e1
 injection e1 with e1
 subst e1;have hr:=hs.read (i:=n) (x:=l) (by rw[wJ ω,hn,Nat.sub_self];rfl) Bv.len;intro j u hj;have A0:=hr (4+j) u (by
  rw[half,wJ (by simp)];simpa using hj)
 rw[Nat.add_assoc];exact A0
theorem Ee.ofb {L:Nat}{w:World}{e:Bv}(h:e.Ok L w):Ee L w ([.bool e.b.n,.slice e.b.p e.b.l e.b.c,.bool e.b.m,.slice e.b.p2 e.b.l2 e.b.c2]:List Value).toArray e.q:=⟨e.b,rfl,h.2.1.isIn h.2.2.2⟩
theorem Hf.set {L:Nat}{w:World}{base g cap n i:Nat}{es:List Bv}{e:Bv}(h:Hf L w base (.slice (π g) n cap) es)(hi:i<es.length)(he:e.Ok L w):
  w.there g (i*8) 8/\Hf L (w.setCells g (i*8) e.cells) base (.slice (π g) n cap) (es.set i e)/\Ba g w (w.setCells g (i*8) e.cells):=by
 obtain⟨hl,⟨hv,_⟩|⟨g',A2,rest,hv,hb,hB,h3,h4,h5,h6⟩⟩:=h.1
 ·cases hv
 injection hv with e1 e2 e3
 injection e1 with e1
 injection e1 with e1
 subst e1 e3;have hs:Sw w w g 73 Bv.cells rest es:=Sw.refl hB;have hp:=hs.put hi Bv.len e;have ho:Ba g w (w.setCells g (i*8) e.cells):=hp.own;have A1:Pp (Cv es++rest).toArray:=Rm h6.right;have A0:∀x:Bv,x.Ok L w->x.Ok L (w.setCells g (i*8) e.cells):=fun x hx=>hx.map fun r q hr=>hr.own hB A1 ho
 refine⟨hs.there hi Bv.len,⟨⟨Da _,Or.inr ⟨g,cap,rest,by rw[wO,<-e2],hb,hp.blk,by rw[wO];exact h3,h4,by rw[Da,wO,<-Da];exact h5,(Rn _).app h6.right⟩⟩,fun x hx=> ?_⟩,ho⟩;rcases List.mem_or_eq_of_mem_set hx with hx|rfl
 ·exact A0 x (h.2 x hx)
 exact A0 x he
theorem Hf.read {L:Nat}{w:World}{base g n cap i:Nat}{es:List Bv}{e:Bv}(h:Hf L w base (.slice (π g) n cap) es)(he:es[i]?=some e):w.rangeAt g (i*8) e.cells:=by
  rcases h.form with⟨hv,_⟩|⟨g',cap',rest,hv,_,hs,_⟩
  · cases hv
  injection hv with e1 _ _
  injection e1 with e1
  injection e1 with e1
  subst e1;exact hs.read he Bv.len
theorem Ko {w:World}{g o:Nat}{a b:List Value}(h:w.rangeAt g o (a++b)):w.rangeAt g o a:=fun j v hv=>h j v (by rw[wQ (List.getElem?_eq_some_iff.1 hv).1];exact hv)
theorem Ll {w:World}{g o n:Nat}{a b:List Value}(h:w.rangeAt g o (a++b))(hn:a.length=n):w.rangeAt g (o+n) b:=fun j v hv=>by
  have:=h (n+j) v (by rw[wJ ω,show n+j-a.length=j by omega];exact hv);rwa[<-Nat.add_assoc]at this
theorem Hs.at {L:Nat}{w:World}{v:Value}{ps:List QQ}(h:Hs L w v ps){k:Nat}{p:QQ}(hp:ps[k]?=some p):
  ∃(g off cap:Nat) (e:Bv),v= .slice (some ⟨g,off,none⟩) ps.length cap/\w.rangeAt g (off+k*8) e.cells/\e.a.In L w p.1/\e.b.In L w p.2:=by
 obtain⟨A,cap,rfl,h2⟩:=h;obtain⟨g,off,rfl,h4⟩:=h2 (by have:=(List.getElem?_eq_some_iff.1 hp).1;omega);obtain⟨cs,h5,a,b,h6,h7,h8⟩:=h4 k p hp;have e:cs=Bv.cells ⟨a,b,p.1,p.2⟩:=by
  exact congrArg Array.toList h6
 exact⟨g,off,cap,⟨a,b,p.1,p.2⟩,rfl,by rw[<-e];exact h5,h7,h8⟩
theorem Ee.ofa {L:Nat}{w:World}{e:Bv}{p:Rat}(h:e.a.In L w p):Ee L w ([.bool e.a.n,.slice e.a.p e.a.l e.a.c,.bool e.a.m,.slice e.a.p2 e.a.l2 e.a.c2]:List Value).toArray p:=⟨e.a,rfl,h⟩
theorem Ee.ofb' {L:Nat}{w:World}{e:Bv}{p:Rat}(h:e.b.In L w p):Ee L w ([.bool e.b.n,.slice e.b.p e.b.l e.b.c,.bool e.b.m,.slice e.b.p2 e.b.l2 e.b.c2]:List Value).toArray p:=⟨e.b,rfl,h⟩
theorem rU {es:List Bv}(h:Stb.Srt pJ (es.map Bv.vl)):Stb.Srt Yn es:=by
  unfold Stb.Srt at h⊢;rw[List.pairwise_map]at h;exact h
theorem vP:Stb.Wk Yn:=uT fun e:Bv=>e.p
theorem vA:Stb.Wk pJ:=uT fun e:QQ=>e.1
theorem Yy {ps:List QQ}{k:Nat}{p:QQ}(h:ps[k]?=some p):Dk (ps.take (k+1))=if p.1<p.2 then Stb.ins pJ (Dk (ps.take k)) p else Dk (ps.take k):=by
  unfold Dk;rw[Sb h];split
  · rw[Stb.stab_snoc]
  rfl
theorem bT (ps:List QQ):Stb.Srt pJ (Dk ps):=Stb.stab_srt vA _
theorem Zp {w:World}{g o j:Nat}{cs:List Value}{v:Value}(h:w.rangeAt g o cs)(hv:cs[j]?=some v):g<w.heap.size:=by
  exact World.block_lt_of_cell? w _ (h j v hv)
theorem Qt {w w':World}{g o:Nat}{cs:List Value}{row:Option Nat}(h:w.rangeAt g o cs)(hg:w.grownBy w' row)(hne:row≠some g):w'.rangeAt g o cs:=fun j v hv=>by
  have hc:=h j v hv;have A0:g<w.heap.size:=Zp h hv;exact(World.cell?_of_block (w:=w) (a:=⟨g,o+j,none⟩) (hg.block g A0 (Ne.symm hne))).trans hc
theorem Ee.ofa2 {L:Nat}{w:World}{e:Bv}(h:e.Ok L w):Ee L w ([.bool e.a.n,.slice e.a.p e.a.l e.a.c,.bool e.a.m,.slice e.a.p2 e.a.l2 e.a.c2]:List Value).toArray e.p:=⟨e.a,rfl,h.1.isIn h.2.2.1⟩
theorem Hf.mono {L:Nat}{w:World}{base base':Nat}{v:Value}{es:List Bv}(h:Hf L w base v es)(hb:base'<=base):Hf L w base' v es:=by
  refine⟨?_,h.2⟩;obtain⟨hl,⟨hv,hz⟩|⟨g,A0,rest,rfl,h2,h3⟩⟩:=h.1
  · exact⟨hl,Or.inl ⟨hv,hz⟩⟩
  exact⟨hl,Or.inr ⟨g,A0,rest,rfl,Aw hb h2,h3⟩⟩
theorem Ds {α:Type}(f:α->List Value)(es:List α)(e:α):es.flatMap f++f e=(es++[e]).flatMap f:=by simp
theorem Dc {w:World}{g o:Nat}{cs:List Value}(h:w.rangeAt g o cs)(k n:Nat):w.rangeAt g (o+k) ((cs.drop k).take n):=by
  intro j v hv;have hj:j<n:=by
    have:=(List.getElem?_eq_some_iff.1 hv).1;rw[wK]at this;omega
  rw[List.getElem?_take_of_lt hj,List.getElem?_drop]at hv;have:=h (k+j) v hv;rw[show o+(k+j)=o+k+j by omega]at this;exact this
theorem At {w:World}{g o:Nat}{v:Value}{cs:List Value}(h:w.rangeAt g o (v::cs)):w.cell? ⟨g,o,none⟩=some v:=by
  have:=h 0 v rfl;simpa using this
theorem Mh {q r:Rat}:Di q r=0↔q=r:=rcmp_eq
theorem Bm (k:Int)(h1: -9223372036854775808<=k)(h2:k<=9223372036854775807):Nm.rl (k:Rat)<=2:=by
  unfold Nm.rl;rw[Rat.num_intCast,Rat.den_intCast];have h1:Nm.nl k.natAbs<=2:=Nm.nl_le ω;have h2:Nm.nl 1<=1:=Nm.nl_le (by decide);omega
theorem Hp.add2 {w0 wb w:World}{m:List Dl}{X Y:Nat}{T U:TypeId}{zs us:List Value}(h:Hp w0 wb m)(x:Aa wb w)(B1:Al w X T zs.toArray)(B2:Al w Y U us.toArray)(z1:wb.heap.size<=X)(z2:wb.heap.size<=Y)(hne:X≠Y)(n1:Ar zs)(n2:Ar us):
  Hp w0 w (m++[.blk X T zs]++[.blk Y U us]):=by
 have h1:=h.addBlk x B1 z1 n1;refine h1.add ⟨Aw h.ext.size z2,B2,n2⟩ (fun i f hf k hk e=> ?_);injection e with e
 rcases Nat.lt_trichotomy i m.length with hl|hl|hl
 ·rw[wQ hl]at hf
  have:=h.lt hf hk;omega
 ·subst hl
  rw[wJ (Bz _)]at hf;simp at hf;subst hf;injection hk with hk
  omega
 rw[wJ (xQ hl),xP (by simp;omega)]at hf;cases hf
theorem Mk {P:Program}{l:List Oper}{Q:Exit->Act->World->Prop}{md:Region.Mode}{S:World->Prop}{i j:Nat}{oi oj:Oper}{fuel:Nat}{listed li lj lij:Array Bool}{a:Act}{w w0:World}{m:List Dl}{T U:TypeId}{zs us:List Value}
  (hi:l[i]?=some oi)(hj:l[j]?=some oj)(hr:Region.ready md l.toArray listed=[i,j])(hli:listed.setIfInBounds i true=li)(hlj:listed.setIfInBounds j true=lj)(hri:Region.ready md l.toArray li=[j])(hrj:Region.ready md l.toArray lj=[i])
  (hlij:li.setIfInBounds j true=lij)(hlji:lj.setIfInBounds i true=lij)(hgi:oi.guard=none)(hgj:oj.guard=none)(hd:∀d,oj.dst=some d->oi.dst≠some d)
  (hvi:∀(ρ:Operand->Value) (x:World),(execOp ρ oi).run P x= .ok (.value (.pointer (π x.heap.size))) (x.alloc (.cells zs.toArray T)))
  (hvj:∀(ρ:Operand->Value) (x:World),(execOp ρ oj).run P x= .ok (.value (.pointer (π x.heap.size))) (x.alloc (.cells us.toArray U)))
  (hS:∀x y,S x->Aa x y->S y)(hSw:S w)(hH:Hp w0 w m)(hn1:Ar zs)(hn2:Ar us)
  (h:∀X Y w',Hp w0 w' (m++[.blk X T zs]++[.blk Y U us])->Aa w w'->w.heap.size<=X->w.heap.size<=Y->S w'->wpAnyH P md l.toArray Q S fuel lij ((a.put oi.dst (.pointer (π X))).put oj.dst (.pointer (π Y))) w'):
  wpAnyH P md l.toArray Q S (fuel+1+1) listed a w:=by
 have A1:∀b:Act,Region.wanted oi (yielded l.toArray b.tmps)=true:=fun b=>by simp[Region.wanted,hgi]
 have A0:∀b:Act,Region.wanted oj (yielded l.toArray b.tmps)=true:=fun b=>by simp[Region.wanted,hgj]
 have x1:Aa w (w.alloc (.cells zs.toArray T)):=(Aa.refl w).alloc _;have x2:Aa w (w.alloc (.cells us.toArray U)):=(Aa.refl w).alloc _;have y1:Aa (w.alloc (.cells zs.toArray T)) ((w.alloc (.cells zs.toArray T)).alloc (.cells us.toArray U)):=Ak.alloc _;have y2:Aa (w.alloc (.cells us.toArray U)) ((w.alloc (.cells us.toArray U)).alloc (.cells zs.toArray T)):=Ak.alloc _;refine sR hi hj hr (A1 a) (hvi _ w) (hS _ _ hSw x1) hli (A0 a) (hvj _ w) (hS _ _ hSw x2) hlj ?_ ?_
 ·refine Ns hj hri (A0 _) (hvj _ _) (hS _ _ (hS _ _ hSw x1) y1) hlij ?_
  exact h _ _ _ (hH.add2 (x1.trans y1) ((Al.new w T zs.toArray).ext y1) (Al.new _ U us.toArray) (Bz _) x1.size (by simp) hn1 hn2) (x1.trans y1) (Bz _) x1.size (hS _ _ (hS _ _ hSw x1) y1)
 refine Ns hi hrj (A1 _) (hvi _ _) (hS _ _ (hS _ _ hSw x2) y2) hlji ?_;have h2:=h _ _ _ (hH.add2 (x2.trans y2) (Al.new _ T zs.toArray) ((Al.new w U us.toArray).ext y2) x2.size (Bz _) (by simp) hn1 hn2) (x2.trans y2) x2.size (Bz _) (hS _ _ (hS _ _ hSw x2) y2);rw[Act.put_comm a _ _ hd];exact h2
theorem mQ:Yr prog 50 73 8 128:=Yr.of (z:= .agg z8) underlying50 (by kernel_rfl) rfl (by simp[Ar,Value.cells]) (by decide)
theorem Ld:Yr prog 54 31 4 64:=Yr.of (z:= .agg z4) underlying54 (by kernel_rfl) rfl (by simp[Ar,Value.cells]) (by decide)
theorem uJ:Yr prog 89 3 1 8:=Yr.of (z:= iV 0) underlying89 (by kernel_rfl) rfl (by simp[Ar,Value.cells]) (by decide)
theorem mS:Yr prog 74 77 5 72:=Yr.of (z:= .agg #[.bool false,.slice none 0 0,.bool false,.slice none 0 0,iV 0]) underlying74 (by kernel_rfl) rfl (by simp[Ar,Value.cells]) (by decide)
theorem uI:Yr prog 85 92 4 32:=Yr.of (z:= .agg #[iV 0,iV 0,iV 0,iV 0]) underlying85 (by kernel_rfl) rfl (by simp[Ar,Value.cells]) (by decide)
abbrev rc (r:RV):List Value:=[.bool r.n,.slice r.p r.l r.c,.bool r.m,.slice r.p2 r.l2 r.c2]
abbrev rg (r:RV):Value:= .agg #[.bool r.n,.slice r.p r.l r.c,.bool r.m,.slice r.p2 r.l2 r.c2]
abbrev rz:List Value:=[.bool false,.slice none 0 0,.bool false,.slice none 0 0]
abbrev ro {α:Type}(t:TypeId)(s:Nat)(A:Option Addr)(n c:Nat)(f:α->List Value)(es:List α):Dl:= .row t s (.slice A n c) n (List.flatMap f es)
def bL (m:List Dl)(g:Nat)(cs:List Value):Prop:=∃(i:Nat) (t:TypeId),m[i]?=some (.blk g t cs)
def Kk (P:Program)(ops:Array Oper)(w0 w:World)(m:List Dl)(op:Oper)(a:Act)(_v:Value)(a':Act):Prop:=Hp w0 w m->∀(Q:Exit->Act->World->Prop) (rest:List Oper),wpList P ops Q rest a' w->wpList P ops Q (op::rest) a w
def SD (P:Program)(md:Region.Mode)(l:List Oper)(Q:Exit->Act->World->Prop)(w0 b:World)(m:List Dl)(i:Nat)(listed:Array Bool)(a:Act)(_v:Value)(a':Act):Prop:=Hp w0 b m->∀(fuel:Nat) (w:World),Aa b w->wpAnyH P md l.toArray Q (fun x=>Aa b x) fuel (listed.setIfInBounds i true) a' w->wpAnyH P md l.toArray Q (fun x=>Aa b x) (fuel+1) listed a w
section
variable {P:Program} {ops:Array Oper} {rest:List Oper} {op:Oper} {a:Act} {a':Act} {w:World} {Q:Exit->Act->World->Prop} {ty:TypeId} {x:Operand} {l:List Oper} {md:Region.Mode} {b:World} {oi:Oper} {fuel:Nat} {listed:Array Bool} {o:Oper} {t:TypeId} {t':TypeId} {y:Operand} {g:Nat} {w0:World} {m:List Dl} {m':List Dl} {cs:List Value} {v:Value} {o1:Oper} {a1:Act} {o2:Oper} {a2:Act} {o3:Oper} {a3:Act} {o4:Oper} {a4:Act} {o5:Oper} {a5:Act} {a6:Act} {a7:Act} {i:Nat}
theorem zd {d:TypeDesc}(g o:Nat)(cs:List Value)(hb:w.rangeAt g o cs)(hu:P.underlying ty=some d)(h:wpList P ops Q rest a' w)(hw:Region.wanted op (yielded ops a.tmps)=true:=by rfl)(ho:op.op= .load ty x:=by rfl)(hx:a.eval x= .pointer (some ⟨g,o,none⟩):=by rfl)(hd:d.isRow=true:=by rfl)(hz:(P.info? ty).map (·.size)=some cs.length:=by kernel_rfl)(ha:a.put op.dst (.agg cs.toArray)=a':=by simp only[ζ]<;>rfl):wpList P ops Q (op::rest) a w:=by subst ha;exact rD hw ty x ho g o cs hx hb hu hd hz h
theorem ze (g o:Nat)(v:Value)(hb:w.rangeAt g o [v])(h:wpList P ops Q rest a' w)(hw:Region.wanted op (yielded ops a.tmps)=true:=by rfl)(hv:∀x:World,x.cell? ⟨g,o,none⟩=some v->(execOp a.eval op).run P x= .ok (.value v) x:=by intro x hq;(try simp only[xR]at hq);go_simp<;>with_reducible rfl)(ha:a.put op.dst v=a':=by simp only[ζ]<;>rfl):wpList P ops Q (op::rest) a w:=by subst ha;exact lN hw (At hb) hv h
theorem zf (i:Nat)(listed':Array Bool)(g o:Nat)(v:Value)(hb:b.rangeAt g o [v])(hS:Aa b w)(h:wpAnyH P md l.toArray Q (fun x=>Aa b x) fuel listed' a' w)(hi:l[i]?=some oi:=by rfl)(hs:Region.noSelect l.toArray=true:=by kernel_rfl)(hf:Region.free md l.toArray listed i=true:=by kernel_rfl)(hr:(Region.ready md l.toArray listed).contains i=true:=by kernel_rfl)(hQ:∀c a w,Q (.panic c) (a.put oi.dst v) w->Q (.panic c) a w:=by intro _ _ _ h;exact h)(hw:Region.wanted oi (yielded l.toArray a.tmps)=true:=by rfl)(hv:∀x:World,x.cell? ⟨g,o,none⟩=some v->(execOp a.eval oi).run P x= .ok (.value v) x:=by intro x hq;(try simp only[xR]at hq);go_simp<;>with_reducible rfl)(hl:listed.setIfInBounds i true=listed':=by kernel_rfl)(ha:a.put oi.dst v=a':=by simp only[ζ]<;>rfl):wpAnyH P md l.toArray Q (fun x=>Aa b x) (fuel+1) listed a w:=by subst ha;exact Cr hi hs hf hr hQ hw (fun x hx=>Aa.get hx (At hb)) hv hS hl h
theorem zg (i:Nat)(listed':Array Bool){d:TypeDesc}(g o:Nat)(cs:List Value)(hb:b.rangeAt g o cs)(hu:P.underlying ty=some d)(hS:Aa b w)(h:wpAnyH P md l.toArray Q (fun x=>Aa b x) fuel listed' a' w)(hi:l[i]?=some oi:=by rfl)(hs:Region.noSelect l.toArray=true:=by kernel_rfl)(hf:Region.free md l.toArray listed i=true:=by kernel_rfl)(hr:(Region.ready md l.toArray listed).contains i=true:=by kernel_rfl)(ho:oi.op= .load ty x:=by rfl)(hQ:∀c a w,Q (.panic c) (a.put oi.dst (.agg cs.toArray)) w->Q (.panic c) a w:=by intro _ _ _ h;exact h)(hw:Region.wanted oi (yielded l.toArray a.tmps)=true:=by rfl)(hx:a.eval x= .pointer (some ⟨g,o,none⟩):=by rfl)(hd:d.isRow=true:=by rfl)(hz:(P.info? ty).map (·.size)=some cs.length:=by kernel_rfl)(hl:listed.setIfInBounds i true=listed':=by kernel_rfl)(ha:a.put oi.dst (.agg cs.toArray)=a':=by simp only[ζ]<;>rfl):wpAnyH P md l.toArray Q (fun x=>Aa b x) (fuel+1) listed a w:=by subst ha;exact Fg hi hs hf hr ty x ho g o cs d hQ hw hx (fun x hx=>Be hb hx) hu hd hz hS hl h
theorem Hr {ρ:Operand->Value}{A:Int}{B:Int}{E:Int}(h: -9223372036854775808<=E/\E<=9223372036854775807)(ho:o.op= .binOp .add t x y t':=by rfl)(hx:ρ x= iV A:=by rfl)(hy:ρ y= iV B:=by rfl)(hE:A+B=E:=by first|rfl|omega):(execOp ρ o).run P w= .ok (.value (iV E)) w:=tH ho hx hy hE h.1 h.2
theorem Nx {ρ:Operand->Value}{A:Int}{B:Int}{E:Int}(h: -9223372036854775808<=E/\E<=9223372036854775807)(ho:o.op= .binOp .sub t x y t':=by rfl)(hx:ρ x= iV A:=by rfl)(hy:ρ y= iV B:=by rfl)(hE:A-B=E:=by first|rfl|omega):(execOp ρ o).run P w= .ok (.value (iV E)) w:=sY ho hx hy hE h.1 h.2
theorem mH {ρ:Operand->Value}{A:Int}{B:Int}{E:Int}(h: -9223372036854775808<=E/\E<=9223372036854775807)(ho:o.op= .binOp .mul t x y t':=by rfl)(hx:ρ x= iV A:=by rfl)(hy:ρ y= iV B:=by rfl)(hE:A*B=E:=by first|rfl|omega):(execOp ρ o).run P w= .ok (.value (iV E)) w:=mK ho hx hy hE h.1 h.2
theorem Dp {ρ:Operand->Value}{A:Int}{B:Int}{b:Bool}(ho:o.op= .binOp .lss t x y t':=by rfl)(hx:ρ x= iV A:=by rfl)(hy:ρ y= iV B:=by rfl)(e:decide (A<B)=b):(execOp ρ o).run P w= .ok (.value (.bool b)) w:=tB ho hx hy e
theorem Yp {ρ:Operand->Value}{A:Int}{B:Int}{b:Bool}(ho:o.op= .binOp .leq t x y t':=by rfl)(hx:ρ x= iV A:=by rfl)(hy:ρ y= iV B:=by rfl)(e:decide (A<=B)=b):(execOp ρ o).run P w= .ok (.value (.bool b)) w:=tC ho hx hy e
theorem Ph {ρ:Operand->Value}{A:Int}{B:Int}{b:Bool}(ho:o.op= .binOp .gtr t x y t':=by rfl)(hx:ρ x= iV A:=by rfl)(hy:ρ y= iV B:=by rfl)(e:decide (B<A)=b):(execOp ρ o).run P w= .ok (.value (.bool b)) w:=tE ho hx hy e
theorem sX {ρ:Operand->Value}{A:Int}{B:Int}{b:Bool}(ho:o.op= .binOp .geq t x y t':=by rfl)(hx:ρ x= iV A:=by rfl)(hy:ρ y= iV B:=by rfl)(e:decide (B<=A)=b):(execOp ρ o).run P w= .ok (.value (.bool b)) w:=tF ho hx hy e
theorem Kf {ρ:Operand->Value}{A:Int}{B:Int}{b:Bool}(ho:o.op= .binOp .eql t x y t':=by rfl)(hx:ρ x= iV A:=by rfl)(hy:ρ y= iV B:=by rfl)(e:decide (A=B)=b):(execOp ρ o).run P w= .ok (.value (.bool b)) w:=tG ho hx hy e
theorem Kg {ρ:Operand->Value}{A:Int}{B:Int}{b:Bool}(ho:o.op= .binOp .neq t x y t':=by rfl)(hx:ρ x= iV A:=by rfl)(hy:ρ y= iV B:=by rfl)(e:decide (A≠B)=b):(execOp ρ o).run P w= .ok (.value (.bool b)) w:=tA ho hx hy e
theorem Eh {ρ:Operand->Value}{off:Nat}{n:Nat}{c:Nat}{k:Nat}{size:Nat}{off':Nat}{z:Int}{e:TypeId}(ht:P.underlying t=some (.slice e))(ho:o.op= .indexAddr t x y:=by rfl)(hs:(P.info? e).map (·.size)=some size:=by kernel_rfl)(hx:ρ x= .slice (some ⟨g,off,none⟩) n c:=by rfl)(hy:ρ y= iV z:=by rfl)(hz:z=(k:Int):=by omega)(l:k<n)(f:off'=off+k*size):(execOp ρ o).run P w= .ok (.value (.pointer (some ⟨g,off',none⟩))) w:=mM ho ht hs hx hy hz l f
theorem zy {id:Nat}(h:wpAnyH P .any ops Q (fun x=>Aa w x) ops.size (Array.replicate ops.size false) a w.drew)(hm:P.follows .mixedOrders=true:=by kernel_rfl):(Code.region id ops true).wp P Q a w:=wp_region_held_drew (S:=fun x=>Aa w x) hm Ak.drew (fun _=>h)
theorem zn {d:Option Nat}{u:Value}(h:wpList P ops Q rest a' w)(ha:a.put d u=a':=by simp only[ζ]<;>rfl):∃v,Ending.returned u= .returned v/\wpList P ops Q rest (a.put d v) w:=⟨u,rfl,by rw[ha];exact h⟩
theorem zm {S:World->Prop}{lt:Array Bool}{d:Option Nat}{u:Value}(hS:S w)(h:wpAnyH P md l.toArray Q S fuel lt a' w)(ha:a.put d u=a':=by simp only[ζ]<;>rfl):∃v,Ending.returned u= .returned v/\S w/\wpAnyH P md l.toArray Q S fuel lt (a.put d v) w:=⟨u,rfl,hS,by rw[ha];exact h⟩
theorem zb:Aa w w.drew:=Ak.drew
theorem zc {f:FuncId}{args:Array Value}{Φ:Ending->World->Prop}(hc:Calls P f args w Φ)(h:∀e w',Φ e w'->∃v,e= .returned v/\wpList P ops Q rest (a.put op.dst v) w')(hw:Region.wanted op (yielded ops a.tmps)=true:=by rfl)(hv:(execOp a.eval op).run P w= .ok (.enter f args) w:=by go_simp):wpList P ops Q (op::rest) a w:=Ge hw hv hc h
theorem aA {m':Nat->List Dl}{a':Nat->Act}(T:TypeId)(zs:List Value)(H:Hp w0 w m)(h:∀X w',Hd (Hp w0 w' (m' X))->Aa w w'->w.heap.size<=X->wpList P ops Q rest (a' X) w')(hw:Region.wanted op (yielded ops a.tmps)=true:=by rfl)(hv:(execOp a.eval op).run P w= .ok (.value (.pointer (π w.heap.size))) (w.alloc (.cells zs.toArray T)):=by (try simp only[rz,rc]);go_simp)(hn:Ar zs:=by simp[Ar,rz,rc])(hm:∀X,m++[.blk X T zs]=m' X:=by intro X;(try simp only[wR,wT]);rfl)(ha:∀X,a.put op.dst (.pointer (π X))=a' X:=by intro X;(try simp only[ζ]);rfl):wpList P ops Q (op::rest) a w:=aH hw hv H hn fun X w' hh hx hg=>by rw[ha];exact h X w' (zH (hm X▸hh)) hx hg
theorem Cd {m':Nat->List Dl}{a':Nat->Act}(T:TypeId)(zs:List Value)(H:Hp w0 w m)(h:∀X w',Hd (Hp w0 w' (m' X))->Hd (Ah w w')->wpList P ops Q rest (a' X) w')(hw:Region.wanted op (yielded ops a.tmps)=true:=by rfl)(hv:(execOp a.eval op).run P w= .ok (.value (.pointer (π w.heap.size))) (w.alloc (.cells zs.toArray T)):=by (try simp only[rz,rc]);go_simp)(hn:Ar zs:=by simp[Ar,rz,rc])(hm:∀X,m++[.blk X T zs]=m' X:=by intro X;(try simp only[wR,wT]);rfl)(ha:∀X,a.put op.dst (.pointer (π X))=a' X:=by intro X;(try simp only[ζ]);rfl):wpList P ops Q (op::rest) a w:=aH hw hv H hn fun X w' hh hx _=>by rw[ha];exact h X w' (zH (hm X▸hh)) (zH (Ah.of_ext hx))
theorem aL {m':Nat->List Dl}{a':Nat->Act}(n:Nat)(T:TypeId)(zs:List Value)(H:Hp w0 w m)(h:∀X w',Hd (Hp w0 w' (m' X))->Aa w w'->w.heap.size<=X->wpList P ops Q rest (a' X) w')(hw:Region.wanted op (yielded ops a.tmps)=true:=by rfl)(hv:(execOp a.eval op).run P w= .ok (.value (.slice (π w.heap.size) n n)) (w.alloc (.cells zs.toArray T)):=by (try simp only[rz,rc]);go_simp)(hn:Ar zs:=by simp[Ar,rz,rc])(hm:∀X,m++[.blk X T zs]=m' X:=by intro X;(try simp only[wR,wT]);rfl)(ha:∀X,a.put op.dst (.slice (π X) n n)=a' X:=by intro X;(try simp only[ζ]);rfl):wpList P ops Q (op::rest) a w:=lM hw hv H hn fun X w' hh hx hg=>by rw[ha];exact h X w' (zH (hm X▸hh)) hx hg
theorem fL {m':Nat->List Dl}{a':Nat->Act}(n:Nat)(T:TypeId)(zs:List Value)(H:Hp w0 w m)(h:∀X w',Hd (Hp w0 w' (m' X))->Hd (Ah w w')->wpList P ops Q rest (a' X) w')(hw:Region.wanted op (yielded ops a.tmps)=true:=by rfl)(hv:(execOp a.eval op).run P w= .ok (.value (.slice (π w.heap.size) n n)) (w.alloc (.cells zs.toArray T)):=by (try simp only[rz,rc]);go_simp)(hn:Ar zs:=by simp[Ar,rz,rc])(hm:∀X,m++[.blk X T zs]=m' X:=by intro X;(try simp only[wR,wT]);rfl)(ha:∀X,a.put op.dst (.slice (π X) n n)=a' X:=by intro X;(try simp only[ζ]);rfl):wpList P ops Q (op::rest) a w:=lM hw hv H hn fun X w' hh hx _=>by rw[ha];exact h X w' (zH (hm X▸hh)) (zH (Ah.of_ext hx))
theorem aS (ix:Nat)(vs:List Value)(H:Hp w0 w m)(h:∀w',Hd (Hp w0 w' m')->Ah w w'->Ba g w w'->wpList P ops Q rest a' w')(hw:Region.wanted op (yielded ops a.tmps)=true:=by rfl)(ho:op.op= .store ty x y:=by rfl)(hi:m[ix]?=some (.blk g t cs):=by rfl)(hx:a.eval x= .pointer (π g):=by rfl)(hy:a.eval y= .agg vs.toArray:=by rfl)(hl:cs.length=vs.length:=by rfl)(hz:(P.info? ty).map (·.size)=some vs.length:=by kernel_rfl)(h1:∀v,v∈vs->v.oneCell'=true:=by simp[Value.oneCell',rc,rz])(hn:Ar vs:=by simp[Ar,rz,rc])(hm:m.set ix (.blk g t (vs))=m':=by (try simp only[List.set_cons_succ,List.set_cons_zero]);rfl)(ha:a.put op.dst undef=a':=by (try simp only[Act.put]);rfl):wpList P ops Q (op::rest) a w:=rC hw ty x y ho H hi 0 vs hx hy (xF (by rw[wH];exact hl.symm)) hz h1 hn fun w' hh hd hq=>by rw[ha];exact h w' (zH (hm▸(show Hp _ _ _ from(by have e:cs.take 0++vs++cs.drop (0+vs.length)=vs:=(by rw[List.take_zero,wT,wH,List.drop_eq_nil_of_le (xF hl),xD]);rw[e]at hh;exact hh)))) hd hq
theorem Ca (ix:Nat)(vs:List Value)(H:Hp w0 w m)(h:∀w',Hd (Hp w0 w' m')->Hd (Ah w w')->wpList P ops Q rest a' w')(hw:Region.wanted op (yielded ops a.tmps)=true:=by rfl)(ho:op.op= .store ty x y:=by rfl)(hi:m[ix]?=some (.blk g t cs):=by rfl)(hx:a.eval x= .pointer (π g):=by rfl)(hy:a.eval y= .agg vs.toArray:=by rfl)(hl:cs.length=vs.length:=by rfl)(hz:(P.info? ty).map (·.size)=some vs.length:=by kernel_rfl)(h1:∀v,v∈vs->v.oneCell'=true:=by simp[Value.oneCell',rc,rz])(hn:Ar vs:=by simp[Ar,rz,rc])(hm:m.set ix (.blk g t (vs))=m':=by (try simp only[List.set_cons_succ,List.set_cons_zero]);rfl)(ha:a.put op.dst undef=a':=by (try simp only[Act.put]);rfl):wpList P ops Q (op::rest) a w:=rC hw ty x y ho H hi 0 vs hx hy (xF (by rw[wH];exact hl.symm)) hz h1 hn fun w' hh hd hq=>by rw[ha];exact h w' (zH (hm▸(show Hp _ _ _ from(by have e:cs.take 0++vs++cs.drop (0+vs.length)=vs:=(by rw[List.take_zero,wT,wH,List.drop_eq_nil_of_le (xF hl),xD]);rw[e]at hh;exact hh)))) (zH hd)
theorem aU (ix:Nat)(v:Value)(H:Hp w0 w m)(h:∀w',Hd (Hp w0 w' m')->Ah w w'->Ba g w w'->wpList P ops Q rest a' w')(hw:Region.wanted op (yielded ops a.tmps)=true:=by rfl)(ho:op.op= .store ty x y:=by rfl)(hi:m[ix]?=some (.blk g t cs):=by rfl)(hx:a.eval x= .pointer (π g):=by rfl)(hy:a.eval y=v:=by rfl)(hl:cs.length=1:=by rfl)(hz:(P.info? ty).map (·.size)=some 1:=by kernel_rfl)(hc:v.cells=#[v]:=by simp[Value.cells])(h1:v.oneCell'=true:=by simp[Value.oneCell'])(hn:Ar [v]:=by simp[Ar,rz,rc])(hm:m.set ix (.blk g t ([v]))=m':=by (try simp only[List.set_cons_succ,List.set_cons_zero]);rfl)(ha:a.put op.dst undef=a':=by (try simp only[Act.put]);rfl):wpList P ops Q (op::rest) a w:=lL hw ty x y ho H hi 0 v hx hy (xF (by rw[wH];exact hl.symm)) hz hc h1 hn fun w' hh hd hq=>by rw[ha];exact h w' (zH (hm▸(show Hp _ _ _ from(by have e:cs.take 0++[v]++cs.drop (0+1)=[v]:=(by rw[List.take_zero,wT,wH,List.drop_eq_nil_of_le (xF hl),xD]);rw[e]at hh;exact hh)))) hd hq
theorem vT (ix:Nat)(v:Value)(H:Hp w0 w m)(h:∀w',Hd (Hp w0 w' m')->Hd (Ah w w')->wpList P ops Q rest a' w')(hw:Region.wanted op (yielded ops a.tmps)=true:=by rfl)(ho:op.op= .store ty x y:=by rfl)(hi:m[ix]?=some (.blk g t cs):=by rfl)(hx:a.eval x= .pointer (π g):=by rfl)(hy:a.eval y=v:=by rfl)(hl:cs.length=1:=by rfl)(hz:(P.info? ty).map (·.size)=some 1:=by kernel_rfl)(hc:v.cells=#[v]:=by simp[Value.cells])(h1:v.oneCell'=true:=by simp[Value.oneCell'])(hn:Ar [v]:=by simp[Ar,rz,rc])(hm:m.set ix (.blk g t ([v]))=m':=by (try simp only[List.set_cons_succ,List.set_cons_zero]);rfl)(ha:a.put op.dst undef=a':=by (try simp only[Act.put]);rfl):wpList P ops Q (op::rest) a w:=lL hw ty x y ho H hi 0 v hx hy (xF (by rw[wH];exact hl.symm)) hz hc h1 hn fun w' hh hd hq=>by rw[ha];exact h w' (zH (hm▸(show Hp _ _ _ from(by have e:cs.take 0++[v]++cs.drop (0+1)=[v]:=(by rw[List.take_zero,wT,wH,List.drop_eq_nil_of_le (xF hl),xD]);rw[e]at hh;exact hh)))) (zH hd)
theorem bS (ix:Nat)(i:Nat)(lt:Array Bool)(vs:List Value)(H:Hp w0 w m)(hS:Aa b w)(hG:b.heap.size<=g)(h:∀w',Hd (Hp w0 w' m')->Hd (Ah w w')->Hd (Aa b w')->wpAnyH P md l.toArray Q (fun x=>Aa b x) fuel lt a' w')(hli:l[i]?=some oi:=by rfl)(hr:Region.ready md l.toArray listed=[i]:=by kernel_rfl)(hw:Region.wanted oi (yielded l.toArray a.tmps)=true:=by rfl)(hlt:listed.setIfInBounds i true=lt:=by kernel_rfl)(ho:oi.op= .store ty x y:=by rfl)(hi:m[ix]?=some (.blk g t cs):=by rfl)(hx:a.eval x= .pointer (π g):=by rfl)(hy:a.eval y= .agg vs.toArray:=by rfl)(hl:cs.length=vs.length:=by rfl)(hz:(P.info? ty).map (·.size)=some vs.length:=by kernel_rfl)(h1:∀v,v∈vs->v.oneCell'=true:=by simp[Value.oneCell',rc,rz])(hn:Ar vs:=by simp[Ar,rz,rc])(hm:m.set ix (.blk g t (vs))=m':=by (try simp only[List.set_cons_succ,List.set_cons_zero]);rfl)(ha:a.put oi.dst undef=a':=by (try simp only[Act.put]);rfl):wpAnyH P md l.toArray Q (fun x=>Aa b x) (fuel+1) listed a w:=Dm hli hr hw hlt ty x y ho H hi 0 vs hx hy (xF (by rw[wH];exact hl.symm)) hz h1 hn fun w' hh hd hq=>⟨Ba.ext hq hS hG,by rw[ha];exact h w' (zH (hm▸(show Hp _ _ _ from(by have e:cs.take 0++vs++cs.drop (0+vs.length)=vs:=(by rw[List.take_zero,wT,wH,List.drop_eq_nil_of_le (xF hl),xD]);rw[e]at hh;exact hh)))) (zH hd) (zH (Ba.ext hq hS hG))⟩
theorem bL.h:bL (.blk g t cs::m) g cs:=⟨0,t,rfl⟩
theorem bL.tl {e:Dl}(h:bL m g cs):bL (e::m) g cs:=by obtain⟨i,t,h⟩:=h;exact⟨i+1,t,h⟩
theorem Sk (hn:Region.wanted op (yielded ops a.tmps)=false:=by rfl)(ha:a.put op.dst undef=a':=by (try simp only[ζ]);rfl):Kk P ops w0 w m op a undef a':=fun _ _ _ h=>by subst ha;exact eP hn h
theorem Sq (hw:Region.wanted op (yielded ops a.tmps)=true:=by rfl)(hv:(execOp a.eval op).run P w= .ok (.value v) w:=by go_simp<;>with_reducible rfl)(ha:a.put op.dst v=a':=by (try simp only[ζ]);rfl):Kk P ops w0 w m op a v a':=fun _ _ _ h=>by subst ha;exact Lp hw hv h
theorem Sd {o:Nat}(hw:Region.wanted op (yielded ops a.tmps)=true:=by rfl)(ho:op.op= .load ty x:=by rfl)(hx:a.eval x= .pointer (some ⟨g,o,none⟩):=by rfl)(hi:bL m g cs:=by repeat (first|exact bL.h|apply bL.tl))(ho0:o=0:=by rfl)(hd:(P.underlying ty).map (·.isRow)=some true:=by decide+kernel)(hz:(P.info? ty).map (·.size)=some cs.length:=by kernel_rfl)(ha:a.put op.dst (.agg cs.toArray)=a':=by (try simp only[ζ]);rfl):Kk P ops w0 w m op a (.agg cs.toArray) a':=fun H _ _ h=>by
  subst ha;subst ho0;obtain⟨i,t,hi⟩:=hi;cases hu:P.underlying ty with
  |none=>rw[hu]at hd;cases hd
  |some d=>
  have hr:=H.range hi 0 cs.length;rw[List.drop_zero,xK]at hr;exact rD hw ty x ho g 0 cs hx hr hu (by rw[hu]at hd;exact Option.some.inj hd) hz h
theorem Se {o:Nat}(hw:Region.wanted op (yielded ops a.tmps)=true:=by rfl)(_ho:op.op= .load ty x:=by rfl)(_hx:a.eval x= .pointer (some ⟨g,o,none⟩):=by rfl)(hi:bL m g cs:=by repeat (first|exact bL.h|apply bL.tl))(hc:cs[o]?=some v:=by rfl)(hv:∀x:World,x.cell? ⟨g,o,none⟩=some v->(execOp a.eval op).run P x= .ok (.value v) x:=by intro x hq;go_simp<;>with_reducible rfl)(ha:a.put op.dst v=a':=by (try simp only[ζ]);rfl):Kk P ops w0 w m op a v a':=fun H _ _ h=>by
  subst ha;obtain⟨i,t,hi⟩:=hi;exact lN hw (H.cell hi o hc) hv h
theorem Cy (H:Hp w0 w m)(v1:Value)(h:wpList P ops Q rest a1 w)(s1:Kk P ops w0 w m o1 a v1 a1:=by first|exact Sk|exact Sd|exact Se|exact Sq):wpList P ops Q (o1::rest) a w:=s1 H _ _ (h)
theorem Bq (H:Hp w0 w m)(v1 v2:Value)(h:wpList P ops Q rest a2 w)(s1:Kk P ops w0 w m o1 a v1 a1:=by first|exact Sk|exact Sd|exact Se|exact Sq)(s2:Kk P ops w0 w m o2 a1 v2 a2:=by first|exact Sk|exact Sd|exact Se|exact Sq):wpList P ops Q (o1::o2::rest) a w:=s1 H _ _ (s2 H _ _ (h))
theorem Cn (H:Hp w0 w m)(v1 v2 v3:Value)(h:wpList P ops Q rest a3 w)(s1:Kk P ops w0 w m o1 a v1 a1:=by first|exact Sk|exact Sd|exact Se|exact Sq)(s2:Kk P ops w0 w m o2 a1 v2 a2:=by first|exact Sk|exact Sd|exact Se|exact Sq)(s3:Kk P ops w0 w m o3 a2 v3 a3:=by first|exact Sk|exact Sd|exact Se|exact Sq):wpList P ops Q (o1::o2::o3::rest) a w:=s1 H _ _ (s2 H _ _ (s3 H _ _ (h)))
theorem Ek (H:Hp w0 w m)(v1 v2 v3 v4:Value)(h:wpList P ops Q rest a4 w)(s1:Kk P ops w0 w m o1 a v1 a1:=by first|exact Sk|exact Sd|exact Se|exact Sq)(s2:Kk P ops w0 w m o2 a1 v2 a2:=by first|exact Sk|exact Sd|exact Se|exact Sq)(s3:Kk P ops w0 w m o3 a2 v3 a3:=by first|exact Sk|exact Sd|exact Se|exact Sq)(s4:Kk P ops w0 w m o4 a3 v4 a4:=by first|exact Sk|exact Sd|exact Se|exact Sq):wpList P ops Q (o1::o2::o3::o4::rest) a w:=s1 H _ _ (s2 H _ _ (s3 H _ _ (s4 H _ _ (h))))
theorem Ql (H:Hp w0 w m)(v1 v2 v3 v4 v5:Value)(h:wpList P ops Q rest a5 w)(s1:Kk P ops w0 w m o1 a v1 a1:=by first|exact Sk|exact Sd|exact Se|exact Sq)(s2:Kk P ops w0 w m o2 a1 v2 a2:=by first|exact Sk|exact Sd|exact Se|exact Sq)(s3:Kk P ops w0 w m o3 a2 v3 a3:=by first|exact Sk|exact Sd|exact Se|exact Sq)(s4:Kk P ops w0 w m o4 a3 v4 a4:=by first|exact Sk|exact Sd|exact Se|exact Sq)(s5:Kk P ops w0 w m o5 a4 v5 a5:=by first|exact Sk|exact Sd|exact Se|exact Sq):wpList P ops Q (o1::o2::o3::o4::o5::rest) a w:=s1 H _ _ (s2 H _ _ (s3 H _ _ (s4 H _ _ (s5 H _ _ (h)))))
theorem dR {o6:Oper}(H:Hp w0 w m)(v1 v2 v3 v4 v5 v6:Value)(h:wpList P ops Q rest a6 w)(s1:Kk P ops w0 w m o1 a v1 a1:=by first|exact Sk|exact Sd|exact Se|exact Sq)(s2:Kk P ops w0 w m o2 a1 v2 a2:=by first|exact Sk|exact Sd|exact Se|exact Sq)(s3:Kk P ops w0 w m o3 a2 v3 a3:=by first|exact Sk|exact Sd|exact Se|exact Sq)(s4:Kk P ops w0 w m o4 a3 v4 a4:=by first|exact Sk|exact Sd|exact Se|exact Sq)(s5:Kk P ops w0 w m o5 a4 v5 a5:=by first|exact Sk|exact Sd|exact Se|exact Sq)(s6:Kk P ops w0 w m o6 a5 v6 a6:=by first|exact Sk|exact Sd|exact Se|exact Sq):wpList P ops Q (o1::o2::o3::o4::o5::o6::rest) a w:=s1 H _ _ (s2 H _ _ (s3 H _ _ (s4 H _ _ (s5 H _ _ (s6 H _ _ (h))))))
theorem dQ {o6:Oper}{o7:Oper}(H:Hp w0 w m)(v1 v2 v3 v4 v5 v6 v7:Value)(h:wpList P ops Q rest a7 w)(s1:Kk P ops w0 w m o1 a v1 a1:=by first|exact Sk|exact Sd|exact Se|exact Sq)(s2:Kk P ops w0 w m o2 a1 v2 a2:=by first|exact Sk|exact Sd|exact Se|exact Sq)(s3:Kk P ops w0 w m o3 a2 v3 a3:=by first|exact Sk|exact Sd|exact Se|exact Sq)(s4:Kk P ops w0 w m o4 a3 v4 a4:=by first|exact Sk|exact Sd|exact Se|exact Sq)(s5:Kk P ops w0 w m o5 a4 v5 a5:=by first|exact Sk|exact Sd|exact Se|exact Sq)(s6:Kk P ops w0 w m o6 a5 v6 a6:=by first|exact Sk|exact Sd|exact Se|exact Sq)(s7:Kk P ops w0 w m o7 a6 v7 a7:=by first|exact Sk|exact Sd|exact Se|exact Sq):wpList P ops Q (o1::o2::o3::o4::o5::o6::o7::rest) a w:=s1 H _ _ (s2 H _ _ (s3 H _ _ (s4 H _ _ (s5 H _ _ (s6 H _ _ (s7 H _ _ (h)))))))
theorem Hz {o6:Oper}{o7:Oper}{o8:Oper}{a8:Act}(H:Hp w0 w m)(v1 v2 v3 v4 v5 v6 v7 v8:Value)(h:wpList P ops Q rest a8 w)(s1:Kk P ops w0 w m o1 a v1 a1:=by first|exact Sk|exact Sd|exact Se|exact Sq)(s2:Kk P ops w0 w m o2 a1 v2 a2:=by first|exact Sk|exact Sd|exact Se|exact Sq)(s3:Kk P ops w0 w m o3 a2 v3 a3:=by first|exact Sk|exact Sd|exact Se|exact Sq)(s4:Kk P ops w0 w m o4 a3 v4 a4:=by first|exact Sk|exact Sd|exact Se|exact Sq)(s5:Kk P ops w0 w m o5 a4 v5 a5:=by first|exact Sk|exact Sd|exact Se|exact Sq)(s6:Kk P ops w0 w m o6 a5 v6 a6:=by first|exact Sk|exact Sd|exact Se|exact Sq)(s7:Kk P ops w0 w m o7 a6 v7 a7:=by first|exact Sk|exact Sd|exact Se|exact Sq)(s8:Kk P ops w0 w m o8 a7 v8 a8:=by first|exact Sk|exact Sd|exact Se|exact Sq):wpList P ops Q (o1::o2::o3::o4::o5::o6::o7::o8::rest) a w:=s1 H _ _ (s2 H _ _ (s3 H _ _ (s4 H _ _ (s5 H _ _ (s6 H _ _ (s7 H _ _ (s8 H _ _ (h))))))))
theorem aC {f:FuncId}{args:Array Value}(H:Hp w0 w m)(hc:Calls P f args w (fun e w'=>e= .returned v/\Aa w w'))(h:∀w',Hd (Hp w0 w' m)->Hd (Ah w w')->wpList P ops Q rest a' w')(hw:Region.wanted op (yielded ops a.tmps)=true:=by rfl)(hv:(execOp a.eval op).run P w= .ok (.enter f args) w:=by go_simp)(ha:a.put op.dst v=a':=by (try simp only[ζ]);rfl):wpList P ops Q (op::rest) a w:=Ge hw hv hc fun e w' ⟨h1,hx⟩=>⟨v,h1,by rw[ha];exact h w' (zH (H.step hx)) (zH (Ah.of_ext hx))⟩
theorem hN (h:Hp w0 w m)(hm:m=m':=by (try simp only[wR,wT,List.set_cons_succ,List.set_cons_zero]);rfl):Hd (Hp w0 w m'):=zH (hm▸h)
theorem Tk (hi:l[i]?=some oi:=by rfl)(hs:Region.noSelect l.toArray=true:=by kernel_rfl)(hf:Region.free md l.toArray listed i=true:=by kernel_rfl)(hr:(Region.ready md l.toArray listed).contains i=true:=by kernel_rfl)(hn:Region.wanted oi (yielded l.toArray a.tmps)=false:=by rfl)(hQ:∀c a w,Q (.panic c) (a.put oi.dst undef) w->Q (.panic c) a w:=by intro _ _ _ h;exact h)(ha:a.put oi.dst undef=a':=by (try simp only[ζ]);rfl):SD P md l Q w0 b m i listed a undef a':=fun _ _ _ hS h=>by subst ha;exact eQ hi hs hf hr hQ hn hS rfl h
theorem Tq (hi:l[i]?=some oi:=by rfl)(hs:Region.noSelect l.toArray=true:=by kernel_rfl)(hf:Region.free md l.toArray listed i=true:=by kernel_rfl)(hr:(Region.ready md l.toArray listed).contains i=true:=by kernel_rfl)(hw:Region.wanted oi (yielded l.toArray a.tmps)=true:=by rfl)(hv:∀w,Aa b w->(execOp a.eval oi).run P w= .ok (.value v) w:=by intro w A0;go_simp<;>with_reducible rfl)(hQ:∀c a w,Q (.panic c) (a.put oi.dst v) w->Q (.panic c) a w:=by intro _ _ _ h;exact h)(ha:a.put oi.dst v=a':=by (try simp only[ζ]);rfl):SD P md l Q w0 b m i listed a v a':=fun _ _ _ hS h=>by subst ha;exact Lr hi hs hf hr hQ hw hv hS rfl h
theorem Td {o:Nat}(hi:l[i]?=some oi:=by rfl)(hs:Region.noSelect l.toArray=true:=by kernel_rfl)(hf:Region.free md l.toArray listed i=true:=by kernel_rfl)(hr:(Region.ready md l.toArray listed).contains i=true:=by kernel_rfl)(hw:Region.wanted oi (yielded l.toArray a.tmps)=true:=by rfl)(ho:oi.op= .load ty x:=by rfl)(hx:a.eval x= .pointer (some ⟨g,o,none⟩):=by rfl)(hi_:bL m g cs:=by repeat (first|exact bL.h|apply bL.tl))(ho0:o=0:=by rfl)(hd:(P.underlying ty).map (·.isRow)=some true:=by decide+kernel)(hz:(P.info? ty).map (·.size)=some cs.length:=by kernel_rfl)(hQ:∀c a w,Q (.panic c) (a.put oi.dst (.agg cs.toArray)) w->Q (.panic c) a w:=by intro _ _ _ h;exact h)(ha:a.put oi.dst (.agg cs.toArray)=a':=by (try simp only[ζ]);rfl):SD P md l Q w0 b m i listed a (.agg cs.toArray) a':=fun H _ _ hS h=>by
  subst ha;subst ho0;obtain⟨j,t,hj⟩:=hi_;cases hu:P.underlying ty with
  |none=>rw[hu]at hd;cases hd
  |some d=>
  have A0:=H.range hj 0 cs.length;rw[List.drop_zero,xK]at A0;exact Fg hi hs hf hr ty x ho g 0 cs d hQ hw hx (fun x hx=>Be A0 hx) hu (by rw[hu]at hd;exact Option.some.inj hd) hz hS rfl h
theorem Te {o:Nat}(hi:l[i]?=some oi:=by rfl)(hs:Region.noSelect l.toArray=true:=by kernel_rfl)(hf:Region.free md l.toArray listed i=true:=by kernel_rfl)(hr:(Region.ready md l.toArray listed).contains i=true:=by kernel_rfl)(hw:Region.wanted oi (yielded l.toArray a.tmps)=true:=by rfl)(_ho:oi.op= .load ty x:=by rfl)(_hx:a.eval x= .pointer (some ⟨g,o,none⟩):=by rfl)(hi_:bL m g cs:=by repeat (first|exact bL.h|apply bL.tl))(hc:cs[o]?=some v:=by rfl)(hv:∀x:World,x.cell? ⟨g,o,none⟩=some v->(execOp a.eval oi).run P x= .ok (.value v) x:=by intro x hq;go_simp<;>with_reducible rfl)(hQ:∀c a w,Q (.panic c) (a.put oi.dst v) w->Q (.panic c) a w:=by intro _ _ _ h;exact h)(ha:a.put oi.dst v=a':=by (try simp only[ζ]);rfl):SD P md l Q w0 b m i listed a v a':=fun H _ _ hS h=>by
  subst ha;obtain⟨j,t,hj⟩:=hi_;exact Cr hi hs hf hr hQ hw (fun x hx=>Aa.get hx (H.cell hj o hc)) hv hS rfl h
theorem Rt (H:Hp w0 b m)(hS:Aa b w)(lt:Array Bool)(i1:Nat)(v1:Value)(h:wpAnyH P md l.toArray Q (fun x=>Aa b x) fuel lt a1 w)(s1:SD P md l Q w0 b m i1 listed a v1 a1:=by first|exact Tk|exact Td|exact Te|exact Tq)(hl:(listed.setIfInBounds i1 true)=lt:=by kernel_rfl):wpAnyH P md l.toArray Q (fun x=>Aa b x) (fuel+1) listed a w:=s1 H _ _ hS ((by rw[hl];exact h))
theorem Jv (H:Hp w0 b m)(hS:Aa b w)(lt:Array Bool)(i1 i2:Nat)(v1 v2:Value)(h:wpAnyH P md l.toArray Q (fun x=>Aa b x) fuel lt a2 w)(s1:SD P md l Q w0 b m i1 listed a v1 a1:=by first|exact Tk|exact Td|exact Te|exact Tq)(s2:SD P md l Q w0 b m i2 (listed.setIfInBounds i1 true) a1 v2 a2:=by first|exact Tk|exact Td|exact Te|exact Tq)(hl:((listed.setIfInBounds i1 true).setIfInBounds i2 true)=lt:=by kernel_rfl):wpAnyH P md l.toArray Q (fun x=>Aa b x) (fuel+1+1) listed a w:=s1 H _ _ hS (s2 H _ _ hS ((by rw[hl];exact h)))
theorem Rg (H:Hp w0 b m)(hS:Aa b w)(lt:Array Bool)(i1 i2 i3:Nat)(v1 v2 v3:Value)(h:wpAnyH P md l.toArray Q (fun x=>Aa b x) fuel lt a3 w)(s1:SD P md l Q w0 b m i1 listed a v1 a1:=by first|exact Tk|exact Td|exact Te|exact Tq)(s2:SD P md l Q w0 b m i2 (listed.setIfInBounds i1 true) a1 v2 a2:=by first|exact Tk|exact Td|exact Te|exact Tq)(s3:SD P md l Q w0 b m i3 ((listed.setIfInBounds i1 true).setIfInBounds i2 true) a2 v3 a3:=by first|exact Tk|exact Td|exact Te|exact Tq)(hl:(((listed.setIfInBounds i1 true).setIfInBounds i2 true).setIfInBounds i3 true)=lt:=by kernel_rfl):wpAnyH P md l.toArray Q (fun x=>Aa b x) (fuel+1+1+1) listed a w:=s1 H _ _ hS (s2 H _ _ hS (s3 H _ _ hS ((by rw[hl];exact h))))
theorem qT (H:Hp w0 b m)(hS:Aa b w)(lt:Array Bool)(i1 i2 i3 i4:Nat)(v1 v2 v3 v4:Value)(h:wpAnyH P md l.toArray Q (fun x=>Aa b x) fuel lt a4 w)(s1:SD P md l Q w0 b m i1 listed a v1 a1:=by first|exact Tk|exact Td|exact Te|exact Tq)(s2:SD P md l Q w0 b m i2 (listed.setIfInBounds i1 true) a1 v2 a2:=by first|exact Tk|exact Td|exact Te|exact Tq)(s3:SD P md l Q w0 b m i3 ((listed.setIfInBounds i1 true).setIfInBounds i2 true) a2 v3 a3:=by first|exact Tk|exact Td|exact Te|exact Tq)(s4:SD P md l Q w0 b m i4 (((listed.setIfInBounds i1 true).setIfInBounds i2 true).setIfInBounds i3 true) a3 v4 a4:=by first|exact Tk|exact Td|exact Te|exact Tq)(hl:((((listed.setIfInBounds i1 true).setIfInBounds i2 true).setIfInBounds i3 true).setIfInBounds i4 true)=lt:=by kernel_rfl):wpAnyH P md l.toArray Q (fun x=>Aa b x) (fuel+1+1+1+1) listed a w:=s1 H _ _ hS (s2 H _ _ hS (s3 H _ _ hS (s4 H _ _ hS ((by rw[hl];exact h)))))
theorem vO (H:Hp w0 b m)(hS:Aa b w)(lt:Array Bool)(i1 i2 i3 i4 i5:Nat)(v1 v2 v3 v4 v5:Value)(h:wpAnyH P md l.toArray Q (fun x=>Aa b x) fuel lt a5 w)(s1:SD P md l Q w0 b m i1 listed a v1 a1:=by first|exact Tk|exact Td|exact Te|exact Tq)(s2:SD P md l Q w0 b m i2 (listed.setIfInBounds i1 true) a1 v2 a2:=by first|exact Tk|exact Td|exact Te|exact Tq)(s3:SD P md l Q w0 b m i3 ((listed.setIfInBounds i1 true).setIfInBounds i2 true) a2 v3 a3:=by first|exact Tk|exact Td|exact Te|exact Tq)(s4:SD P md l Q w0 b m i4 (((listed.setIfInBounds i1 true).setIfInBounds i2 true).setIfInBounds i3 true) a3 v4 a4:=by first|exact Tk|exact Td|exact Te|exact Tq)(s5:SD P md l Q w0 b m i5 ((((listed.setIfInBounds i1 true).setIfInBounds i2 true).setIfInBounds i3 true).setIfInBounds i4 true) a4 v5 a5:=by first|exact Tk|exact Td|exact Te|exact Tq)(hl:(((((listed.setIfInBounds i1 true).setIfInBounds i2 true).setIfInBounds i3 true).setIfInBounds i4 true).setIfInBounds i5 true)=lt:=by kernel_rfl):wpAnyH P md l.toArray Q (fun x=>Aa b x) (fuel+1+1+1+1+1) listed a w:=s1 H _ _ hS (s2 H _ _ hS (s3 H _ _ hS (s4 H _ _ hS (s5 H _ _ hS ((by rw[hl];exact h))))))
theorem tZ (H:Hp w0 b m)(hS:Aa b w)(lt:Array Bool)(i1 i2 i3 i4 i5 i6:Nat)(v1 v2 v3 v4 v5 v6:Value)(h:wpAnyH P md l.toArray Q (fun x=>Aa b x) fuel lt a6 w)(s1:SD P md l Q w0 b m i1 listed a v1 a1:=by first|exact Tk|exact Td|exact Te|exact Tq)(s2:SD P md l Q w0 b m i2 (listed.setIfInBounds i1 true) a1 v2 a2:=by first|exact Tk|exact Td|exact Te|exact Tq)(s3:SD P md l Q w0 b m i3 ((listed.setIfInBounds i1 true).setIfInBounds i2 true) a2 v3 a3:=by first|exact Tk|exact Td|exact Te|exact Tq)(s4:SD P md l Q w0 b m i4 (((listed.setIfInBounds i1 true).setIfInBounds i2 true).setIfInBounds i3 true) a3 v4 a4:=by first|exact Tk|exact Td|exact Te|exact Tq)(s5:SD P md l Q w0 b m i5 ((((listed.setIfInBounds i1 true).setIfInBounds i2 true).setIfInBounds i3 true).setIfInBounds i4 true) a4 v5 a5:=by first|exact Tk|exact Td|exact Te|exact Tq)(s6:SD P md l Q w0 b m i6 (((((listed.setIfInBounds i1 true).setIfInBounds i2 true).setIfInBounds i3 true).setIfInBounds i4 true).setIfInBounds i5 true) a5 v6 a6:=by first|exact Tk|exact Td|exact Te|exact Tq)(hl:((((((listed.setIfInBounds i1 true).setIfInBounds i2 true).setIfInBounds i3 true).setIfInBounds i4 true).setIfInBounds i5 true).setIfInBounds i6 true)=lt:=by kernel_rfl):wpAnyH P md l.toArray Q (fun x=>Aa b x) (fuel+1+1+1+1+1+1) listed a w:=s1 H _ _ hS (s2 H _ _ hS (s3 H _ _ hS (s4 H _ _ hS (s5 H _ _ hS (s6 H _ _ hS ((by rw[hl];exact h)))))))
theorem vN (H:Hp w0 b m)(hS:Aa b w)(lt:Array Bool)(i1 i2 i3 i4 i5 i6 i7:Nat)(v1 v2 v3 v4 v5 v6 v7:Value)(h:wpAnyH P md l.toArray Q (fun x=>Aa b x) fuel lt a7 w)(s1:SD P md l Q w0 b m i1 listed a v1 a1:=by first|exact Tk|exact Td|exact Te|exact Tq)(s2:SD P md l Q w0 b m i2 (listed.setIfInBounds i1 true) a1 v2 a2:=by first|exact Tk|exact Td|exact Te|exact Tq)(s3:SD P md l Q w0 b m i3 ((listed.setIfInBounds i1 true).setIfInBounds i2 true) a2 v3 a3:=by first|exact Tk|exact Td|exact Te|exact Tq)(s4:SD P md l Q w0 b m i4 (((listed.setIfInBounds i1 true).setIfInBounds i2 true).setIfInBounds i3 true) a3 v4 a4:=by first|exact Tk|exact Td|exact Te|exact Tq)(s5:SD P md l Q w0 b m i5 ((((listed.setIfInBounds i1 true).setIfInBounds i2 true).setIfInBounds i3 true).setIfInBounds i4 true) a4 v5 a5:=by first|exact Tk|exact Td|exact Te|exact Tq)(s6:SD P md l Q w0 b m i6 (((((listed.setIfInBounds i1 true).setIfInBounds i2 true).setIfInBounds i3 true).setIfInBounds i4 true).setIfInBounds i5 true) a5 v6 a6:=by first|exact Tk|exact Td|exact Te|exact Tq)(s7:SD P md l Q w0 b m i7 ((((((listed.setIfInBounds i1 true).setIfInBounds i2 true).setIfInBounds i3 true).setIfInBounds i4 true).setIfInBounds i5 true).setIfInBounds i6 true) a6 v7 a7:=by first|exact Tk|exact Td|exact Te|exact Tq)(hl:(((((((listed.setIfInBounds i1 true).setIfInBounds i2 true).setIfInBounds i3 true).setIfInBounds i4 true).setIfInBounds i5 true).setIfInBounds i6 true).setIfInBounds i7 true)=lt:=by kernel_rfl):wpAnyH P md l.toArray Q (fun x=>Aa b x) (fuel+1+1+1+1+1+1+1) listed a w:=s1 H _ _ hS (s2 H _ _ hS (s3 H _ _ hS (s4 H _ _ hS (s5 H _ _ hS (s6 H _ _ hS (s7 H _ _ hS ((by rw[hl];exact h))))))))
theorem qS {a8:Act}(H:Hp w0 b m)(hS:Aa b w)(lt:Array Bool)(i1 i2 i3 i4 i5 i6 i7 i8:Nat)(v1 v2 v3 v4 v5 v6 v7 v8:Value)(h:wpAnyH P md l.toArray Q (fun x=>Aa b x) fuel lt a8 w)(s1:SD P md l Q w0 b m i1 listed a v1 a1:=by first|exact Tk|exact Td|exact Te|exact Tq)(s2:SD P md l Q w0 b m i2 (listed.setIfInBounds i1 true) a1 v2 a2:=by first|exact Tk|exact Td|exact Te|exact Tq)(s3:SD P md l Q w0 b m i3 ((listed.setIfInBounds i1 true).setIfInBounds i2 true) a2 v3 a3:=by first|exact Tk|exact Td|exact Te|exact Tq)(s4:SD P md l Q w0 b m i4 (((listed.setIfInBounds i1 true).setIfInBounds i2 true).setIfInBounds i3 true) a3 v4 a4:=by first|exact Tk|exact Td|exact Te|exact Tq)(s5:SD P md l Q w0 b m i5 ((((listed.setIfInBounds i1 true).setIfInBounds i2 true).setIfInBounds i3 true).setIfInBounds i4 true) a4 v5 a5:=by first|exact Tk|exact Td|exact Te|exact Tq)(s6:SD P md l Q w0 b m i6 (((((listed.setIfInBounds i1 true).setIfInBounds i2 true).setIfInBounds i3 true).setIfInBounds i4 true).setIfInBounds i5 true) a5 v6 a6:=by first|exact Tk|exact Td|exact Te|exact Tq)(s7:SD P md l Q w0 b m i7 ((((((listed.setIfInBounds i1 true).setIfInBounds i2 true).setIfInBounds i3 true).setIfInBounds i4 true).setIfInBounds i5 true).setIfInBounds i6 true) a6 v7 a7:=by first|exact Tk|exact Td|exact Te|exact Tq)(s8:SD P md l Q w0 b m i8 (((((((listed.setIfInBounds i1 true).setIfInBounds i2 true).setIfInBounds i3 true).setIfInBounds i4 true).setIfInBounds i5 true).setIfInBounds i6 true).setIfInBounds i7 true) a7 v8 a8:=by first|exact Tk|exact Td|exact Te|exact Tq)(hl:((((((((listed.setIfInBounds i1 true).setIfInBounds i2 true).setIfInBounds i3 true).setIfInBounds i4 true).setIfInBounds i5 true).setIfInBounds i6 true).setIfInBounds i7 true).setIfInBounds i8 true)=lt:=by kernel_rfl):wpAnyH P md l.toArray Q (fun x=>Aa b x) (fuel+1+1+1+1+1+1+1+1) listed a w:=s1 H _ _ hS (s2 H _ _ hS (s3 H _ _ hS (s4 H _ _ hS (s5 H _ _ hS (s6 H _ _ hS (s7 H _ _ hS (s8 H _ _ hS ((by rw[hl];exact h)))))))))
theorem Ck (p:Prop):Hd p\/Hd (¬p):=(Classical.em p).imp zH zH
theorem kR {α:Type}{a:α}{b:α}(h:a=b:=by kernel_rfl):a=b:=h
theorem rR {α:Type}{a:α}{b:α}(h:a=b:=by rfl):a=b:=h
theorem dC {p:Prop}(h:p:=by decide):p:=h
theorem wl {id:Nat}(h:wpList P l.toArray Q l a w):Code.wp P (Code.region id l.toArray false) Q a w:=wp_region_lit h
theorem tD {a:World}{c:World}(h:Hd (Ah a b))(k:Hd (Ah b c)):Hd (Ah a c):=zH (h.1.trans k.1)
end
end
section
section
variable {P:Program} {l:List Oper} {Q:Exit->Act->World->Prop} {md:Region.Mode} {S:World->Prop} {j i:Nat} {dj:Option Tmp} {T:TypeId} {zs:List Value} {b w0:World} {m:List Dl} {fuel:Nat} {listed li lj lij:Array Bool} {a:Act} {w:World} {oi oj:Oper} {v:Value}
def Fl (P:Program)(md:Region.Mode)(l:List Oper)(Q:Exit->Act->World->Prop)(S:World->Prop)(j:Nat)(dj:Option Tmp)(T:TypeId)(zs:List Value)(b w0:World)(m:List Dl)(fuel:Nat)(listed:Array Bool)(a:Act)(w:World):Prop:=
  wpAnyH P md l.toArray Q S (fuel+1) listed a w/\
  ∀X y,Aa w y->Hp w0 y (m++[.blk X T zs])->S y->b.heap.size<=X->wpAnyH P md l.toArray Q S fuel (listed.setIfInBounds j true) (a.put dj (.pointer (π X))) y
def Gd (l:List Oper)(o:Oper)(dj:Option Tmp):Bool:=match dj with|none=>true|some d=> !(o.looksAt l.toArray).contains d&&o.dst != some d
theorem Gz {o:Oper}(h:Gd l o dj=true):(∀d,dj=some d->d∉o.looksAt l.toArray)/\∀d,dj=some d->o.dst≠some d:=by
  cases dj with
  |none=>exact⟨fun d h=>(by cases h),fun d h=>(by cases h)⟩
  | some d=>
    unfold Gd at h;simp at h;refine⟨fun d' e=> ?_,fun d' e=> ?_⟩
    · injection e with e;subst e;exact h.1
    injection e with e;subst e;exact h.2
theorem qA (hi:l[i]?=some oi)(hs:Region.noSelect l.toArray=true)(hf:Region.free md l.toArray listed i=true)(hr:(Region.ready md l.toArray listed).contains i=true)(hlj:listed.setIfInBounds j true=lj)
  (hf2:Region.free md l.toArray lj i=true)(hr2:(Region.ready md l.toArray lj).contains i=true)(hij:i≠j)(hoff:Gd l oi dj=true)
  (hQ:∀c a w,Q (.panic c) (a.put oi.dst v) w->Q (.panic c) a w)(hy:YieldsIf P l.toArray S oi v a)(hS:S w)(hl:listed.setIfInBounds i true=li)
  (h:Fl P md l Q S j dj T zs b w0 m fuel li (a.put oi.dst v) w):Fl P md l Q S j dj T zs b w0 m (fuel+1) listed a w:=by
 obtain⟨o1,o2⟩:=Gz hoff;have A0:=fun cs b=>Region.noSelect_spec hs i oi cs b (by rw[wL];exact hi)
 refine⟨Ep hi hs hf hr hQ hy hS (by rw[hl];exact h.1),fun X y x hH hSy hX=> ?_⟩;have h2:=h.2 X y x hH hSy hX;rw[Act.put_comm a v _ (fun d e=>fun e2=>(o2 d e2) e)]at h2;rw[hlj];refine Ep hi hs hf2 hr2 hQ (hy.of_same (execOp_put oi A0 a dj _ o1) (wanted_put oi a dj _ o1)) hSy ?_;rw[<-hlj,Array.setIfInBounds_comm _ _ (Ne.symm hij),hl];exact h2
theorem qB {f:FuncId}{args:Array Value}{Φ:World->Ending->World->Prop}(hi:l[i]?=some oi)(hj:l[j]?=some oj)(hs:Region.noSelect l.toArray=true)(hlj:listed.setIfInBounds j true=lj)
  (hr:((Region.ready md l.toArray listed).all fun k=>k==i||k==j)=true)(hne:(Region.ready md l.toArray listed).isEmpty=false)(hr2:Region.ready md l.toArray lj=[i])(hij:i≠j)(hoff:Gd l oi dj=true)(hdj:oj.dst=dj)(hgj:oj.guard=none)
  (hvj:∀(ρ:Operand->Value) (x:World),(execOp ρ oj).run P x= .ok (.value (.pointer (π x.heap.size))) (x.alloc (.cells zs.toArray T)))
  (hSx:∀x y,S x->Aa x y->S y)(hb:b.heap.size<=w.heap.size)(hH:Hp w0 w m)(hn:Ar zs)(hSw:S w)
  (hw:Region.wanted oi (yielded l.toArray a.tmps)=true)(hv:∀x:World,(execOp a.eval oi).run P x= .ok (.enter f args) x)(hl:listed.setIfInBounds i true=li)
  (hc0:∀x,Aa w x->Calls P f args x (Φ x))(hE:∀x e x',Φ x e x'->Aa x x')
  (h0:∀x e x',Aa w x->Φ x e x'->∃v,e= .returned v/\Fl P md l Q S j dj T zs b w0 m fuel li (a.put oi.dst v) x'):Fl P md l Q S j dj T zs b w0 m (fuel+1) listed a w:=by
 have hc:∀x,Aa w x->Calls P f args x fun e x'=>Φ x e x'/\Aa x x':=fun x hx=>(hc0 x hx).mono fun e x' h1=>⟨h1,hE x e x' h1⟩
 have h:=fun(x:World) (e:Ending) (x':World) (h1:Aa w x) (h2:Φ x e x') (_:Aa x x')=>h0 x e x' h1 h2
 obtain⟨o1,o2⟩:=Gz hoff;have A0:=fun cs b=>Region.noSelect_spec hs i oi cs b (by rw[wL];exact hi)
 have done:∀X y,Aa w y->Hp w0 y (m++[.blk X T zs])->S y->b.heap.size<=X->wpAnyH P md l.toArray Q S (fuel+1) (listed.setIfInBounds j true) (a.put dj (.pointer (π X))) y:=by
  intro X y x A3 A2 hX;rw[hlj];refine Xw hi hr2 (by rw[wanted_put oi a dj _ o1];exact hw) (by rw[execOp_put oi A0 a dj _ o1];exact hv y) (hc y x) rfl ?_;rintro e y' ⟨h1,h2⟩;obtain⟨v,rfl,hf⟩:=h y e y' x h1 h2;refine⟨v,rfl,hSx _ _ A2 h2,?_⟩;have h3:=hf.2 X y' Ak (A3.step h2) (hSx _ _ A2 h2) hX;rw[Act.put_comm a v _ (fun d e=>fun e2=>(o2 d e2) e)]at h3;rw[<-hlj,Array.setIfInBounds_comm _ _ (Ne.symm hij),hl];exact h3
 refine⟨?_,done⟩;have x1:Aa w (w.alloc (.cells zs.toArray T)):=(Aa.refl w).alloc _;refine wpAnyH_ready rfl (fun e=>by rw[e]at hne;cases hne) (fun k hk=> ?_);have A1:=List.all_eq_true.1 hr k hk;simp only[Bool.or_eq_true,beq_iff_eq]at A1;rcases A1 with rfl|rfl
 ·refine wpOp_step (by rw[wL];exact hi) (fun K' hK=> ?_)
  rw[if_pos hw];refine Gm (hv w) (hc w (Aa.refl w)) ?_;rintro e x' ⟨h1,h2⟩;obtain⟨v,rfl,hf⟩:=h w e x' (Aa.refl w) h1 h2;refine⟨v,rfl,hK _ _ ⟨hSx _ _ hSw h2,?_⟩⟩;rw[hl];exact hf.1
 refine wpOp_step (by rw[wL];exact hj) (fun K' hK=> ?_);rw[if_pos (by simp[Region.wanted,hgj])];unfold Oper.wp;rw[hvj];refine hK _ _ ⟨hSx _ _ hSw x1,?_⟩;rw[hdj];exact done _ _ x1 (hH.alloc T zs hn) (hSx _ _ hSw x1) hb
theorem sW (hj:l[j]?=some oj)(hr:Region.ready md l.toArray listed=[j])(hdj:oj.dst=dj)(hgj:oj.guard=none)
  (hvj:∀(ρ:Operand->Value) (x:World),(execOp ρ oj).run P x= .ok (.value (.pointer (π x.heap.size))) (x.alloc (.cells zs.toArray T)))
  (hSx:∀x y,S x->Aa x y->S y)(hb:b.heap.size<=w.heap.size)(hH:Hp w0 w m)(hn:Ar zs)(hSw:S w)(hl:listed.setIfInBounds j true=lj)
  (h:∀X y,Aa w y->Hp w0 y (m++[.blk X T zs])->S y->b.heap.size<=X->wpAnyH P md l.toArray Q S fuel lj (a.put dj (.pointer (π X))) y):Fl P md l Q S j dj T zs b w0 m fuel listed a w:=by
 have x1:Aa w (w.alloc (.cells zs.toArray T)):=(Aa.refl w).alloc _;refine⟨Ns hj hr (by simp[Region.wanted,hgj]) (hvj _ w) (hSx _ _ hSw x1) hl ?_,fun X y x hHy hSy hX=>by rw[hl];exact h X y x hHy hSy hX⟩;rw[hdj];exact h _ _ x1 (hH.alloc T zs hn) (hSx _ _ hSw x1) hb
end
section
variable {P:Program} {l:List Oper} {S:World->Prop} {oi:Oper} {a:Act}
theorem qU {v:Value}(hw:Region.wanted oi (yielded l.toArray a.tmps)=true)(hv:∀w,S w->(execOp a.eval oi).run P w= .ok (.value v) w):YieldsIf P l.toArray S oi v a:= .inl ⟨hw,hv⟩
end
section
variable {P:Program} {l:List Oper} {Q:Exit->Act->World->Prop} {md:Region.Mode} {S:World->Prop} {j i:Nat} {dj:Option Tmp} {u:Value} {b:World} {fuel:Nat} {listed li lj lij:Array Bool} {a:Act} {w:World} {oi oj:Oper} {v:Value}
def Fd (P:Program)(md:Region.Mode)(l:List Oper)(Q:Exit->Act->World->Prop)(S:World->Prop)(j:Nat)(dj:Option Tmp)(u:Value)(fuel:Nat)(listed:Array Bool)(a:Act)(w:World):Prop:=
  wpAnyH P md l.toArray Q S (fuel+1) listed a w/\wpAnyH P md l.toArray Q S fuel (listed.setIfInBounds j true) (a.put dj u) w
theorem Fd.go (h:Fd P md l Q S j dj u fuel listed a w):wpAnyH P md l.toArray Q S (fuel+1) listed a w:=h.1
theorem Kv {f:FuncId}{args:Array Value}{Φ:Ending->World->Prop}(hi:l[i]?=some oi)(hj:l[j]?=some oj)(hs:Region.noSelect l.toArray=true)(hlj:listed.setIfInBounds j true=lj)
  (hr:((Region.ready md l.toArray listed).all fun k=>k==i||k==j)=true)(hne:(Region.ready md l.toArray listed).isEmpty=false)(hr2:Region.ready md l.toArray lj=[i])(hij:i≠j)(hoff:Gd l oi dj=true)(hdj:oj.dst=dj)(hgj:oj.guard=none)
  (hSx:∀x,Aa b x->S x)(hb:Aa b w)(hvj:∀x,Aa b x->(execOp a.eval oj).run P x= .ok (.value u) x)
  (hw:Region.wanted oi (yielded l.toArray a.tmps)=true)(hv:(execOp a.eval oi).run P w= .ok (.enter f args) w)(hl:listed.setIfInBounds i true=li)
  (hc:Calls P f args w Φ)
  (h:∀e x',Φ e x'->∃v,e= .returned v/\Aa w x'/\Fd P md l Q S j dj u fuel li (a.put oi.dst v) x'):Fd P md l Q S j dj u (fuel+1) listed a w:=by
 obtain⟨o1,o2⟩:=Gz hoff;have A0:=fun cs b=>Region.noSelect_spec hs i oi cs b (by rw[wL];exact hi)
 have done:wpAnyH P md l.toArray Q S (fuel+1) (listed.setIfInBounds j true) (a.put dj u) w:=by
  rw[hlj];refine Xw hi hr2 (by rw[wanted_put oi a dj _ o1];exact hw) (by rw[execOp_put oi A0 a dj _ o1];exact hv) hc rfl ?_;intro e y' h1;obtain⟨v,rfl,h2,hf⟩:=h e y' h1;refine⟨v,rfl,hSx _ (hb.trans h2),?_⟩;have h3:=hf.2;rw[Act.put_comm a v _ (fun d e=>fun e2=>(o2 d e2) e)]at h3;rw[<-hlj,Array.setIfInBounds_comm _ _ (Ne.symm hij),hl];exact h3
 refine⟨?_,done⟩;refine wpAnyH_ready rfl (fun e=>by rw[e]at hne;cases hne) (fun k hk=> ?_);have A1:=List.all_eq_true.1 hr k hk;simp only[Bool.or_eq_true,beq_iff_eq]at A1;rcases A1 with rfl|rfl
 ·refine wpOp_step (by rw[wL];exact hi) (fun K' hK=> ?_)
  rw[if_pos hw];refine Gm hv hc ?_;intro e x' h1;obtain⟨v,rfl,h2,hf⟩:=h e x' h1;refine⟨v,rfl,hK _ _ ⟨hSx _ (hb.trans h2),?_⟩⟩;rw[hl];exact hf.1
 refine wpOp_step (by rw[wL];exact hj) (fun K' hK=> ?_);rw[if_pos (by simp[Region.wanted,hgj])];unfold Oper.wp;rw[hvj w hb];refine hK _ _ ⟨hSx _ hb,?_⟩;rw[hdj];exact done
theorem To (hj:l[j]?=some oj)(hr:Region.ready md l.toArray listed=[j])(hdj:oj.dst=dj)(hgj:oj.guard=none)(hS:S w)(hvj:(execOp a.eval oj).run P w= .ok (.value u) w)(hl:listed.setIfInBounds j true=lj)
    (h:wpAnyH P md l.toArray Q S fuel lj (a.put dj u) w):Fd P md l Q S j dj u fuel listed a w:=by
  refine⟨Ns hj hr (by simp[Region.wanted,hgj]) hvj hS hl ?_,by rw[hl];exact h⟩;rw[hdj];exact h
end
theorem Lc {P:Program}{ρ:Operand->Value}{o:Oper}{w:World}(ty:TypeId)(x:Operand)(ho:o.op= .load ty x)(g k:Nat)(cs:List Value){d:TypeDesc}(hx:ρ x= .pointer (some ⟨g,k,none⟩))(hb:w.rangeAt g k cs)
    (hu:P.underlying ty=some d)(hd:d.isRow=true)(hz:(P.info? ty).map (·.size)=some cs.length):(execOp ρ o).run P w= .ok (.value (.agg cs.toArray)) w:=by
  unfold execOp;simp only[ho,hx,Instr.loadAt,Instr.sureAddr,Sem.run_bind,Sem.run_pure,Result.andThen_ok,run_loadVar_mid w g k ty cs d hb hu hd hz]
section
variable {P:Program} {l:List Oper} {Q:Exit->Act->World->Prop} {md:Region.Mode} {S:World->Prop} {i j ix jx X:Nat} {oi oj:Oper} {fuel:Nat} {listed listed':Array Bool} {a:Act} {w w0:World} {m:List Dl}
end
section
variable {P:Program} {l:List Oper} {Q:Exit->Act->World->Prop} {md:Region.Mode} {S:World->Prop} {j i:Nat} {dj:Option Tmp} {T:TypeId} {zs:List Value} {b w0:World} {m:List Dl} {fuel:Nat} {listed li lj lij:Array Bool} {a:Act} {w:World} {oi oj:Oper} {v:Value}
theorem gK {a':Act}(i:Nat)(lj li:Array Bool)(v:Value)(hS:S w)(h:Fl P md l Q S j dj T zs b w0 m fuel li a' w)(hi:l[i]?=some oi:=by rfl)(hs:Region.noSelect l.toArray=true:=by kernel_rfl)(hf:Region.free md l.toArray listed i=true:=by kernel_rfl)(hr:(Region.ready md l.toArray listed).contains i=true:=by kernel_rfl)(hlj:listed.setIfInBounds j true=lj:=by kernel_rfl)(hf2:Region.free md l.toArray lj i=true:=by kernel_rfl)(hr2:(Region.ready md l.toArray lj).contains i=true:=by kernel_rfl)(hij:i≠j:=by decide)(hoff:Gd l oi dj=true:=by kernel_rfl)(hQ:∀c a w,Q (.panic c) (a.put oi.dst v) w->Q (.panic c) a w:=by intro _ _ _ h;exact h)(hw:Region.wanted oi (yielded l.toArray a.tmps)=true:=by rfl)(hv:∀w,S w->(execOp a.eval oi).run P w= .ok (.value v) w:=by intro w A0;go_simp<;>with_reducible rfl)(hl:listed.setIfInBounds i true=li:=by kernel_rfl)(ha:a.put oi.dst v=a':=by (try simp only[ζ]);rfl):Fl P md l Q S j dj T zs b w0 m (fuel+1) listed a w:=by subst ha;exact qA hi hs hf hr hlj hf2 hr2 hij hoff hQ (qU hw hv) hS hl h
theorem gL {f:FuncId}{args:Array Value}{Φ:World->Ending->World->Prop}(i:Nat)(lj li:Array Bool)(hb:b.heap.size<=w.heap.size)(hH:Hp w0 w m)(hSw:S w)(hc0:∀x,Aa w x->Calls P f args x (Φ x))(hE:∀x e x',Φ x e x'->Aa x x')(h0:∀x e x',Aa w x->Φ x e x'->∃v,e= .returned v/\Fl P md l Q S j dj T zs b w0 m fuel li (a.put oi.dst v) x')(hi:l[i]?=some oi:=by rfl)(hj:l[j]?=some oj:=by rfl)(hs:Region.noSelect l.toArray=true:=by kernel_rfl)(hlj:listed.setIfInBounds j true=lj:=by kernel_rfl)(hr:((Region.ready md l.toArray listed).all fun k=>k==i||k==j)=true:=by kernel_rfl)(hne:(Region.ready md l.toArray listed).isEmpty=false:=by kernel_rfl)(hr2:Region.ready md l.toArray lj=[i]:=by kernel_rfl)(hij:i≠j:=by decide)(hoff:Gd l oi dj=true:=by kernel_rfl)(hdj:oj.dst=dj:=by rfl)(hgj:oj.guard=none:=by rfl)(hvj:∀(ρ:Operand->Value) (x:World),(execOp ρ oj).run P x= .ok (.value (.pointer (π x.heap.size))) (x.alloc (.cells zs.toArray T)):=by intro r_ x_;go_simp)(hSx:∀x y,S x->Aa x y->S y:=by intro x y h1 h2;exact h1.trans h2)(hn:Ar zs:=by simp[Ar,rz,rc])(hw:Region.wanted oi (yielded l.toArray a.tmps)=true:=by rfl)(hv:∀x:World,(execOp a.eval oi).run P x= .ok (.enter f args) x:=by intro x_;go_simp)(hl:listed.setIfInBounds i true=li:=by kernel_rfl):Fl P md l Q S j dj T zs b w0 m (fuel+1) listed a w:=qB hi hj hs hlj hr hne hr2 hij hoff hdj hgj hvj hSx hb hH hn hSw hw hv hl hc0 hE h0
theorem gE (lj:Array Bool)(hb:b.heap.size<=w.heap.size)(hH:Hp w0 w m)(hSw:S w)(h:∀X y,Aa w y->Hp w0 y (m++[.blk X T zs])->S y->b.heap.size<=X->wpAnyH P md l.toArray Q S fuel lj (a.put dj (.pointer (π X))) y)(hj:l[j]?=some oj:=by rfl)(hr:Region.ready md l.toArray listed=[j]:=by kernel_rfl)(hdj:oj.dst=dj:=by rfl)(hgj:oj.guard=none:=by rfl)(hvj:∀(ρ:Operand->Value) (x:World),(execOp ρ oj).run P x= .ok (.value (.pointer (π x.heap.size))) (x.alloc (.cells zs.toArray T)):=by intro r_ x_;go_simp)(hSx:∀x y,S x->Aa x y->S y:=by intro x y h1 h2;exact h1.trans h2)(hn:Ar zs:=by simp[Ar,rz,rc])(hl:listed.setIfInBounds j true=lj:=by kernel_rfl):Fl P md l Q S j dj T zs b w0 m fuel listed a w:=sW hj hr hdj hgj hvj hSx hb hH hn hSw hl h
theorem gG {w':World}(j:Nat)(dj:Option Tmp)(T:TypeId)(zs:List Value)(b:World)(_H:Hp w0 w' m)(h:Fl P md l Q S j dj T zs b w0 m fuel listed a w):wpAnyH P md l.toArray Q S (fuel+1) listed a w:=h.1
end
end
section
structure FJ where
  i:Nat
  d:Option Tmp
  T:TypeId
  zs:List Value
def lP:List FJ->List Bool->Array Bool->Array Bool
  |j::J,true::p,l=>lP J p (l.setIfInBounds j.i true)
  |_::J,false::p,l=>lP J p l
  | [],_,l=>l
  |_::_,[],l=>l
def aD:List FJ->List (Option Nat)->Act->Act
  |j::J,some X::D,a=>aD J D (a.put j.d (.pointer (π X)))
  |_::J,none::D,a=>aD J D a
  | [],_,a=>a
  |_::_,[],a=>a
def cN:List (Option Nat)->Nat
  | []=>0
  |none::D=>cN D+1
  |some _::D=>cN D
def gD (b y:World):List FJ->List (Option Nat)->Prop
  |j::J,some X::D=>(Al y X j.T j.zs.toArray/\b.heap.size<=X/\some X∉D)/\gD b y J D
  |_::J,none::D=>gD b y J D
  | [],_=>True
  |_::_,[]=>True
def Nn:Nat->List (List Bool)
  |0=>[[]]
  |n+1=>(Nn n).map (true:: ·)++(Nn n).map (false:: ·)
theorem Lq:∀(p:List Bool),p∈Nn p.length
  | []=>List.mem_singleton.2 rfl
  |true::p=>List.mem_append.2 (.inl (List.mem_map.2 ⟨p,Lq p,rfl⟩))
  |false::p=>List.mem_append.2 (.inr (List.mem_map.2 ⟨p,Lq p,rfl⟩))
def jS:List FJ->List Bool->List Nat
  |_::J,true::p=>jS J p
  |j::J,false::p=>j.i::jS J p
  | [],_=>[]
  |_::_,[]=>[]
def nd:List FJ->Bool
  | []=>true
  |j::J=>J.all (fun k=>k.i != j.i&&k.d != j.d)&&nd J
section
variable {P:Program} {l:List Oper} {Q:Exit->Act->World->Prop} {md:Region.Mode} {S:World->Prop} {b w:World} {J:List FJ} {i:Nat} {fuel:Nat} {listed li:Array Bool} {a:Act} {oi:Oper} {v:Value}
theorem Th:∀{J:List FJ} {p:List Bool} {L:Array Bool} {i:Nat},(∀j,j∈J->j.i≠i)->(lP J p L).setIfInBounds i true=lP J p (L.setIfInBounds i true)
  | [],p,L,i,_=>by cases p<;>rfl
  |j::J,[],L,i,_=>rfl
  | j::J,true::p,L,i,h=>by
    show(lP J p (L.setIfInBounds j.i true)).setIfInBounds i true=lP J p ((L.setIfInBounds i true).setIfInBounds j.i true);rw[Th fun k hk=>h k (wS _ hk),Array.setIfInBounds_comm _ _ (h j (xE ..))]
  |j::J,false::p,L,i,h=>Th (J:=J) fun k hk=>h k (wS _ hk)
theorem Uf:∀{J:List FJ} {D:List (Option Nat)} {a:Act} {d:Option Tmp} {v:Value},(∀j,j∈J->∀t,j.d=some t->d≠some t)->(aD J D a).put d v=aD J D (a.put d v)
  | [],D,a,d,v,_=>by cases D<;>rfl
  |j::J,[],a,d,v,_=>rfl
  | j::J,some X::D,a,d,v,h=>by
    show(aD J D (a.put j.d _)).put d v=aD J D ((a.put d v).put j.d _);rw[Uf fun k hk=>h k (wS _ hk),Act.put_comm a _ _ (h j (xE ..))]
  |j::J,none::D,a,d,v,h=>Uf (J:=J) fun k hk=>h k (wS _ hk)
theorem Ro:∀{J:List FJ} {D:List (Option Nat)} {L:Array Bool} {q:Nat} {j:FJ} {X:Nat},nd J=true->J[q]?=some j->D[q]?=some none->(lP J (D.map Option.isSome) L).setIfInBounds j.i true=lP J ((D.set q (some X)).map Option.isSome) L
 | [],D,L,q,j,X,_,h,_=>by simp at h
 |k::J,[],L,q,j,X,_,_,h=>by simp at h
 |k::J,x::D,L,0,j,X,hn,h,h2=>by
  have hk:k=j:=by simpa using h
  have hx:x=none:=by simpa using h2
  subst hk;subst hx;unfold nd at hn;rw[xA]at hn;show(lP J (D.map Option.isSome) L).setIfInBounds k.i true=lP J (D.map Option.isSome) (L.setIfInBounds k.i true);exact Th fun z hz=>by
   have:=List.all_eq_true.1 hn.1 z hz;simp at this;exact this.1
 |k::J,x::D,L,q+1,j,X,hn,h,h2=>by
  have h:J[q]?=some j:=by simpa using h
  have h2:D[q]?=some none:=by simpa using h2
  unfold nd at hn;rw[xA]at hn;cases x with
  |none=>exact Ro (J:=J) (D:=D) hn.2 h h2
  |some Y=>exact Ro (L:=L.setIfInBounds k.i true) hn.2 h h2
theorem Rs:∀{J:List FJ} {D:List (Option Nat)} {a:Act} {q:Nat} {j:FJ} {X:Nat},nd J=true->J[q]?=some j->D[q]?=some none->(aD J D a).put j.d (.pointer (π X))=aD J (D.set q (some X)) a
 | [],D,a,q,j,X,_,h,_=>by simp at h
 |k::J,[],a,q,j,X,_,_,h=>by simp at h
 |k::J,x::D,a,0,j,X,hn,h,h2=>by
  have hk:k=j:=by simpa using h
  have hx:x=none:=by simpa using h2
  subst hk;subst hx;unfold nd at hn;rw[xA]at hn;show(aD J D a).put k.d _=aD J D (a.put k.d _);exact Uf fun z hz t ht e=>by
   have:=List.all_eq_true.1 hn.1 z hz;simp at this;exact this.2 (by rw[ht,e])
 |k::J,x::D,a,q+1,j,X,hn,h,h2=>by
  have h:J[q]?=some j:=by simpa using h
  have h2:D[q]?=some none:=by simpa using h2
  unfold nd at hn;rw[xA]at hn;cases x with
  |none=>exact Rs (J:=J) (D:=D) hn.2 h h2
  |some Y=>exact Rs (a:=a.put k.d _) hn.2 h h2
theorem Yg:∀{D:List (Option Nat)} {q X:Nat},D[q]?=some none->cN (D.set q (some X))+1=cN D
  | [],q,X,h=>by simp at h
  | x::D,0,X,h=>by
    have hx:x=none:=by simpa using h
    subst hx;rfl
  | x::D,q+1,X,h=>by
    have h:D[q]?=some none:=by simpa using h
    have:=Yg (X:=X) h;cases x<;>simp only[List.set_cons_succ,cN]<;>omega
theorem Tl {b y y':World}(x:Aa y y'):∀{J:List FJ} {D:List (Option Nat)},gD b y J D->gD b y' J D
  | [],D,_=>by cases D<;>trivial
  |j::J,[],_=>trivial
  |j::J,some X::D,h=>⟨⟨h.1.1.ext x,h.1.2⟩,Tl x h.2⟩
  |j::J,none::D,h=>Tl (J:=J) x h
theorem fC {b y:World}:∀{J:List FJ} {D:List (Option Nat)} {X:Nat},D.length=J.length->gD b y J D->some X∈D->X<y.heap.size
  | [],D,X,hl,_,hX=>by
    have:D=[]:=wP hl;rw[this]at hX;simp at hX
  |j::J,[],X,_,_,hX=>by simp at hX
  | j::J,some Y::D,X,hl,h,hX=>by
    rcases List.mem_cons.1 hX with e|hX
    · injection e with e;subst e;exact h.1.1.lt
    exact fC (by simpa using hl) h.2 hX
  | j::J,none::D,X,hl,h,hX=>by
    rcases List.mem_cons.1 hX with e|hX
    · cases e
    exact fC (J:=J) (by simpa using hl) h hX
theorem Rp {b y:World}{j:FJ}{X:Nat}(hb:Al y X j.T j.zs.toArray)(hX:b.heap.size<=X):∀{J:List FJ} {D:List (Option Nat)} {q:Nat},J[q]?=some j->D[q]?=some none->gD b y J D->(∀Y,some Y∈D->Y<X)->gD b y J (D.set q (some X))
 | [],D,q,h,_,_,_=>by simp at h
 |k::J,[],q,_,h,_,_=>by simp at h
 |k::J,x::D,0,h,h2,hg,hl=>by
  have hk:k=j:=by simpa using h
  have hx:x=none:=by simpa using h2
  subst hk;subst hx;exact⟨⟨hb,hX,fun e=>by have:=hl X (wS _ e);omega⟩,hg⟩
 |k::J,x::D,q+1,h,h2,hg,hl=>by
  have h:J[q]?=some j:=by simpa using h
  have h2:D[q]?=some none:=by simpa using h2
  cases x with
  |none=>exact Rp (J:=J) hb hX h h2 hg fun Y hY=>hl Y (wS _ hY)
  |some Z=>
   refine⟨⟨hg.1.1,hg.1.2.1,fun e=> ?_⟩,Rp hb hX h h2 hg.2 fun Y hY=>hl Y (wS _ hY)⟩;rcases List.mem_or_eq_of_mem_set e with e|e
   ·exact hg.1.2.2 e
   injection e with e
   have:=hl Z (xE ..);omega
theorem Rh:∀{J:List FJ} {D:List (Option Nat)} {k:Nat},D.length=J.length->k∈jS J (D.map Option.isSome)->∃(q:Nat) (j:FJ),J[q]?=some j/\D[q]?=some none/\j.i=k
  | [],D,k,_,h=>by cases D<;>simp[jS]at h
  |j::J,[],k,hl,_=>by simp at hl
  | j::J,some X::D,k,hl,h=>by
    obtain⟨q,z,h1,h2,h3⟩:=Rh (J:=J) (D:=D) (by simpa using hl) h;exact⟨q+1,z,by simpa using h1,by simpa using h2,h3⟩
  | j::J,none::D,k,hl,h=>by
    rcases List.mem_cons.1 h with rfl|h
    · exact⟨0,j,rfl,rfl,rfl⟩
    obtain⟨q,z,h1,h2,h3⟩:=Rh (J:=J) (D:=D) (by simpa using hl) h;exact⟨q+1,z,by simpa using h1,by simpa using h2,h3⟩
def jK (P:Program)(l:List Oper):List FJ->Prop
  | []=>True
  |j::J=>(∃oj,l[j.i]?=some oj/\oj.dst=j.d/\oj.guard=none/\Ar j.zs/\∀(ρ:Operand->Value) (x:World),(execOp ρ oj).run P x= .ok (.value (.pointer (π x.heap.size))) (x.alloc (.cells j.zs.toArray j.T)))/\jK P l J
theorem jK.get:∀{J:List FJ} {q:Nat} {j:FJ},jK P l J->J[q]?=some j->∃oj,l[j.i]?=some oj/\oj.dst=j.d/\oj.guard=none/\Ar j.zs/\∀(ρ:Operand->Value) (x:World),(execOp ρ oj).run P x= .ok (.value (.pointer (π x.heap.size))) (x.alloc (.cells j.zs.toArray j.T))
  | [],q,j,_,h=>by simp at h
  | k::J,0,j,hk,h=>by
    have e:k=j:=by simpa using h
    subst e;exact hk.1
  |k::J,q+1,j,hk,h=>jK.get hk.2 (by simpa using h)
def FN (P:Program)(md:Region.Mode)(l:List Oper)(Q:Exit->Act->World->Prop)(S:World->Prop)(J:List FJ)(b:World)(fuel:Nat)(listed:Array Bool)(a:Act)(w:World):Prop:=
  ∀(D:List (Option Nat)) (y:World),D.length=J.length->Aa w y->gD b y J D->S y->wpAnyH P md l.toArray Q S (fuel+cN D) (lP J (D.map Option.isSome) listed) (aD J D a) y
theorem FN.go2 {j1 j2:FJ}(h:FN P md l Q S [j1,j2] b fuel listed a w)(hS:S w):wpAnyH P md l.toArray Q S (fuel+2) listed a w:=h [none,none] w rfl Ak trivial hS
theorem FN.go3 {j1 j2 j3:FJ}(h:FN P md l Q S [j1,j2,j3] b fuel listed a w)(hS:S w):wpAnyH P md l.toArray Q S (fuel+3) listed a w:=h [none,none,none] w rfl Ak trivial hS
theorem Ow (hs:Region.noSelect l.toArray=true)(hi:l[i]?=some oi):∀{J:List FJ} {D:List (Option Nat)} {a:Act},(J.all fun j=>Gd l oi j.d)=true->execOp (aD J D a).eval oi=execOp a.eval oi/\Region.wanted oi (yielded l.toArray (aD J D a).tmps)=Region.wanted oi (yielded l.toArray a.tmps)
  | [],D,a,_=>by cases D<;>exact⟨rfl,rfl⟩
  |j::J,[],a,_=>⟨rfl,rfl⟩
  | j::J,some X::D,a,h=>by
    have hsel:=fun cs b=>Region.noSelect_spec hs i oi cs b (by rw[wL];exact hi)
    rw[List.all_cons,xA]at h;obtain⟨o1,_⟩:=Gz h.1;obtain⟨h1,h2⟩:=Ow hs hi (D:=D) (a:=a.put j.d (.pointer (π X))) h.2;exact⟨h1.trans (execOp_put oi hsel a j.d _ o1),h2.trans (wanted_put oi a j.d _ o1)⟩
  | j::J,none::D,a,h=>by
    rw[List.all_cons,xA]at h;exact Ow hs hi (J:=J) h.2
theorem eN (h:(J.all fun j=>Gd l oi j.d)=true):∀j,j∈J->∀t,j.d=some t->oi.dst≠some t:=fun j hj t ht=>(Gz (List.all_eq_true.1 h j hj)).2 t ht
theorem mA (h:(J.all fun j=>j.i != i)=true):∀j,j∈J->j.i≠i:=fun j hj=>by simpa using List.all_eq_true.1 h j hj
theorem pW (hi:l[i]?=some oi)(hs:Region.noSelect l.toArray=true)(hchk:((Nn J.length).all fun p=>Region.free md l.toArray (lP J p listed) i&&(Region.ready md l.toArray (lP J p listed)).contains i)=true)
  (hne:(J.all fun j=>j.i != i)=true)(hoff:(J.all fun j=>Gd l oi j.d)=true)(hQ:∀c a w,Q (.panic c) (a.put oi.dst v) w->Q (.panic c) a w)(hy:YieldsIf P l.toArray S oi v a)(hl:listed.setIfInBounds i true=li)
  (h:FN P md l Q S J b fuel li (a.put oi.dst v) w):FN P md l Q S J b (fuel+1) listed a w:=by
 intro D y hD x hg A0;have h2:=h D y hD x hg A0;have hp:D.map Option.isSome∈Nn J.length:=by have:=Lq (D.map Option.isSome);rwa[wU,hD]at this
 have hc:=List.all_eq_true.1 hchk _ hp;rw[xA]at hc;obtain⟨e1,e2⟩:=Ow hs hi (D:=D) (a:=a) hoff;rw[show fuel+1+cN D=fuel+cN D+1 by omega];refine Ep hi hs hc.1 hc.2 hQ (hy.of_same e1 e2) A0 ?_;rw[Th (mA hne),Uf (eN hoff),hl];exact h2
theorem pZ {f:FuncId}{args:Array Value}{Φ:World->Ending->World->Prop}(hi:l[i]?=some oi)(hs:Region.noSelect l.toArray=true)
  (hchk:((Nn J.length).all fun p=> !(Region.ready md l.toArray (lP J p listed)).isEmpty&&(Region.ready md l.toArray (lP J p listed)).all fun k=>k==i||(jS J p).contains k)=true)
  (hne:(J.all fun j=>j.i != i)=true)(hoff:(J.all fun j=>Gd l oi j.d)=true)(hnd:nd J=true)(hJ:jK P l J)
  (hSx:∀x y,S x->Aa x y->S y)(hb:b.heap.size<=w.heap.size)
  (hw:Region.wanted oi (yielded l.toArray a.tmps)=true)(hv:∀x:World,(execOp a.eval oi).run P x= .ok (.enter f args) x)(hl:listed.setIfInBounds i true=li)
  (hc0:∀x,Aa w x->Calls P f args x (Φ x))(hE:∀x e x',Φ x e x'->Aa x x')
  (h0:∀x e x',Aa w x->Φ x e x'->∃v,e= .returned v/\FN P md l Q S J b fuel li (a.put oi.dst v) x'):FN P md l Q S J b (fuel+1) listed a w:=by
 have key:∀(n:Nat) (D:List (Option Nat)) (y:World),cN D=n->D.length=J.length->Aa w y->gD b y J D->S y->wpAnyH P md l.toArray Q S (fuel+1+cN D) (lP J (D.map Option.isSome) listed) (aD J D a) y:=by
  intro n;induction n using Nat.strongRecOn with
  |ind n ih=>
  intro D y hn hD x hg A0;rw[show fuel+1+cN D=fuel+cN D+1 by omega];have hp:D.map Option.isSome∈Nn J.length:=by have:=Lq (D.map Option.isSome);rwa[wU,hD]at this
  have hc:=List.all_eq_true.1 hchk _ hp;rw[xA]at hc;obtain⟨e1,e2⟩:=Ow hs hi (D:=D) (a:=a) hoff;refine wpAnyH_ready rfl (fun e=>by rw[e]at hc;exact absurd hc.1 dC) (fun k hk=> ?_);have A1:=List.all_eq_true.1 hc.2 k hk;simp only[Bool.or_eq_true,beq_iff_eq,List.contains_iff_mem]at A1;rcases A1 with rfl|A1
  ·refine wpOp_step (by rw[wL];exact hi) (fun K' hK=> ?_)
   rw[if_pos (by rw[e2];exact hw)];refine Gm (by rw[e1];exact hv y) (hc0 y x) ?_;intro e x' h1;obtain⟨v,rfl,hf⟩:=h0 y e x' x h1;have hx:=hE _ _ _ h1;refine⟨v,rfl,hK _ _ ⟨hSx _ _ A0 hx,?_⟩⟩;rw[Th (mA hne),Uf (eN hoff),hl];exact hf D x' hD Ak (Tl hx hg) (hSx _ _ A0 hx)
  obtain⟨q,j,A2,A3,rfl⟩:=Rh hD A1;obtain⟨oj,ho,hd,A6,A7,A4⟩:=hJ.get A2;have x1:Aa y (y.alloc (.cells j.zs.toArray j.T)):=(Aa.refl y).alloc _;refine wpOp_step (by rw[wL];exact ho) (fun K' hK=> ?_);rw[if_pos (by simp[Region.wanted,A6])];unfold Oper.wp;rw[A4];refine hK _ _ ⟨hSx _ _ A0 x1,?_⟩;rw[hd,Ro (X:=y.heap.size) hnd A2 A3,Rs hnd A2 A3];have A8:=Yg (X:=y.heap.size) A3;have A5:cN (D.set q (some y.heap.size))<n:=ω
  have h3:=ih _ A5 (D.set q (some y.heap.size)) _ rfl (by rw[wO];exact hD) (x.trans x1) (Rp (Al.new y _ _) (Aw hb x.size) A2 A3 (Tl x1 hg) (fun Y hY=>fC hD hg hY)) (hSx _ _ A0 x1);rw[show fuel+1+cN (D.set q (some y.heap.size))=fuel+cN D by omega]at h3;exact h3
 exact fun D y hD x hg A0=>key _ D y rfl hD x hg A0
theorem mG (hchk:((Nn J.length).all fun p=>p.all id||(!(Region.ready md l.toArray (lP J p listed)).isEmpty&&(Region.ready md l.toArray (lP J p listed)).all fun k=>(jS J p).contains k))=true)
  (hnd:nd J=true)(hJ:jK P l J)(hSx:∀x y,S x->Aa x y->S y)(hb:b.heap.size<=w.heap.size)
  (h:∀(D:List (Option Nat)) (y:World),D.length=J.length->cN D=0->Aa w y->gD b y J D->S y->wpAnyH P md l.toArray Q S fuel (lP J (D.map Option.isSome) listed) (aD J D a) y):FN P md l Q S J b fuel listed a w:=by
 have A0:∀D:List (Option Nat),(D.map Option.isSome).all id=true->cN D=0:=by
  intro D;induction D with
  |nil=>intro _;rfl
  |cons x D ih=>
   intro hh;cases x with
   |none=>simp at hh
   |some X=>exact ih (by simpa using hh)
 have key:∀(n:Nat) (D:List (Option Nat)) (y:World),cN D=n->D.length=J.length->Aa w y->gD b y J D->S y->wpAnyH P md l.toArray Q S (fuel+cN D) (lP J (D.map Option.isSome) listed) (aD J D a) y:=by
  intro n;induction n using Nat.strongRecOn with
  |ind n ih=>
  intro D y hn hD x hg A1;by_cases h0:cN D=0
  ·rw[h0]
   exact h D y hD h0 x hg A1
  have hp:D.map Option.isSome∈Nn J.length:=by have:=Lq (D.map Option.isSome);rwa[wU,hD]at this
  have hc:=List.all_eq_true.1 hchk _ hp;rw[Bool.or_eq_true,xA]at hc;rcases hc with hc|hc
  ·exact absurd (A0 D hc) h0
  obtain⟨c,A8⟩:∃c,cN D=c+1:=⟨cN D-1,ω⟩;rw[A8,show fuel+(c+1)=fuel+c+1 by omega];refine wpAnyH_ready rfl (fun e=>by rw[e]at hc;exact absurd hc.1 dC) (fun k hk=> ?_);have A4:=List.all_eq_true.1 hc.2 k hk;rw[List.contains_iff_mem]at A4;obtain⟨q,j,A2,A3,rfl⟩:=Rh hD A4;obtain⟨oj,ho,hd,A7,A9,A5⟩:=hJ.get A2;have x1:Aa y (y.alloc (.cells j.zs.toArray j.T)):=(Aa.refl y).alloc _;refine wpOp_step (by rw[wL];exact ho) (fun K' hK=> ?_);rw[if_pos (by simp[Region.wanted,A7])];unfold Oper.wp;rw[A5];refine hK _ _ ⟨hSx _ _ A1 x1,?_⟩;rw[hd,Ro (X:=y.heap.size) hnd A2 A3,Rs hnd A2 A3];have B0:=Yg (X:=y.heap.size) A3;have A6:cN (D.set q (some y.heap.size))<n:=ω
  have h3:=ih _ A6 (D.set q (some y.heap.size)) _ rfl (by rw[wO];exact hD) (x.trans x1) (Rp (Al.new y _ _) (Aw hb x.size) A2 A3 (Tl x1 hg) (fun Y hY=>fC hD hg hY)) (hSx _ _ A1 x1);rw[show cN (D.set q (some y.heap.size))=c by omega]at h3;exact h3
 exact fun D y hD x hg A1=>key _ D y rfl hD x hg A1
theorem Hp.addFree {w0 w:World}{m:List Dl}{g:Nat}{t:TypeId}{cs:List Value}(h:Hp w0 w m)(hb:Al w g t cs.toArray)(hf:∀(q k:Nat) (e:Dl),m[q]?=some e->e.own=some k->k≠g)(hg:w0.heap.size<=g)(hn:Ar cs):Hp w0 w (m++[.blk g t cs]):=
  h.add ⟨hg,hb,hn⟩ (fun i f hf2 k hk e=>by
    injection e with e
    exact hf i k f hf2 hk e.symm)
theorem tQ {D:List (Option Nat)}(hl:D.length=2)(h:cN D=0):∃X Y,D=[some X,some Y]:=by
  match D,hl,h with
  | [some X,some Y],_,_=>exact⟨X,Y,rfl⟩
  | [none,_],_,h=>simp[cN]at h
  | [some _,none],_,h=>simp[cN]at h
theorem nE {D:List (Option Nat)}(hl:D.length=3)(h:cN D=0):∃X Y Z,D=[some X,some Y,some Z]:=by
  match D,hl,h with
  | [some X,some Y,some Z],_,_=>exact⟨X,Y,Z,rfl⟩
  | [none,_,_],_,h=>simp[cN]at h
  | [some _,none,_],_,h=>simp[cN]at h
  | [some _,some _,none],_,h=>simp[cN]at h
theorem pY {j1 j2:FJ}{w0:World}{m:List Dl}{lt:Array Bool}(hchk:((Nn 2).all fun p=>p.all id||(!(Region.ready md l.toArray (lP [j1,j2] p listed)).isEmpty&&(Region.ready md l.toArray (lP [j1,j2] p listed)).all fun k=>(jS [j1,j2] p).contains k))=true)
  (hnd:nd [j1,j2]=true)(hJ:jK P l [j1,j2])(hSx:∀x y,S x->Aa x y->S y)(hb:b.heap.size<=w.heap.size)(hB:Hp w0 b m)(hH:Hp w0 w m)(hlt:lP [j1,j2] [true,true] listed=lt)
  (h:∀X Y y,Aa w y->Hp w0 y (m++[.blk X j1.T j1.zs]++[.blk Y j2.T j2.zs])->b.heap.size<=X->b.heap.size<=Y->S y->wpAnyH P md l.toArray Q S fuel lt ((a.put j1.d (.pointer (π X))).put j2.d (.pointer (π Y))) y):FN P md l Q S [j1,j2] b fuel listed a w:=by
 refine mG hchk hnd hJ hSx hb (fun D y hD hc x hg hSy=> ?_);obtain⟨X,Y,rfl⟩:=tQ hD hc;obtain⟨⟨b1,z1,n1⟩,⟨b2,z2,_⟩,_⟩:=hg;have A0:lP [j1,j2] (List.map Option.isSome [some X,some Y]) listed=lt:=hlt;rw[A0];have z0:=hB.ext.size;refine h X Y y x ?_ z1 z2 hSy;obtain⟨_,_,_,_,A2,_⟩:=hJ.1;obtain⟨_,_,_,_,A1,_⟩:=hJ.2.1;have h1:=(hH.step x).addFree b1 (fun q k e hq hk=>by have:=hB.lt hq hk;omega) (Aw z0 z1) A2;refine h1.addFree b2 (fun q k e hq hk=> ?_) (Aw z0 z2) A1;rcases List.mem_append.1 (wE hq)with hm|hm
 ·obtain⟨q2,A3⟩:=List.mem_iff_getElem?.1 hm
  have:=hB.lt A3 hk;omega
 rw[xH]at hm;subst hm;injection hk with hk
 subst hk;intro e2;subst e2;exact n1 (List.mem_singleton.2 rfl)
theorem pX {j1 j2 j3:FJ}{w0:World}{m:List Dl}{lt:Array Bool}(hchk:((Nn 3).all fun p=>p.all id||(!(Region.ready md l.toArray (lP [j1,j2,j3] p listed)).isEmpty&&(Region.ready md l.toArray (lP [j1,j2,j3] p listed)).all fun k=>(jS [j1,j2,j3] p).contains k))=true)
  (hnd:nd [j1,j2,j3]=true)(hJ:jK P l [j1,j2,j3])(hSx:∀x y,S x->Aa x y->S y)(hb:b.heap.size<=w.heap.size)(hB:Hp w0 b m)(hH:Hp w0 w m)(hlt:lP [j1,j2,j3] [true,true,true] listed=lt)
  (h:∀X Y Z y,Aa w y->Hp w0 y (m++[.blk X j1.T j1.zs]++[.blk Y j2.T j2.zs]++[.blk Z j3.T j3.zs])->b.heap.size<=X->b.heap.size<=Y->b.heap.size<=Z->S y->wpAnyH P md l.toArray Q S fuel lt (((a.put j1.d (.pointer (π X))).put j2.d (.pointer (π Y))).put j3.d (.pointer (π Z))) y):FN P md l Q S [j1,j2,j3] b fuel listed a w:=by
 refine mG hchk hnd hJ hSx hb (fun D y hD hc x hg hSy=> ?_);obtain⟨X,Y,Z,rfl⟩:=nE hD hc;obtain⟨⟨b1,z1,n1⟩,⟨b2,z2,n2⟩,⟨b3,z3,_⟩,_⟩:=hg;have A1:lP [j1,j2,j3] (List.map Option.isSome [some X,some Y,some Z]) listed=lt:=hlt;rw[A1];have z0:=hB.ext.size;refine h X Y Z y x ?_ z1 z2 z3 hSy;obtain⟨_,_,_,_,A4,_⟩:=hJ.1;obtain⟨_,_,_,_,A3,_⟩:=hJ.2.1;obtain⟨_,_,_,_,A2,_⟩:=hJ.2.2.1;have h1:=(hH.step x).addFree b1 (fun q k e hq hk=>by have:=hB.lt hq hk;omega) (Aw z0 z1) A4;have h2:Hp w0 y (m++[.blk X j1.T j1.zs]++[.blk Y j2.T j2.zs]):=by
  refine h1.addFree b2 (fun q k e hq hk=> ?_) (Aw z0 z2) A3;rcases List.mem_append.1 (wE hq)with hm|hm
  ·obtain⟨q2,A0⟩:=List.mem_iff_getElem?.1 hm
   have:=hB.lt A0 hk;omega
  rw[xH]at hm;subst hm;injection hk with hk
  subst hk;intro e2;subst e2;exact n1 (by simp)
 refine h2.addFree b3 (fun q k e hq hk=> ?_) (Aw z0 z3) A2;rcases List.mem_append.1 (wE hq)with hm|hm
 ·rcases List.mem_append.1 hm with hm|hm
  ·obtain⟨q2,A0⟩:=List.mem_iff_getElem?.1 hm
   have:=hB.lt A0 hk;omega
  rw[xH]at hm;subst hm;injection hk with hk
  subst hk;intro e2;subst e2;exact n1 (by simp)
 rw[xH]at hm;subst hm;injection hk with hk
 subst hk;intro e2;subst e2;exact n2 (by simp)
end
section
variable {P:Program} {l:List Oper} {Q:Exit->Act->World->Prop} {md:Region.Mode} {S:World->Prop} {b w:World} {J:List FJ} {i:Nat} {fuel:Nat} {listed li:Array Bool} {a:Act} {oi:Oper} {v:Value}
theorem gT {a':Act}(i:Nat)(li:Array Bool)(v:Value)(h:FN P md l Q S J b fuel li a' w)(hi:l[i]?=some oi:=by rfl)(hs:Region.noSelect l.toArray=true:=by kernel_rfl)(hchk:((Nn J.length).all fun p=>Region.free md l.toArray (lP J p listed) i&&(Region.ready md l.toArray (lP J p listed)).contains i)=true:=by kernel_rfl)(hne:(J.all fun j=>j.i != i)=true:=by kernel_rfl)(hoff:(J.all fun j=>Gd l oi j.d)=true:=by kernel_rfl)(hQ:∀c a w,Q (.panic c) (a.put oi.dst v) w->Q (.panic c) a w:=by intro _ _ _ h;exact h)(hw:Region.wanted oi (yielded l.toArray a.tmps)=true:=by rfl)(hv:∀w,S w->(execOp a.eval oi).run P w= .ok (.value v) w:=by intro w A0;go_simp<;>with_reducible rfl)(hl:listed.setIfInBounds i true=li:=by kernel_rfl)(ha:a.put oi.dst v=a':=by (try simp only[ζ]);rfl):FN P md l Q S J b (fuel+1) listed a w:=by subst ha;exact pW hi hs hchk hne hoff hQ (qU hw hv) hl h
theorem gN {f:FuncId}{args:Array Value}{Φ:World->Ending->World->Prop}(i:Nat)(li:Array Bool)(hJ:jK P l J)(hb:b.heap.size<=w.heap.size)(hc0:∀x,Aa w x->Calls P f args x (Φ x))(hE:∀x e x',Φ x e x'->Aa x x')(h0:∀x e x',Aa w x->Φ x e x'->∃v,e= .returned v/\FN P md l Q S J b fuel li (a.put oi.dst v) x')(hi:l[i]?=some oi:=by rfl)(hs:Region.noSelect l.toArray=true:=by kernel_rfl)(hchk:((Nn J.length).all fun p=> !(Region.ready md l.toArray (lP J p listed)).isEmpty&&(Region.ready md l.toArray (lP J p listed)).all fun k=>k==i||(jS J p).contains k)=true:=by kernel_rfl)(hne:(J.all fun j=>j.i != i)=true:=by kernel_rfl)(hoff:(J.all fun j=>Gd l oi j.d)=true:=by kernel_rfl)(hnd:nd J=true:=by kernel_rfl)(hSx:∀x y,S x->Aa x y->S y:=by intro x y h1 h2;exact h1.trans h2)(hw:Region.wanted oi (yielded l.toArray a.tmps)=true:=by rfl)(hv:∀x:World,(execOp a.eval oi).run P x= .ok (.enter f args) x:=by intro x_;go_simp)(hl:listed.setIfInBounds i true=li:=by kernel_rfl):FN P md l Q S J b (fuel+1) listed a w:=pZ hi hs hchk hne hoff hnd hJ hSx hb hw hv hl hc0 hE h0
theorem fk {j:FJ}{oj:Oper}(t:jK P l J)(h1:l[j.i]?=some oj:=by rfl)(h2:oj.dst=j.d:=by rfl)(h3:oj.guard=none:=by rfl)(h4:Ar j.zs:=by simp[Ar])(h5:∀(ρ:Operand->Value) (x:World),(execOp ρ oj).run P x= .ok (.value (.pointer (π x.heap.size))) (x.alloc (.cells j.zs.toArray j.T)):=by intro r_ x_;go_simp):jK P l (j::J):=⟨⟨oj,h1,h2,h3,h4,h5⟩,t⟩
theorem pU {j1 j2:FJ}{w0:World}{m:List Dl}(lt:Array Bool)(hJ:jK P l [j1,j2])(hb:b.heap.size<=w.heap.size)(hB:Hp w0 b m)(hH:Hp w0 w m)(h:∀X Y y,Aa w y->Hp w0 y (m++[.blk X j1.T j1.zs]++[.blk Y j2.T j2.zs])->b.heap.size<=X->b.heap.size<=Y->S y->wpAnyH P md l.toArray Q S fuel lt ((a.put j1.d (.pointer (π X))).put j2.d (.pointer (π Y))) y)(hchk:((Nn 2).all fun p=>p.all id||(!(Region.ready md l.toArray (lP [j1,j2] p listed)).isEmpty&&(Region.ready md l.toArray (lP [j1,j2] p listed)).all fun k=>(jS [j1,j2] p).contains k))=true:=by kernel_rfl)(hnd:nd [j1,j2]=true:=by kernel_rfl)(hSx:∀x y,S x->Aa x y->S y:=by intro x y h1 h2;exact h1.trans h2)(hlt:lP [j1,j2] [true,true] listed=lt:=by kernel_rfl):FN P md l Q S [j1,j2] b fuel listed a w:=pY hchk hnd hJ hSx hb hB hH hlt h
theorem vS {j1 j2 j3:FJ}{w0:World}{m:List Dl}(lt:Array Bool)(hJ:jK P l [j1,j2,j3])(hb:b.heap.size<=w.heap.size)(hB:Hp w0 b m)(hH:Hp w0 w m)(h:∀X Y Z y,Aa w y->Hp w0 y (m++[.blk X j1.T j1.zs]++[.blk Y j2.T j2.zs]++[.blk Z j3.T j3.zs])->b.heap.size<=X->b.heap.size<=Y->b.heap.size<=Z->S y->wpAnyH P md l.toArray Q S fuel lt (((a.put j1.d (.pointer (π X))).put j2.d (.pointer (π Y))).put j3.d (.pointer (π Z))) y)(hchk:((Nn 3).all fun p=>p.all id||(!(Region.ready md l.toArray (lP [j1,j2,j3] p listed)).isEmpty&&(Region.ready md l.toArray (lP [j1,j2,j3] p listed)).all fun k=>(jS [j1,j2,j3] p).contains k))=true:=by kernel_rfl)(hnd:nd [j1,j2,j3]=true:=by kernel_rfl)(hSx:∀x y,S x->Aa x y->S y:=by intro x y h1 h2;exact h1.trans h2)(hlt:lP [j1,j2,j3] [true,true,true] listed=lt:=by kernel_rfl):FN P md l Q S [j1,j2,j3] b fuel listed a w:=pX hchk hnd hJ hSx hb hB hH hlt h
end
end
end Go.Proofs.YthlfilomhgeheaaGreat
