import Derived.Test.YtlipfipniibpoaaGreatM3
import Derived.Deep.LoopGhost
import Derived.Deep.DeepCutAuto
import Derived.Deep.Upon
set_option maxRecDepth 100000
set_option maxHeartbeats 4000000
namespace Go.Proofs.YtlipfipniibpoaaGreat
open Go.RowKit
open Go.Proofs.Tryz
section
namespace Stb
variable {α:Type}
theorem rev_rec{motive:List α->Prop}(nil:motive [])(snoc:∀l y,motive l->motive (l++[y]))(l):motive l:=by
  have h:∀m:List α,motive m.reverse:=by
    intro m;induction m with
    |nil=>exact nil
    |cons x m ih=>rw[List.reverse_cons];exact snoc _ _ ih
  have:=h l.reverse;rwa[List.reverse_reverse]at this
def ins (lt:α->α->Bool):List α->α->List α
  | [],y=>[y]
  |x::l,y=>if lt y x then y::x::l else x::ins lt l y
def stab (lt:α->α->Bool)(l:List α):List α:=l.foldl (ins lt) []
structure Wk (lt:α->α->Bool):Prop where
  asym:∀x y,lt x y=true->lt y x=false
  trans:∀x y z,lt y x=false->lt z y=false->lt z x=false
variable {lt:α->α->Bool}
theorem ins_len(l y):(ins lt l y).length=l.length+1:=by
  induction l with
  |nil=>rfl
  |cons x l ih=>unfold ins;split<;>simp[ih]
theorem stab_snoc(l y):stab lt (l++[y])=ins lt (stab lt l) y:=by simp[stab]
theorem stab_len(l):(stab lt l).length=l.length:=by
  induction l using rev_rec with
  |nil=>rfl
  |snoc l y ih=>rw[stab_snoc,ins_len,ih];simp
theorem mem_ins{l y z}:z∈ins lt l y↔z=y\/z∈l:=by
  induction l with
  |nil=>simp[ins]
  | cons x l ih=>
    unfold ins;split
    · simp
    simp only[List.mem_cons,ih];constructor
    · rintro(h|h|h)<;>simp[h]
    rintro(h|h|h)<;>simp[h]
theorem mem_stab{l z}:z∈stab lt l↔z∈l:=by
  induction l using rev_rec with
  |nil=>simp[stab]
  |snoc l y ih=>rw[stab_snoc,mem_ins,ih];simp;exact or_comm
def Srt (lt:α->α->Bool)(l:List α):Prop:=l.Pairwise fun x y=>lt y x=false
theorem ins_srt(W:Wk lt){l y}(h:Srt lt l):Srt lt (ins lt l y):=by
 induction l with
 |nil=>exact List.pairwise_singleton _ _
 |cons x l ih=>
  have hx:=List.pairwise_cons.1 h;unfold ins;split
  ·rename_i hl
   refine List.pairwise_cons.2 ⟨fun z hz=> ?_,h⟩;rcases List.mem_cons.1 hz with rfl|hz
   ·exact W.asym _ _ hl
   exact W.trans y x z (W.asym _ _ hl) (hx.1 z hz)
  rename_i hl;refine List.pairwise_cons.2 ⟨fun z hz=> ?_,ih hx.2⟩;rcases mem_ins.1 hz with rfl|hz
  ·exact eq_false_of_ne_true hl
  exact hx.1 z hz
theorem stab_srt(W:Wk lt)(l):Srt lt (stab lt l):=by
  induction l using rev_rec with
  |nil=>exact List.Pairwise.nil
  |snoc l y ih=>rw[stab_snoc];exact ins_srt W ih
theorem ins_split(l r y)(h1:∀z,z∈l->lt y z=false)(h2:∀z,z∈r->lt y z=true):ins lt (l++r) y=l++y::r:=by
  induction l with
  | nil=>
    cases r with
    |nil=>rfl
    |cons z r=>rw[fQQ,ins,if_pos (h2 z (by simp))];rfl
  | cons z l ih=>
    have e:¬lt y z=true:=by rw[h1 z (by simp)];simp
    rw[jXX,ins,if_neg e,ih (fun z hz=>h1 z (by simp[hz]))];rfl
theorem stab_take1 (l:List α):stab lt (l.take 1)=l.take 1:=by cases l<;>rfl
theorem ins_stop(W:Wk lt){l y u}(hs:Srt lt l)(ha:∀z,z∈l.drop u->lt y z=true)(hu:u<=l.length)(h:u=0\/∃q,q+1=u/\∃hq:q<l.length,lt y l[q]=false):
  ins lt l y=l.take u++y::l.drop u:=by
 have h0:∀z,z∈l.take u->lt y z=false:=by
  intro z hz;rcases h with rfl|⟨q,rfl,hq,hy⟩
  ·simp at hz
  rw[iQQ hq]at hz;rcases List.mem_append.1 hz with hz|hz
  ·refine W.trans z l[q] y ?_ hy
   have e:l=l.take q++l[q]::l.drop (q+1):=by rw[<-List.drop_eq_getElem_cons hq,List.take_append_drop]
   have A0:=hs;rw[e]at A0;exact(List.pairwise_append.1 A0).2.2 z hz l[q] (List.mem_cons.2 (Or.inl rfl))
  simp at hz;rw[hz];exact hy
 have:=ins_split (lt:=lt) (l.take u) (l.drop u) y h0 ha;rwa[List.take_append_drop]at this
end Stb
end
section
section
variable {α:Type} {enc:α->List Value} {k:Nat}
theorem eG (hk:∀x,(enc x).length=k)(xs:List α):(xs.flatMap enc).length=xs.length*k:=by
  induction xs with
  |nil=>simp
  |cons x xs ih=>rw[List.flatMap_cons,aXX,ih,hk,hQQ,kZZ];omega
theorem zZ{xs i}{x:α}(h:xs[i]?=some x):xs=xs.take i++x::xs.drop (i+1)/\(xs.take i).length=i/\∀y,xs.set i y=xs.take i++y::xs.drop (i+1):=by
  obtain⟨hi,rfl⟩:=List.getElem?_eq_some_iff.1 h;refine⟨by simp,by rw[eQQ];omega,fun y=> ?_⟩;rw[List.set_eq_take_append_cons_drop,if_pos hi]
theorem Aj.setMid{w g t A B C}(h:Aj w g t (A++(B++C)).toArray)(B')(hl:B'.length=B.length):Aj (w.setCells g A.length B') g t (A++(B'++C)).toArray:=by
  have h2:=Aj.setPart h A.length B' (by simp;omega);rw[hl]at h2;have e:(A++(B++C)).take A.length++B'++(A++(B++C)).drop (A.length+B.length)=A++(B'++C):=by simp
  rwa[e]at h2
structure Sw (w wr:World) (g:Nat) (T:TypeId) (enc:α->List Value) (rest:List Value) (xs:List α):Prop where
  blk:Aj wr g T (xs.flatMap enc++rest).toArray
  own:Bd g w wr
variable {w wr:World} {g:Nat} {T:TypeId} {rest:List Value} {xs:List α}
theorem Sw.ext{w'}(h:Sw w wr g T enc rest xs)(e:Aa wr w'):Sw w w' g T enc rest xs:=⟨h.blk.ext e,h.own.then_ext e⟩
theorem Sw.split(h:Sw w wr g T enc rest xs){i x}(hx:xs[i]?=some x)(hk:∀x,(enc x).length=k):
  ∃A C:List Value,A.length=i*k/\Aj wr g T (A++(enc x++C)).toArray/\∀y,(xs.set i y).flatMap enc++rest=A++(enc y++C):=by
 obtain⟨e,hl,hs⟩:=zZ hx;refine⟨(xs.take i).flatMap enc,(xs.drop (i+1)).flatMap enc++rest,by rw[eG hk,hl],?_,fun y=> ?_⟩
 ·have hb:=h.blk
  rw[e]at hb;simpa[List.flatMap_append,List.flatMap_cons,jQQ]using hb
 rw[hs];simp[List.flatMap_append,List.flatMap_cons]
theorem Sw.read(h:Sw w wr g T enc rest xs){i x}(hx:xs[i]?=some x)(hk:∀x,(enc x).length=k):wr.rangeAt g (i*k) (enc x):=by
  obtain⟨A,C,hA,hb,_⟩:=h.split hx hk;intro j v hv;rw[hb.cell,aZZ,dQQ ω,dZZ (by have:=(List.getElem?_eq_some_iff.1 hv).1;omega)];rw[show i*k+j-A.length=j by omega];exact hv
theorem Sw.there(h:Sw w wr g T enc rest xs){i}(hi:i<xs.length)(hk:∀x,(enc x).length=k):wr.there g (i*k) k:=by
  obtain⟨A,C,hA,hb,_⟩:=h.split (aQQ hi) hk;have:=hb.therePart (i*k) k (by simp[hk];omega);exact this
theorem Sw.put(h:Sw w wr g T enc rest xs){i}(hi:i<xs.length)(hk:∀x,(enc x).length=k)(y):Sw w (wr.setCells g (i*k) (enc y)) g T enc rest (xs.set i y):=by
  obtain⟨A,C,hA,hb,hs⟩:=h.split (aQQ hi) hk;refine⟨?_,Bd.setCells_l _ _ h.own⟩;rw[hs,<-hA];exact hb.setMid _ (by rw[hk,hk])
theorem Sw.refl (hb:Aj w g T (xs.flatMap enc++rest).toArray):Sw w w g T enc rest xs:=⟨hb,Bd.refl _ _⟩
def aAL (xs:List α)(i j:Nat):List α:=match xs[i]?,xs[j]?with|some x,some y=>(xs.set i y).set j x|_,_=>xs
theorem fK{i j x y}(hx:xs[i]?=some x)(hy:xs[j]?=some y):aAL xs i j=(xs.set i y).set j x:=by unfold aAL;rw[hx,hy]
end
section
variable {P:Program} {l:List Oper} {Q:Exit->Act->World->Prop} {md:Region.Mode} {S:World->Prop} {i j:Nat} {oi oj:Oper} {fuel:Nat} {listed li lj listed':Array Bool} {a:Act} {w:World}
theorem Xy(hi:l[i]?=some oi)(hj:l[j]?=some oj)(hr:Region.ready md l.toArray listed=[i,j])(hli:listed.setIfInBounds i true=li)(hlj:listed.setIfInBounds j true=lj)
(hri:Region.ready md l.toArray li=[j])(hrj:Region.ready md l.toArray lj=[i])(hl:li.setIfInBounds j true=listed')(hl2:lj.setIfInBounds i true=listed')
(ty x y)(ho:oi.op= .load ty x)(hoj:oj.op= .load ty y)(hg:oi.guard=none)(hgj:oj.guard=none)(g ox oy cx cy d)(hu:P.underlying ty=some d)(hd:d.isRow=true)
(hx:a.eval x= .pointer (some ⟨g,ox,none⟩))(hy:(a.put oi.dst (.agg cx.toArray)).eval y= .pointer (some ⟨g,oy,none⟩))(hy0:a.eval y= .pointer (some ⟨g,oy,none⟩))(hx1:(a.put oj.dst (.agg cy.toArray)).eval x= .pointer (some ⟨g,ox,none⟩))
(hbx:w.rangeAt g ox cx)(hby:w.rangeAt g oy cy)(hzx:(P.info? ty).map (·.size)=some cx.length)(hzy:(P.info? ty).map (·.size)=some cy.length)(hS:S w)
(hc:(a.put oj.dst (.agg cy.toArray)).put oi.dst (.agg cx.toArray)=(a.put oi.dst (.agg cx.toArray)).put oj.dst (.agg cy.toArray))
(h:wpAnyH P md l.toArray Q S fuel listed' ((a.put oi.dst (.agg cx.toArray)).put oj.dst (.agg cy.toArray)) w):wpAnyH P md l.toArray Q S (fuel+1+1) listed a w:=by
 have wi:∀t,Region.wanted oi (yielded l.toArray t)=true:=fun t=>by simp only[Region.wanted,hg]
 have wj:∀t,Region.wanted oj (yielded l.toArray t)=true:=fun t=>by simp only[Region.wanted,hgj]
 refine wpAnyH_ready hr (by simp) (AllReadyH.cons (by rw[aZZ];exact hi) (fun K hK=> ?_) (AllReadyH.cons (by rw[aZZ];exact hj) (fun K hK=> ?_) AllReadyH.nil))
 ·rw[if_pos (wi _)]
  refine wp_load_mid ty x ho g ox hx cx d hbx hu hd hzx (hK.out _ _ hS (fun _=> ?_));rw[hli];refine Dt hj hri (fun K hK=> ?_);rw[if_pos (wj _)];refine wp_load_mid ty y hoj g oy hy cy d hby hu hd hzy (hK.out _ _ hS (fun _=> ?_));rw[hl];exact h
 rw[if_pos (wj _)];refine wp_load_mid ty y hoj g oy hy0 cy d hby hu hd hzy (hK.out _ _ hS (fun _=> ?_));rw[hlj];refine Dt hi hrj (fun K hK=> ?_);rw[if_pos (wi _)];refine wp_load_mid ty x ho g ox hx1 cx d hbx hu hd hzx (hK.out _ _ hS (fun _=> ?_));rw[hl2,hc];exact h
theorem Na(hi:l[i]?=some oi)(hr:Region.ready md l.toArray listed=[i])(hg:oi.guard=none)(ty x y)(ho:oi.op= .store ty x y)
(g o cs)(hx:a.eval x= .pointer (some ⟨g,o,none⟩))(hy:a.eval y= .agg cs.toArray)(ht:w.there g o cs.length)
(hz:(P.info? ty).map (·.size)=some cs.length)(h1:∀v,v∈cs->v.oneCell'=true)(hS:S (w.setCells g o cs))(hl:listed.setIfInBounds i true=listed')
(h:wpAnyH P md l.toArray Q S fuel listed' (a.put oi.dst undef) (w.setCells g o cs)):wpAnyH P md l.toArray Q S (fuel+1) listed a w:=
  Dt hi hr (fun K hK=>by
    rw[if_pos (by simp only[Region.wanted,hg])];exact wp_store_mid ty x y ho g o cs.toArray hx hy (by simpa using ht) (by simpa using hz) (all_oneCell_toArray h1) (hK.out _ _ hS (fun _=>by rw[hl];exact h)))
end
end
section
section
variable {α:Type}
theorem kA(P A R:List α)(t)(h:t<A.length):(P++(A++R))[P.length+t]?=A[t]?:=by
  rw[dQQ ω,show P.length+t-P.length=t by omega,dZZ h]
theorem Wl(P A S:List α)(y t)(h:t<A.length):aAL (P++(A.take (t+1)++y::(A.drop (t+1)++S))) (P.length+t+1) (P.length+t)=P++(A.take t++y::(A.drop t++S)):=by
 have e:A.drop t=A[t]::A.drop (t+1):=List.drop_eq_getElem_cons h;have hx:(P++(A.take (t+1)++y::(A.drop (t+1)++S)))[P.length+t+1]?=some y:=by
  rw[dQQ ω,dQQ (by simp;omega)];simp;rw[show P.length+t+1-P.length-min (t+1) A.length=0 by omega];rfl
 have hy:(P++(A.take (t+1)++y::(A.drop (t+1)++S)))[P.length+t]?=some A[t]:=by
  rw[dQQ ω,dZZ (by simp;omega)];rw[show P.length+t-P.length=t by omega];simp[h]
 rw[fK hx hy];have e1:P++(A.take (t+1)++y::(A.drop (t+1)++S))=(P++A.take t)++A[t]::([]++y::(A.drop (t+1)++S)):=by rw[iQQ h];simp only[jQQ,jXX,fQQ]
 have l1:(P++A.take t).length=P.length+t:=by simp;omega
 rw[e1,e];have s1:((P++A.take t)++A[t]::([]++y::(A.drop (t+1)++S))).set (P.length+t+1) A[t]=(P++A.take t)++A[t]::([]++A[t]::(A.drop (t+1)++S)):=by
  rw[<-l1,List.set_append_right _ _ ω];simp
 rw[s1,<-l1,List.set_append_right _ _ ω,Nat.sub_self,List.set_cons_zero];simp only[jQQ,jXX,fQQ]
namespace Stb
variable {lt:α->α->Bool}
end Stb
end
end
section
namespace Stb
variable {α:Type} {lt:α->α->Bool}
end Stb
end
section
structure Eb where
  a:RV
  b:RV
  p:Rat
  q:Rat
def Eb.cells (e:Eb):List Value:=[.bool e.a.n,.slice e.a.p e.a.l e.a.c,.bool e.a.m,.slice e.a.p2 e.a.l2 e.a.c2,.bool e.b.n,.slice e.b.p e.b.l e.b.c,.bool e.b.m,.slice e.b.p2 e.b.l2 e.b.c2]
def Eb.vl (e:Eb):Rat×Rat:=(e.p,e.q)
def Eb.Ok (L:Nat)(w:World)(e:Eb):Prop:=e.a.Is w e.p/\e.b.Is w e.q/\Nm.rl e.p<=L/\Nm.rl e.q<=L
def Dw (es:List Eb):List Value:=es.flatMap Eb.cells
theorem Eb.len (e:Eb):e.cells.length=8:=rfl
theorem Eb.one (e:Eb):∀v,v∈e.cells->v.oneCell'=true:=by simp[Eb.cells,Value.oneCell']
theorem Eb.noU (e:Eb):Av e.cells:=by intro x hx k;simp[Eb.cells]at hx;rcases hx with rfl|rfl|rfl|rfl|rfl|rfl|rfl|rfl<;>simp
theorem Zt(es):Av (Dw es):=by
  intro x hx;obtain⟨e,_,he⟩:=List.mem_flatMap.1 hx;exact Eb.noU e x he
theorem Eb.Ok.ptIn{L w}{e:Eb}(h:e.Ok L w):No L w e.cells.toArray e.p e.q:=⟨e.a,e.b,rfl,h.1.isIn h.2.2.1,h.2.1.isIn h.2.2.2⟩
theorem Eb.Ok.ext{L w w'}{e:Eb}(h:e.Ok L w)(x:Aa w w'):e.Ok L w':=⟨h.1.ext x,h.2.1.ext x,h.2.2⟩
theorem Eb.Ok.map{L w w'}{e:Eb}(h:e.Ok L w)(x:∀(r:RV) (q:Rat),r.Is w q->r.Is w' q):e.Ok L w':=⟨x _ _ h.1,x _ _ h.2.1,h.2.2⟩
theorem Ev(es):(Dw es).length=es.length*8:=eG Eb.len es
theorem Kx(es e):Dw (es++[e])=Dw es++e.cells:=by simp[Dw]
def Lz (L:Nat)(w:World)(base:Nat)(v:Value)(es:List Eb):Prop:=Bg w base 165 8 v es.length (Dw es)/\∀e,e∈es->e.Ok L w
theorem Lz.ext{L w w' base v es}(h:Lz L w base v es)(x:Aa w w'):Lz L w' base v es:=⟨h.1.ext x,fun e he=>(h.2 e he).ext x⟩
theorem Lz.form{L w base v es}(h:Lz L w base v es):
    (v= .slice none 0 0/\es=[])\/∃g cap rest,v= .slice (π g) es.length cap/\base<=g/\Sw w w g 165 Eb.cells rest es/\es.length<=cap/\cap<=maxLen/\(Dw es).length+rest.length=cap*8/\Av rest:=by
  obtain⟨h1,⟨rfl,h2⟩|⟨g,cap,rest,rfl,hb,hg,h3,h4,h5,h6⟩⟩:=h.1
  · exact Or.inl ⟨rfl,iXX h2⟩
  exact Or.inr ⟨g,cap,rest,rfl,hb,Sw.refl hg,h3,h4,h5,h6.right⟩
def Oo (L:Nat)(w:World)(v:Value)(ps:List (Rat×Rat)):Prop:=
  ∃(A:Option Addr) (cap:Nat),v= .slice A ps.length cap/\(0<ps.length->∃g off,A=some ⟨g,off,none⟩/\∀i p,ps[i]?=some p->∃cs:List Value,w.rangeAt g (off+i*8) cs/\No L w cs.toArray p.1 p.2)
theorem Oo.ext{L w w' v ps}(h:Oo L w v ps)(x:Aa w w'):Oo L w' v ps:=by
  obtain⟨A,A1,h1,h2⟩:=h;refine⟨A,A1,h1,fun h0=> ?_⟩;obtain⟨g,A0,h3,h4⟩:=h2 h0;refine⟨g,A0,h3,fun i p hp=> ?_⟩;obtain⟨cs,h5,h6⟩:=h4 i p hp;exact⟨cs,fun j v hv=>x.get (h5 j v hv),h6.ext x⟩
theorem Lz.reads{L w base v es}(h:Lz L w base v es):Oo L w v (es.map Eb.vl):=by
  rcases h.form with⟨rfl,rfl⟩|⟨g,cap,rest,rfl,_,hs,_⟩
  · exact⟨none,0,rfl,fun h0=>absurd h0 (by simp)⟩
  refine⟨some ⟨g,0,none⟩,cap,by rw[fXX],fun _=>⟨g,0,rfl,fun i p hp=> ?_⟩⟩;rw[kXX]at hp;obtain⟨e,he,rfl⟩:=Option.map_eq_some_iff.1 hp;refine⟨e.cells,by rw[cXX];exact hs.read he Eb.len,(h.2 e (bZZ he)).ptIn⟩
end
section
attribute [local go_sem ↓] Go.wp_at_zero Go.wp_at_succ Aq An
theorem Zu(L ca cb p q r s w)(ha:No L w ca p q)(hb:No L w cb r s)(hL:L<=70000):
  Calls prog 176 #[.agg ca,.agg cb] w fun e w'=>e= .returned (iV (Di p r))/\Aa w w':=by
 have ZA:=ha.size;have ZB:=hb.size;have Fa:=zH ha;have Fb:=zH hb;clear ha hb;go_enter func176,ntmps176
 go_upto_region 1 with fail;have A1:Aj ((w.alloc (.cells ca 165)).alloc (.cells cb 165)) (w.heap.size) 165 ca:=Aj.ext (Aj.new_at w _ (by simp) _ _) (At.alloc _);have A0:Aj ((w.alloc (.cells ca 165)).alloc (.cells cb 165)) (w.heap.size+1) 165 cb:=Aj.ext (Aj.new_at (w.alloc (.cells ca 165)) _ (by simp) _ _) At;have hE:Aa w ((w.alloc (.cells ca 165)).alloc (.cells cb 165)):=((At.alloc _).alloc _);generalize ((w.alloc (.cells ca 165)).alloc (.cells cb 165))=wa at*
 generalize w.heap.size+1=bx1 at*;have E1:=zH hE;have A3:=zH A1;have A2:=zH A0;clear hE A1 A0;refine wp_region_lit ?_;refine pV (w':=wa) ?_;try simp only[ζ]
 refine pP 0 4 A3.1 underlying26 (by rw[show(ca:Array Value).size=8 from ZA];omega) ?_;try simp only[ζ]
 refine pV (w':=wa) ?_;try simp only[ζ]
 refine pP 0 4 A2.1 underlying26 (by rw[show(cb:Array Value).size=8 from ZB];omega) ?_;try simp only[ζ]
 refine Gv (by rfl) (by go_simp) (Fx (Fa.1.ext E1.1).c0 (Fb.1.ext E1.1).c0 hL) ?_;rintro e w2 ⟨rfl,hx⟩;have E2:=zH hx;clear hx;refine⟨_,rfl,?_⟩;try simp only[ζ]
 refine pV (w':=w2) ?_;try simp only[ζ]
 go_wp2_with fail;go_ret;exact⟨rfl,(tr E1 E2).1⟩
theorem Xc{q r}:Di q r<=0↔q<=r:=by rw[<-Rat.not_lt,<-Ei];omega
theorem Xd{q r}:0<=Di q r↔r<=q:=by rw[<-Rat.not_lt,<-rcmp_lt];omega
theorem Gu.own{L w w' cs q}(h:Gu L w cs q){g t zs}(hb:Aj w g t zs)(hn:Rr zs)(o:Bd g w w'):Gu L w' cs q:=by
  obtain⟨a,h1,h2⟩:=h;exact⟨a,h1,h2.own hb hn o⟩
theorem jZ(L ca cb p q k w)(ha:Gu L w ca p)(hb:Gu L w cb q)(hL:L<=60000)(hz:(Di p q=k)):
  Calls prog 161 #[.agg ca,.agg cb,iV k] w fun e w'=>∃c,e= .returned (.agg c)/\Gu L w' c p/\Aa w w':=by
 have ZA:=ha.size;have ZB:=hb.size;have OA:=ha.one;have OB:=hb.one;have Fa:=zH ha;have Fb:=zH hb;clear ha hb;go_enter func161,ntmps161
 go_upto_region 1 with fail;have A1:Aj (((w.alloc (.cells ca 26)).alloc (.cells cb 26)).alloc (.cells z4 26)) (w.heap.size) 26 ca:=Aj.ext (Aj.new_at w _ (by simp) _ _) ((At.alloc _).alloc _);have A0:Aj (((w.alloc (.cells ca 26)).alloc (.cells cb 26)).alloc (.cells z4 26)) (w.heap.size+1) 26 cb:=Aj.ext (Aj.new_at (w.alloc (.cells ca 26)) _ (by simp) _ _) (At.alloc _);have A7:Aj (((w.alloc (.cells ca 26)).alloc (.cells cb 26)).alloc (.cells z4 26)) (w.heap.size+1+1) 26 z4:=Aj.ext (Aj.new_at ((w.alloc (.cells ca 26)).alloc (.cells cb 26)) _ (by simp) _ _) At;have hE:Aa w (((w.alloc (.cells ca 26)).alloc (.cells cb 26)).alloc (.cells z4 26)):=(((At.alloc _).alloc _).alloc _);have A9:w.heap.size<=w.heap.size+1+1:=ω
 have A4:w.heap.size≠w.heap.size+1+1:=ω;have A3:w.heap.size+1≠w.heap.size+1+1:=ω;generalize (((w.alloc (.cells ca 26)).alloc (.cells cb 26)).alloc (.cells z4 26))=wa at*;generalize w.heap.size+1+1=R0 at*;generalize w.heap.size+1=bx1 at*;have E1:=zH hE;have A2:=zH A1;have A6:=zH A0;have B0:=zH A7;clear hE A1 A0 A7;refine wp_region_lit ?_;refine pL A2.1 underlying26 (by rw[show(ca:Array Value).size=4 from ZA];kernel_rfl) ?_;try simp only[ζ]
 refine pL A6.1 underlying26 (by rw[show(cb:Array Value).size=4 from ZB];kernel_rfl) ?_;try simp only[ζ]
 refine Gv (by rfl) (by go_simp) (Fx (Fa.1.ext E1.1) (Fb.1.ext E1.1) ω) ?_;rintro e w2 ⟨rfl,hx⟩;have E2:=zH hx;clear hx;refine⟨_,rfl,?_⟩;try simp only[ζ]
 refine pV (w':=w2) ?_;try simp only[ζ]
 refine pV (w':=w2) ?_;try simp only[ζ]
 go_upto_region 2 with fail;refine wp_region_lit ?_;refine pL (A2.1.ext E2.1) underlying26 (by rw[show(ca:Array Value).size=4 from ZA];kernel_rfl) ?_;try simp only[ζ]
 have o1:=Bd.setCells w2 R0 ca;have A5:=(B0.1.ext E2.1);refine pO ca A5 (Eq.trans ZA rfl) (by rw[show(ca:Array Value).size=4 from ZA];kernel_rfl) OA ?_
 (try simp only[Act.put])
 have A8:=A5.setCells ca (Eq.trans ZA rfl);go_wp2_with fail;refine bodyPost_ret (v:= .agg ca) ?_ rfl ⟨_,rfl,((Fa.1.ext (tr E1 E2).1).own A5 Wc o1),(o1.ext (tr E1 E2).1 A9)⟩;exact Ak rfl rfl (A8.loadVar rfl rfl (by rw[ZA];rfl))
theorem jY(L ca cb p q k w)(ha:Gu L w ca p)(hb:Gu L w cb q)(hL:L<=60000)(hz:¬(Di p q=k)):
  Calls prog 161 #[.agg ca,.agg cb,iV k] w fun e w'=>∃c,e= .returned (.agg c)/\Gu L w' c q/\Aa w w':=by
 have ZA:=ha.size;have ZB:=hb.size;have OA:=ha.one;have OB:=hb.one;have Fa:=zH ha;have Fb:=zH hb;clear ha hb;go_enter func161,ntmps161
 go_upto_region 1 with fail;have A1:Aj (((w.alloc (.cells ca 26)).alloc (.cells cb 26)).alloc (.cells z4 26)) (w.heap.size) 26 ca:=Aj.ext (Aj.new_at w _ (by simp) _ _) ((At.alloc _).alloc _);have A0:Aj (((w.alloc (.cells ca 26)).alloc (.cells cb 26)).alloc (.cells z4 26)) (w.heap.size+1) 26 cb:=Aj.ext (Aj.new_at (w.alloc (.cells ca 26)) _ (by simp) _ _) (At.alloc _);have A7:Aj (((w.alloc (.cells ca 26)).alloc (.cells cb 26)).alloc (.cells z4 26)) (w.heap.size+1+1) 26 z4:=Aj.ext (Aj.new_at ((w.alloc (.cells ca 26)).alloc (.cells cb 26)) _ (by simp) _ _) At;have hE:Aa w (((w.alloc (.cells ca 26)).alloc (.cells cb 26)).alloc (.cells z4 26)):=(((At.alloc _).alloc _).alloc _);have A9:w.heap.size<=w.heap.size+1+1:=ω
 have A4:w.heap.size≠w.heap.size+1+1:=ω;have A3:w.heap.size+1≠w.heap.size+1+1:=ω;generalize (((w.alloc (.cells ca 26)).alloc (.cells cb 26)).alloc (.cells z4 26))=wa at*;generalize w.heap.size+1+1=R0 at*;generalize w.heap.size+1=bx1 at*;have E1:=zH hE;have A6:=zH A1;have A2:=zH A0;have B0:=zH A7;clear hE A1 A0 A7;refine wp_region_lit ?_;refine pL A6.1 underlying26 (by rw[show(ca:Array Value).size=4 from ZA];kernel_rfl) ?_;try simp only[ζ]
 refine pL A2.1 underlying26 (by rw[show(cb:Array Value).size=4 from ZB];kernel_rfl) ?_;try simp only[ζ]
 refine Gv (by rfl) (by go_simp) (Fx (Fa.1.ext E1.1) (Fb.1.ext E1.1) ω) ?_;rintro e w2 ⟨rfl,hx⟩;have E2:=zH hx;clear hx;refine⟨_,rfl,?_⟩;try simp only[ζ]
 refine pV (w':=w2) ?_;try simp only[ζ]
 refine pV (w':=w2) ?_;try simp only[ζ]
 go_upto_region 3 with fail;refine wp_region_lit ?_;refine pL (A2.1.ext E2.1) underlying26 (by rw[show(cb:Array Value).size=4 from ZB];kernel_rfl) ?_;try simp only[ζ]
 have o1:=Bd.setCells w2 R0 cb;have A5:=(B0.1.ext E2.1);refine pO cb A5 (Eq.trans ZB rfl) (by rw[show(cb:Array Value).size=4 from ZB];kernel_rfl) OB ?_
 (try simp only[Act.put])
 have A8:=A5.setCells cb (Eq.trans ZB rfl);go_wp2_with fail;refine bodyPost_ret (v:= .agg cb) ?_ rfl ⟨_,rfl,((Fb.1.ext (tr E1 E2).1).own A5 Wc o1),(o1.ext (tr E1 E2).1 A9)⟩;exact Ak rfl rfl (A8.loadVar rfl rfl (by rw[ZB];rfl))
theorem cO{q r}:Di q r=1↔r<q:=by rw[<-Ei];unfold Di;rw[Int.sign_eq_one_iff_pos,Int.sign_pos_iff]
theorem Wz{q r}:Di q r= -1↔q<r:=by rw[<-rcmp_lt];unfold Di;rw[Int.sign_eq_neg_one_iff_neg,Int.sign_neg_iff]
theorem nS(L ca cb p f w)(ha:Gu L w ca p)(hb:Gu L w cb f)(hL:L<=60000):
    Calls prog 161 #[.agg ca,.agg cb,iV 1] w fun e w'=>∃c,e= .returned (.agg c)/\Gu L w' c (if p<f then f else p)/\Aa w w':=by
  by_cases h:Di p f=1
  · have h2:=cO.1 h
    rw[if_neg (by grind)];exact jZ L ca cb p f 1 w ha hb hL h
  have h2:¬f<p:=fun k=>h (cO.2 k)
  have e:(if p<f then f else p)=f:=by grind
  rw[e];exact jY L ca cb p f 1 w ha hb hL h
theorem hZ(L ca cb q t w)(ha:Gu L w ca q)(hb:Gu L w cb t)(hL:L<=60000):
    Calls prog 161 #[.agg ca,.agg cb,iV (-1)] w fun e w'=>∃c,e= .returned (.agg c)/\Gu L w' c (if t<q then t else q)/\Aa w w':=by
  by_cases h:Di q t= -1
  · have h2:=Wz.1 h
    rw[if_neg (by grind)];exact jZ L ca cb q t (-1) w ha hb hL h
  have h2:¬q<t:=fun k=>h (Wz.2 k)
  have e:(if t<q then t else q)=t:=by grind
  rw[e];exact jY L ca cb q t (-1) w ha hb hL h
end
namespace spn
attribute [local go_sem ↓] Go.wp_at_zero Go.wp_at_succ Aq An
theorem insertion_any{α:Type}(enc)(hk:∀x,(enc x).length=8)(h1:∀x,∀v,v∈enc x->v.oneCell'=true)(lt)(W:Stb.Wk lt)(w0 w g cap a b N T rest P X S)(hc:(∀wr,Bd g w0 wr->∀x y:α,Calls prog 176 #[.agg (enc x).toArray,.agg (enc y).toArray] wr fun e w'=>∃z:Int,e= .returned (iV z)/\(z<0↔lt x y=true)/\Aa wr w'))(hst:Sw w0 w g T enc rest (P++(X++S)))(ha:P.length=a)(hb:a+X.length=b)(hN:(P++(X++S)).length=N)(hsz:N<=100000):
  Calls prog 205 #[.slice (π g) N cap,iV a,iV b,.func (.func 176) #[] #[]] w fun e w'=>e= .returned (.tuple #[])/\Sw w0 w' g T enc rest (P++(Stb.stab lt X++S)):=by
 have A6:P.length+(X.length+S.length)=N:=by rw[<-hN];simp
 have HC:=zH hc;have B0:=zH (show Sw w0 w g T enc rest (P++(Stb.stab lt (X.take 1)++(X.drop 1++S)))by rw[Stb.stab_take1,<-jQQ (X.take 1),List.take_append_drop];exact hst);have b1:a<=100000:=ω
 have b2:b<=100000:=ω;have C7:=zH ha;have D0:=zH A6;have HB:=zH hb;clear hst hc ha hb hN A6;go_enter func205,ntmps205
 go_wp2_with fail;go_loopg [8] (b+1-a) (fun c v wr=>∃t i:Nat,1<=t/\(t<=X.length\/t=1)/\i=a+t/\c=b+1-i+1/\v= iV i/\Sw w0 wr g T enc rest (P++(Stb.stab lt (X.take t)++(X.drop t++S))))
 case atStart=>exact⟨1,a+1,Cp _,Or.inr rfl,rfl,by have:=HB.1;omega,by go_num,B0.1⟩
 clear B0;obtain⟨t,i,D8,D1,hi,rfl,rfl,hst⟩:=hrel;have D4:=HB.1;have E0:i<=100001:=by have:=D0.1;have:=C7.1;omega
 by_cases hlt:i<b
 ·have D2:(i:Int)<(b:Int):=ω
  have B5:t<X.length:=ω;obtain⟨y,hy⟩:∃y,X[t]=y:=⟨_,rfl⟩;have C4:X.drop t=y::X.drop (t+1):=by rw[<-hy];exact List.drop_eq_getElem_cons B5
  have C1:X.take (t+1)=X.take t++[y]:=by rw[iQQ B5,hy]
  have C6:=zH (show Stb.stab lt (X.take (t+1))=Stb.ins lt (Stb.stab lt (X.take t)) y by rw[C1,Stb.stab_snoc]);have B1:=zH (Stb.stab_srt W (X.take t));have C5:(Stb.stab lt (X.take t)).length=t:=by rw[Stb.stab_len,eQQ];omega
  rw[C4]at hst;generalize Stb.stab lt (X.take t)=L at*;have B2:=zH C5;have B6:=zH B5;have HI:=zH hi;have A9:=zH (show Sw w0 wr g T enc rest (P++(L.take t++y::(L.drop t++(X.drop (t+1)++S))))by rw[cQQ ω,List.drop_of_length_le ω];exact hst);clear hst C4 C1 hy C5 hi D1 D4;go_wp2_with fail
  go_loopg [9] t (fun c v wr=>∃u j:Nat,u<=t/\c=0+u/\j=a+u/\v= iV j/\(∀z,z∈L.drop u->lt y z=true)/\Sw w0 wr g T enc rest (P++(L.take u++y::(L.drop u++(X.drop (t+1)++S)))))
  case atStart=>exact⟨t,i,Cp _,ω,HI.1,rfl,by intro z hz;rw[List.drop_of_length_le (by have:=B2.1;omega)]at hz;simp at hz,A9.1⟩
  clear A9;obtain⟨u,j,hu,rfl,hj,rfl,A7,hst⟩:=hrel;have A3:=zH A7;have A0:=zH hst;have D9:j<=100000:=by have:=HI.1;omega
  have wj:IntKind.i64.wrap (j:Int)=(j:Int):=by rw[IntKind.wrap_i64];omega
  have C2:(P++(L.take u++y::(L.drop u++(X.drop (t+1)++S)))).length=N:=by
   have h1:=D0.1;have h2:=B6.1;have h3:=B2.1
   simp;omega
  have HJ:=zH hj;have HU:=zH hu;clear A7 hst;by_cases hu0:0<u
  ·obtain⟨p,hp⟩:∃p,p+1=j:=⟨j-1,ω⟩
   obtain⟨q,hq⟩:∃q,q+1=u:=⟨u-1,ω⟩;have C3:(a:Int)<(j:Int):=ω
   have e1:(j:Int)-1=(p:Int):=ω;have wp:IntKind.i64.wrap (p:Int)=(p:Int):=by rw[IntKind.wrap_i64];omega
   have D5:=C7.1;have A5:q<L.length:=by have:=B2.1;omega
   have gx:(P++(L.take u++y::(L.drop u++(X.drop (t+1)++S))))[p]?=some L[q]:=by
    have h:=kA P (L.take u) (y::(L.drop u++(X.drop (t+1)++S))) q (by rw[eQQ];omega);rw[show P.length+q=p by omega]at h;rw[h,List.getElem?_take,if_pos ω];exact aQQ A5
   have gy:(P++(L.take u++y::(L.drop u++(X.drop (t+1)++S))))[j]?=some y:=by
    rw[dQQ ω,dQQ (by rw[eQQ];omega),eQQ,show j-P.length-min u L.length=0 by have:=B2.1;omega];rfl
   have A8:=zH (show aAL (P++(L.take u++y::(L.drop u++(X.drop (t+1)++S)))) j p=P++(L.take q++y::(L.drop q++(X.drop (t+1)++S)))by
    have h:=Wl P L (X.drop (t+1)++S) y q A5;rw[show P.length+q=p by omega,hp,hq]at h;exact h)
   have D7:=zH (show∀z,z∈L.drop q->z=L[q]\/z∈L.drop u by
    intro z hz;rw[List.drop_eq_getElem_cons A5,hq]at hz;simpa using hz)
   have A2:=zH (fun h=>Stb.ins_stop W (y:=y) B1.1 A3.1 (by have:=B2.1;omega) (Or.inr ⟨q,hq,A5,h⟩));have bj:(j:Int)<(N:Int):=by rw[<-C2];have:=(List.getElem?_eq_some_iff.1 gy).1;omega
   have bp:(p:Int)<(N:Int):=ω;have HE:=zH (fK gy gx);have C9:=zH (List.getElem?_eq_some_iff.1 gy).1;have C8:=zH (List.getElem?_eq_some_iff.1 gx).1;have Hx:=zH gx;have Hy:=zH gy;generalize L[q]=x at*
   generalize hrow:P++(L.take u++y::(L.drop u++(X.drop (t+1)++S)))=row at*;have HQ:=zH (And.intro hq hp);have B7:=zH hrow;clear gx gy A5 hu hq hp hj D5 hrow;go_upto_region 4 with fail
   refine wp_region_held_drew (S:=fun x=>Aa wr x) (by kernel_rfl) At.drew (fun _=> ?_);refine zv 0 (bs 17 1) At.drew ?_;refine zv 1 (bs 17 3) At.drew ?_;refine zv 2 (bs 17 7) At.drew ?_;refine zv 3 (bs 17 15) At.drew ?_;refine zv 4 (bs 17 31) At.drew ?_;refine zv 5 (bs 17 63) At.drew ?_;refine zv 6 (bs 17 127) At.drew ?_;refine zv 7 (bs 17 255) At.drew ?_;refine Ii (i:=8) (listed':=(bs 17 511)) (by rfl) (by kernel_rfl) (by kernel_rfl) (by kernel_rfl) _ _ (by rfl) g (j*8) (enc y) _ (by intro _ _ _ h;exact h) (by rfl) (by rfl) (fun w1 hw1=>(A0.1.ext hw1).read Hy.1 hk) underlying165 (by rfl) (by rw[hk];kernel_rfl) At.drew (by kernel_rfl) ?_;try simp only[ζ]
   refine zv 9 (bs 17 1023) At.drew ?_;refine zv 10 (bs 17 2047) At.drew ?_;refine zv 11 (bs 17 4095) At.drew ?_;refine zv 12 (bs 17 8191) At.drew ?_;refine Ii (i:=13) (listed':=(bs 17 16383)) (by rfl) (by kernel_rfl) (by kernel_rfl) (by kernel_rfl) _ _ (by rfl) g (p*8) (enc x) _ (by intro _ _ _ h;exact h) (by rfl) (by rfl) (fun w1 hw1=>(A0.1.ext hw1).read Hx.1 hk) underlying165 (by rfl) (by rw[hk];kernel_rfl) At.drew (by kernel_rfl) ?_;try simp only[ζ]
   refine mC 14 (bs 17 32767) (HC.1 _ ((A0.1.ext At.drew).own) y x) ?_;rintro e w2 ⟨z,rfl,hz,C0⟩;have A1:=zH (show Aa wr w2 from At.drew.trans C0);clear C0;refine⟨_,rfl,A1.1,?_⟩;try simp only[ζ]
   by_cases hlt:lt y x=true
   ·have B8:=zH hlt
    have A4:z<0:=hz.2 hlt;have B4:decide (z<0)=true:=by simpa using A4
    clear hz;refine zv 15 (bs 17 65535) A1.1 ?_;refine zv 16 (bs 17 131071) A1.1 ?_;refine wpAnyH_done (by kernel_rfl) ?_ _;clear hlt A4 B4;have A0:=zH (A0.1.ext A1.1);clear A1;have E2:row.length=N:=C2;generalize w2=wr at*
    go_upto_region 6 with fail;refine wp_region_held_drew (S:=fun x=>Bd g wr x) (by kernel_rfl) (Bd.refl _ _).drew (fun _=> ?_);refine zv 0 (bs 18 1) (Bd.refl _ _).drew ?_;refine zv 1 (bs 18 3) (Bd.refl _ _).drew ?_;refine zv 2 (bs 18 7) (Bd.refl _ _).drew ?_;refine zv 3 (bs 18 15) (Bd.refl _ _).drew ?_;refine zv 4 (bs 18 31) (Bd.refl _ _).drew ?_;refine zv 5 (bs 18 63) (Bd.refl _ _).drew ?_;refine zv 6 (bs 18 127) (Bd.refl _ _).drew ?_;refine zv 7 (bs 18 255) (Bd.refl _ _).drew ?_;refine zv 8 (bs 18 511) (Bd.refl _ _).drew ?_;refine zv 10 (bs 18 1535) (Bd.refl _ _).drew ?_;refine zv 11 (bs 18 3583) (Bd.refl _ _).drew ?_;refine zv 12 (bs 18 7679) (Bd.refl _ _).drew ?_;refine Xy (i:=9) (j:=13) (li:=(bs 18 8191)) (lj:=(bs 18 15871)) (listed':=(bs 18 16383)) (by rfl) (by rfl) (by kernel_rfl) (by kernel_rfl) (by kernel_rfl) (by kernel_rfl) (by kernel_rfl) (by kernel_rfl) (by kernel_rfl) 165 _ _ (by rfl) (by rfl) (by rfl) (by rfl) g (p*8) (j*8) (enc x) (enc y) _ underlying165 (by rfl) (by rfl) (by rfl) (by rfl) (by rfl) (A0.1.ext At.drew |>.read Hx.1 hk) (A0.1.ext At.drew |>.read Hy.1 hk) (by rw[hk];kernel_rfl) (by rw[hk];kernel_rfl) (Bd.refl _ _).drew (by rfl) ?_;try simp only[ζ]
    refine zv 14 (bs 18 32767) (Bd.refl _ _).drew ?_;have B3:=(A0.1.ext At.drew).put (i:=j) C9.1 hk x;have B9:=B3.put (i:=p) (by rw[eZZ];exact C8.1) hk y;refine Na (i:=15) (listed':=(bs 18 65535)) (by rfl) (by kernel_rfl) (by rfl) 165 _ _ (by rfl) g (j*8) (enc x) (by rfl) (by rfl) (by rw[hk];exact(A0.1.ext At.drew).there C9.1 hk) (by rw[hk];kernel_rfl) (h1 x) (Bd.setCells_l _ _ (Bd.refl _ _).drew) (by kernel_rfl) ?_
    (try simp only[Act.put])
    refine zv 16 (bs 18 131071) (Bd.setCells_l _ _ (Bd.refl _ _).drew) ?_;refine Na (i:=17) (listed':=(bs 18 262143)) (by rfl) (by kernel_rfl) (by rfl) 165 _ _ (by rfl) g (p*8) (enc y) (by rfl) (by rfl) (by rw[hk];exact B3.there (by rw[eZZ];exact C8.1) hk) (by rw[hk];kernel_rfl) (h1 y) (Bd.setCells_l _ _ (Bd.setCells_l _ _ (Bd.refl _ _).drew)) (by kernel_rfl) ?_
    (try simp only[Act.put])
    refine wpAnyH_done (by kernel_rfl) ?_ _;have D6:=zH B9;clear B3 B9;generalize (World.setCells _ g (p*8) (enc y))=w3 at*
    go_wp2_with fail;go_roundg q
    case measure=>have:=HQ.1.1;omega
    case rel=>exact⟨q,p,by have:=HQ.1;have:=HU.1;omega,ω,by have:=HQ.1;have:=HJ.1;omega,rfl,fun z hz=>(D7.1 z hz).elim (fun h=>by rw[h];exact B8.1) (A3.1 z),by rw[<-A8.1,HE.1];exact D6.1⟩
   have B8:=zH (eq_false_of_ne_true hlt);have A4:¬z<0:=fun h=>hlt (hz.1 h)
   have B4:decide (z<0)=false:=by simpa using A4
   clear hz;refine zv 15 (bs 17 65535) A1.1 ?_;refine zv 16 (bs 17 131071) A1.1 ?_;refine wpAnyH_done (by kernel_rfl) ?_ _;clear hlt A4 B4;have HR:=zH (show Sw w0 w2 g T enc rest (P++(Stb.stab lt (X.take (t+1))++(X.drop (t+1)++S)))by rw[C6.1,A2.1 B8.1];have h:=A0.1.ext A1.1;rw[<-B7.1]at h;simpa using h);go_wp2_with fail
   go_roundg (b+1-(i+1)+1)
   case measure=>omega
   case rel=>exact⟨t+1,i+1,ω,Or.inl B6.1,by have:=HI.1;omega,ω,by go_num,HR.1⟩
  obtain rfl:u=0:=ω;have C3:¬(a:Int)<(j:Int):=ω;have D3:decide ((a:Int)<(j:Int))=false:=by simpa using C3
  have A2:=zH (Stb.ins_stop W (y:=y) B1.1 A3.1 (dXX _) (Or.inl rfl));go_upto_region 4 with fail;refine wp_region_held_drew (S:=fun x=>Aa wr x) (by kernel_rfl) At.drew (fun _=> ?_);refine zv 0 (bs 17 1) At.drew ?_;refine zv 1 (bs 17 3) At.drew ?_;refine zv 2 (bs 17 7) At.drew ?_;refine zv 3 (bs 17 15) At.drew ?_;refine zs 4 (bs 17 31) At.drew ?_;refine zs 5 (bs 17 63) At.drew ?_;refine zs 6 (bs 17 127) At.drew ?_;refine zs 7 (bs 17 255) At.drew ?_;refine zs 8 (bs 17 511) At.drew ?_;refine zs 9 (bs 17 1023) At.drew ?_;refine zs 10 (bs 17 2047) At.drew ?_;refine zs 11 (bs 17 4095) At.drew ?_;refine zs 12 (bs 17 8191) At.drew ?_;refine zs 13 (bs 17 16383) At.drew ?_;refine zs 14 (bs 17 32767) At.drew ?_;refine zs 15 (bs 17 65535) At.drew ?_;refine zv 16 (bs 17 131071) At.drew ?_;refine wpAnyH_done (by kernel_rfl) ?_ _;have HR:=zH (show Sw w0 wr.drew g T enc rest (P++(Stb.stab lt (X.take (t+1))++(X.drop (t+1)++S)))by rw[C6.1,A2.1];have h:=A0.1.ext At.drew;simpa using h);go_wp2_with fail
  go_roundg (b+1-(i+1)+1)
  case measure=>omega
  case rel=>exact⟨t+1,i+1,ω,Or.inl B6.1,by have:=HI.1;omega,ω,by go_num,HR.1⟩
 have A0:=zH (show Sw w0 wr g T enc rest (P++(Stb.stab lt X++S))by rw[cQQ ω,List.drop_of_length_le ω]at hst;exact hst);have E1:¬(i:Int)<(b:Int):=ω
 clear hst;go_wp2_with fail;go_end0
 exact⟨rfl,A0.1⟩
theorem stable_any{α:Type}(enc)(hk:∀x,(enc x).length=8)(h1:∀x,∀v,v∈enc x->v.oneCell'=true)(lt)(W:Stb.Wk lt)(w0 w g cap N T rest xs)(hc:(∀wr,Bd g w0 wr->∀x y:α,Calls prog 176 #[.agg (enc x).toArray,.agg (enc y).toArray] wr fun e w'=>∃z:Int,e= .returned (iV z)/\(z<0↔lt x y=true)/\Aa wr w'))(hst:Sw w0 w g T enc rest xs)(hN:xs.length=N)(hsz:N<20):
  Calls prog 195 #[.slice (π g) N cap,iV N,.func (.func 176) #[] #[]] w fun e w'=>e= .returned (.tuple #[])/\Sw w0 w' g T enc rest (Stb.stab lt xs):=by
 have HC:=zH hc;have A0:=zH hst;have HN:=zH hN;clear hst hc hN;go_enter func195,ntmps195
 have A4:¬(20:Int)<=(N:Int):=ω;have A3:¬(20:Int)<(N:Int):=ω;have A2:([]++(xs++[])).length=N:=by rw[fQQ,hZZ];exact HN.1
 have HB:=zH (insertion_any enc hk h1 lt W w0 w g cap 0 N N T rest [] xs [] HC.1 (by rw[fQQ,hZZ];exact A0.1) rfl ((cXX _).trans HN.1) A2 ω);clear A0 A2;go_wp2_with fail;apply wp_loop_rounds 1;rw[rounds_succ];go_wp2_with (go_at_call 205;refine HB.1.mono ?_;rintro e w2 ⟨rfl,A1⟩)
 apply wp_loop_rounds 1;rw[rounds_succ];go_wp2_with fail;go_end0
 rw[fQQ,hZZ]at A1;exact⟨rfl,A1⟩
theorem sortStable_any{α:Type}(enc)(hk:∀x,(enc x).length=8)(h1:∀x,∀v,v∈enc x->v.oneCell'=true)(lt)(W:Stb.Wk lt)(w0 w g cap N T rest xs)(hc:(∀wr,Bd g w0 wr->∀x y:α,Calls prog 176 #[.agg (enc x).toArray,.agg (enc y).toArray] wr fun e w'=>∃z:Int,e= .returned (iV z)/\(z<0↔lt x y=true)/\Aa wr w'))(hst:Sw w0 w g T enc rest xs)(hN:xs.length=N)(hsz:N<20):
  Calls prog 175 #[.slice (π g) N cap,.func (.func 176) #[] #[]] w fun e w'=>e= .returned (.tuple #[])/\Sw w0 w' g T enc rest (Stb.stab lt xs):=by
 have HB:=zH (stable_any enc hk h1 lt W w0 w g cap N T rest xs hc hst hN hsz);clear hc hst hN;go_enter func175,ntmps175;go_wp2_with (go_at_call 195;refine HB.1.mono ?_;rintro e w2 ⟨rfl,A0⟩)
 go_end0
 exact⟨rfl,A0⟩
theorem insertion_none(v c w):Calls prog 205 #[v,iV 0,iV 0,c] w fun e w'=>e= .returned (.tuple #[])/\w=w':=by
  go_enter func205,ntmps205;go_wp2_with fail;apply wp_loop_rounds 1;rw[rounds_succ];go_wp2_with fail;go_end0
  exact⟨rfl,rfl⟩
theorem stable_none(v c w):Calls prog 195 #[v,iV 0,c] w fun e w'=>e= .returned (.tuple #[])/\w=w':=by
  go_enter func195,ntmps195;go_wp2_with fail;apply wp_loop_rounds 1;rw[rounds_succ];go_wp2_with (go_at_call 205;refine(insertion_none _ _ _).mono ?_;rintro e w2 ⟨rfl,rfl⟩)
  apply wp_loop_rounds 1;rw[rounds_succ];go_wp2_with fail;go_end0
  exact⟨rfl,rfl⟩
theorem sortStable_none(A cap c w):Calls prog 175 #[.slice A 0 cap,c] w fun e w'=>e= .returned (.tuple #[])/\w=w':=by
  go_enter func175,ntmps175;go_wp2_with (go_at_call 195;refine(stable_none _ _ _).mono ?_;rintro e w2 ⟨rfl,rfl⟩)
  go_end0
  exact⟨rfl,rfl⟩
end spn
section
abbrev QQ:=Rat×Rat
def Lp (ps:List QQ):List QQ:=ps.filter fun p=>decide (p.1<p.2)
def aBM (a b:QQ):Bool:=decide (a.1<b.1)
def Fh (out:List QQ)(s:QQ):List QQ:=match out.getLast? with
  |none=>out++[s]
  |some l=>if l.2<s.1 then out++[s]else if l.2<s.2 then out.dropLast++[(l.1,s.2)]else out
def Hk (ps:List QQ):List QQ:=Stb.stab aBM (Lp ps)
def Fz (ps:List QQ):List QQ:=(Hk ps).foldl Fh []
theorem fR{ps:List QQ}{k p}(h:ps[k]?=some p):Lp (ps.take (k+1))=if p.1<p.2 then Lp (ps.take k)++[p]else Lp (ps.take k):=by
  obtain⟨hk,rfl⟩:=List.getElem?_eq_some_iff.1 h;unfold Lp;rw[iQQ hk,List.filter_append];by_cases hp:ps[k].1<ps[k].2
  · rw[if_pos hp];simp[hp]
  rw[if_neg hp];simp[hp]
theorem Uz{l:List QQ}{k p}(h:l[k]?=some p):(l.take (k+1)).foldl Fh []=Fh ((l.take k).foldl Fh []) p:=by
  obtain⟨hk,rfl⟩:=List.getElem?_eq_some_iff.1 h;rw[iQQ hk,List.foldl_append];rfl
theorem nC(out s):(Fh out s).length<=out.length+1:=by
  unfold Fh;split
  · simp
  split
  · simp
  split
  · simp
    try omega
  omega
theorem sE(l:List QQ)(k):((l.take k).foldl Fh []).length<=k:=by
  induction k with
  |zero=>simp
  | succ k ih=>
    by_cases h:k<l.length
    · rw[Uz (aQQ h)]
      have:=nC ((l.take k).foldl Fh []) l[k];omega
    rw[cQQ ω];rw[cQQ ω]at ih;omega
theorem wA{α β:Type}(f){lt}{lt':β->β->Bool}(h:∀x y,lt x y=lt' (f x) (f y))(l)(y:α):(Stb.ins lt l y).map f=Stb.ins lt' (l.map f) (f y):=by
  induction l with
  |nil=>rfl
  | cons x l ih=>
    rw[Stb.ins,List.map_cons,Stb.ins,<-h];split
    · rfl
    rw[List.map_cons,ih]
theorem Ov{α β:Type}(f){lt}{lt':β->β->Bool}(h:∀x y,lt x y=lt' (f x) (f y))(l:List α):(Stb.stab lt l).map f=Stb.stab lt' (l.map f):=by
  induction l using Stb.rev_rec with
  |nil=>rfl
  |snoc l y ih=>rw[Stb.stab_snoc,wA f h,ih,hXX];exact(Stb.stab_snoc _ _).symm
theorem aCP {α:Type}(f:α->Rat):Stb.Wk (fun x y:α=>decide (f x<f y)):=by
  refine⟨fun x y h=> ?_,fun x y z h1 h2=> ?_⟩
  · rw[decide_eq_true_iff]at h
    rw[decide_eq_false_iff_not];intro h2;grind
  rw[decide_eq_false_iff_not]at h1 h2⊢;grind
theorem zF:(prog.info? 165).map (fun i=>(i.zero,i.size,i.bytes))=some (some (.agg z8),8,128):=by kernel_rfl
theorem Us:Av (Value.agg z8).cells.toList:=by intro x hx k;simp[Value.cells]at hx;rcases hx with rfl|rfl|rfl|rfl|rfl|rfl|rfl|rfl<;>simp
theorem Qy(w:World)(cs:List Value)(t):∀(j:Nat) (u:Value),cs[j]?=some u->(w.alloc (.cells cs.toArray t)).cell? ((⟨w.heap.size,0,none⟩:Addr).add j)=some u:=by
  intro j u hj;have e3:(⟨w.heap.size,0,none⟩:Addr).add j=⟨w.heap.size,j,none⟩:=by
    unfold Addr.add;by_cases hz:j=0
    · rw[if_pos hz,hz]
    rw[if_neg hz];simp
  rw[e3,(Aj.new w t cs.toArray).cell j,aZZ];exact hj
theorem Lz.snoc{L w w' base g cap n v es e}(h:Lz L w base v es)(hn:es.length=n)(he:e.Ok L w)(h2:Bg w' base 165 8 (.slice (π g) (n+1) cap) (n+1) (Dw es++e.cells))
(h4:∀(r:RV) (q:Rat),r.Is w q->r.Is w' q):Lz L w' base (.slice (π g) (n+1) cap) (es++[e]):=by
  subst hn;refine⟨by rw[Kx,aXX];exact h2,fun x hx=> ?_⟩;rcases List.mem_append.1 hx with hx|hx
  · exact(h.2 x hx).map h4
  simp at hx;rw[hx];exact he.map h4
theorem Cx{a b}(row)(h:Aa a b):a.grownBy b row:=⟨h.os,h.tape,h.output,h.size,fun i hi _=>h.block i hi⟩
theorem oB{a b c row}(h:Aa a b)(k:b.grownBy c row):a.grownBy c row:=
  ⟨k.os.trans h.os,k.tape.trans h.tape,k.output.trans h.output,Al h.size k.size,fun i hi hn=>(k.block i (kQQ hi h.size) hn).trans (h.block i hi)⟩
theorem pF{L w base X v es}(h:Lz L w base v es)(hX:w.heap.size<=X):v.ownBlock≠some X:=by
  intro e;rcases h.form with⟨rfl,_⟩|⟨g,cap,rest,rfl,_,hs,_⟩
  · simp[Value.ownBlock]at e
  simp[Value.ownBlock]at e;have:=hs.blk.lt;omega
theorem Wt{w base e size v n xs}(h:Bg w base e size v n xs):∃A c,v= .slice A n c:=by
  obtain⟨_,⟨rfl,hz⟩|⟨gv,A0,rest,rfl,_⟩⟩:=h
  · exact⟨none,0,by rw[hz]⟩
  exact⟨_,A0,rfl⟩
def xR (e f:Eb):Bool:=decide (e.p<f.p)
theorem Zr{es rest}(h:Av rest):Rr (Dw es++rest).toArray:=by
  refine Zs _ fun v hv x=> ?_
  rcases List.mem_append.1 hv with hv|hv
  · exact Zt es v hv x
  exact h v hv x
theorem Vf {L:Nat}{w:World}:∀xs:List {e:Eb//e.Ok L w},xs.flatMap (fun x=>x.1.cells)=Dw (xs.map Subtype.val)
  | []=>rfl
  |x::xs=>by rw[List.flatMap_cons,Vf xs];rfl
theorem fP(L v es base w)(h:Lz L w base v es)(hL:L<=60000)(hn:es.length<20):
  Calls prog 175 #[v,.func (.func 176) #[] #[]] w fun e w'=>
   e= .returned (.tuple #[])/\Lz L w' base v (Stb.stab xR es)/\w.grownBy w' v.ownBlock:=by
 rcases h.form with⟨rfl,rfl⟩|⟨g,cap,rest,rfl,hb,hs,hc1,hc2,hc3,hc4⟩
 ·refine(spn.sortStable_none none 0 _ w).mono ?_
  rintro e w' ⟨rfl,rfl⟩;exact⟨rfl,h,World.grownBy.refl _ _⟩
 have A4:∃xs:List {e:Eb//e.Ok L w},xs.map Subtype.val=es:=by
  have h2:=h.2;clear h hs hc1 hc3 hn;induction es with
  |nil=>exact⟨[],rfl⟩
  |cons e es ih=>
   obtain⟨xs,hx⟩:=ih (fun f hf=>h2 f (by simp[hf]));exact⟨⟨e,h2 e (by simp)⟩::xs,by rw[List.map_cons,hx]⟩
 obtain⟨xs,rfl⟩:=A4;have A1:Rr (Dw (xs.map Subtype.val)++rest).toArray:=Zr hc4;have A2:xs.length=(xs.map Subtype.val).length:=by rw[fXX]
 refine(spn.sortStable_any (fun x: {e:Eb//e.Ok L w}=>x.1.cells) (fun _=>rfl) (fun x=>x.1.one) (fun x y=>decide (x.1.p<y.1.p)) (aCP fun x: {e:Eb//e.Ok L w}=>x.1.p) w w g cap _ 165 rest xs (fun wr o x y=> ?_) ⟨by rw[Vf];exact hs.blk,Bd.refl _ _⟩ A2 hn).mono ?_
 ·have hx:x.1.Ok L wr:=x.2.map fun r q hr=>hr.own hs.blk A1 o
  have hy:y.1.Ok L wr:=y.2.map fun r q hr=>hr.own hs.blk A1 o
  refine(Zu L _ _ _ _ _ _ wr hx.ptIn hy.ptIn ω).mono ?_;rintro e w' ⟨rfl,A5⟩;exact⟨_,rfl,by rw[decide_eq_true_iff];exact rcmp_lt,A5⟩
 rintro e w' ⟨rfl,A0⟩;have hm:(Stb.stab (fun x y: {e:Eb//e.Ok L w}=>decide (x.1.p<y.1.p)) xs).map Subtype.val=Stb.stab xR (xs.map Subtype.val):=Ov Subtype.val (lt':=xR) (fun _ _=>rfl) xs;have A3:(Stb.stab xR (xs.map Subtype.val)).length=(xs.map Subtype.val).length:=Stb.stab_len _;refine⟨rfl,⟨⟨Ev _,Or.inr ⟨g,cap,rest,by rw[A3],hb,?_,by rw[A3];exact hc1,hc2,?_,?_⟩⟩,fun e he=> ?_⟩,?_⟩
 ·have h3:=A0.blk
  rw[Vf,hm]at h3;exact h3
 ·rw[Ev,A3,<-Ev];exact hc3
 ·exact(Zt _).app hc4
 ·rw[<-hm]at he
  obtain⟨x,_,rfl⟩:=List.mem_map.1 he;exact x.2.map fun r q hr=>hr.own hs.blk A1 A0.own
 show w.grownBy w' (Value.ownBlock _);have:=A0.own;simpa[Value.ownBlock,Bd]using this
theorem half (e:Eb):e.cells=[.bool e.a.n,.slice e.a.p e.a.l e.a.c,.bool e.a.m,.slice e.a.p2 e.a.l2 e.a.c2]++[.bool e.b.n,.slice e.b.p e.b.l e.b.c,.bool e.b.m,.slice e.b.p2 e.b.l2 e.b.c2]:=rfl
theorem Lz.turn{L w base g cap n es}{l e:Eb}(h:Lz L w base (.slice (π g) (n+1) cap) (es++[l]))(hn:es.length=n)(he:e.Ok L w):
  w.there g (n*8+4) 4/\Lz L (w.setCells g (n*8+4) [.bool e.b.n,.slice e.b.p e.b.l e.b.c,.bool e.b.m,.slice e.b.p2 e.b.l2 e.b.c2]) base (.slice (π g) (n+1) cap) (es++[⟨l.a,e.b,l.p,e.q⟩])/\
   Bd g w (w.setCells g (n*8+4) [.bool e.b.n,.slice e.b.p e.b.l e.b.c,.bool e.b.m,.slice e.b.p2 e.b.l2 e.b.c2]):=by
 obtain⟨hl,⟨hv,_⟩|⟨g',A7,rest,hv,hb,hg,h3,h4,h5,h6⟩⟩:=h.1
 ·cases hv
 injection hv with e1 e2 e3
 injection e1 with e1
 injection e1 with e1
 subst e1 e3;have A1:Dw (es++[l])++rest=(Dw es++[.bool l.a.n,.slice l.a.p l.a.l l.a.c,.bool l.a.m,.slice l.a.p2 l.a.l2 l.a.c2])++([.bool l.b.n,.slice l.b.p l.b.l l.b.c,.bool l.b.m,.slice l.b.p2 l.b.l2 l.b.c2]++rest):=by
  rw[Kx,half];simp
 have A2:(Dw es++([.bool l.a.n,.slice l.a.p l.a.l l.a.c,.bool l.a.m,.slice l.a.p2 l.a.l2 l.a.c2]:List Value)).length=n*8+4:=by rw[aXX,Ev,hn];rfl
 have A5:Rr (Dw (es++[l])++rest).toArray:=Zr h6.right;have A6:=hg;rw[A1]at hg;have ht:=hg.therePart (n*8+4) 4 (by rw[aXX,A2];simp);have hp:=hg.setMid [.bool e.b.n,.slice e.b.p e.b.l e.b.c,.bool e.b.m,.slice e.b.p2 e.b.l2 e.b.c2] (by rfl);rw[A2]at hp;have ho:Bd g w (w.setCells g (n*8+4) [.bool e.b.n,.slice e.b.p e.b.l e.b.c,.bool e.b.m,.slice e.b.p2 e.b.l2 e.b.c2]):=Bd.setCells_l _ _ (Bd.refl _ _);refine⟨ht,⟨⟨Ev _,Or.inr ⟨g,cap,rest,by rw[aXX,hn];rfl,hb,?_,by rw[aXX]at h3⊢;exact h3,h4,?_,(Zt _).app h6.right⟩⟩,fun x hx=> ?_⟩,ho⟩
 ·have e5:Dw (es++[⟨l.a,e.b,l.p,e.q⟩])++rest=(Dw es++[.bool l.a.n,.slice l.a.p l.a.l l.a.c,.bool l.a.m,.slice l.a.p2 l.a.l2 l.a.c2])++([.bool e.b.n,.slice e.b.p e.b.l e.b.c,.bool e.b.m,.slice e.b.p2 e.b.l2 e.b.c2]++rest):=by
   rw[Kx,half];simp
  rw[e5];exact hp
 ·rw[Ev,aXX]at h5⊢;exact h5
 have A0:∀x:Eb,x.Ok L w->x.Ok L (w.setCells g (n*8+4) [.bool e.b.n,.slice e.b.p e.b.l e.b.c,.bool e.b.m,.slice e.b.p2 e.b.l2 e.b.c2]):=fun x hx=>hx.map fun r q hr=>hr.own A6 A5 ho
 rcases List.mem_append.1 hx with hx|hx
 ·exact A0 x (h.2 x (by simp[hx]))
 simp at hx;rw[hx];have A3:=A0 l (h.2 l (by simp));have A4:=A0 e he;exact⟨A3.1,A4.2.1,A3.2.2.1,A4.2.2.2⟩
theorem Lz.grown{L w w' base v es row}(h:Lz L w base v es)(hg:w.grownBy w' row)(hne:∀j,v.ownBlock=some j->row≠some j)(hm:∀(r:RV) (q:Rat),r.Is w q->r.Is w' q):Lz L w' base v es:=by
  refine⟨?_,fun e he=>(h.2 e he).map hm⟩;obtain⟨hl,⟨hv,hz⟩|⟨g,A0,rest,rfl,hb,hB,h3⟩⟩:=h.1
  · exact⟨hl,Or.inl ⟨hv,hz⟩⟩
  exact⟨hl,Or.inr ⟨g,A0,rest,rfl,hb,hB.grown hg (hne g (by simp[Value.ownBlock])),h3⟩⟩
theorem Lz.lt{L w base v es}(h:Lz L w base v es):∀j,v.ownBlock=some j->j<w.heap.size:=fun _ hj=>Nat.lt_of_not_le fun hn=>pF h hn hj
theorem Lz.rowNoU{L w base g n cap es}(h:Lz L w base (.slice (π g) n cap) es):∃cs:Array Value,Aj w g 165 cs/\Rr cs:=by
  obtain⟨hl,⟨hv,_⟩|⟨g',A0,rest,hv,hb,hB,h3,h4,h5,h6⟩⟩:=h.1
  · cases hv
  injection hv with e1 _ _
  injection e1 with e1
  injection e1 with e1
  subst e1;exact⟨_,hB,Zr h6.right⟩
theorem mZ(s):Fh [] s=[s]:=rfl
theorem nF(os l s):Fh (os++[l]) s=if l.2<s.1 then os++[l]++[s]else if l.2<s.2 then os++[(l.1,s.2)]else os++[l]:=by
  unfold Fh;rw[List.getLast?_concat];simp only[List.dropLast_concat]
theorem uK {α:Type}(l:List α):l=[]\/∃l' x,l=l'++[x]:=by
  rcases List.eq_nil_or_concat l with h|⟨a,b,h⟩
  · exact Or.inl h
  exact Or.inr ⟨a,b,by simpa using h⟩
theorem Lz.readEnd{L w base g cap n es l}(h:Lz L w base (.slice (π g) (n+1) cap) (es++[l]))(hn:es.length=n):
  w.rangeAt g (n*8+4) [.bool l.b.n,.slice l.b.p l.b.l l.b.c,.bool l.b.m,.slice l.b.p2 l.b.l2 l.b.c2]:=by
 rcases h.form with⟨hv,_⟩|⟨g',cap',rest,hv,_,hs,_⟩
 ·cases hv
 injection hv with e1 _ _
 injection e1 with e1
 injection e1 with e1
 subst e1;have hr:=hs.read (i:=n) (x:=l) (by rw[dQQ ω,hn,Nat.sub_self];rfl) Eb.len;intro j u hj;have A0:=hr (4+j) u (by
  rw[half,dQQ (by simp)];simpa using hj)
 rw[Nat.add_assoc];exact A0
theorem Gu.ofb{L w}{e:Eb}(h:e.Ok L w):Gu L w ([.bool e.b.n,.slice e.b.p e.b.l e.b.c,.bool e.b.m,.slice e.b.p2 e.b.l2 e.b.c2]:List Value).toArray e.q:=⟨e.b,rfl,h.2.1.isIn h.2.2.2⟩
theorem Ee{α:Type}(f:α->List Value)(es e):es.flatMap f++f e=(es++[e]).flatMap f:=by simp
theorem Nx{w:World}{g o cs}(h:w.rangeAt g o cs)(k n):w.rangeAt g (o+k) ((cs.drop k).take n):=by
  intro j v hv;have hj:j<n:=by
    have:=(List.getElem?_eq_some_iff.1 hv).1;rw[eQQ]at this;omega
  rw[List.getElem?_take_of_lt hj,List.getElem?_drop]at hv;have:=h (k+j) v hv;rw[show o+(k+j)=o+k+j by omega]at this;exact this
theorem Ai{w:World}{g o v cs}(h:w.rangeAt g o (v::cs)):w.cell? ⟨g,o,none⟩=some v:=by
  have:=h 0 v rfl;simpa using this
theorem Qs{q r}:Di q r=0↔q=r:=rcmp_eq
theorem Ay (k:Int)(h1: -9223372036854775808<=k)(h2:k<=9223372036854775807):Nm.rl (k:Rat)<=2:=by
  unfold Nm.rl;rw[Rat.num_intCast,Rat.den_intCast];have h1:Nm.nl k.natAbs<=2:=Nm.nl_le ω;have h2:Nm.nl 1<=1:=Nm.nl_le (by decide);omega
theorem Hp.add2{w0 wb w m X Y T U zs us}(h:Hp w0 wb m)(x:Aa wb w)(B1:Aj w X T zs.toArray)(B2:Aj w Y U us.toArray)(z1:wb.heap.size<=X)(z2:wb.heap.size<=Y)(hne:X≠Y)(n1:Av zs)(n2:Av us):
  Hp w0 w (m++[.blk X T zs]++[.blk Y U us]):=by
 have h1:=h.addBlk x B1 z1 n1;refine h1.add ⟨Al h.ext.size z2,B2,n2⟩ (fun i f hf k hk e=> ?_);injection e with e
 rcases Nat.lt_trichotomy i m.length with hl|hl|hl
 ·rw[dZZ hl]at hf
  have:=h.lt hf hk;omega
 ·subst hl
  rw[dQQ (Cp _)]at hf;simp at hf;subst hf;injection hk with hk
  omega
 rw[dQQ (nXX hl),lZZ (by simp;omega)]at hf;cases hf
theorem nH{P}{l:List Oper}{Q md S i j oi oj fuel listed li lj lij a w w0 m T U}{zs us:List Value}
(hi:l[i]?=some oi)(hj:l[j]?=some oj)(hr:Region.ready md l.toArray listed=[i,j])(hli:listed.setIfInBounds i true=li)(hlj:listed.setIfInBounds j true=lj)(hri:Region.ready md l.toArray li=[j])(hrj:Region.ready md l.toArray lj=[i])
(hlij:li.setIfInBounds j true=lij)(hlji:lj.setIfInBounds i true=lij)(hgi:oi.guard=none)(hgj:oj.guard=none)(hd:∀d,oj.dst=some d->oi.dst≠some d)
(hvi:∀(ρ:Operand->Value) (x:World),(execOp ρ oi).run P x= .ok (.value (.pointer (π x.heap.size))) (x.alloc (.cells zs.toArray T)))
(hvj:∀(ρ:Operand->Value) (x:World),(execOp ρ oj).run P x= .ok (.value (.pointer (π x.heap.size))) (x.alloc (.cells us.toArray U)))
(hS:∀x y,S x->Aa x y->S y)(hSw:S w)(hH:Hp w0 w m)(hn1:Av zs)(hn2:Av us)
(h:∀X Y w',Hp w0 w' (m++[.blk X T zs]++[.blk Y U us])->Aa w w'->w.heap.size<=X->w.heap.size<=Y->S w'->wpAnyH P md l.toArray Q S fuel lij ((a.put oi.dst (.pointer (π X))).put oj.dst (.pointer (π Y))) w'):
  wpAnyH P md l.toArray Q S (fuel+1+1) listed a w:=by
 have hwi:∀b:Act,Region.wanted oi (yielded l.toArray b.tmps)=true:=fun b=>by simp[Region.wanted,hgi]
 have hwj:∀b:Act,Region.wanted oj (yielded l.toArray b.tmps)=true:=fun b=>by simp[Region.wanted,hgj]
 have x1:Aa w (w.alloc (.cells zs.toArray T)):=(Aa.refl w).alloc _;have x2:Aa w (w.alloc (.cells us.toArray U)):=(Aa.refl w).alloc _;have y1:Aa (w.alloc (.cells zs.toArray T)) ((w.alloc (.cells zs.toArray T)).alloc (.cells us.toArray U)):=At.alloc _;have y2:Aa (w.alloc (.cells us.toArray U)) ((w.alloc (.cells us.toArray U)).alloc (.cells zs.toArray T)):=At.alloc _;refine yX hi hj hr (hwi a) (hvi _ w) (hS _ _ hSw x1) hli (hwj a) (hvj _ w) (hS _ _ hSw x2) hlj ?_ ?_
 ·refine Lh hj hri (hwj _) (hvj _ _) (hS _ _ (hS _ _ hSw x1) y1) hlij ?_
  exact h _ _ _ (hH.add2 (x1.trans y1) ((Aj.new w T zs.toArray).ext y1) (Aj.new _ U us.toArray) (Cp _) x1.size (by simp) hn1 hn2) (x1.trans y1) (Cp _) x1.size (hS _ _ (hS _ _ hSw x1) y1)
 refine Lh hi hrj (hwi _) (hvi _ _) (hS _ _ (hS _ _ hSw x2) y2) hlji ?_;have h2:=h _ _ _ (hH.add2 (x2.trans y2) (Aj.new _ T zs.toArray) ((Aj.new w U us.toArray).ext y2) x2.size (Cp _) (by simp) hn1 hn2) (x2.trans y2) x2.size (Cp _) (hS _ _ (hS _ _ hSw x2) y2);rw[Act.put_comm a _ _ hd];exact h2
theorem zW:bA prog 138 165 8 128:=bA.of (z:= .agg z8) underlying138 (by kernel_rfl) rfl (by simp[Av,Value.cells]) (by decide)
theorem Yk:bA prog 105 26 4 64:=bA.of (z:= .agg z4) underlying105 (by kernel_rfl) rfl (by simp[Av,Value.cells]) (by decide)
theorem sP:bA prog 166 169 5 72:=bA.of (z:= .agg #[.bool false,.slice none 0 0,.bool false,.slice none 0 0,iV 0]) underlying166 (by kernel_rfl) rfl (by simp[Av,Value.cells]) (by decide)
theorem aAX:bA prog 70 72 4 32:=bA.of (z:= .agg #[iV 0,iV 0,iV 0,iV 0]) underlying70 (by kernel_rfl) rfl (by simp[Av,Value.cells]) (by decide)
abbrev rc (r:RV):List Value:=[.bool r.n,.slice r.p r.l r.c,.bool r.m,.slice r.p2 r.l2 r.c2]
abbrev rg (r:RV):Value:= .agg #[.bool r.n,.slice r.p r.l r.c,.bool r.m,.slice r.p2 r.l2 r.c2]
abbrev rz:List Value:=[.bool false,.slice none 0 0,.bool false,.slice none 0 0]
abbrev ro {α:Type}(t:TypeId)(s:Nat)(A:Option Addr)(n c:Nat)(f:α->List Value)(es:List α):Et:= .row t s (.slice A n c) n (List.flatMap f es)
def fE (m:List Et)(g:Nat)(cs:List Value):Prop:=∃(i:Nat) (t:TypeId),m[i]?=some (.blk g t cs)
def Kw (P:Program)(ops:Array Oper)(w0 w:World)(m:List Et)(op:Oper)(a:Act)(_v:Value)(a':Act):Prop:=Hp w0 w m->∀(Q:Exit->Act->World->Prop) (rest:List Oper),wpList P ops Q rest a' w->wpList P ops Q (op::rest) a w
def SD (P:Program)(md:Region.Mode)(l:List Oper)(Q:Exit->Act->World->Prop)(w0 b:World)(m:List Et)(i:Nat)(listed:Array Bool)(a:Act)(_v:Value)(a':Act):Prop:=Hp w0 b m->∀(fuel:Nat) (w:World),Aa b w->wpAnyH P md l.toArray Q (fun x=>Aa b x) fuel (listed.setIfInBounds i true) a' w->wpAnyH P md l.toArray Q (fun x=>Aa b x) (fuel+1) listed a w
section
variable {P:Program} {ops:Array Oper} {rest:List Oper} {op:Oper} {a:Act} {a':Act} {w:World} {Q:Exit->Act->World->Prop} {ty:TypeId} {x:Operand} {l:List Oper} {md:Region.Mode} {b:World} {oi:Oper} {fuel:Nat} {listed:Array Bool} {o:Oper} {t:TypeId} {t':TypeId} {y:Operand} {g:Nat} {w0:World} {m:List Et} {m':List Et} {cs:List Value} {v:Value} {o1:Oper} {a1:Act} {o2:Oper} {a2:Act} {o3:Oper} {a3:Act} {o4:Oper} {a4:Act} {o5:Oper} {a5:Act} {a6:Act} {a7:Act} {i:Nat}
theorem zd{d}(g o cs)(hb:w.rangeAt g o cs)(hu:P.underlying ty=some d)(h:wpList P ops Q rest a' w)(hw:Region.wanted op (yielded ops a.tmps)=true:=by rfl)(ho:op.op= .load ty x:=by rfl)(hx:a.eval x= .pointer (some ⟨g,o,none⟩):=by rfl)(hd:d.isRow=true:=by rfl)(hz:(P.info? ty).map (·.size)=some cs.length:=by kernel_rfl)(ha:a.put op.dst (.agg cs.toArray)=a':=by simp only[ζ]<;>rfl):wpList P ops Q (op::rest) a w:=by subst ha;exact xP hw ty x ho g o cs hx hb hu hd hz h
theorem ze(g o v)(hb:w.rangeAt g o [v])(h:wpList P ops Q rest a' w)(hw:Region.wanted op (yielded ops a.tmps)=true:=by rfl)(hv:∀x:World,x.cell? ⟨g,o,none⟩=some v->(execOp a.eval op).run P x= .ok (.value v) x:=by intro x hq;(try simp only[nQQ]at hq);go_simp<;>with_reducible rfl)(ha:a.put op.dst v=a':=by simp only[ζ]<;>rfl):wpList P ops Q (op::rest) a w:=by subst ha;exact rK hw (Ai hb) hv h
theorem zf(i listed' g o v)(hb:b.rangeAt g o [v])(hS:Aa b w)(h:wpAnyH P md l.toArray Q (fun x=>Aa b x) fuel listed' a' w)(hi:l[i]?=some oi:=by rfl)(hs:Region.noSelect l.toArray=true:=by kernel_rfl)(hf:Region.free md l.toArray listed i=true:=by kernel_rfl)(hr:(Region.ready md l.toArray listed).contains i=true:=by kernel_rfl)(hQ:∀c a w,Q (.panic c) (a.put oi.dst v) w->Q (.panic c) a w:=by intro _ _ _ h;exact h)(hw:Region.wanted oi (yielded l.toArray a.tmps)=true:=by rfl)(hv:∀x:World,x.cell? ⟨g,o,none⟩=some v->(execOp a.eval oi).run P x= .ok (.value v) x:=by intro x hq;(try simp only[nQQ]at hq);go_simp<;>with_reducible rfl)(hl:listed.setIfInBounds i true=listed':=by kernel_rfl)(ha:a.put oi.dst v=a':=by simp only[ζ]<;>rfl):wpAnyH P md l.toArray Q (fun x=>Aa b x) (fuel+1) listed a w:=by subst ha;exact Dv hi hs hf hr hQ hw (fun x hx=>Aa.get hx (Ai hb)) hv hS hl h
theorem zg(i listed'){d}(g o cs)(hb:b.rangeAt g o cs)(hu:P.underlying ty=some d)(hS:Aa b w)(h:wpAnyH P md l.toArray Q (fun x=>Aa b x) fuel listed' a' w)(hi:l[i]?=some oi:=by rfl)(hs:Region.noSelect l.toArray=true:=by kernel_rfl)(hf:Region.free md l.toArray listed i=true:=by kernel_rfl)(hr:(Region.ready md l.toArray listed).contains i=true:=by kernel_rfl)(ho:oi.op= .load ty x:=by rfl)(hQ:∀c a w,Q (.panic c) (a.put oi.dst (.agg cs.toArray)) w->Q (.panic c) a w:=by intro _ _ _ h;exact h)(hw:Region.wanted oi (yielded l.toArray a.tmps)=true:=by rfl)(hx:a.eval x= .pointer (some ⟨g,o,none⟩):=by rfl)(hd:d.isRow=true:=by rfl)(hz:(P.info? ty).map (·.size)=some cs.length:=by kernel_rfl)(hl:listed.setIfInBounds i true=listed':=by kernel_rfl)(ha:a.put oi.dst (.agg cs.toArray)=a':=by simp only[ζ]<;>rfl):wpAnyH P md l.toArray Q (fun x=>Aa b x) (fuel+1) listed a w:=by subst ha;exact Ii hi hs hf hr ty x ho g o cs d hQ hw hx (fun x hx=>Be hb hx) hu hd hz hS hl h
theorem Gm{ρ:Operand->Value}{A B E}(h: -9223372036854775808<=E/\E<=9223372036854775807)(ho:o.op= .binOp .add t x y t':=by rfl)(hx:ρ x= iV A:=by rfl)(hy:ρ y= iV B:=by rfl)(hE:A+B=E:=by first|rfl|omega):(execOp ρ o).run P w= .ok (.value (iV E)) w:=iE ho hx hy hE h.1 h.2
theorem Rh{ρ:Operand->Value}{A B E}(h: -9223372036854775808<=E/\E<=9223372036854775807)(ho:o.op= .binOp .sub t x y t':=by rfl)(hx:ρ x= iV A:=by rfl)(hy:ρ y= iV B:=by rfl)(hE:A-B=E:=by first|rfl|omega):(execOp ρ o).run P w= .ok (.value (iV E)) w:=aH ho hx hy hE h.1 h.2
theorem aG{ρ:Operand->Value}{A B E}(h: -9223372036854775808<=E/\E<=9223372036854775807)(ho:o.op= .binOp .mul t x y t':=by rfl)(hx:ρ x= iV A:=by rfl)(hy:ρ y= iV B:=by rfl)(hE:A*B=E:=by first|rfl|omega):(execOp ρ o).run P w= .ok (.value (iV E)) w:=sM ho hx hy hE h.1 h.2
theorem Df{ρ:Operand->Value}{A B b}(ho:o.op= .binOp .lss t x y t':=by rfl)(hx:ρ x= iV A:=by rfl)(hy:ρ y= iV B:=by rfl)(e:decide (A<B)=b):(execOp ρ o).run P w= .ok (.value (.bool b)) w:=zO ho hx hy e
theorem Og{ρ:Operand->Value}{A B b}(ho:o.op= .binOp .leq t x y t':=by rfl)(hx:ρ x= iV A:=by rfl)(hy:ρ y= iV B:=by rfl)(e:decide (A<=B)=b):(execOp ρ o).run P w= .ok (.value (.bool b)) w:=zP ho hx hy e
theorem Lw{ρ:Operand->Value}{A B b}(ho:o.op= .binOp .gtr t x y t':=by rfl)(hx:ρ x= iV A:=by rfl)(hy:ρ y= iV B:=by rfl)(e:decide (B<A)=b):(execOp ρ o).run P w= .ok (.value (.bool b)) w:=zQ ho hx hy e
theorem Lj{ρ:Operand->Value}{A B b}(ho:o.op= .binOp .geq t x y t':=by rfl)(hx:ρ x= iV A:=by rfl)(hy:ρ y= iV B:=by rfl)(e:decide (B<=A)=b):(execOp ρ o).run P w= .ok (.value (.bool b)) w:=zR ho hx hy e
theorem Sn{ρ:Operand->Value}{A B b}(ho:o.op= .binOp .eql t x y t':=by rfl)(hx:ρ x= iV A:=by rfl)(hy:ρ y= iV B:=by rfl)(e:decide (A=B)=b):(execOp ρ o).run P w= .ok (.value (.bool b)) w:=zS ho hx hy e
theorem Nn{ρ:Operand->Value}{A B b}(ho:o.op= .binOp .neq t x y t':=by rfl)(hx:ρ x= iV A:=by rfl)(hy:ρ y= iV B:=by rfl)(e:decide (A≠B)=b):(execOp ρ o).run P w= .ok (.value (.bool b)) w:=zN ho hx hy e
theorem Gw{ρ:Operand->Value}{off n c}{k:Nat}{size off' z e}(ht:P.underlying t=some (.slice e))(ho:o.op= .indexAddr t x y:=by rfl)(hs:(P.info? e).map (·.size)=some size:=by kernel_rfl)(hx:ρ x= .slice (some ⟨g,off,none⟩) n c:=by rfl)(hy:ρ y= iV z:=by rfl)(hz:z=(k:Int):=by omega)(l:k<n)(f:off'=off+k*size):(execOp ρ o).run P w= .ok (.value (.pointer (some ⟨g,off',none⟩))) w:=sN ho ht hs hx hy hz l f
theorem zy{id}(h:wpAnyH P .any ops Q (fun x=>Aa w x) ops.size (Array.replicate ops.size false) a w.drew)(hm:P.follows .mixedOrders=true:=by kernel_rfl):(Code.region id ops true).wp P Q a w:=wp_region_held_drew (S:=fun x=>Aa w x) hm At.drew (fun _=>h)
theorem zn{d u}(h:wpList P ops Q rest a' w)(ha:a.put d u=a':=by simp only[ζ]<;>rfl):∃v,Ending.returned u= .returned v/\wpList P ops Q rest (a.put d v) w:=⟨u,rfl,by rw[ha];exact h⟩
theorem zm{S lt d u}(hS:S w)(h:wpAnyH P md l.toArray Q S fuel lt a' w)(ha:a.put d u=a':=by simp only[ζ]<;>rfl):∃v,Ending.returned u= .returned v/\S w/\wpAnyH P md l.toArray Q S fuel lt (a.put d v) w:=⟨u,rfl,hS,by rw[ha];exact h⟩
theorem zb:Aa w w.drew:=At.drew
theorem zc{f args}{Φ:Ending->World->Prop}(hc:Calls P f args w Φ)(h:∀e w',Φ e w'->∃v,e= .returned v/\wpList P ops Q rest (a.put op.dst v) w')(hw:Region.wanted op (yielded ops a.tmps)=true:=by rfl)(hv:(execOp a.eval op).run P w= .ok (.enter f args) w:=by go_simp):wpList P ops Q (op::rest) a w:=Gv hw hv hc h
theorem aA{m':Nat->List Et}{a':Nat->Act}(T zs)(H:Hp w0 w m)(h:∀X w',Hd (Hp w0 w' (m' X))->Aa w w'->w.heap.size<=X->wpList P ops Q rest (a' X) w')(hw:Region.wanted op (yielded ops a.tmps)=true:=by rfl)(hv:(execOp a.eval op).run P w= .ok (.value (.pointer (π w.heap.size))) (w.alloc (.cells zs.toArray T)):=by (try simp only[rz,rc]);go_simp)(hn:Av zs:=by simp[Av,rz,rc])(hm:∀X,m++[.blk X T zs]=m' X:=by intro X;(try simp only[jXX,fQQ]);rfl)(ha:∀X,a.put op.dst (.pointer (π X))=a' X:=by intro X;(try simp only[ζ]);rfl):wpList P ops Q (op::rest) a w:=dO hw hv H hn fun X w' hh hx hg=>by rw[ha];exact h X w' (zH (hm X▸hh)) hx hg
theorem Ca{m':Nat->List Et}{a':Nat->Act}(T zs)(H:Hp w0 w m)(h:∀X w',Hd (Hp w0 w' (m' X))->Hd (Ac w w')->wpList P ops Q rest (a' X) w')(hw:Region.wanted op (yielded ops a.tmps)=true:=by rfl)(hv:(execOp a.eval op).run P w= .ok (.value (.pointer (π w.heap.size))) (w.alloc (.cells zs.toArray T)):=by (try simp only[rz,rc]);go_simp)(hn:Av zs:=by simp[Av,rz,rc])(hm:∀X,m++[.blk X T zs]=m' X:=by intro X;(try simp only[jXX,fQQ]);rfl)(ha:∀X,a.put op.dst (.pointer (π X))=a' X:=by intro X;(try simp only[ζ]);rfl):wpList P ops Q (op::rest) a w:=dO hw hv H hn fun X w' hh hx _=>by rw[ha];exact h X w' (zH (hm X▸hh)) (zH (Ac.of_ext hx))
theorem aL{m':Nat->List Et}{a':Nat->Act}(n T zs)(H:Hp w0 w m)(h:∀X w',Hd (Hp w0 w' (m' X))->Aa w w'->w.heap.size<=X->wpList P ops Q rest (a' X) w')(hw:Region.wanted op (yielded ops a.tmps)=true:=by rfl)(hv:(execOp a.eval op).run P w= .ok (.value (.slice (π w.heap.size) n n)) (w.alloc (.cells zs.toArray T)):=by (try simp only[rz,rc]);go_simp)(hn:Av zs:=by simp[Av,rz,rc])(hm:∀X,m++[.blk X T zs]=m' X:=by intro X;(try simp only[jXX,fQQ]);rfl)(ha:∀X,a.put op.dst (.slice (π X) n n)=a' X:=by intro X;(try simp only[ζ]);rfl):wpList P ops Q (op::rest) a w:=rJ hw hv H hn fun X w' hh hx hg=>by rw[ha];exact h X w' (zH (hm X▸hh)) hx hg
theorem eZ{m':Nat->List Et}{a':Nat->Act}(n T zs)(H:Hp w0 w m)(h:∀X w',Hd (Hp w0 w' (m' X))->Hd (Ac w w')->wpList P ops Q rest (a' X) w')(hw:Region.wanted op (yielded ops a.tmps)=true:=by rfl)(hv:(execOp a.eval op).run P w= .ok (.value (.slice (π w.heap.size) n n)) (w.alloc (.cells zs.toArray T)):=by (try simp only[rz,rc]);go_simp)(hn:Av zs:=by simp[Av,rz,rc])(hm:∀X,m++[.blk X T zs]=m' X:=by intro X;(try simp only[jXX,fQQ]);rfl)(ha:∀X,a.put op.dst (.slice (π X) n n)=a' X:=by intro X;(try simp only[ζ]);rfl):wpList P ops Q (op::rest) a w:=rJ hw hv H hn fun X w' hh hx _=>by rw[ha];exact h X w' (zH (hm X▸hh)) (zH (Ac.of_ext hx))
theorem aS(ix vs)(H:Hp w0 w m)(h:∀w',Hd (Hp w0 w' m')->Ac w w'->Bd g w w'->wpList P ops Q rest a' w')(hw:Region.wanted op (yielded ops a.tmps)=true:=by rfl)(ho:op.op= .store ty x y:=by rfl)(hi:m[ix]?=some (.blk g t cs):=by rfl)(hx:a.eval x= .pointer (π g):=by rfl)(hy:a.eval y= .agg vs.toArray:=by rfl)(hl:cs.length=vs.length:=by rfl)(hz:(P.info? ty).map (·.size)=some vs.length:=by kernel_rfl)(h1:∀v,v∈vs->v.oneCell'=true:=by simp[Value.oneCell',rc,rz])(hn:Av vs:=by simp[Av,rz,rc])(hm:m.set ix (.blk g t (vs))=m':=by (try simp only[List.set_cons_succ,List.set_cons_zero]);rfl)(ha:a.put op.dst undef=a':=by (try simp only[Act.put]);rfl):wpList P ops Q (op::rest) a w:=xO hw ty x y ho H hi 0 vs hx hy (jZZ (by rw[cXX];exact hl.symm)) hz h1 hn fun w' hh hd hq=>by rw[ha];exact h w' (zH (hm▸(show Hp _ _ _ from(by have e:cs.take 0++vs++cs.drop (0+vs.length)=vs:=(by rw[List.take_zero,fQQ,cXX,List.drop_eq_nil_of_le (jZZ hl),hZZ]);rw[e]at hh;exact hh)))) hd hq
theorem Cm(ix vs)(H:Hp w0 w m)(h:∀w',Hd (Hp w0 w' m')->Hd (Ac w w')->wpList P ops Q rest a' w')(hw:Region.wanted op (yielded ops a.tmps)=true:=by rfl)(ho:op.op= .store ty x y:=by rfl)(hi:m[ix]?=some (.blk g t cs):=by rfl)(hx:a.eval x= .pointer (π g):=by rfl)(hy:a.eval y= .agg vs.toArray:=by rfl)(hl:cs.length=vs.length:=by rfl)(hz:(P.info? ty).map (·.size)=some vs.length:=by kernel_rfl)(h1:∀v,v∈vs->v.oneCell'=true:=by simp[Value.oneCell',rc,rz])(hn:Av vs:=by simp[Av,rz,rc])(hm:m.set ix (.blk g t (vs))=m':=by (try simp only[List.set_cons_succ,List.set_cons_zero]);rfl)(ha:a.put op.dst undef=a':=by (try simp only[Act.put]);rfl):wpList P ops Q (op::rest) a w:=xO hw ty x y ho H hi 0 vs hx hy (jZZ (by rw[cXX];exact hl.symm)) hz h1 hn fun w' hh hd hq=>by rw[ha];exact h w' (zH (hm▸(show Hp _ _ _ from(by have e:cs.take 0++vs++cs.drop (0+vs.length)=vs:=(by rw[List.take_zero,fQQ,cXX,List.drop_eq_nil_of_le (jZZ hl),hZZ]);rw[e]at hh;exact hh)))) (zH hd)
theorem aU(ix v)(H:Hp w0 w m)(h:∀w',Hd (Hp w0 w' m')->Ac w w'->Bd g w w'->wpList P ops Q rest a' w')(hw:Region.wanted op (yielded ops a.tmps)=true:=by rfl)(ho:op.op= .store ty x y:=by rfl)(hi:m[ix]?=some (.blk g t cs):=by rfl)(hx:a.eval x= .pointer (π g):=by rfl)(hy:a.eval y=v:=by rfl)(hl:cs.length=1:=by rfl)(hz:(P.info? ty).map (·.size)=some 1:=by kernel_rfl)(hc:v.cells=#[v]:=by simp[Value.cells])(h1:v.oneCell'=true:=by simp[Value.oneCell'])(hn:Av [v]:=by simp[Av,rz,rc])(hm:m.set ix (.blk g t ([v]))=m':=by (try simp only[List.set_cons_succ,List.set_cons_zero]);rfl)(ha:a.put op.dst undef=a':=by (try simp only[Act.put]);rfl):wpList P ops Q (op::rest) a w:=rI hw ty x y ho H hi 0 v hx hy (jZZ (by rw[cXX];exact hl.symm)) hz hc h1 hn fun w' hh hd hq=>by rw[ha];exact h w' (zH (hm▸(show Hp _ _ _ from(by have e:cs.take 0++[v]++cs.drop (0+1)=[v]:=(by rw[List.take_zero,fQQ,cXX,List.drop_eq_nil_of_le (jZZ hl),hZZ]);rw[e]at hh;exact hh)))) hd hq
theorem aCV(ix v)(H:Hp w0 w m)(h:∀w',Hd (Hp w0 w' m')->Hd (Ac w w')->wpList P ops Q rest a' w')(hw:Region.wanted op (yielded ops a.tmps)=true:=by rfl)(ho:op.op= .store ty x y:=by rfl)(hi:m[ix]?=some (.blk g t cs):=by rfl)(hx:a.eval x= .pointer (π g):=by rfl)(hy:a.eval y=v:=by rfl)(hl:cs.length=1:=by rfl)(hz:(P.info? ty).map (·.size)=some 1:=by kernel_rfl)(hc:v.cells=#[v]:=by simp[Value.cells])(h1:v.oneCell'=true:=by simp[Value.oneCell'])(hn:Av [v]:=by simp[Av,rz,rc])(hm:m.set ix (.blk g t ([v]))=m':=by (try simp only[List.set_cons_succ,List.set_cons_zero]);rfl)(ha:a.put op.dst undef=a':=by (try simp only[Act.put]);rfl):wpList P ops Q (op::rest) a w:=rI hw ty x y ho H hi 0 v hx hy (jZZ (by rw[cXX];exact hl.symm)) hz hc h1 hn fun w' hh hd hq=>by rw[ha];exact h w' (zH (hm▸(show Hp _ _ _ from(by have e:cs.take 0++[v]++cs.drop (0+1)=[v]:=(by rw[List.take_zero,fQQ,cXX,List.drop_eq_nil_of_le (jZZ hl),hZZ]);rw[e]at hh;exact hh)))) (zH hd)
theorem bS(ix i lt vs)(H:Hp w0 w m)(hS:Aa b w)(hG:b.heap.size<=g)(h:∀w',Hd (Hp w0 w' m')->Hd (Ac w w')->Hd (Aa b w')->wpAnyH P md l.toArray Q (fun x=>Aa b x) fuel lt a' w')(hli:l[i]?=some oi:=by rfl)(hr:Region.ready md l.toArray listed=[i]:=by kernel_rfl)(hw:Region.wanted oi (yielded l.toArray a.tmps)=true:=by rfl)(hlt:listed.setIfInBounds i true=lt:=by kernel_rfl)(ho:oi.op= .store ty x y:=by rfl)(hi:m[ix]?=some (.blk g t cs):=by rfl)(hx:a.eval x= .pointer (π g):=by rfl)(hy:a.eval y= .agg vs.toArray:=by rfl)(hl:cs.length=vs.length:=by rfl)(hz:(P.info? ty).map (·.size)=some vs.length:=by kernel_rfl)(h1:∀v,v∈vs->v.oneCell'=true:=by simp[Value.oneCell',rc,rz])(hn:Av vs:=by simp[Av,rz,rc])(hm:m.set ix (.blk g t (vs))=m':=by (try simp only[List.set_cons_succ,List.set_cons_zero]);rfl)(ha:a.put oi.dst undef=a':=by (try simp only[Act.put]);rfl):wpAnyH P md l.toArray Q (fun x=>Aa b x) (fuel+1) listed a w:=Dm hli hr hw hlt ty x y ho H hi 0 vs hx hy (jZZ (by rw[cXX];exact hl.symm)) hz h1 hn fun w' hh hd hq=>⟨Bd.ext hq hS hG,by rw[ha];exact h w' (zH (hm▸(show Hp _ _ _ from(by have e:cs.take 0++vs++cs.drop (0+vs.length)=vs:=(by rw[List.take_zero,fQQ,cXX,List.drop_eq_nil_of_le (jZZ hl),hZZ]);rw[e]at hh;exact hh)))) (zH hd) (zH (Bd.ext hq hS hG))⟩
theorem fE.h:fE (.blk g t cs::m) g cs:=⟨0,t,rfl⟩
theorem fE.tl{e}(h:fE m g cs):fE (e::m) g cs:=by obtain⟨i,t,h⟩:=h;exact⟨i+1,t,h⟩
theorem Sk (hn:Region.wanted op (yielded ops a.tmps)=false:=by rfl)(ha:a.put op.dst undef=a':=by (try simp only[ζ]);rfl):Kw P ops w0 w m op a undef a':=fun _ _ _ h=>by subst ha;exact jM hn h
theorem Sq (hw:Region.wanted op (yielded ops a.tmps)=true:=by rfl)(hv:(execOp a.eval op).run P w= .ok (.value v) w:=by go_simp<;>with_reducible rfl)(ha:a.put op.dst v=a':=by (try simp only[ζ]);rfl):Kw P ops w0 w m op a v a':=fun _ _ _ h=>by subst ha;exact Lf hw hv h
theorem Sd{o}(hw:Region.wanted op (yielded ops a.tmps)=true:=by rfl)(ho:op.op= .load ty x:=by rfl)(hx:a.eval x= .pointer (some ⟨g,o,none⟩):=by rfl)(hi:fE m g cs:=by repeat (first|exact fE.h|apply fE.tl))(ho0:o=0:=by rfl)(hd:(P.underlying ty).map (·.isRow)=some true:=by decide+kernel)(hz:(P.info? ty).map (·.size)=some cs.length:=by kernel_rfl)(ha:a.put op.dst (.agg cs.toArray)=a':=by (try simp only[ζ]);rfl):Kw P ops w0 w m op a (.agg cs.toArray) a':=fun H _ _ h=>by
  subst ha;subst ho0;obtain⟨i,t,hi⟩:=hi;cases hu:P.underlying ty with
  |none=>rw[hu]at hd;cases hd
  |some d=>
  have hr:=H.range hi 0 cs.length;rw[List.drop_zero,mZZ]at hr;exact xP hw ty x ho g 0 cs hx hr hu (by rw[hu]at hd;exact Option.some.inj hd) hz h
theorem Se{o}(hw:Region.wanted op (yielded ops a.tmps)=true:=by rfl)(_ho:op.op= .load ty x:=by rfl)(_hx:a.eval x= .pointer (some ⟨g,o,none⟩):=by rfl)(hi:fE m g cs:=by repeat (first|exact fE.h|apply fE.tl))(hc:cs[o]?=some v:=by rfl)(hv:∀x:World,x.cell? ⟨g,o,none⟩=some v->(execOp a.eval op).run P x= .ok (.value v) x:=by intro x hq;go_simp<;>with_reducible rfl)(ha:a.put op.dst v=a':=by (try simp only[ζ]);rfl):Kw P ops w0 w m op a v a':=fun H _ _ h=>by
  subst ha;obtain⟨i,t,hi⟩:=hi;exact rK hw (H.cell hi o hc) hv h
theorem Cg(H:Hp w0 w m)(v1)(h:wpList P ops Q rest a1 w)(s1:Kw P ops w0 w m o1 a v1 a1:=by first|exact Sk|exact Sd|exact Se|exact Sq):wpList P ops Q (o1::rest) a w:=s1 H _ _ (h)
theorem Cc(H:Hp w0 w m)(v1 v2)(h:wpList P ops Q rest a2 w)(s1:Kw P ops w0 w m o1 a v1 a1:=by first|exact Sk|exact Sd|exact Se|exact Sq)(s2:Kw P ops w0 w m o2 a1 v2 a2:=by first|exact Sk|exact Sd|exact Se|exact Sq):wpList P ops Q (o1::o2::rest) a w:=s1 H _ _ (s2 H _ _ (h))
theorem Da(H:Hp w0 w m)(v1 v2 v3)(h:wpList P ops Q rest a3 w)(s1:Kw P ops w0 w m o1 a v1 a1:=by first|exact Sk|exact Sd|exact Se|exact Sq)(s2:Kw P ops w0 w m o2 a1 v2 a2:=by first|exact Sk|exact Sd|exact Se|exact Sq)(s3:Kw P ops w0 w m o3 a2 v3 a3:=by first|exact Sk|exact Sd|exact Se|exact Sq):wpList P ops Q (o1::o2::o3::rest) a w:=s1 H _ _ (s2 H _ _ (s3 H _ _ (h)))
theorem Ef(H:Hp w0 w m)(v1 v2 v3 v4)(h:wpList P ops Q rest a4 w)(s1:Kw P ops w0 w m o1 a v1 a1:=by first|exact Sk|exact Sd|exact Se|exact Sq)(s2:Kw P ops w0 w m o2 a1 v2 a2:=by first|exact Sk|exact Sd|exact Se|exact Sq)(s3:Kw P ops w0 w m o3 a2 v3 a3:=by first|exact Sk|exact Sd|exact Se|exact Sq)(s4:Kw P ops w0 w m o4 a3 v4 a4:=by first|exact Sk|exact Sd|exact Se|exact Sq):wpList P ops Q (o1::o2::o3::o4::rest) a w:=s1 H _ _ (s2 H _ _ (s3 H _ _ (s4 H _ _ (h))))
theorem Lt(H:Hp w0 w m)(v1 v2 v3 v4 v5)(h:wpList P ops Q rest a5 w)(s1:Kw P ops w0 w m o1 a v1 a1:=by first|exact Sk|exact Sd|exact Se|exact Sq)(s2:Kw P ops w0 w m o2 a1 v2 a2:=by first|exact Sk|exact Sd|exact Se|exact Sq)(s3:Kw P ops w0 w m o3 a2 v3 a3:=by first|exact Sk|exact Sd|exact Se|exact Sq)(s4:Kw P ops w0 w m o4 a3 v4 a4:=by first|exact Sk|exact Sd|exact Se|exact Sq)(s5:Kw P ops w0 w m o5 a4 v5 a5:=by first|exact Sk|exact Sd|exact Se|exact Sq):wpList P ops Q (o1::o2::o3::o4::o5::rest) a w:=s1 H _ _ (s2 H _ _ (s3 H _ _ (s4 H _ _ (s5 H _ _ (h)))))
theorem Qh{o6}(H:Hp w0 w m)(v1 v2 v3 v4 v5 v6)(h:wpList P ops Q rest a6 w)(s1:Kw P ops w0 w m o1 a v1 a1:=by first|exact Sk|exact Sd|exact Se|exact Sq)(s2:Kw P ops w0 w m o2 a1 v2 a2:=by first|exact Sk|exact Sd|exact Se|exact Sq)(s3:Kw P ops w0 w m o3 a2 v3 a3:=by first|exact Sk|exact Sd|exact Se|exact Sq)(s4:Kw P ops w0 w m o4 a3 v4 a4:=by first|exact Sk|exact Sd|exact Se|exact Sq)(s5:Kw P ops w0 w m o5 a4 v5 a5:=by first|exact Sk|exact Sd|exact Se|exact Sq)(s6:Kw P ops w0 w m o6 a5 v6 a6:=by first|exact Sk|exact Sd|exact Se|exact Sq):wpList P ops Q (o1::o2::o3::o4::o5::o6::rest) a w:=s1 H _ _ (s2 H _ _ (s3 H _ _ (s4 H _ _ (s5 H _ _ (s6 H _ _ (h))))))
theorem bC{o6 o7}(H:Hp w0 w m)(v1 v2 v3 v4 v5 v6 v7)(h:wpList P ops Q rest a7 w)(s1:Kw P ops w0 w m o1 a v1 a1:=by first|exact Sk|exact Sd|exact Se|exact Sq)(s2:Kw P ops w0 w m o2 a1 v2 a2:=by first|exact Sk|exact Sd|exact Se|exact Sq)(s3:Kw P ops w0 w m o3 a2 v3 a3:=by first|exact Sk|exact Sd|exact Se|exact Sq)(s4:Kw P ops w0 w m o4 a3 v4 a4:=by first|exact Sk|exact Sd|exact Se|exact Sq)(s5:Kw P ops w0 w m o5 a4 v5 a5:=by first|exact Sk|exact Sd|exact Se|exact Sq)(s6:Kw P ops w0 w m o6 a5 v6 a6:=by first|exact Sk|exact Sd|exact Se|exact Sq)(s7:Kw P ops w0 w m o7 a6 v7 a7:=by first|exact Sk|exact Sd|exact Se|exact Sq):wpList P ops Q (o1::o2::o3::o4::o5::o6::o7::rest) a w:=s1 H _ _ (s2 H _ _ (s3 H _ _ (s4 H _ _ (s5 H _ _ (s6 H _ _ (s7 H _ _ (h)))))))
theorem Hz{o6 o7 o8 a8}(H:Hp w0 w m)(v1 v2 v3 v4 v5 v6 v7 v8)(h:wpList P ops Q rest a8 w)(s1:Kw P ops w0 w m o1 a v1 a1:=by first|exact Sk|exact Sd|exact Se|exact Sq)(s2:Kw P ops w0 w m o2 a1 v2 a2:=by first|exact Sk|exact Sd|exact Se|exact Sq)(s3:Kw P ops w0 w m o3 a2 v3 a3:=by first|exact Sk|exact Sd|exact Se|exact Sq)(s4:Kw P ops w0 w m o4 a3 v4 a4:=by first|exact Sk|exact Sd|exact Se|exact Sq)(s5:Kw P ops w0 w m o5 a4 v5 a5:=by first|exact Sk|exact Sd|exact Se|exact Sq)(s6:Kw P ops w0 w m o6 a5 v6 a6:=by first|exact Sk|exact Sd|exact Se|exact Sq)(s7:Kw P ops w0 w m o7 a6 v7 a7:=by first|exact Sk|exact Sd|exact Se|exact Sq)(s8:Kw P ops w0 w m o8 a7 v8 a8:=by first|exact Sk|exact Sd|exact Se|exact Sq):wpList P ops Q (o1::o2::o3::o4::o5::o6::o7::o8::rest) a w:=s1 H _ _ (s2 H _ _ (s3 H _ _ (s4 H _ _ (s5 H _ _ (s6 H _ _ (s7 H _ _ (s8 H _ _ (h))))))))
theorem aC{f args}(H:Hp w0 w m)(hc:Calls P f args w (fun e w'=>e= .returned v/\Aa w w'))(h:∀w',Hd (Hp w0 w' m)->Hd (Ac w w')->wpList P ops Q rest a' w')(hw:Region.wanted op (yielded ops a.tmps)=true:=by rfl)(hv:(execOp a.eval op).run P w= .ok (.enter f args) w:=by go_simp)(ha:a.put op.dst v=a':=by (try simp only[ζ]);rfl):wpList P ops Q (op::rest) a w:=Gv hw hv hc fun e w' ⟨h1,hx⟩=>⟨v,h1,by rw[ha];exact h w' (zH (H.step hx)) (zH (Ac.of_ext hx))⟩
theorem hN (h:Hp w0 w m)(hm:m=m':=by (try simp only[jXX,fQQ,List.set_cons_succ,List.set_cons_zero]);rfl):Hd (Hp w0 w m'):=zH (hm▸h)
theorem Tk (hi:l[i]?=some oi:=by rfl)(hs:Region.noSelect l.toArray=true:=by kernel_rfl)(hf:Region.free md l.toArray listed i=true:=by kernel_rfl)(hr:(Region.ready md l.toArray listed).contains i=true:=by kernel_rfl)(hn:Region.wanted oi (yielded l.toArray a.tmps)=false:=by rfl)(hQ:∀c a w,Q (.panic c) (a.put oi.dst undef) w->Q (.panic c) a w:=by intro _ _ _ h;exact h)(ha:a.put oi.dst undef=a':=by (try simp only[ζ]);rfl):SD P md l Q w0 b m i listed a undef a':=fun _ _ _ hS h=>by subst ha;exact jN hi hs hf hr hQ hn hS rfl h
theorem Tq (hi:l[i]?=some oi:=by rfl)(hs:Region.noSelect l.toArray=true:=by kernel_rfl)(hf:Region.free md l.toArray listed i=true:=by kernel_rfl)(hr:(Region.ready md l.toArray listed).contains i=true:=by kernel_rfl)(hw:Region.wanted oi (yielded l.toArray a.tmps)=true:=by rfl)(hv:∀w,Aa b w->(execOp a.eval oi).run P w= .ok (.value v) w:=by intro w A0;go_simp<;>with_reducible rfl)(hQ:∀c a w,Q (.panic c) (a.put oi.dst v) w->Q (.panic c) a w:=by intro _ _ _ h;exact h)(ha:a.put oi.dst v=a':=by (try simp only[ζ]);rfl):SD P md l Q w0 b m i listed a v a':=fun _ _ _ hS h=>by subst ha;exact Mi hi hs hf hr hQ hw hv hS rfl h
theorem Td{o}(hi:l[i]?=some oi:=by rfl)(hs:Region.noSelect l.toArray=true:=by kernel_rfl)(hf:Region.free md l.toArray listed i=true:=by kernel_rfl)(hr:(Region.ready md l.toArray listed).contains i=true:=by kernel_rfl)(hw:Region.wanted oi (yielded l.toArray a.tmps)=true:=by rfl)(ho:oi.op= .load ty x:=by rfl)(hx:a.eval x= .pointer (some ⟨g,o,none⟩):=by rfl)(hi_:fE m g cs:=by repeat (first|exact fE.h|apply fE.tl))(ho0:o=0:=by rfl)(hd:(P.underlying ty).map (·.isRow)=some true:=by decide+kernel)(hz:(P.info? ty).map (·.size)=some cs.length:=by kernel_rfl)(hQ:∀c a w,Q (.panic c) (a.put oi.dst (.agg cs.toArray)) w->Q (.panic c) a w:=by intro _ _ _ h;exact h)(ha:a.put oi.dst (.agg cs.toArray)=a':=by (try simp only[ζ]);rfl):SD P md l Q w0 b m i listed a (.agg cs.toArray) a':=fun H _ _ hS h=>by
  subst ha;subst ho0;obtain⟨j,t,hj⟩:=hi_;cases hu:P.underlying ty with
  |none=>rw[hu]at hd;cases hd
  |some d=>
  have A0:=H.range hj 0 cs.length;rw[List.drop_zero,mZZ]at A0;exact Ii hi hs hf hr ty x ho g 0 cs d hQ hw hx (fun x hx=>Be A0 hx) hu (by rw[hu]at hd;exact Option.some.inj hd) hz hS rfl h
theorem Te{o}(hi:l[i]?=some oi:=by rfl)(hs:Region.noSelect l.toArray=true:=by kernel_rfl)(hf:Region.free md l.toArray listed i=true:=by kernel_rfl)(hr:(Region.ready md l.toArray listed).contains i=true:=by kernel_rfl)(hw:Region.wanted oi (yielded l.toArray a.tmps)=true:=by rfl)(_ho:oi.op= .load ty x:=by rfl)(_hx:a.eval x= .pointer (some ⟨g,o,none⟩):=by rfl)(hi_:fE m g cs:=by repeat (first|exact fE.h|apply fE.tl))(hc:cs[o]?=some v:=by rfl)(hv:∀x:World,x.cell? ⟨g,o,none⟩=some v->(execOp a.eval oi).run P x= .ok (.value v) x:=by intro x hq;go_simp<;>with_reducible rfl)(hQ:∀c a w,Q (.panic c) (a.put oi.dst v) w->Q (.panic c) a w:=by intro _ _ _ h;exact h)(ha:a.put oi.dst v=a':=by (try simp only[ζ]);rfl):SD P md l Q w0 b m i listed a v a':=fun H _ _ hS h=>by
  subst ha;obtain⟨j,t,hj⟩:=hi_;exact Dv hi hs hf hr hQ hw (fun x hx=>Aa.get hx (H.cell hj o hc)) hv hS rfl h
theorem Os(H:Hp w0 b m)(hS:Aa b w)(lt i1 v1)(h:wpAnyH P md l.toArray Q (fun x=>Aa b x) fuel lt a1 w)(s1:SD P md l Q w0 b m i1 listed a v1 a1:=by first|exact Tk|exact Td|exact Te|exact Tq)(hl:(listed.setIfInBounds i1 true)=lt:=by kernel_rfl):wpAnyH P md l.toArray Q (fun x=>Aa b x) (fuel+1) listed a w:=s1 H _ _ hS ((by rw[hl];exact h))
theorem Sh(H:Hp w0 b m)(hS:Aa b w)(lt i1 i2 v1 v2)(h:wpAnyH P md l.toArray Q (fun x=>Aa b x) fuel lt a2 w)(s1:SD P md l Q w0 b m i1 listed a v1 a1:=by first|exact Tk|exact Td|exact Te|exact Tq)(s2:SD P md l Q w0 b m i2 (listed.setIfInBounds i1 true) a1 v2 a2:=by first|exact Tk|exact Td|exact Te|exact Tq)(hl:((listed.setIfInBounds i1 true).setIfInBounds i2 true)=lt:=by kernel_rfl):wpAnyH P md l.toArray Q (fun x=>Aa b x) (fuel+1+1) listed a w:=s1 H _ _ hS (s2 H _ _ hS ((by rw[hl];exact h)))
theorem iT(H:Hp w0 b m)(hS:Aa b w)(lt i1 i2 i3 v1 v2 v3)(h:wpAnyH P md l.toArray Q (fun x=>Aa b x) fuel lt a3 w)(s1:SD P md l Q w0 b m i1 listed a v1 a1:=by first|exact Tk|exact Td|exact Te|exact Tq)(s2:SD P md l Q w0 b m i2 (listed.setIfInBounds i1 true) a1 v2 a2:=by first|exact Tk|exact Td|exact Te|exact Tq)(s3:SD P md l Q w0 b m i3 ((listed.setIfInBounds i1 true).setIfInBounds i2 true) a2 v3 a3:=by first|exact Tk|exact Td|exact Te|exact Tq)(hl:(((listed.setIfInBounds i1 true).setIfInBounds i2 true).setIfInBounds i3 true)=lt:=by kernel_rfl):wpAnyH P md l.toArray Q (fun x=>Aa b x) (fuel+1+1+1) listed a w:=s1 H _ _ hS (s2 H _ _ hS (s3 H _ _ hS ((by rw[hl];exact h))))
theorem oV(H:Hp w0 b m)(hS:Aa b w)(lt i1 i2 i3 i4 v1 v2 v3 v4)(h:wpAnyH P md l.toArray Q (fun x=>Aa b x) fuel lt a4 w)(s1:SD P md l Q w0 b m i1 listed a v1 a1:=by first|exact Tk|exact Td|exact Te|exact Tq)(s2:SD P md l Q w0 b m i2 (listed.setIfInBounds i1 true) a1 v2 a2:=by first|exact Tk|exact Td|exact Te|exact Tq)(s3:SD P md l Q w0 b m i3 ((listed.setIfInBounds i1 true).setIfInBounds i2 true) a2 v3 a3:=by first|exact Tk|exact Td|exact Te|exact Tq)(s4:SD P md l Q w0 b m i4 (((listed.setIfInBounds i1 true).setIfInBounds i2 true).setIfInBounds i3 true) a3 v4 a4:=by first|exact Tk|exact Td|exact Te|exact Tq)(hl:((((listed.setIfInBounds i1 true).setIfInBounds i2 true).setIfInBounds i3 true).setIfInBounds i4 true)=lt:=by kernel_rfl):wpAnyH P md l.toArray Q (fun x=>Aa b x) (fuel+1+1+1+1) listed a w:=s1 H _ _ hS (s2 H _ _ hS (s3 H _ _ hS (s4 H _ _ hS ((by rw[hl];exact h)))))
theorem aCO(H:Hp w0 b m)(hS:Aa b w)(lt i1 i2 i3 i4 i5 v1 v2 v3 v4 v5)(h:wpAnyH P md l.toArray Q (fun x=>Aa b x) fuel lt a5 w)(s1:SD P md l Q w0 b m i1 listed a v1 a1:=by first|exact Tk|exact Td|exact Te|exact Tq)(s2:SD P md l Q w0 b m i2 (listed.setIfInBounds i1 true) a1 v2 a2:=by first|exact Tk|exact Td|exact Te|exact Tq)(s3:SD P md l Q w0 b m i3 ((listed.setIfInBounds i1 true).setIfInBounds i2 true) a2 v3 a3:=by first|exact Tk|exact Td|exact Te|exact Tq)(s4:SD P md l Q w0 b m i4 (((listed.setIfInBounds i1 true).setIfInBounds i2 true).setIfInBounds i3 true) a3 v4 a4:=by first|exact Tk|exact Td|exact Te|exact Tq)(s5:SD P md l Q w0 b m i5 ((((listed.setIfInBounds i1 true).setIfInBounds i2 true).setIfInBounds i3 true).setIfInBounds i4 true) a4 v5 a5:=by first|exact Tk|exact Td|exact Te|exact Tq)(hl:(((((listed.setIfInBounds i1 true).setIfInBounds i2 true).setIfInBounds i3 true).setIfInBounds i4 true).setIfInBounds i5 true)=lt:=by kernel_rfl):wpAnyH P md l.toArray Q (fun x=>Aa b x) (fuel+1+1+1+1+1) listed a w:=s1 H _ _ hS (s2 H _ _ hS (s3 H _ _ hS (s4 H _ _ hS (s5 H _ _ hS ((by rw[hl];exact h))))))
theorem tX(H:Hp w0 b m)(hS:Aa b w)(lt i1 i2 i3 i4 i5 i6 v1 v2 v3 v4 v5 v6)(h:wpAnyH P md l.toArray Q (fun x=>Aa b x) fuel lt a6 w)(s1:SD P md l Q w0 b m i1 listed a v1 a1:=by first|exact Tk|exact Td|exact Te|exact Tq)(s2:SD P md l Q w0 b m i2 (listed.setIfInBounds i1 true) a1 v2 a2:=by first|exact Tk|exact Td|exact Te|exact Tq)(s3:SD P md l Q w0 b m i3 ((listed.setIfInBounds i1 true).setIfInBounds i2 true) a2 v3 a3:=by first|exact Tk|exact Td|exact Te|exact Tq)(s4:SD P md l Q w0 b m i4 (((listed.setIfInBounds i1 true).setIfInBounds i2 true).setIfInBounds i3 true) a3 v4 a4:=by first|exact Tk|exact Td|exact Te|exact Tq)(s5:SD P md l Q w0 b m i5 ((((listed.setIfInBounds i1 true).setIfInBounds i2 true).setIfInBounds i3 true).setIfInBounds i4 true) a4 v5 a5:=by first|exact Tk|exact Td|exact Te|exact Tq)(s6:SD P md l Q w0 b m i6 (((((listed.setIfInBounds i1 true).setIfInBounds i2 true).setIfInBounds i3 true).setIfInBounds i4 true).setIfInBounds i5 true) a5 v6 a6:=by first|exact Tk|exact Td|exact Te|exact Tq)(hl:((((((listed.setIfInBounds i1 true).setIfInBounds i2 true).setIfInBounds i3 true).setIfInBounds i4 true).setIfInBounds i5 true).setIfInBounds i6 true)=lt:=by kernel_rfl):wpAnyH P md l.toArray Q (fun x=>Aa b x) (fuel+1+1+1+1+1+1) listed a w:=s1 H _ _ hS (s2 H _ _ hS (s3 H _ _ hS (s4 H _ _ hS (s5 H _ _ hS (s6 H _ _ hS ((by rw[hl];exact h)))))))
theorem aDE(H:Hp w0 b m)(hS:Aa b w)(lt i1 i2 i3 i4 i5 i6 i7 v1 v2 v3 v4 v5 v6 v7)(h:wpAnyH P md l.toArray Q (fun x=>Aa b x) fuel lt a7 w)(s1:SD P md l Q w0 b m i1 listed a v1 a1:=by first|exact Tk|exact Td|exact Te|exact Tq)(s2:SD P md l Q w0 b m i2 (listed.setIfInBounds i1 true) a1 v2 a2:=by first|exact Tk|exact Td|exact Te|exact Tq)(s3:SD P md l Q w0 b m i3 ((listed.setIfInBounds i1 true).setIfInBounds i2 true) a2 v3 a3:=by first|exact Tk|exact Td|exact Te|exact Tq)(s4:SD P md l Q w0 b m i4 (((listed.setIfInBounds i1 true).setIfInBounds i2 true).setIfInBounds i3 true) a3 v4 a4:=by first|exact Tk|exact Td|exact Te|exact Tq)(s5:SD P md l Q w0 b m i5 ((((listed.setIfInBounds i1 true).setIfInBounds i2 true).setIfInBounds i3 true).setIfInBounds i4 true) a4 v5 a5:=by first|exact Tk|exact Td|exact Te|exact Tq)(s6:SD P md l Q w0 b m i6 (((((listed.setIfInBounds i1 true).setIfInBounds i2 true).setIfInBounds i3 true).setIfInBounds i4 true).setIfInBounds i5 true) a5 v6 a6:=by first|exact Tk|exact Td|exact Te|exact Tq)(s7:SD P md l Q w0 b m i7 ((((((listed.setIfInBounds i1 true).setIfInBounds i2 true).setIfInBounds i3 true).setIfInBounds i4 true).setIfInBounds i5 true).setIfInBounds i6 true) a6 v7 a7:=by first|exact Tk|exact Td|exact Te|exact Tq)(hl:(((((((listed.setIfInBounds i1 true).setIfInBounds i2 true).setIfInBounds i3 true).setIfInBounds i4 true).setIfInBounds i5 true).setIfInBounds i6 true).setIfInBounds i7 true)=lt:=by kernel_rfl):wpAnyH P md l.toArray Q (fun x=>Aa b x) (fuel+1+1+1+1+1+1+1) listed a w:=s1 H _ _ hS (s2 H _ _ hS (s3 H _ _ hS (s4 H _ _ hS (s5 H _ _ hS (s6 H _ _ hS (s7 H _ _ hS ((by rw[hl];exact h))))))))
theorem xY{a8}(H:Hp w0 b m)(hS:Aa b w)(lt i1 i2 i3 i4 i5 i6 i7 i8 v1 v2 v3 v4 v5 v6 v7 v8)(h:wpAnyH P md l.toArray Q (fun x=>Aa b x) fuel lt a8 w)(s1:SD P md l Q w0 b m i1 listed a v1 a1:=by first|exact Tk|exact Td|exact Te|exact Tq)(s2:SD P md l Q w0 b m i2 (listed.setIfInBounds i1 true) a1 v2 a2:=by first|exact Tk|exact Td|exact Te|exact Tq)(s3:SD P md l Q w0 b m i3 ((listed.setIfInBounds i1 true).setIfInBounds i2 true) a2 v3 a3:=by first|exact Tk|exact Td|exact Te|exact Tq)(s4:SD P md l Q w0 b m i4 (((listed.setIfInBounds i1 true).setIfInBounds i2 true).setIfInBounds i3 true) a3 v4 a4:=by first|exact Tk|exact Td|exact Te|exact Tq)(s5:SD P md l Q w0 b m i5 ((((listed.setIfInBounds i1 true).setIfInBounds i2 true).setIfInBounds i3 true).setIfInBounds i4 true) a4 v5 a5:=by first|exact Tk|exact Td|exact Te|exact Tq)(s6:SD P md l Q w0 b m i6 (((((listed.setIfInBounds i1 true).setIfInBounds i2 true).setIfInBounds i3 true).setIfInBounds i4 true).setIfInBounds i5 true) a5 v6 a6:=by first|exact Tk|exact Td|exact Te|exact Tq)(s7:SD P md l Q w0 b m i7 ((((((listed.setIfInBounds i1 true).setIfInBounds i2 true).setIfInBounds i3 true).setIfInBounds i4 true).setIfInBounds i5 true).setIfInBounds i6 true) a6 v7 a7:=by first|exact Tk|exact Td|exact Te|exact Tq)(s8:SD P md l Q w0 b m i8 (((((((listed.setIfInBounds i1 true).setIfInBounds i2 true).setIfInBounds i3 true).setIfInBounds i4 true).setIfInBounds i5 true).setIfInBounds i6 true).setIfInBounds i7 true) a7 v8 a8:=by first|exact Tk|exact Td|exact Te|exact Tq)(hl:((((((((listed.setIfInBounds i1 true).setIfInBounds i2 true).setIfInBounds i3 true).setIfInBounds i4 true).setIfInBounds i5 true).setIfInBounds i6 true).setIfInBounds i7 true).setIfInBounds i8 true)=lt:=by kernel_rfl):wpAnyH P md l.toArray Q (fun x=>Aa b x) (fuel+1+1+1+1+1+1+1+1) listed a w:=s1 H _ _ hS (s2 H _ _ hS (s3 H _ _ hS (s4 H _ _ hS (s5 H _ _ hS (s6 H _ _ hS (s7 H _ _ hS (s8 H _ _ hS ((by rw[hl];exact h)))))))))
theorem Cl (p:Prop):Hd p\/Hd (¬p):=(Classical.em p).imp zH zH
theorem kR{α:Type}{a}{b:α}(h:a=b:=by kernel_rfl):a=b:=h
theorem rR{α:Type}{a}{b:α}(h:a=b:=by rfl):a=b:=h
theorem dC {p:Prop}(h:p:=by decide):p:=h
theorem wl{id}(h:wpList P l.toArray Q l a w):Code.wp P (Code.region id l.toArray false) Q a w:=wp_region_lit h
theorem tD{a c}(h:Hd (Ac a b))(k:Hd (Ac b c)):Hd (Ac a c):=zH (h.1.trans k.1)
end
end
section
open Go.RowKit Go.Deep
theorem Vd(w:World)(r):w.grownBy w r:=⟨rfl,rfl,rfl,Cp _,fun _ _ _=>rfl⟩
theorem cD{P w base t ty e size bytes}(el:bA P t e size bytes){v n xs}(hown:Bg w base e size v n xs)
(A k c news)(hl:news.length=k*size)(hA:0<k->∃ad,A=some ad/\∀j u,news[j]?=some u->w.cell? (ad.add j)=some u)(h1:∀u∈news,u.oneCell'=true)(hnu:Av news)
(h63:n+k<=maxLen)(hbytes:(n+k)*bytes<=140737488355328)(hbase:base<=w.heap.size):
    ∃ A' c' w',(Builtin.append_ #[t,t] ty #[v,.slice A k c]).run P w= .ok (.slice A' (n+k) c') w'/\Bg w' base e size (.slice A' (n+k) c') (n+k) (xs++news)/\w.grownBy w' v.ownBlock/\
      ∀g,(Value.slice A' (n+k) c').ownBlock=some g->v.ownBlock=some g\/w.heap.size<=g:=by
  obtain⟨ht,i,z,e1,e2,e3,e4,e5,e6,e7⟩:=el;by_cases hk:0<k
  · obtain⟨ad,rfl,hnews⟩:=hA hk
    obtain⟨v',w',hr,q2,q3,q4,g,cap,rfl,hf⟩:=Lq (P:=P) w base t ty e i z size bytes ht e1 e2 e3 e4 e5 e7 e6 v n xs hown ad k c news hl hnews h1 hnu hk h63 hbytes hbase
    exact ⟨_, _, w', hr, q2, q3, fun g' hg' => by obtain rfl:g=g':=by simpa[Value.ownBlock]using hg'
                                                  exact hf⟩
  obtain rfl:k=0:=ω;obtain rfl:news=[]:=iXX (by simpa using hl);have hs:Src P i.size t (.slice A 0 c) 0 [] w:=by
    cases A with
    |none=>exact Src.ofNil w ht c
    |some ad=>exact Src.ofSlice w ht ad 0 c [] (by simp) (by simp) (by simp)
  obtain⟨hx1,hx2⟩:=hown;rcases hx2 with⟨rfl,rfl⟩|⟨g,cap,rest,rfl,q1,q2,q3,q4,q5,q6⟩
  · refine⟨none,0,w,run_append_nothing w t t ty e i ht e1 none 0 0 (Cp _) _ hs,⟨by simpa using hx1,.inl ⟨rfl,rfl⟩⟩,Vd _ _,fun g hg=> .inl hg⟩
  refine⟨some ⟨g,0,none⟩,cap,w,run_append_nothing w t t ty e i ht e1 (π g) n cap q3 _ hs,⟨by simpa using hx1,.inr ⟨g,cap,rest,rfl,q1,by simpa using q2,q3,q4,by simpa using q5,by simpa using q6⟩⟩,Vd _ _,fun g hg=> .inl hg⟩
section
variable {P:Program} {w0 w:World} {m:List Et} {ix:Nat} {a:Act} {Q:Exit->Act->World->Prop}
theorem vN{rest o ops}(hw:Region.wanted o (yielded ops a.tmps)=true)(s x t)
(ho:o.op= .call {callee:= .builtin .append,args:=#[s,x],argTypes:=#[t,t]}){e size bytes}(el:bA P t e size bytes){v n xs}(hs:a.eval s=v)
(hH:Hp w0 w m)(hi:m[ix]?=some (.row e size v n xs))(A k c news)(hx:a.eval x= .slice A k c)(hl:news.length=k*size)
(hA:0<k->∃ad,A=some ad/\∀j u,news[j]?=some u->w.cell? (ad.add j)=some u)(h1:∀u∈news,u.oneCell'=true)(hnu:Av news)
(h63:n+k<=maxLen)(hbytes:(n+k)*bytes<=140737488355328)
(h:∀A' c' w',Hp w0 w' (m.set ix (.row e size (.slice A' (n+k) c') (n+k) (xs++news)))->Ac w w'->w.grownBy w' v.ownBlock->(∀g,(Value.slice A' (n+k) c').ownBlock=some g->v.ownBlock=some g\/w.heap.size<=g)->
   wpList P ops Q rest (a.put o.dst (.slice A' (n+k) c')) w'):wpList P ops Q (o::rest) a w:=by
 obtain⟨A',c',w',hr,h2,h3,h4⟩:=cD (P:=P) (ty:=o.type) el (hH.row hi) A k c news hl hA h1 hnu h63 hbytes hH.ext.size;refine Cn hw ?_;unfold Oper.wp execOp;simp only[ho,resolve,invoke,builtin,Sem.run_bind,Sem.run_pure,Result.andThen_ok,List.map_toArray,List.map_cons,List.map_nil,hs,hx,hr];exact h A' c' w' (hH.turn hi (fun k hk=>hk) h3 h2 h4) (Ac.grown (hH.row hi) h3) h3 h4
end
instance:Inhabited Eb:=⟨⟨⟨false,none,0,0,false,none,0,0⟩,⟨false,none,0,0,false,none,0,0⟩,0,0⟩⟩
theorem Et.Holds.fr{b w w'}{e:Et}{G}(h:e.Holds b w)(x:Fr G w w')(hn:∀k,e.own=some k->¬G k):e.Holds b w':=by
 have hb:∀(g:Nat) (t:TypeId) (cs:Array Value),Aj w g t cs->¬G g->Aj w' g t cs:=by
  intro g t cs h1 h2;unfold Aj;rw[x.block g h1.lt h2];exact h1
 cases e with
 |blk g t cs=>exact⟨h.1,hb _ _ _ h.2.1 (hn g rfl),h.2.2⟩
 |row t size v n xs=>
  obtain⟨h1,h2|⟨g,A0,rest,rfl,a,h3,c⟩⟩:=h
  ·exact⟨h1,.inl h2⟩
  exact⟨h1,.inr ⟨g,A0,rest,rfl,a,hb _ _ _ h3 (hn g rfl),c⟩⟩
section
variable {w0 w w':World} {m:List Et}
theorem Zb{e f i}{x:Et}(h: [e,f][i]?=some x):(i=0/\x=e)\/(i=1/\x=f):=by
  match i,h with
  |0,h=>injection h with h;exact .inl ⟨rfl,h.symm⟩
  |1,h=>injection h with h;exact .inr ⟨rfl,h.symm⟩
  |k+2,h=>simp at h
theorem Hp.pick2{ib ir:Nat}{e f}(h:Hp w0 w m)(hb:m[ib]?=some e)(hr:m[ir]?=some f)(hne:ib≠ir):Hp w0 w [e,f]:=by
  refine⟨h.ext,fun i x hx=> ?_,fun i j x y hx hy hij=> ?_⟩
  · rcases Zb hx with⟨_,rfl⟩|⟨_,rfl⟩
    · exact h.all _ _ hb
    exact h.all _ _ hr
  rcases Zb hx with⟨e1,rfl⟩|⟨e1,rfl⟩<;>rcases Zb hy with⟨e2,rfl⟩|⟨e2,rfl⟩
  · omega
  · exact h.apart _ _ _ _ hb hr hne
  · exact h.apart _ _ _ _ hr hb (Ne.symm hne)
  omega
theorem Hp.call2{ib ir e f e' f' G}(h:Hp w0 w m)(hb:m[ib]?=some e)(hr:m[ir]?=some f)(_hne:ib≠ir)(x:Fr G w w')(hG:∀k,G k->e.own=some k\/f.own=some k)(h2:Hp w0 w' [e',f'])
(he:∀k,e'.own=some k->e.own=some k\/w.heap.size<=k)(hf:∀k,f'.own=some k->f.own=some k\/w.heap.size<=k):Hp w0 w' ((m.set ib e').set ir f'):=by
 have hbl:ib<m.length:=(List.getElem?_eq_some_iff.1 hb).1;have hrl:ir<m.length:=(List.getElem?_eq_some_iff.1 hr).1;have hget:∀(j:Nat) (y:Et),((m.set ib e').set ir f')[j]?=some y->(j=ir/\y=f')\/(j=ib/\y=e')\/(j≠ir/\j≠ib/\m[j]?=some y):=by
  intro j y hj;rw[List.getElem?_set]at hj;by_cases h1:ir=j
  ·rw[if_pos h1,if_pos (by simpa using h1▸hrl)]at hj
   injection hj with hj
   exact .inl ⟨h1.symm,hj.symm⟩
  rw[if_neg h1,List.getElem?_set]at hj;by_cases h3:ib=j
  ·rw[if_pos h3,if_pos ω]at hj
   injection hj with hj
   exact .inr (.inl ⟨h3.symm,hj.symm⟩)
  rw[if_neg h3]at hj;exact .inr (.inr ⟨fun q=>h1 q.symm,fun q=>h3 q.symm,hj⟩)
 have offG:∀(j:Nat) (y:Et),j≠ir->j≠ib->m[j]?=some y->∀k,y.own=some k->¬G k:=by
  intro j y hj1 hj2 hy k hk hg;rcases hG k hg with h1|h1
  ·exact h.apart j ib y e hy hb hj2 k hk h1
  exact h.apart j ir y f hy hr hj1 k hk h1
 have offE:∀(j:Nat) (y:Et),j≠ir->j≠ib->m[j]?=some y->∀k,y.own=some k->e'.own≠some k:=by
  intro j y hj1 hj2 hy k hk hq;rcases he k hq with h1|h1
  ·exact h.apart j ib y e hy hb hj2 k hk h1
  have:=h.lt hy hk;omega
 have offF:∀(j:Nat) (y:Et),j≠ir->j≠ib->m[j]?=some y->∀k,y.own=some k->f'.own≠some k:=by
  intro j y hj1 hj2 hy k hk hq;rcases hf k hq with h1|h1
  ·exact h.apart j ir y f hy hr hj1 k hk h1
  have:=h.lt hy hk;omega
 refine⟨h2.ext,fun j y hj=> ?_,fun i j x y hi hj hij k hk=> ?_⟩
 ·rcases hget j y hj with⟨_,rfl⟩|⟨_,rfl⟩|⟨h3,h4,h5⟩
  ·exact h2.all 1 _ rfl
  ·exact h2.all 0 _ rfl
  exact(h.all j y h5).fr x (offG j y h3 h4 h5)
 rcases hget i x hi with⟨e1,rfl⟩|⟨e1,rfl⟩|⟨a1,a2,a3⟩<;>rcases hget j y hj with⟨e2,rfl⟩|⟨e2,rfl⟩|⟨b1,b2,b3⟩
 ·omega
 ·exact h2.apart 1 0 _ _ rfl rfl (by decide) k hk
 ·exact fun q=>offF j y b1 b2 b3 k q hk
 ·exact h2.apart 0 1 _ _ rfl rfl (by decide) k hk
 ·omega
 ·exact fun q=>offE j y b1 b2 b3 k q hk
 ·exact offF i x a1 a2 a3 k hk
 ·exact offE i x a1 a2 a3 k hk
 exact h.apart i j x y a3 b3 hij k hk
end
section
variable {P:Program} {w0 w:World} {m:List Et} {ix:Nat} {a:Act} {Q:Exit->Act->World->Prop} {rest:List Oper} {op:Oper} {ops:Array Oper}
theorem mW{α:Type}{f}(hw:Region.wanted op (yielded ops a.tmps)=true)(ty x y)(ho:op.op= .store ty x y){g n cap size t}{es:List α}(hH:Hp w0 w m)(hi:m[ix]?=some (.row t size (.slice (π g) n cap) n (es.flatMap f)))
(hc:∀x,(f x).length=size)(k z)(hk:k<es.length)(vs)(hf:f z=vs)(o)(hko:o=k*size)(hx:a.eval x= .pointer (some ⟨g,o,none⟩))(hy:a.eval y= .agg vs.toArray)(hz:(P.info? ty).map (·.size)=some vs.length)(h1:∀v,v∈vs->v.oneCell'=true)(hn:Av vs)
(h:∀w',Hp w0 w' (m.set ix (.row t size (.slice (π g) n cap) n ((es.set k z).flatMap f)))->Ac w w'->Bd g w w'->wpList P ops Q rest (a.put op.dst undef) w'):wpList P ops Q (op::rest) a w:=by
 subst hf;subst hko;refine rH hw ty x y ho hH hi (k*size) (f z) hx hy ?_ hz h1 hn (fun w' h2 h3 h4=>h w' ?_ h3 h4)
 ·rw[Dn hc,hc]
  calc k*size+size=(k+1)*size:=by rw[kZZ];omega
   _<=es.length*size:=gQQ _ hk
 rw[eF hc es k hk z]at h2;exact h2
end
end
section
attribute [local go_sem ↓] Go.wp_at_zero Go.wp_at_succ Aq An
def Es (a b:Int×Int):Bool:=decide (a.2<b.2)||(decide (a.2=b.2)&&decide (a.1<b.1))
def dv (a b:Int×Int):Int×Int:=(b.1-a.1,b.2-a.2)
def cr (u v:Int×Int):Int:=u.1*v.2-u.2*v.1
abbrev Dy (p:Int×Int):Prop:=De p.1 p.2=true
theorem Bi{p}(h:Dy p):(-1048576<=p.1/\p.1<=1048576)/\(-1048576<=p.2/\p.2<=1048576):=by simpa[Dy,De]using h
theorem Uy{a b}(h1: -2097152<=a/\a<=2097152)(h2: -2097152<=b/\b<=2097152): -4398046511104<=a*b/\a*b<=4398046511104:=by
  have h:(a*b).natAbs<=2097152*2097152:=by rw[Int.natAbs_mul];exact Nat.mul_le_mul ω (ω)
  omega
theorem Gb{a b}(ha:Dy a)(hb:Dy b):(-2097152<=(dv a b).1/\(dv a b).1<=2097152)/\(-2097152<=(dv a b).2/\(dv a b).2<=2097152):=by
  have h1:=Bi ha;have h2:=Bi hb;unfold dv;dsimp only
  omega
theorem Yp{u v}(hu:(-2097152<=u.1/\u.1<=2097152)/\(-2097152<=u.2/\u.2<=2097152))(hv:(-2097152<=v.1/\v.1<=2097152)/\(-2097152<=v.2/\v.2<=2097152)): -8796093022208<=cr u v/\cr u v<=8796093022208:=by
  have h1:=Uy hu.1 hv.2;have h2:=Uy hu.2 hv.1;unfold cr;omega
theorem Nc(p w)(h:Dy p):Calls prog 120 #[.agg #[iV p.1,iV p.2]] w fun e w'=>e= .returned (.agg #[iV p.1,iV p.2])/\Aa w w':=by
  have A0:=Bi h;have c1:Hw p.1 (-1048576) 1048576=p.1:=by have h:=Kt p.1;rw[decide_eq_true A0.1]at h;simpa using h
  have c2:Hw p.2 (-1048576) 1048576=p.2:=by have h:=Kt p.2;rw[decide_eq_true A0.2]at h;simpa using h
  have k:=Px p.1 p.2 w;rw[c1,c2]at k;exact k
theorem Ks{ρ:Operand->Value}{o w a b c d bb t' x y}(ho:o.op= .binOp .eql 52 x y t')(hx:ρ x= .agg #[iV a,iV b])(hy:ρ y= .agg #[iV c,iV d])(h:(a==c&&b==d)=bb):
    (execOp ρ o).run prog w= .ok (.value (.bool bb)) w:=by
  subst h;unfold execOp;simp only[ho,hx,hy];simp[go_sem,Ed]
theorem Pj {a b:Int×Int}:(a.1==b.1&&a.2==b.2)=true↔a=b:=by
  rw[iZZ,beq_iff_eq,beq_iff_eq];exact⟨fun h=>Prod.ext h.1 h.2,fun h=>by rw[h];exact⟨rfl,rfl⟩⟩
def Hi (a b:Int×Int):Int×Int:=if Es b a=true then b else a
def Fj (a b:Int×Int):Int×Int:=if Es b a=true then a else b
def Nj (a b c d:Int×Int):Int×Int:=if Es (Hi a b) (Hi c d)=true then Hi c d else Hi a b
def Tz (a b c d:Int×Int):Int×Int:=if Es (Fj c d) (Fj a b)=true then Fj c d else Fj a b
def Aw (a b c d:Int×Int):(Int×Int)×Int:=if Es (Tz a b c d) (Nj a b c d)=true then((0,0),0)else if Nj a b c d=Tz a b c d then(Nj a b c d,1)else((0,0),2)
theorem aBJ{a b}(ha:Dy a)(hb:Dy b):Dy (Hi a b):=by unfold Hi;split<;>assumption
theorem aBK{a b}(ha:Dy a)(hb:Dy b):Dy (Fj a b):=by unfold Fj;split<;>assumption
theorem yS{a b c d}(ha:Dy a)(hb:Dy b)(hc:Dy c)(hd:Dy d):Dy (Nj a b c d):=by unfold Nj;split;exact aBJ hc hd;exact aBJ ha hb
theorem aAP{a b c d}(ha:Dy a)(hb:Dy b)(hc:Dy c)(hd:Dy d):Dy (Tz a b c d):=by unfold Tz;split;exact aBK hc hd;exact aBK ha hb
theorem Co{P fn i j k t u}(h:fn.results=#[.cell i t,.cell j u,.tmp k]){tmps w p q v z x}
(hi:tmps.getD i undef= .pointer (some p))(hj:tmps.getD j undef= .pointer (some q))(h1:(Go.loadVar t p).run P w= .ok v w)(h2:(Go.loadVar u q).run P w= .ok z w)(hk:tmps.getD k undef=x):
    (results fn tmps).run P w= .ok (.tuple #[v,z,x]) w:=by
  simp only[Array.getD_eq_getD_getElem?]at hi hj hk;simp[results,h,hi,hj,hk,h1,h2,asAddr]
theorem Tn(p q w)(hp:Dy p)(hq:Dy q):
  Calls prog 181 #[.agg #[iV p.1,iV p.2],.agg #[iV q.1,iV q.2]] w fun e w'=>e= .returned (.agg #[iV (dv q p).1,iV (dv q p).2])/\Aa w w':=by
 have op:=Bi hp;have oq:=Bi hq;go_enter func181,ntmps181
 have H0:=zH (Hp.start w);go_upto_region 0 with fail;apply wl;apply Ca 52 [iV p.1,iV p.2] H0.1;intro X1 w2 H3 _;apply Ca 52 [iV q.1,iV q.2] H3.1;intro X6 w7 H8 _;apply Ca 52 [iV 0,iV 0] H8.1;intro A1 A9 A0 _;go_upto_region 1 with fail;refine wp_region_held_drew (S:=fun x=>(fun x_=>Hp w x_ [.blk X1 52 [iV p.1,iV p.2],.blk X6 52 [iV q.1,iV q.2],.blk A1 52 [iV 0,iV 0]]) x) kR (A0.1.step zb) (fun _=> ?_);have B5:=zH (A0.1.step (Aa.refl A9).drew);refine mR 0 (bs 6 1) X1 (0) [iV p.1,iV p.2] (fun x hx=>hx.range (i:=0) rR 0 2) underlying52 (A0.1.step zb) ?_;refine zr 2 (bs 6 5) X6 (0) [iV q.1,iV q.2] (fun x hx=>hx.range (i:=1) rR 0 2) underlying52 (A0.1.step zb) ?_;refine mC 1 (bs 6 7) (Nc p _ hp) ?_;rintro e A8 ⟨rfl,hx⟩;have B4:=zH (B5.1.step hx);have A3:=zH (show(fun x_=>Hp w x_ [.blk X1 52 [iV p.1,iV p.2],.blk X6 52 [iV q.1,iV q.2],.blk A1 52 [iV 0,iV 0]]) A8 from(A0.1.step zb).step hx);clear hx;refine⟨_,rfl,A3.1,?_⟩;try simp only[ζ]
 refine mC 3 (bs 6 15) (Nc q _ hq) ?_;rintro e B7 ⟨rfl,hx⟩;have B3:=zH (B4.1.step hx);have B2:=zH (A3.1.step hx);clear hx;refine⟨_,rfl,B2.1,?_⟩;try simp only[ζ]
 refine Dm (i:=4) (listed':=(bs 6 31)) rR kR rR kR _ _ _ rR B3.1 (ix:=0) rR 0 [iV p.1,iV p.2] rR rR (by simp) kR (by simp[Value.oneCell']) (by simp[Av]) ?_;intro A7 hh hd ho;have A5:=hN hh;have B1:=zH (show(fun x_=>Hp w x_ [.blk X1 52 [iV p.1,iV p.2],.blk X6 52 [iV q.1,iV q.2],.blk A1 52 [iV 0,iV 0]]) A7 from A5.1);clear hh hd ho;refine⟨B1.1,?_⟩
 (try simp only[Act.put])
 refine Dm (i:=5) (listed':=(bs 6 63)) rR kR rR kR _ _ _ rR A5.1 (ix:=1) rR 0 [iV q.1,iV q.2] rR rR (by simp) kR (by simp[Value.oneCell']) (by simp[Av]) ?_;intro A6 hh hd ho;have A2:=hN hh;have B0:=zH (show(fun x_=>Hp w x_ [.blk X1 52 [iV p.1,iV p.2],.blk X6 52 [iV q.1,iV q.2],.blk A1 52 [iV 0,iV 0]]) A6 from A2.1);clear hh hd ho;refine⟨B0.1,?_⟩
 (try simp only[Act.put])
 refine wpAnyH_done kR ?_ _;go_upto_region 2 with fail;apply wl;refine Ef A2.1 _ _ _ _ ?_;apply zp (iV (p.1-q.1)) (by exact Rh ω);refine Ef A2.1 _ _ _ _ ?_;apply zp (iV (p.2-q.2)) (by exact Rh ω);apply zq (.agg #[iV (p.1-q.1),iV (p.2-q.2)]);apply Cm 2 [iV (p.1-q.1),iV (p.2-q.2)] A2.1;intro B6 A4 _;go_wp2_with fail;refine bodyPost_ret ?_ rfl ⟨rfl,A4.1.ext⟩;exact Ak rfl rfl ((A4.1.blk (i:=2) rR).loadVar rfl rfl rR)
theorem Iw(p q w)(hp:Dy p)(hq:Dy q):
  Calls prog 199 #[.agg #[iV p.1,iV p.2],.agg #[iV q.1,iV q.2]] w fun e w'=>e= .returned (.bool (Es p q))/\Aa w w':=by
 have op:=Bi hp;have oq:=Bi hq;go_enter func199,ntmps199
 have H0:=zH (Hp.start w);go_upto_region 0 with fail;apply wl;apply Ca 52 [iV p.1,iV p.2] H0.1;intro A2 B8 B6 _;apply Ca 52 [iV q.1,iV q.2] B6.1;intro A1 A9 A3 _;apply zq φ;go_upto_region 1 with fail;refine wp_region_held_drew (S:=fun x=>(fun x_=>Hp w x_ [.blk A2 52 [iV p.1,iV p.2],.blk A1 52 [iV q.1,iV q.2]]) x) kR (A3.1.step zb) (fun _=> ?_);have B5:=zH (A3.1.step (Aa.refl A9).drew);refine mR 0 (bs 6 1) A2 (0) [iV p.1,iV p.2] (fun x hx=>hx.range (i:=0) rR 0 2) underlying52 (A3.1.step zb) ?_;refine zr 2 (bs 6 5) A1 (0) [iV q.1,iV q.2] (fun x hx=>hx.range (i:=1) rR 0 2) underlying52 (A3.1.step zb) ?_;refine mC 1 (bs 6 7) (Nc p _ hp) ?_;rintro e A8 ⟨rfl,hx⟩;have B4:=zH (B5.1.step hx);have A4:=zH (show(fun x_=>Hp w x_ [.blk A2 52 [iV p.1,iV p.2],.blk A1 52 [iV q.1,iV q.2]]) A8 from(A3.1.step zb).step hx);clear hx;refine⟨_,rfl,A4.1,?_⟩;try simp only[ζ]
 refine mC 3 (bs 6 15) (Nc q _ hq) ?_;rintro e B7 ⟨rfl,hx⟩;have B3:=zH (B4.1.step hx);have B2:=zH (A4.1.step hx);clear hx;refine⟨_,rfl,B2.1,?_⟩;try simp only[ζ]
 refine Dm (i:=4) (listed':=(bs 6 31)) rR kR rR kR _ _ _ rR B3.1 (ix:=0) rR 0 [iV p.1,iV p.2] rR rR (by simp) kR (by simp[Value.oneCell']) (by simp[Av]) ?_;intro A7 hh hd ho;have A5:=hN hh;have B1:=zH (show(fun x_=>Hp w x_ [.blk A2 52 [iV p.1,iV p.2],.blk A1 52 [iV q.1,iV q.2]]) A7 from A5.1);clear hh hd ho;refine⟨B1.1,?_⟩
 (try simp only[Act.put])
 refine Dm (i:=5) (listed':=(bs 6 63)) rR kR rR kR _ _ _ rR A5.1 (ix:=1) rR 0 [iV q.1,iV q.2] rR rR (by simp) kR (by simp[Value.oneCell']) (by simp[Av]) ?_;intro A6 hh hd ho;have A0:=hN hh;have B0:=zH (show(fun x_=>Hp w x_ [.blk A2 52 [iV p.1,iV p.2],.blk A1 52 [iV q.1,iV q.2]]) A6 from A0.1);clear hh hd ho;refine⟨B0.1,?_⟩
 (try simp only[Act.put])
 refine wpAnyH_done kR ?_ _;rcases Cl (p.2<q.2)with C1|C1
 ·go_upto_region 2 with fail
  apply wl;refine Ef A0.1 _ _ _ _ ?_;apply zp τ (by exact Df (e:=(Ar C1.1)));refine Hz Ah τ _ _ _ _ _ _ _ ?_;refine bC Ah _ _ _ _ _ τ τ ?_;go_wp2_with fail;go_ret;exact⟨by rw[show Es p q=true from by unfold Es;simp[C1.1]];rfl,A0.1.ext⟩
 rcases Cl (p.2=q.2)with C2|C2
 ·rcases Cl (p.1<q.1)with C3|C3
  ·go_upto_region 2 with fail
   apply wl;refine Ef A0.1 _ _ _ _ ?_;apply zp φ (by exact Df (e:=(Af C1.1)));refine Lt A0.1 φ _ _ _ _ ?_;apply zp τ (by exact Sn (e:=(Ar C2.1)));refine Lt A0.1 τ _ _ _ _ ?_;apply zp τ (by exact Df (e:=(Ar C3.1)));refine Da Ah τ τ τ ?_;go_wp2_with fail;go_ret;exact⟨by rw[show Es p q=true from by unfold Es;simp[C2.1,C3.1]];rfl,A0.1.ext⟩
  go_upto_region 2 with fail;apply wl;refine Ef A0.1 _ _ _ _ ?_;apply zp φ (by exact Df (e:=(Af C1.1)));refine Lt A0.1 φ _ _ _ _ ?_;apply zp τ (by exact Sn (e:=(Ar C2.1)));refine Lt A0.1 τ _ _ _ _ ?_;apply zp φ (by exact Df (e:=(Af C3.1)));refine Da Ah φ φ φ ?_;go_wp2_with fail;go_ret;exact⟨by rw[show Es p q=false from by unfold Es;simp[C2.1,C3.1]];rfl,A0.1.ext⟩
 go_upto_region 2 with fail;apply wl;refine Ef A0.1 _ _ _ _ ?_;apply zp φ (by exact Df (e:=(Af C1.1)));refine Lt A0.1 φ _ _ _ _ ?_;apply zp φ (by exact Sn (e:=(Af C2.1)));refine Hz Ah φ _ _ _ _ _ φ φ ?_;apply zq φ;go_wp2_with fail;go_ret;exact⟨by rw[show Es p q=false from by unfold Es;simp[C1.1,C2.1]];rfl,A0.1.ext⟩
theorem Hc(u v w)(hu:(-2097152<=u.1/\u.1<=2097152)/\(-2097152<=u.2/\u.2<=2097152))(hv:(-2097152<=v.1/\v.1<=2097152)/\(-2097152<=v.2/\v.2<=2097152)):
  Calls prog 182 #[.agg #[iV u.1,iV u.2],.agg #[iV v.1,iV v.2]] w fun e w'=>e= .returned (iV (cr u v))/\Aa w w':=by
 have m1:=Uy hu.1 hv.2;have m2:=Uy hu.2 hv.1;go_enter func182,ntmps182
 have H0:=zH (Hp.start w);go_upto_region 0 with fail;apply wl;apply Ca 52 [iV u.1,iV u.2] H0.1;intro A5 A3 A1 _;apply Ca 52 [iV v.1,iV v.2] A1.1;intro A4 A2 A0 _;apply zq (iV 0);go_upto_region 1 with fail;apply wl;refine Ef A0.1 _ _ _ _ ?_;apply zp (iV (u.1*v.2)) (by exact aG ω);refine Ef A0.1 _ _ _ _ ?_;apply zp (iV (u.2*v.1)) (by exact aG ω);apply zp (iV ((u.1*v.2)-(u.2*v.1))) (by exact Rh ω);apply zq (iV ((u.1*v.2)-(u.2*v.1)));go_wp2_with fail;go_ret;exact⟨rfl,A0.1.ext⟩
theorem eK(a b w)(ha:Dy a)(hb:Dy b):
  Calls prog 198 #[.agg #[iV a.1,iV a.2],.agg #[iV b.1,iV b.2]] w fun e w'=>e= .returned (.tuple #[.agg #[iV (Hi a b).1,iV (Hi a b).2],.agg #[iV (Fj a b).1,iV (Fj a b).2]])/\Aa w w':=by
 go_enter func198,ntmps198;have H0:=zH (Hp.start w);go_upto_region 0 with fail;apply wl;apply Ca 52 [iV a.1,iV a.2] H0.1;intro A7 C9 C3 _;apply Ca 52 [iV b.1,iV b.2] C3.1;intro A6 C8 C2 _;apply Ca 52 [iV 0,iV 0] C2.1;intro A5 C7 C1 _;apply Ca 52 [iV 0,iV 0] C1.1;intro A4 C6 A8 _;rcases Cl (Es b a=true)with CL|CL
 ·go_upto_region 1 with fail
  apply wl;refine Cc A8.1 _ _ ?_;refine zc (Iw b a _ hb ha) ?_;rintro e A3 ⟨rfl,hx⟩;have A1:=zH (A8.1.step hx);clear hx;refine⟨.bool true,by rw[CL.1],?_⟩;try simp only[ζ]
  go_upto_region 2 with fail;refine wp_region_held_drew (S:=fun x=>Fr (fun kz=>kz=A5\/kz=A4) A3 x) kR (Fr.of_ext zb) (fun _=> ?_);have C0:=zH (A1.1.step (Aa.refl A3).drew);refine mR 0 (bs 4 1) A6 (0) [iV b.1,iV b.2] (fun x hx=>Fr.range hx (show World.rangeAt A3 A6 (0) [iV b.1,iV b.2]from(A1.1.range (i:=1) rR 0 2)) (fun hk=>hk.elim (A1.1.offBlk (i:=1) (j:=2) rR rR dC rR) (A1.1.offBlk (i:=1) (j:=3) rR rR dC rR))) underlying52 (Fr.of_ext zb) ?_;refine zr 1 (bs 4 3) A7 (0) [iV a.1,iV a.2] (fun x hx=>Fr.range hx (show World.rangeAt A3 A7 (0) [iV a.1,iV a.2]from(A1.1.range (i:=0) rR 0 2)) (fun hk=>hk.elim (A1.1.offBlk (i:=0) (j:=2) rR rR dC rR) (A1.1.offBlk (i:=0) (j:=3) rR rR dC rR))) underlying52 (Fr.of_ext zb) ?_;refine Dm (i:=2) (listed':=(bs 4 7)) rR kR rR kR _ _ _ rR C0.1 (ix:=2) rR 0 [iV b.1,iV b.2] rR rR (by simp) kR (by simp[Value.oneCell']) (by simp[Av]) ?_;intro B4 hh hd ho;have B9:=hN hh;have B2:=zH (show Fr (fun kz=>kz=A5\/kz=A4) A3 B4 from Fr.trans_new (Fr.of_ext zb) ho (fun j hj=> .inl (.inl (by injection hj with hj;exact hj.symm))));clear hh hd ho;refine⟨B2.1,?_⟩
  (try simp only[Act.put])
  refine Dm (i:=3) (listed':=(bs 4 15)) rR kR rR kR _ _ _ rR B9.1 (ix:=3) rR 0 [iV a.1,iV a.2] rR rR (by simp) kR (by simp[Value.oneCell']) (by simp[Av]) ?_;intro C5 hh hd ho;have B0:=hN hh;have B6:=zH (Fr.trans_new B2.1 ho (fun j hj=> .inl (.inr (by injection hj with hj;exact hj.symm))));clear hh hd ho;refine⟨B6.1,?_⟩
  (try simp only[Act.put])
  refine wpAnyH_done kR ?_ _;go_wp2_with fail;refine bodyPost_ret ?_ rfl ⟨by unfold Hi Fj;rw[if_pos CL.1,if_pos CL.1],B0.1.ext⟩;exact Nr rfl rfl rfl ((B0.1.blk (i:=2) rR).loadVar rfl rfl rR) ((B0.1.blk (i:=3) rR).loadVar rfl rfl rR)
 go_upto_region 1 with fail;apply wl;refine Cc A8.1 _ _ ?_;refine zc (Iw b a _ hb ha) ?_;rintro e A2 ⟨rfl,hx⟩;have A0:=zH (A8.1.step hx);clear hx;refine⟨.bool false,by rw[Bool.eq_false_iff.2 CL.1],?_⟩;try simp only[ζ]
 go_upto_region 3 with fail;refine wp_region_held_drew (S:=fun x=>Fr (fun kz=>kz=A5\/kz=A4) A2 x) kR (Fr.of_ext zb) (fun _=> ?_);have B8:=zH (A0.1.step (Aa.refl A2).drew);refine mR 0 (bs 4 1) A7 (0) [iV a.1,iV a.2] (fun x hx=>Fr.range hx (show World.rangeAt A2 A7 (0) [iV a.1,iV a.2]from(A0.1.range (i:=0) rR 0 2)) (fun hk=>hk.elim (A0.1.offBlk (i:=0) (j:=2) rR rR dC rR) (A0.1.offBlk (i:=0) (j:=3) rR rR dC rR))) underlying52 (Fr.of_ext zb) ?_;refine zr 1 (bs 4 3) A6 (0) [iV b.1,iV b.2] (fun x hx=>Fr.range hx (show World.rangeAt A2 A6 (0) [iV b.1,iV b.2]from(A0.1.range (i:=1) rR 0 2)) (fun hk=>hk.elim (A0.1.offBlk (i:=1) (j:=2) rR rR dC rR) (A0.1.offBlk (i:=1) (j:=3) rR rR dC rR))) underlying52 (Fr.of_ext zb) ?_;refine Dm (i:=2) (listed':=(bs 4 7)) rR kR rR kR _ _ _ rR B8.1 (ix:=2) rR 0 [iV a.1,iV a.2] rR rR (by simp) kR (by simp[Value.oneCell']) (by simp[Av]) ?_;intro B3 hh hd ho;have B7:=hN hh;have B1:=zH (show Fr (fun kz=>kz=A5\/kz=A4) A2 B3 from Fr.trans_new (Fr.of_ext zb) ho (fun j hj=> .inl (.inl (by injection hj with hj;exact hj.symm))));clear hh hd ho;refine⟨B1.1,?_⟩
 (try simp only[Act.put])
 refine Dm (i:=3) (listed':=(bs 4 15)) rR kR rR kR _ _ _ rR B7.1 (ix:=3) rR 0 [iV b.1,iV b.2] rR rR (by simp) kR (by simp[Value.oneCell']) (by simp[Av]) ?_;intro C4 hh hd ho;have A9:=hN hh;have B5:=zH (Fr.trans_new B1.1 ho (fun j hj=> .inl (.inr (by injection hj with hj;exact hj.symm))));clear hh hd ho;refine⟨B5.1,?_⟩
 (try simp only[Act.put])
 refine wpAnyH_done kR ?_ _;go_wp2_with fail;refine bodyPost_ret ?_ rfl ⟨by unfold Hi Fj;rw[if_neg CL.1,if_neg CL.1],A9.1.ext⟩;exact Nr rfl rfl rfl ((A9.1.blk (i:=2) rR).loadVar rfl rfl rR) ((A9.1.blk (i:=3) rR).loadVar rfl rfl rR)
theorem Ty(a b c d w)(ha:Dy a)(hb:Dy b)(hc:Dy c)(hd:Dy d):
  Calls prog 183 #[.agg #[iV a.1,iV a.2],.agg #[iV b.1,iV b.2],.agg #[iV c.1,iV c.2],.agg #[iV d.1,iV d.2]] w fun e w'=>e= .returned (.tuple #[.agg #[iV (Aw a b c d).1.1,iV (Aw a b c d).1.2],iV (Aw a b c d).2])/\Aa w w':=by
 go_enter func183,ntmps183;have H0:=zH (Hp.start w);go_upto_region 0 with fail;apply wl;apply Ca 52 [iV a.1,iV a.2] H0.1;intro X1 w2 H3 _;apply Ca 52 [iV b.1,iV b.2] H3.1;intro X6 w7 H8 _;apply Ca 52 [iV c.1,iV c.2] H8.1;intro A9 E8 C8 _;apply Ca 52 [iV d.1,iV d.2] C8.1;intro A4 E7 C7 _;apply Ca 52 [iV 0,iV 0] C7.1;intro A8 E6 B5 _;apply zq (iV 0);go_upto_region 1 with fail;apply wl;refine Cc B5.1 _ _ ?_;refine aC B5.1 (eK a b _ ha hb) ?_;intro E5 C6 _;refine Da Ah _ _ _ ?_;apply Cm 0 [iV ((Hi a b).1),iV ((Hi a b).2)] C6.1;intro E4 C5 _;apply Cm 1 [iV ((Fj a b).1),iV ((Fj a b).2)] C5.1;intro E3 B4 _;go_upto_region 2 with fail;apply wl;refine Cc B4.1 _ _ ?_;refine aC B4.1 (eK c d _ hc hd) ?_;intro E2 C2 _;refine Da Ah _ _ _ ?_;apply Cm 2 [iV ((Hi c d).1),iV ((Hi c d).2)] C2.1;intro E1 C1 _;apply Cm 3 [iV ((Fj c d).1),iV ((Fj c d).2)] C1.1;intro E0 B3 _;go_upto_region 3 with fail;apply wl;refine Cc B3.1 _ _ ?_;refine aC B3.1 (Iw (Hi a b) (Hi c d) _ (aBJ ha hb) (aBJ hc hd)) ?_;intro B7 A7 _;go_upto_if 24 with fail
 go_cut [] (fun wx=>Hp w wx [.blk X1 52 [iV ((Nj a b c d).1),iV ((Nj a b c d).2)],.blk X6 52 [iV ((Fj a b).1),iV ((Fj a b).2)],.blk A9 52 [iV ((Hi c d).1),iV ((Hi c d).2)],.blk A4 52 [iV ((Fj c d).1),iV ((Fj c d).2)],.blk A8 52 [iV 0,iV 0]]/\Ac B7 wx)
 case first=>
  by_cases cj:Es (Hi a b) (Hi c d)=true
  ·rw[cj]
   go_upto_region 4 with fail;apply wl;refine Cg A7.1 _ ?_;apply Cm 0 [iV ((Hi c d).1),iV ((Hi c d).2)] A7.1;intro D9 C0 D0;go_wp2_with fail;go_meet
   exact⟨(by rw[show Nj a b c d=Hi c d from if_pos cj];exact C0.1),D0.1⟩
  rw[Bool.eq_false_iff.2 cj];go_wp2_with fail;go_meet
  exact⟨(by rw[show Nj a b c d=Hi a b from if_neg cj];exact A7.1),(Ac.refl _)⟩
 obtain⟨A2,A3⟩:=hcut;generalize wc=D8 at*;have A6:=zH A2;have F0:=zH A3;clear A2 A3;go_upto_region 5 with fail
 apply wl;refine zd A4 (0) [iV ((Fj c d).1),iV ((Fj c d).2)] (A6.1.range (i:=3) rR 0 2) underlying52 ?_;refine zd X6 (0) [iV ((Fj a b).1),iV ((Fj a b).2)] (A6.1.range (i:=1) rR 0 2) underlying52 ?_;refine aC A6.1 (Iw (Fj c d) (Fj a b) _ (aBK hc hd) (aBK ha hb)) ?_;intro B6 A5 _;go_upto_if 28 with fail
 go_cut [] (fun wx=>Hp w wx [.blk X1 52 [iV ((Nj a b c d).1),iV ((Nj a b c d).2)],.blk X6 52 [iV ((Tz a b c d).1),iV ((Tz a b c d).2)],.blk A9 52 [iV ((Hi c d).1),iV ((Hi c d).2)],.blk A4 52 [iV ((Fj c d).1),iV ((Fj c d).2)],.blk A8 52 [iV 0,iV 0]]/\Ac B6 wx)
 case first=>
  by_cases cj:Es (Fj c d) (Fj a b)=true
  ·rw[cj]
   go_upto_region 6 with fail;apply wl;refine zd A4 (0) [iV ((Fj c d).1),iV ((Fj c d).2)] (A5.1.range (i:=3) rR 0 2) underlying52 ?_;apply Cm 1 [iV ((Fj c d).1),iV ((Fj c d).2)] A5.1;intro D7 B9 C9;go_wp2_with fail;go_meet
   exact⟨(by rw[show Tz a b c d=Fj c d from if_pos cj];exact B9.1),C9.1⟩
  rw[Bool.eq_false_iff.2 cj];go_wp2_with fail;go_meet
  exact⟨(by rw[show Tz a b c d=Fj a b from if_neg cj];exact A5.1),(Ac.refl _)⟩
 obtain⟨A2,A3⟩:=hcut;generalize wc=D6 at*;have A1:=zH A2;have E9:=zH A3;clear A2 A3;rcases Cl (Es (Tz a b c d) (Nj a b c d)=true)with C3|C3
 ·go_upto_region 7 with fail
  apply wl;refine zd X6 (0) [iV ((Tz a b c d).1),iV ((Tz a b c d).2)] (A1.1.range (i:=1) rR 0 2) underlying52 ?_;refine zd X1 (0) [iV ((Nj a b c d).1),iV ((Nj a b c d).2)] (A1.1.range (i:=0) rR 0 2) underlying52 ?_;refine zc (Iw (Tz a b c d) (Nj a b c d) _ (aAP ha hb hc hd) (yS ha hb hc hd)) ?_;rintro e D5 ⟨rfl,hx⟩;have B8:=zH (A1.1.step hx);clear hx;refine⟨.bool true,by rw[C3.1],?_⟩;try simp only[ζ]
  apply zq τ;go_upto_region 8 with fail;apply wl;refine Cg Ah _ ?_;apply Cm 4 [iV 0,iV 0] B8.1;intro D4 B2 _;apply zq (iV 0);go_wp2_with fail;refine bodyPost_ret ?_ rfl ⟨by rw[show Aw a b c d=((0,0),0)from by unfold Aw;exact if_pos C3.1],B2.1.ext⟩;exact Ad rfl rfl ((B2.1.blk (i:=4) rR).loadVar rfl rfl rR) rfl
 go_upto_region 7 with fail;apply wl;refine zd X6 (0) [iV ((Tz a b c d).1),iV ((Tz a b c d).2)] (A1.1.range (i:=1) rR 0 2) underlying52 ?_;refine zd X1 (0) [iV ((Nj a b c d).1),iV ((Nj a b c d).2)] (A1.1.range (i:=0) rR 0 2) underlying52 ?_;refine zc (Iw (Tz a b c d) (Nj a b c d) _ (aAP ha hb hc hd) (yS ha hb hc hd)) ?_;rintro e D3 ⟨rfl,hx⟩;have A0:=zH (A1.1.step hx);clear hx;refine⟨.bool false,by rw[Bool.eq_false_iff.2 C3.1],?_⟩;try simp only[ζ]
 apply zq φ;rcases Cl (Nj a b c d=Tz a b c d)with C4|C4
 ·go_upto_region 9 with fail
  apply wl;refine zd X1 (0) [iV ((Nj a b c d).1),iV ((Nj a b c d).2)] (A0.1.range (i:=0) rR 0 2) underlying52 ?_;refine zd X6 (0) [iV ((Tz a b c d).1),iV ((Tz a b c d).2)] (A0.1.range (i:=1) rR 0 2) underlying52 ?_;apply zp τ (by exact Ks rR rR rR (Pj.2 C4.1));apply zq τ;go_upto_region 10 with fail;apply wl;refine zd X1 (0) [iV ((Nj a b c d).1),iV ((Nj a b c d).2)] (A0.1.range (i:=0) rR 0 2) underlying52 ?_;apply Cm 4 [iV ((Nj a b c d).1),iV ((Nj a b c d).2)] A0.1;intro D2 B1 _;apply zq (iV 1);go_wp2_with fail;refine bodyPost_ret ?_ rfl ⟨by rw[show Aw a b c d=(Nj a b c d,1)from by unfold Aw;rw[if_neg C3.1];exact if_pos C4.1],B1.1.ext⟩;exact Ad rfl rfl ((B1.1.blk (i:=4) rR).loadVar rfl rfl rR) rfl
 go_upto_region 9 with fail;apply wl;refine zd X1 (0) [iV ((Nj a b c d).1),iV ((Nj a b c d).2)] (A0.1.range (i:=0) rR 0 2) underlying52 ?_;refine zd X6 (0) [iV ((Tz a b c d).1),iV ((Tz a b c d).2)] (A0.1.range (i:=1) rR 0 2) underlying52 ?_;apply zp φ (by exact Ks rR rR rR (Bool.eq_false_iff.2 (fun h_=>C4.1 (Pj.1 h_))));apply zq φ;go_upto_region 11 with fail;apply wl;refine Cg Ah _ ?_;apply Cm 4 [iV 0,iV 0] A0.1;intro D1 B0 _;apply zq (iV 2);go_wp2_with fail;refine bodyPost_ret ?_ rfl ⟨by rw[show Aw a b c d=((0,0),2)from by unfold Aw;rw[if_neg C3.1];exact if_neg C4.1],B0.1.ext⟩;exact Ad rfl rfl ((B0.1.blk (i:=4) rR).loadVar rfl rfl rR) rfl
end
section
section
variable {P:Program} {l:List Oper} {Q:Exit->Act->World->Prop} {md:Region.Mode} {S:World->Prop} {j i:Nat} {dj:Option Tmp} {T:TypeId} {zs:List Value} {b w0:World} {m:List Et} {fuel:Nat} {listed li lj lij:Array Bool} {a:Act} {w:World} {oi oj:Oper} {v:Value}
def Fl (P:Program)(md:Region.Mode)(l:List Oper)(Q:Exit->Act->World->Prop)(S:World->Prop)(j:Nat)(dj:Option Tmp)(T:TypeId)(zs:List Value)(b w0:World)(m:List Et)(fuel:Nat)(listed:Array Bool)(a:Act)(w:World):Prop:=
  wpAnyH P md l.toArray Q S (fuel+1) listed a w/\
  ∀X y,Aa w y->Hp w0 y (m++[.blk X T zs])->S y->b.heap.size<=X->wpAnyH P md l.toArray Q S fuel (listed.setIfInBounds j true) (a.put dj (.pointer (π X))) y
theorem Fl.go (h:Fl P md l Q S j dj T zs b w0 m fuel listed a w):wpAnyH P md l.toArray Q S (fuel+1) listed a w:=h.1
def Gj (l:List Oper)(o:Oper)(dj:Option Tmp):Bool:=match dj with|none=>true|some d=> !(o.looksAt l.toArray).contains d&&o.dst != some d
theorem Ff{o}(h:Gj l o dj=true):(∀d,dj=some d->d∉o.looksAt l.toArray)/\∀d,dj=some d->o.dst≠some d:=by
  cases dj with
  |none=>exact⟨fun d h=>(by cases h),fun d h=>(by cases h)⟩
  | some d=>
    unfold Gj at h;simp at h;refine⟨fun d' e=> ?_,fun d' e=> ?_⟩
    · injection e with e;subst e;exact h.1
    injection e with e;subst e;exact h.2
theorem wI (hi:l[i]?=some oi)(hs:Region.noSelect l.toArray=true)(hf:Region.free md l.toArray listed i=true)(hr:(Region.ready md l.toArray listed).contains i=true)(hlj:listed.setIfInBounds j true=lj)
  (hf2:Region.free md l.toArray lj i=true)(hr2:(Region.ready md l.toArray lj).contains i=true)(hij:i≠j)(hoff:Gj l oi dj=true)
  (hQ:∀c a w,Q (.panic c) (a.put oi.dst v) w->Q (.panic c) a w)(hy:YieldsIf P l.toArray S oi v a)(hS:S w)(hl:listed.setIfInBounds i true=li)
  (h:Fl P md l Q S j dj T zs b w0 m fuel li (a.put oi.dst v) w):Fl P md l Q S j dj T zs b w0 m (fuel+1) listed a w:=by
 obtain⟨o1,o2⟩:=Ff hoff;have A0:=fun cs b=>Region.noSelect_spec hs i oi cs b (by rw[aZZ];exact hi)
 refine⟨Fn hi hs hf hr hQ hy hS (by rw[hl];exact h.1),fun X y x hH hSy hX=> ?_⟩;have h2:=h.2 X y x hH hSy hX;rw[Act.put_comm a v _ (fun d e=>fun e2=>(o2 d e2) e)]at h2;rw[hlj];refine Fn hi hs hf2 hr2 hQ (hy.of_same (execOp_put oi A0 a dj _ o1) (wanted_put oi a dj _ o1)) hSy ?_;rw[<-hlj,Array.setIfInBounds_comm _ _ (Ne.symm hij),hl];exact h2
theorem wJ{f args}{Φ:World->Ending->World->Prop}(hi:l[i]?=some oi)(hj:l[j]?=some oj)(hs:Region.noSelect l.toArray=true)(hlj:listed.setIfInBounds j true=lj)
(hr:((Region.ready md l.toArray listed).all fun k=>k==i||k==j)=true)(hne:(Region.ready md l.toArray listed).isEmpty=false)(hr2:Region.ready md l.toArray lj=[i])(hij:i≠j)(hoff:Gj l oi dj=true)(hdj:oj.dst=dj)(hgj:oj.guard=none)
(hvj:∀(ρ:Operand->Value) (x:World),(execOp ρ oj).run P x= .ok (.value (.pointer (π x.heap.size))) (x.alloc (.cells zs.toArray T)))
(hSx:∀x y,S x->Aa x y->S y)(hb:b.heap.size<=w.heap.size)(hH:Hp w0 w m)(hn:Av zs)(hSw:S w)
(hw:Region.wanted oi (yielded l.toArray a.tmps)=true)(hv:∀x:World,(execOp a.eval oi).run P x= .ok (.enter f args) x)(hl:listed.setIfInBounds i true=li)
(hc0:∀x,Aa w x->Calls P f args x (Φ x))(hE:∀x e x',Φ x e x'->Aa x x')
(h0:∀x e x',Aa w x->Φ x e x'->∃v,e= .returned v/\Fl P md l Q S j dj T zs b w0 m fuel li (a.put oi.dst v) x'):Fl P md l Q S j dj T zs b w0 m (fuel+1) listed a w:=by
 have hc:∀x,Aa w x->Calls P f args x fun e x'=>Φ x e x'/\Aa x x':=fun x hx=>(hc0 x hx).mono fun e x' h1=>⟨h1,hE x e x' h1⟩
 have h:=fun(x:World) (e:Ending) (x':World) (h1:Aa w x) (h2:Φ x e x') (_:Aa x x')=>h0 x e x' h1 h2
 obtain⟨o1,o2⟩:=Ff hoff;have hsel:=fun cs b=>Region.noSelect_spec hs i oi cs b (by rw[aZZ];exact hi)
 have done:∀X y,Aa w y->Hp w0 y (m++[.blk X T zs])->S y->b.heap.size<=X->wpAnyH P md l.toArray Q S (fuel+1) (listed.setIfInBounds j true) (a.put dj (.pointer (π X))) y:=by
  intro X y x hHy hSy hX;rw[hlj];refine Zv hi hr2 (by rw[wanted_put oi a dj _ o1];exact hw) (by rw[execOp_put oi hsel a dj _ o1];exact hv y) (hc y x) rfl ?_;rintro e y' ⟨h1,h2⟩;obtain⟨v,rfl,hf⟩:=h y e y' x h1 h2;refine⟨v,rfl,hSx _ _ hSy h2,?_⟩;have h3:=hf.2 X y' At (hHy.step h2) (hSx _ _ hSy h2) hX;rw[Act.put_comm a v _ (fun d e=>fun e2=>(o2 d e2) e)]at h3;rw[<-hlj,Array.setIfInBounds_comm _ _ (Ne.symm hij),hl];exact h3
 refine⟨?_,done⟩;have x1:Aa w (w.alloc (.cells zs.toArray T)):=(Aa.refl w).alloc _;refine wpAnyH_ready rfl (fun e=>by rw[e]at hne;cases hne) (fun k hk=> ?_);have hk2:=List.all_eq_true.1 hr k hk;simp only[Bool.or_eq_true,beq_iff_eq]at hk2;rcases hk2 with rfl|rfl
 ·refine wpOp_step (by rw[aZZ];exact hi) (fun K' hK=> ?_)
  rw[if_pos hw];refine Dp (hv w) (hc w (Aa.refl w)) ?_;rintro e x' ⟨h1,h2⟩;obtain⟨v,rfl,hf⟩:=h w e x' (Aa.refl w) h1 h2;refine⟨v,rfl,hK _ _ ⟨hSx _ _ hSw h2,?_⟩⟩;rw[hl];exact hf.1
 refine wpOp_step (by rw[aZZ];exact hj) (fun K' hK=> ?_);rw[if_pos (by simp[Region.wanted,hgj])];unfold Oper.wp;rw[hvj];refine hK _ _ ⟨hSx _ _ hSw x1,?_⟩;rw[hdj];exact done _ _ x1 (hH.alloc T zs hn) (hSx _ _ hSw x1) hb
theorem zL (hj:l[j]?=some oj)(hr:Region.ready md l.toArray listed=[j])(hdj:oj.dst=dj)(hgj:oj.guard=none)
  (hvj:∀(ρ:Operand->Value) (x:World),(execOp ρ oj).run P x= .ok (.value (.pointer (π x.heap.size))) (x.alloc (.cells zs.toArray T)))
  (hSx:∀x y,S x->Aa x y->S y)(hb:b.heap.size<=w.heap.size)(hH:Hp w0 w m)(hn:Av zs)(hSw:S w)(hl:listed.setIfInBounds j true=lj)
  (h:∀X y,Aa w y->Hp w0 y (m++[.blk X T zs])->S y->b.heap.size<=X->wpAnyH P md l.toArray Q S fuel lj (a.put dj (.pointer (π X))) y):Fl P md l Q S j dj T zs b w0 m fuel listed a w:=by
 have x1:Aa w (w.alloc (.cells zs.toArray T)):=(Aa.refl w).alloc _;refine⟨Lh hj hr (by simp[Region.wanted,hgj]) (hvj _ w) (hSx _ _ hSw x1) hl ?_,fun X y x hHy hSy hX=>by rw[hl];exact h X y x hHy hSy hX⟩;rw[hdj];exact h _ _ x1 (hH.alloc T zs hn) (hSx _ _ hSw x1) hb
end
section
variable {P:Program} {l:List Oper} {S:World->Prop} {oi:Oper} {a:Act}
theorem Km{v}(hw:Region.wanted oi (yielded l.toArray a.tmps)=true)(hv:∀w,S w->(execOp a.eval oi).run P w= .ok (.value v) w):YieldsIf P l.toArray S oi v a:= .inl ⟨hw,hv⟩
theorem bG{g o v}(hw:Region.wanted oi (yielded l.toArray a.tmps)=true)(hc:∀x,S x->x.cell? ⟨g,o,none⟩=some v)(hv:∀x:World,x.cell? ⟨g,o,none⟩=some v->(execOp a.eval oi).run P x= .ok (.value v) x):YieldsIf P l.toArray S oi v a:= .inl ⟨hw,fun x hx=>hv x (hc x hx)⟩
theorem aBO(hw:Region.wanted oi (yielded l.toArray a.tmps)=true)(ty x)(ho:oi.op= .load ty x)(g o cs){d}(hx:a.eval x= .pointer (some ⟨g,o,none⟩))(hb:∀w,S w->w.rangeAt g o cs)
(hu:P.underlying ty=some d)(hd:d.isRow=true)(hz:(P.info? ty).map (·.size)=some cs.length):YieldsIf P l.toArray S oi (.agg cs.toArray) a:=yieldsIf_load_mid (P:=P) (ops:=l.toArray) (S:=S) hw ty x ho g o hx cs d hb hu hd hz
end
section
variable {P:Program} {l:List Oper} {Q:Exit->Act->World->Prop} {md:Region.Mode} {S:World->Prop} {j i:Nat} {dj:Option Tmp} {u:Value} {b:World} {fuel:Nat} {listed li lj lij:Array Bool} {a:Act} {w:World} {oi oj:Oper} {v:Value}
def Fd (P:Program)(md:Region.Mode)(l:List Oper)(Q:Exit->Act->World->Prop)(S:World->Prop)(j:Nat)(dj:Option Tmp)(u:Value)(fuel:Nat)(listed:Array Bool)(a:Act)(w:World):Prop:=
  wpAnyH P md l.toArray Q S (fuel+1) listed a w/\wpAnyH P md l.toArray Q S fuel (listed.setIfInBounds j true) (a.put dj u) w
theorem Fd.go (h:Fd P md l Q S j dj u fuel listed a w):wpAnyH P md l.toArray Q S (fuel+1) listed a w:=h.1
theorem Fg{f args}{Φ:Ending->World->Prop}(hi:l[i]?=some oi)(hj:l[j]?=some oj)(hs:Region.noSelect l.toArray=true)(hlj:listed.setIfInBounds j true=lj)
(hr:((Region.ready md l.toArray listed).all fun k=>k==i||k==j)=true)(hne:(Region.ready md l.toArray listed).isEmpty=false)(hr2:Region.ready md l.toArray lj=[i])(hij:i≠j)(hoff:Gj l oi dj=true)(hdj:oj.dst=dj)(hgj:oj.guard=none)
(hSx:∀x,Aa b x->S x)(hb:Aa b w)(hvj:∀x,Aa b x->(execOp a.eval oj).run P x= .ok (.value u) x)
(hw:Region.wanted oi (yielded l.toArray a.tmps)=true)(hv:(execOp a.eval oi).run P w= .ok (.enter f args) w)(hl:listed.setIfInBounds i true=li)
(hc:Calls P f args w Φ)
(h:∀e x',Φ e x'->∃v,e= .returned v/\Aa w x'/\Fd P md l Q S j dj u fuel li (a.put oi.dst v) x'):Fd P md l Q S j dj u (fuel+1) listed a w:=by
 obtain⟨o1,o2⟩:=Ff hoff;have hsel:=fun cs b=>Region.noSelect_spec hs i oi cs b (by rw[aZZ];exact hi)
 have done:wpAnyH P md l.toArray Q S (fuel+1) (listed.setIfInBounds j true) (a.put dj u) w:=by
  rw[hlj];refine Zv hi hr2 (by rw[wanted_put oi a dj _ o1];exact hw) (by rw[execOp_put oi hsel a dj _ o1];exact hv) hc rfl ?_;intro e y' h1;obtain⟨v,rfl,h2,hf⟩:=h e y' h1;refine⟨v,rfl,hSx _ (hb.trans h2),?_⟩;have h3:=hf.2;rw[Act.put_comm a v _ (fun d e=>fun e2=>(o2 d e2) e)]at h3;rw[<-hlj,Array.setIfInBounds_comm _ _ (Ne.symm hij),hl];exact h3
 refine⟨?_,done⟩;refine wpAnyH_ready rfl (fun e=>by rw[e]at hne;cases hne) (fun k hk=> ?_);have hk2:=List.all_eq_true.1 hr k hk;simp only[Bool.or_eq_true,beq_iff_eq]at hk2;rcases hk2 with rfl|rfl
 ·refine wpOp_step (by rw[aZZ];exact hi) (fun K' hK=> ?_)
  rw[if_pos hw];refine Dp hv hc ?_;intro e x' h1;obtain⟨v,rfl,h2,hf⟩:=h e x' h1;refine⟨v,rfl,hK _ _ ⟨hSx _ (hb.trans h2),?_⟩⟩;rw[hl];exact hf.1
 refine wpOp_step (by rw[aZZ];exact hj) (fun K' hK=> ?_);rw[if_pos (by simp[Region.wanted,hgj])];unfold Oper.wp;rw[hvj w hb];refine hK _ _ ⟨hSx _ hb,?_⟩;rw[hdj];exact done
theorem Jg (hj:l[j]?=some oj)(hr:Region.ready md l.toArray listed=[j])(hdj:oj.dst=dj)(hgj:oj.guard=none)(hS:S w)(hvj:(execOp a.eval oj).run P w= .ok (.value u) w)(hl:listed.setIfInBounds j true=lj)
    (h:wpAnyH P md l.toArray Q S fuel lj (a.put dj u) w):Fd P md l Q S j dj u fuel listed a w:=by
  refine⟨Lh hj hr (by simp[Region.wanted,hgj]) hvj hS hl ?_,by rw[hl];exact h⟩;rw[hdj];exact h
end
theorem Gs{P}{ρ:Operand->Value}{o w}(ty x)(ho:o.op= .load ty x)(g k cs){d}(hx:ρ x= .pointer (some ⟨g,k,none⟩))(hb:w.rangeAt g k cs)
(hu:P.underlying ty=some d)(hd:d.isRow=true)(hz:(P.info? ty).map (·.size)=some cs.length):(execOp ρ o).run P w= .ok (.value (.agg cs.toArray)) w:=by
  unfold execOp;simp only[ho,hx,Instr.loadAt,Instr.sureAddr,Sem.run_bind,Sem.run_pure,Result.andThen_ok,run_loadVar_mid w g k ty cs d hb hu hd hz]
section
variable {P:Program} {l:List Oper} {Q:Exit->Act->World->Prop} {md:Region.Mode} {S:World->Prop} {i j ix jx X:Nat} {oi oj:Oper} {fuel:Nat} {listed listed':Array Bool} {a:Act} {w w0:World} {m:List Et}
end
section
variable {P:Program} {l:List Oper} {Q:Exit->Act->World->Prop} {md:Region.Mode} {S:World->Prop} {j i:Nat} {dj:Option Tmp} {T:TypeId} {zs:List Value} {b w0:World} {m:List Et} {fuel:Nat} {listed li lj lij:Array Bool} {a:Act} {w:World} {oi oj:Oper} {v:Value}
theorem gK{a'}(i lj li v)(hS:S w)(h:Fl P md l Q S j dj T zs b w0 m fuel li a' w)(hi:l[i]?=some oi:=by rfl)(hs:Region.noSelect l.toArray=true:=by kernel_rfl)(hf:Region.free md l.toArray listed i=true:=by kernel_rfl)(hr:(Region.ready md l.toArray listed).contains i=true:=by kernel_rfl)(hlj:listed.setIfInBounds j true=lj:=by kernel_rfl)(hf2:Region.free md l.toArray lj i=true:=by kernel_rfl)(hr2:(Region.ready md l.toArray lj).contains i=true:=by kernel_rfl)(hij:i≠j:=by decide)(hoff:Gj l oi dj=true:=by kernel_rfl)(hQ:∀c a w,Q (.panic c) (a.put oi.dst v) w->Q (.panic c) a w:=by intro _ _ _ h;exact h)(hw:Region.wanted oi (yielded l.toArray a.tmps)=true:=by rfl)(hv:∀w,S w->(execOp a.eval oi).run P w= .ok (.value v) w:=by intro w A0;go_simp<;>with_reducible rfl)(hl:listed.setIfInBounds i true=li:=by kernel_rfl)(ha:a.put oi.dst v=a':=by (try simp only[ζ]);rfl):Fl P md l Q S j dj T zs b w0 m (fuel+1) listed a w:=by subst ha;exact wI hi hs hf hr hlj hf2 hr2 hij hoff hQ (Km hw hv) hS hl h
theorem gL{f args}{Φ:World->Ending->World->Prop}(i lj li)(hb:b.heap.size<=w.heap.size)(hH:Hp w0 w m)(hSw:S w)(hc0:∀x,Aa w x->Calls P f args x (Φ x))(hE:∀x e x',Φ x e x'->Aa x x')(h0:∀x e x',Aa w x->Φ x e x'->∃v,e= .returned v/\Fl P md l Q S j dj T zs b w0 m fuel li (a.put oi.dst v) x')(hi:l[i]?=some oi:=by rfl)(hj:l[j]?=some oj:=by rfl)(hs:Region.noSelect l.toArray=true:=by kernel_rfl)(hlj:listed.setIfInBounds j true=lj:=by kernel_rfl)(hr:((Region.ready md l.toArray listed).all fun k=>k==i||k==j)=true:=by kernel_rfl)(hne:(Region.ready md l.toArray listed).isEmpty=false:=by kernel_rfl)(hr2:Region.ready md l.toArray lj=[i]:=by kernel_rfl)(hij:i≠j:=by decide)(hoff:Gj l oi dj=true:=by kernel_rfl)(hdj:oj.dst=dj:=by rfl)(hgj:oj.guard=none:=by rfl)(hvj:∀(ρ:Operand->Value) (x:World),(execOp ρ oj).run P x= .ok (.value (.pointer (π x.heap.size))) (x.alloc (.cells zs.toArray T)):=by intro r_ x_;go_simp)(hSx:∀x y,S x->Aa x y->S y:=by intro x y h1 h2;exact h1.trans h2)(hn:Av zs:=by simp[Av,rz,rc])(hw:Region.wanted oi (yielded l.toArray a.tmps)=true:=by rfl)(hv:∀x:World,(execOp a.eval oi).run P x= .ok (.enter f args) x:=by intro x_;go_simp)(hl:listed.setIfInBounds i true=li:=by kernel_rfl):Fl P md l Q S j dj T zs b w0 m (fuel+1) listed a w:=wJ hi hj hs hlj hr hne hr2 hij hoff hdj hgj hvj hSx hb hH hn hSw hw hv hl hc0 hE h0
theorem gE(lj)(hb:b.heap.size<=w.heap.size)(hH:Hp w0 w m)(hSw:S w)(h:∀X y,Aa w y->Hp w0 y (m++[.blk X T zs])->S y->b.heap.size<=X->wpAnyH P md l.toArray Q S fuel lj (a.put dj (.pointer (π X))) y)(hj:l[j]?=some oj:=by rfl)(hr:Region.ready md l.toArray listed=[j]:=by kernel_rfl)(hdj:oj.dst=dj:=by rfl)(hgj:oj.guard=none:=by rfl)(hvj:∀(ρ:Operand->Value) (x:World),(execOp ρ oj).run P x= .ok (.value (.pointer (π x.heap.size))) (x.alloc (.cells zs.toArray T)):=by intro r_ x_;go_simp)(hSx:∀x y,S x->Aa x y->S y:=by intro x y h1 h2;exact h1.trans h2)(hn:Av zs:=by simp[Av,rz,rc])(hl:listed.setIfInBounds j true=lj:=by kernel_rfl):Fl P md l Q S j dj T zs b w0 m fuel listed a w:=zL hj hr hdj hgj hvj hSx hb hH hn hSw hl h
theorem gG{w'}(j dj T zs b)(_H:Hp w0 w' m)(h:Fl P md l Q S j dj T zs b w0 m fuel listed a w):wpAnyH P md l.toArray Q S (fuel+1) listed a w:=h.1
end
end
section
structure FJ where
  i:Nat
  d:Option Tmp
  T:TypeId
  zs:List Value
def lP:List FJ->List Bool->Array Bool->Array Bool
  |j::J,true::p,l=>lP J p (l.setIfInBounds j.i true)
  |_::J,false::p,l=>lP J p l
  | [],_,l=>l
  |_::_,[],l=>l
def aD:List FJ->List (Option Nat)->Act->Act
  |j::J,some X::D,a=>aD J D (a.put j.d (.pointer (π X)))
  |_::J,none::D,a=>aD J D a
  | [],_,a=>a
  |_::_,[],a=>a
def cN:List (Option Nat)->Nat
  | []=>0
  |none::D=>cN D+1
  |some _::D=>cN D
def gD (b y:World):List FJ->List (Option Nat)->Prop
  |j::J,some X::D=>(Aj y X j.T j.zs.toArray/\b.heap.size<=X/\some X∉D)/\gD b y J D
  |_::J,none::D=>gD b y J D
  | [],_=>True
  |_::_,[]=>True
def Sm:Nat->List (List Bool)
  |0=>[[]]
  |n+1=>(Sm n).map (true:: ·)++(Sm n).map (false:: ·)
theorem Ps:∀(p:List Bool),p∈Sm p.length
  | []=>List.mem_singleton.2 rfl
  |true::p=>List.mem_append.2 (.inl (List.mem_map.2 ⟨p,Ps p,rfl⟩))
  |false::p=>List.mem_append.2 (.inr (List.mem_map.2 ⟨p,Ps p,rfl⟩))
def pA:List FJ->List Bool->List Nat
  |_::J,true::p=>pA J p
  |j::J,false::p=>j.i::pA J p
  | [],_=>[]
  |_::_,[]=>[]
def nd:List FJ->Bool
  | []=>true
  |j::J=>J.all (fun k=>k.i != j.i&&k.d != j.d)&&nd J
section
variable {P:Program} {l:List Oper} {Q:Exit->Act->World->Prop} {md:Region.Mode} {S:World->Prop} {b w:World} {J:List FJ} {i:Nat} {fuel:Nat} {listed li:Array Bool} {a:Act} {oi:Oper} {v:Value}
theorem Zz:∀{J:List FJ} {p:List Bool} {L:Array Bool} {i:Nat},(∀j,j∈J->j.i≠i)->(lP J p L).setIfInBounds i true=lP J p (L.setIfInBounds i true)
  | [],p,L,i,_=>by cases p<;>rfl
  |j::J,[],L,i,_=>rfl
  | j::J,true::p,L,i,h=>by
    show(lP J p (L.setIfInBounds j.i true)).setIfInBounds i true=lP J p ((L.setIfInBounds i true).setIfInBounds j.i true);rw[Zz fun k hk=>h k (cZZ _ hk),Array.setIfInBounds_comm _ _ (h j (eXX ..))]
  |j::J,false::p,L,i,h=>Zz (J:=J) fun k hk=>h k (cZZ _ hk)
theorem aV:∀{J:List FJ} {D:List (Option Nat)} {a:Act} {d:Option Tmp} {v:Value},(∀j,j∈J->∀t,j.d=some t->d≠some t)->(aD J D a).put d v=aD J D (a.put d v)
  | [],D,a,d,v,_=>by cases D<;>rfl
  |j::J,[],a,d,v,_=>rfl
  | j::J,some X::D,a,d,v,h=>by
    show(aD J D (a.put j.d _)).put d v=aD J D ((a.put d v).put j.d _);rw[aV fun k hk=>h k (cZZ _ hk),Act.put_comm a _ _ (h j (eXX ..))]
  |j::J,none::D,a,d,v,h=>aV (J:=J) fun k hk=>h k (cZZ _ hk)
theorem Tb:∀{J:List FJ} {D:List (Option Nat)} {L:Array Bool} {q:Nat} {j:FJ} {X:Nat},nd J=true->J[q]?=some j->D[q]?=some none->(lP J (D.map Option.isSome) L).setIfInBounds j.i true=lP J ((D.set q (some X)).map Option.isSome) L
 | [],D,L,q,j,X,_,h,_=>by simp at h
 |k::J,[],L,q,j,X,_,_,h=>by simp at h
 |k::J,x::D,L,0,j,X,hn,h,h2=>by
  have hk:k=j:=by simpa using h
  have hx:x=none:=by simpa using h2
  subst hk;subst hx;unfold nd at hn;rw[iZZ]at hn;show(lP J (D.map Option.isSome) L).setIfInBounds k.i true=lP J (D.map Option.isSome) (L.setIfInBounds k.i true);exact Zz fun z hz=>by
   have:=List.all_eq_true.1 hn.1 z hz;simp at this;exact this.1
 |k::J,x::D,L,q+1,j,X,hn,h,h2=>by
  have h:J[q]?=some j:=by simpa using h
  have h2:D[q]?=some none:=by simpa using h2
  unfold nd at hn;rw[iZZ]at hn;cases x with
  |none=>exact Tb (J:=J) (D:=D) hn.2 h h2
  |some Y=>exact Tb (L:=L.setIfInBounds k.i true) hn.2 h h2
theorem Tj:∀{J:List FJ} {D:List (Option Nat)} {a:Act} {q:Nat} {j:FJ} {X:Nat},nd J=true->J[q]?=some j->D[q]?=some none->(aD J D a).put j.d (.pointer (π X))=aD J (D.set q (some X)) a
 | [],D,a,q,j,X,_,h,_=>by simp at h
 |k::J,[],a,q,j,X,_,_,h=>by simp at h
 |k::J,x::D,a,0,j,X,hn,h,h2=>by
  have hk:k=j:=by simpa using h
  have hx:x=none:=by simpa using h2
  subst hk;subst hx;unfold nd at hn;rw[iZZ]at hn;show(aD J D a).put k.d _=aD J D (a.put k.d _);exact aV fun z hz t ht e=>by
   have:=List.all_eq_true.1 hn.1 z hz;simp at this;exact this.2 (by rw[ht,e])
 |k::J,x::D,a,q+1,j,X,hn,h,h2=>by
  have h:J[q]?=some j:=by simpa using h
  have h2:D[q]?=some none:=by simpa using h2
  unfold nd at hn;rw[iZZ]at hn;cases x with
  |none=>exact Tj (J:=J) (D:=D) hn.2 h h2
  |some Y=>exact Tj (a:=a.put k.d _) hn.2 h h2
theorem aP:∀{D:List (Option Nat)} {q X:Nat},D[q]?=some none->cN (D.set q (some X))+1=cN D
  | [],q,X,h=>by simp at h
  | x::D,0,X,h=>by
    have hx:x=none:=by simpa using h
    subst hx;rfl
  | x::D,q+1,X,h=>by
    have h:D[q]?=some none:=by simpa using h
    have:=aP (X:=X) h;cases x<;>simp only[List.set_cons_succ,cN]<;>omega
theorem Ve {b y y':World}(x:Aa y y'):∀{J:List FJ} {D:List (Option Nat)},gD b y J D->gD b y' J D
  | [],D,_=>by cases D<;>trivial
  |j::J,[],_=>trivial
  |j::J,some X::D,h=>⟨⟨h.1.1.ext x,h.1.2⟩,Ve x h.2⟩
  |j::J,none::D,h=>Ve (J:=J) x h
theorem kB {b y:World}:∀{J:List FJ} {D:List (Option Nat)} {X:Nat},D.length=J.length->gD b y J D->some X∈D->X<y.heap.size
  | [],D,X,hl,_,hX=>by
    have:D=[]:=iXX hl;rw[this]at hX;simp at hX
  |j::J,[],X,_,_,hX=>by simp at hX
  | j::J,some Y::D,X,hl,h,hX=>by
    rcases List.mem_cons.1 hX with e|hX
    · injection e with e;subst e;exact h.1.1.lt
    exact kB (by simpa using hl) h.2 hX
  | j::J,none::D,X,hl,h,hX=>by
    rcases List.mem_cons.1 hX with e|hX
    · cases e
    exact kB (J:=J) (by simpa using hl) h hX
theorem Tf {b y:World}{j:FJ}{X:Nat}(hb:Aj y X j.T j.zs.toArray)(hX:b.heap.size<=X):∀{J:List FJ} {D:List (Option Nat)} {q:Nat},J[q]?=some j->D[q]?=some none->gD b y J D->(∀Y,some Y∈D->Y<X)->gD b y J (D.set q (some X))
 | [],D,q,h,_,_,_=>by simp at h
 |k::J,[],q,_,h,_,_=>by simp at h
 |k::J,x::D,0,h,h2,hg,hl=>by
  have hk:k=j:=by simpa using h
  have hx:x=none:=by simpa using h2
  subst hk;subst hx;exact⟨⟨hb,hX,fun e=>by have:=hl X (cZZ _ e);omega⟩,hg⟩
 |k::J,x::D,q+1,h,h2,hg,hl=>by
  have h:J[q]?=some j:=by simpa using h
  have h2:D[q]?=some none:=by simpa using h2
  cases x with
  |none=>exact Tf (J:=J) hb hX h h2 hg fun Y hY=>hl Y (cZZ _ hY)
  |some Z=>
   refine⟨⟨hg.1.1,hg.1.2.1,fun e=> ?_⟩,Tf hb hX h h2 hg.2 fun Y hY=>hl Y (cZZ _ hY)⟩;rcases List.mem_or_eq_of_mem_set e with e|e
   ·exact hg.1.2.2 e
   injection e with e
   have:=hl Z (eXX ..);omega
theorem Su:∀{J:List FJ} {D:List (Option Nat)} {k:Nat},D.length=J.length->k∈pA J (D.map Option.isSome)->∃(q:Nat) (j:FJ),J[q]?=some j/\D[q]?=some none/\j.i=k
  | [],D,k,_,h=>by cases D<;>simp[pA]at h
  |j::J,[],k,hl,_=>by simp at hl
  | j::J,some X::D,k,hl,h=>by
    obtain⟨q,z,h1,h2,h3⟩:=Su (J:=J) (D:=D) (by simpa using hl) h;exact⟨q+1,z,by simpa using h1,by simpa using h2,h3⟩
  | j::J,none::D,k,hl,h=>by
    rcases List.mem_cons.1 h with rfl|h
    · exact⟨0,j,rfl,rfl,rfl⟩
    obtain⟨q,z,h1,h2,h3⟩:=Su (J:=J) (D:=D) (by simpa using hl) h;exact⟨q+1,z,by simpa using h1,by simpa using h2,h3⟩
def oT (P:Program)(l:List Oper):List FJ->Prop
  | []=>True
  |j::J=>(∃oj,l[j.i]?=some oj/\oj.dst=j.d/\oj.guard=none/\Av j.zs/\∀(ρ:Operand->Value) (x:World),(execOp ρ oj).run P x= .ok (.value (.pointer (π x.heap.size))) (x.alloc (.cells j.zs.toArray j.T)))/\oT P l J
theorem oT.get:∀{J:List FJ} {q:Nat} {j:FJ},oT P l J->J[q]?=some j->∃oj,l[j.i]?=some oj/\oj.dst=j.d/\oj.guard=none/\Av j.zs/\∀(ρ:Operand->Value) (x:World),(execOp ρ oj).run P x= .ok (.value (.pointer (π x.heap.size))) (x.alloc (.cells j.zs.toArray j.T))
  | [],q,j,_,h=>by simp at h
  | k::J,0,j,hk,h=>by
    have e:k=j:=by simpa using h
    subst e;exact hk.1
  |k::J,q+1,j,hk,h=>oT.get hk.2 (by simpa using h)
def FN (P:Program)(md:Region.Mode)(l:List Oper)(Q:Exit->Act->World->Prop)(S:World->Prop)(J:List FJ)(b:World)(fuel:Nat)(listed:Array Bool)(a:Act)(w:World):Prop:=
  ∀(D:List (Option Nat)) (y:World),D.length=J.length->Aa w y->gD b y J D->S y->wpAnyH P md l.toArray Q S (fuel+cN D) (lP J (D.map Option.isSome) listed) (aD J D a) y
theorem FN.go2{j1 j2}(h:FN P md l Q S [j1,j2] b fuel listed a w)(hS:S w):wpAnyH P md l.toArray Q S (fuel+2) listed a w:=h [none,none] w rfl At trivial hS
theorem FN.go3{j1 j2 j3}(h:FN P md l Q S [j1,j2,j3] b fuel listed a w)(hS:S w):wpAnyH P md l.toArray Q S (fuel+3) listed a w:=h [none,none,none] w rfl At trivial hS
theorem Uq (hs:Region.noSelect l.toArray=true)(hi:l[i]?=some oi):∀{J:List FJ} {D:List (Option Nat)} {a:Act},(J.all fun j=>Gj l oi j.d)=true->execOp (aD J D a).eval oi=execOp a.eval oi/\Region.wanted oi (yielded l.toArray (aD J D a).tmps)=Region.wanted oi (yielded l.toArray a.tmps)
  | [],D,a,_=>by cases D<;>exact⟨rfl,rfl⟩
  |j::J,[],a,_=>⟨rfl,rfl⟩
  | j::J,some X::D,a,h=>by
    have hsel:=fun cs b=>Region.noSelect_spec hs i oi cs b (by rw[aZZ];exact hi)
    rw[List.all_cons,iZZ]at h;obtain⟨o1,_⟩:=Ff h.1;obtain⟨h1,h2⟩:=Uq hs hi (D:=D) (a:=a.put j.d (.pointer (π X))) h.2;exact⟨h1.trans (execOp_put oi hsel a j.d _ o1),h2.trans (wanted_put oi a j.d _ o1)⟩
  | j::J,none::D,a,h=>by
    rw[List.all_cons,iZZ]at h;exact Uq hs hi (J:=J) h.2
theorem vG (h:(J.all fun j=>Gj l oi j.d)=true):∀j,j∈J->∀t,j.d=some t->oi.dst≠some t:=fun j hj t ht=>(Ff (List.all_eq_true.1 h j hj)).2 t ht
theorem zJ (h:(J.all fun j=>j.i != i)=true):∀j,j∈J->j.i≠i:=fun j hj=>by simpa using List.all_eq_true.1 h j hj
theorem wH{f args}{Φ:World->Ending->World->Prop}(hi:l[i]?=some oi)(hs:Region.noSelect l.toArray=true)
(hchk:((Sm J.length).all fun p=> !(Region.ready md l.toArray (lP J p listed)).isEmpty&&(Region.ready md l.toArray (lP J p listed)).all fun k=>k==i||(pA J p).contains k)=true)
(hne:(J.all fun j=>j.i != i)=true)(hoff:(J.all fun j=>Gj l oi j.d)=true)(hnd:nd J=true)(hJ:oT P l J)
(hSx:∀x y,S x->Aa x y->S y)(hb:b.heap.size<=w.heap.size)
(hw:Region.wanted oi (yielded l.toArray a.tmps)=true)(hv:∀x:World,(execOp a.eval oi).run P x= .ok (.enter f args) x)(hl:listed.setIfInBounds i true=li)
(hc0:∀x,Aa w x->Calls P f args x (Φ x))(hE:∀x e x',Φ x e x'->Aa x x')
(h0:∀x e x',Aa w x->Φ x e x'->∃v,e= .returned v/\FN P md l Q S J b fuel li (a.put oi.dst v) x'):FN P md l Q S J b (fuel+1) listed a w:=by
 have key:∀(n:Nat) (D:List (Option Nat)) (y:World),cN D=n->D.length=J.length->Aa w y->gD b y J D->S y->wpAnyH P md l.toArray Q S (fuel+1+cN D) (lP J (D.map Option.isSome) listed) (aD J D a) y:=by
  intro n;induction n using Nat.strongRecOn with
  |ind n ih=>
  intro D y hn hD x hg hSy;rw[show fuel+1+cN D=fuel+cN D+1 by omega];have hp:D.map Option.isSome∈Sm J.length:=by have:=Ps (D.map Option.isSome);rwa[fXX,hD]at this
  have hc:=List.all_eq_true.1 hchk _ hp;rw[iZZ]at hc;obtain⟨e1,e2⟩:=Uq hs hi (D:=D) (a:=a) hoff;refine wpAnyH_ready rfl (fun e=>by rw[e]at hc;exact absurd hc.1 dC) (fun k hk=> ?_);have hk2:=List.all_eq_true.1 hc.2 k hk;simp only[Bool.or_eq_true,beq_iff_eq,List.contains_iff_mem]at hk2;rcases hk2 with rfl|hk2
  ·refine wpOp_step (by rw[aZZ];exact hi) (fun K' hK=> ?_)
   rw[if_pos (by rw[e2];exact hw)];refine Dp (by rw[e1];exact hv y) (hc0 y x) ?_;intro e x' h1;obtain⟨v,rfl,hf⟩:=h0 y e x' x h1;have hx:=hE _ _ _ h1;refine⟨v,rfl,hK _ _ ⟨hSx _ _ hSy hx,?_⟩⟩;rw[Zz (zJ hne),aV (vG hoff),hl];exact hf D x' hD At (Ve hx hg) (hSx _ _ hSy hx)
  obtain⟨q,j,hjq,hDq,rfl⟩:=Su hD hk2;obtain⟨oj,ho,hd,hgd,hnu,hvj⟩:=hJ.get hjq;have x1:Aa y (y.alloc (.cells j.zs.toArray j.T)):=(Aa.refl y).alloc _;refine wpOp_step (by rw[aZZ];exact ho) (fun K' hK=> ?_);rw[if_pos (by simp[Region.wanted,hgd])];unfold Oper.wp;rw[hvj];refine hK _ _ ⟨hSx _ _ hSy x1,?_⟩;rw[hd,Tb (X:=y.heap.size) hnd hjq hDq,Tj hnd hjq hDq];have hcn:=aP (X:=y.heap.size) hDq;have hlt:cN (D.set q (some y.heap.size))<n:=ω
  have h3:=ih _ hlt (D.set q (some y.heap.size)) _ rfl (by rw[eZZ];exact hD) (x.trans x1) (Tf (Aj.new y _ _) (Al hb x.size) hjq hDq (Ve x1 hg) (fun Y hY=>kB hD hg hY)) (hSx _ _ hSy x1);rw[show fuel+1+cN (D.set q (some y.heap.size))=fuel+cN D by omega]at h3;exact h3
 exact fun D y hD x hg hSy=>key _ D y rfl hD x hg hSy
theorem sH (hchk:((Sm J.length).all fun p=>p.all id||(!(Region.ready md l.toArray (lP J p listed)).isEmpty&&(Region.ready md l.toArray (lP J p listed)).all fun k=>(pA J p).contains k))=true)
  (hnd:nd J=true)(hJ:oT P l J)(hSx:∀x y,S x->Aa x y->S y)(hb:b.heap.size<=w.heap.size)
  (h:∀(D:List (Option Nat)) (y:World),D.length=J.length->cN D=0->Aa w y->gD b y J D->S y->wpAnyH P md l.toArray Q S fuel (lP J (D.map Option.isSome) listed) (aD J D a) y):FN P md l Q S J b fuel listed a w:=by
 have A0:∀D:List (Option Nat),(D.map Option.isSome).all id=true->cN D=0:=by
  intro D;induction D with
  |nil=>intro _;rfl
  |cons x D ih=>
   intro hh;cases x with
   |none=>simp at hh
   |some X=>exact ih (by simpa using hh)
 have key:∀(n:Nat) (D:List (Option Nat)) (y:World),cN D=n->D.length=J.length->Aa w y->gD b y J D->S y->wpAnyH P md l.toArray Q S (fuel+cN D) (lP J (D.map Option.isSome) listed) (aD J D a) y:=by
  intro n;induction n using Nat.strongRecOn with
  |ind n ih=>
  intro D y hn hD x hg A1;by_cases h0:cN D=0
  ·rw[h0]
   exact h D y hD h0 x hg A1
  have hp:D.map Option.isSome∈Sm J.length:=by have:=Ps (D.map Option.isSome);rwa[fXX,hD]at this
  have hc:=List.all_eq_true.1 hchk _ hp;rw[Bool.or_eq_true,iZZ]at hc;rcases hc with hc|hc
  ·exact absurd (A0 D hc) h0
  obtain⟨c,A8⟩:∃c,cN D=c+1:=⟨cN D-1,ω⟩;rw[A8,show fuel+(c+1)=fuel+c+1 by omega];refine wpAnyH_ready rfl (fun e=>by rw[e]at hc;exact absurd hc.1 dC) (fun k hk=> ?_);have A4:=List.all_eq_true.1 hc.2 k hk;rw[List.contains_iff_mem]at A4;obtain⟨q,j,A2,A3,rfl⟩:=Su hD A4;obtain⟨oj,ho,hd,A7,A9,A5⟩:=hJ.get A2;have x1:Aa y (y.alloc (.cells j.zs.toArray j.T)):=(Aa.refl y).alloc _;refine wpOp_step (by rw[aZZ];exact ho) (fun K' hK=> ?_);rw[if_pos (by simp[Region.wanted,A7])];unfold Oper.wp;rw[A5];refine hK _ _ ⟨hSx _ _ A1 x1,?_⟩;rw[hd,Tb (X:=y.heap.size) hnd A2 A3,Tj hnd A2 A3];have B0:=aP (X:=y.heap.size) A3;have A6:cN (D.set q (some y.heap.size))<n:=ω
  have h3:=ih _ A6 (D.set q (some y.heap.size)) _ rfl (by rw[eZZ];exact hD) (x.trans x1) (Tf (Aj.new y _ _) (Al hb x.size) A2 A3 (Ve x1 hg) (fun Y hY=>kB hD hg hY)) (hSx _ _ A1 x1);rw[show cN (D.set q (some y.heap.size))=c by omega]at h3;exact h3
 exact fun D y hD x hg A1=>key _ D y rfl hD x hg A1
theorem Hp.addFree{w0 w m g t cs}(h:Hp w0 w m)(hb:Aj w g t cs.toArray)(hf:∀(q k:Nat) (e:Et),m[q]?=some e->e.own=some k->k≠g)(hg:w0.heap.size<=g)(hn:Av cs):Hp w0 w (m++[.blk g t cs]):=
  h.add ⟨hg,hb,hn⟩ (fun i f hf2 k hk e=>by
    injection e with e
    exact hf i k f hf2 hk e.symm)
theorem aAB{D}(hl:D.length=2)(h:cN D=0):∃X Y,D=[some X,some Y]:=by
  match D,hl,h with
  | [some X,some Y],_,_=>exact⟨X,Y,rfl⟩
  | [none,_],_,h=>simp[cN]at h
  | [some _,none],_,h=>simp[cN]at h
theorem tG{D}(hl:D.length=3)(h:cN D=0):∃X Y Z,D=[some X,some Y,some Z]:=by
  match D,hl,h with
  | [some X,some Y,some Z],_,_=>exact⟨X,Y,Z,rfl⟩
  | [none,_,_],_,h=>simp[cN]at h
  | [some _,none,_],_,h=>simp[cN]at h
  | [some _,some _,none],_,h=>simp[cN]at h
theorem wG{j1 j2 w0 m lt}(hchk:((Sm 2).all fun p=>p.all id||(!(Region.ready md l.toArray (lP [j1,j2] p listed)).isEmpty&&(Region.ready md l.toArray (lP [j1,j2] p listed)).all fun k=>(pA [j1,j2] p).contains k))=true)
(hnd:nd [j1,j2]=true)(hJ:oT P l [j1,j2])(hSx:∀x y,S x->Aa x y->S y)(hb:b.heap.size<=w.heap.size)(hB:Hp w0 b m)(hH:Hp w0 w m)(hlt:lP [j1,j2] [true,true] listed=lt)
(h:∀X Y y,Aa w y->Hp w0 y (m++[.blk X j1.T j1.zs]++[.blk Y j2.T j2.zs])->b.heap.size<=X->b.heap.size<=Y->S y->wpAnyH P md l.toArray Q S fuel lt ((a.put j1.d (.pointer (π X))).put j2.d (.pointer (π Y))) y):FN P md l Q S [j1,j2] b fuel listed a w:=by
 refine sH hchk hnd hJ hSx hb (fun D y hD hc x hg hSy=> ?_);obtain⟨X,Y,rfl⟩:=aAB hD hc;obtain⟨⟨b1,z1,n1⟩,⟨b2,z2,_⟩,_⟩:=hg;have hlt':lP [j1,j2] (List.map Option.isSome [some X,some Y]) listed=lt:=hlt;rw[hlt'];have z0:=hB.ext.size;refine h X Y y x ?_ z1 z2 hSy;obtain⟨_,_,_,_,nu1,_⟩:=hJ.1;obtain⟨_,_,_,_,nu2,_⟩:=hJ.2.1;have h1:=(hH.step x).addFree b1 (fun q k e hq hk=>by have:=hB.lt hq hk;omega) (Al z0 z1) nu1;refine h1.addFree b2 (fun q k e hq hk=> ?_) (Al z0 z2) nu2;rcases List.mem_append.1 (bZZ hq)with hm|hm
 ·obtain⟨q2,hq2⟩:=List.mem_iff_getElem?.1 hm
  have:=hB.lt hq2 hk;omega
 rw[mXX]at hm;subst hm;injection hk with hk
 subst hk;intro e2;subst e2;exact n1 (List.mem_singleton.2 rfl)
theorem wF{j1 j2 j3 w0 m lt}(hchk:((Sm 3).all fun p=>p.all id||(!(Region.ready md l.toArray (lP [j1,j2,j3] p listed)).isEmpty&&(Region.ready md l.toArray (lP [j1,j2,j3] p listed)).all fun k=>(pA [j1,j2,j3] p).contains k))=true)
(hnd:nd [j1,j2,j3]=true)(hJ:oT P l [j1,j2,j3])(hSx:∀x y,S x->Aa x y->S y)(hb:b.heap.size<=w.heap.size)(hB:Hp w0 b m)(hH:Hp w0 w m)(hlt:lP [j1,j2,j3] [true,true,true] listed=lt)
(h:∀X Y Z y,Aa w y->Hp w0 y (m++[.blk X j1.T j1.zs]++[.blk Y j2.T j2.zs]++[.blk Z j3.T j3.zs])->b.heap.size<=X->b.heap.size<=Y->b.heap.size<=Z->S y->wpAnyH P md l.toArray Q S fuel lt (((a.put j1.d (.pointer (π X))).put j2.d (.pointer (π Y))).put j3.d (.pointer (π Z))) y):FN P md l Q S [j1,j2,j3] b fuel listed a w:=by
 refine sH hchk hnd hJ hSx hb (fun D y hD hc x hg hSy=> ?_);obtain⟨X,Y,Z,rfl⟩:=tG hD hc;obtain⟨⟨b1,z1,n1⟩,⟨b2,z2,n2⟩,⟨b3,z3,_⟩,_⟩:=hg;have hlt':lP [j1,j2,j3] (List.map Option.isSome [some X,some Y,some Z]) listed=lt:=hlt;rw[hlt'];have z0:=hB.ext.size;refine h X Y Z y x ?_ z1 z2 z3 hSy;obtain⟨_,_,_,_,nu1,_⟩:=hJ.1;obtain⟨_,_,_,_,nu2,_⟩:=hJ.2.1;obtain⟨_,_,_,_,nu3,_⟩:=hJ.2.2.1;have h1:=(hH.step x).addFree b1 (fun q k e hq hk=>by have:=hB.lt hq hk;omega) (Al z0 z1) nu1;have h2:Hp w0 y (m++[.blk X j1.T j1.zs]++[.blk Y j2.T j2.zs]):=by
  refine h1.addFree b2 (fun q k e hq hk=> ?_) (Al z0 z2) nu2;rcases List.mem_append.1 (bZZ hq)with hm|hm
  ·obtain⟨q2,hq2⟩:=List.mem_iff_getElem?.1 hm
   have:=hB.lt hq2 hk;omega
  rw[mXX]at hm;subst hm;injection hk with hk
  subst hk;intro e2;subst e2;exact n1 (by simp)
 refine h2.addFree b3 (fun q k e hq hk=> ?_) (Al z0 z3) nu3;rcases List.mem_append.1 (bZZ hq)with hm|hm
 ·rcases List.mem_append.1 hm with hm|hm
  ·obtain⟨q2,hq2⟩:=List.mem_iff_getElem?.1 hm
   have:=hB.lt hq2 hk;omega
  rw[mXX]at hm;subst hm;injection hk with hk
  subst hk;intro e2;subst e2;exact n1 (by simp)
 rw[mXX]at hm;subst hm;injection hk with hk
 subst hk;intro e2;subst e2;exact n2 (by simp)
end
section
variable {P:Program} {l:List Oper} {Q:Exit->Act->World->Prop} {md:Region.Mode} {S:World->Prop} {b w:World} {J:List FJ} {i:Nat} {fuel:Nat} {listed li:Array Bool} {a:Act} {oi:Oper} {v:Value}
theorem gN{f args}{Φ:World->Ending->World->Prop}(i li)(hJ:oT P l J)(hb:b.heap.size<=w.heap.size)(hc0:∀x,Aa w x->Calls P f args x (Φ x))(hE:∀x e x',Φ x e x'->Aa x x')(h0:∀x e x',Aa w x->Φ x e x'->∃v,e= .returned v/\FN P md l Q S J b fuel li (a.put oi.dst v) x')(hi:l[i]?=some oi:=by rfl)(hs:Region.noSelect l.toArray=true:=by kernel_rfl)(hchk:((Sm J.length).all fun p=> !(Region.ready md l.toArray (lP J p listed)).isEmpty&&(Region.ready md l.toArray (lP J p listed)).all fun k=>k==i||(pA J p).contains k)=true:=by kernel_rfl)(hne:(J.all fun j=>j.i != i)=true:=by kernel_rfl)(hoff:(J.all fun j=>Gj l oi j.d)=true:=by kernel_rfl)(hnd:nd J=true:=by kernel_rfl)(hSx:∀x y,S x->Aa x y->S y:=by intro x y h1 h2;exact h1.trans h2)(hw:Region.wanted oi (yielded l.toArray a.tmps)=true:=by rfl)(hv:∀x:World,(execOp a.eval oi).run P x= .ok (.enter f args) x:=by intro x_;go_simp)(hl:listed.setIfInBounds i true=li:=by kernel_rfl):FN P md l Q S J b (fuel+1) listed a w:=wH hi hs hchk hne hoff hnd hJ hSx hb hw hv hl hc0 hE h0
theorem fk{j oj}(t:oT P l J)(h1:l[j.i]?=some oj:=by rfl)(h2:oj.dst=j.d:=by rfl)(h3:oj.guard=none:=by rfl)(h4:Av j.zs:=by simp[Av])(h5:∀(ρ:Operand->Value) (x:World),(execOp ρ oj).run P x= .ok (.value (.pointer (π x.heap.size))) (x.alloc (.cells j.zs.toArray j.T)):=by intro r_ x_;go_simp):oT P l (j::J):=⟨⟨oj,h1,h2,h3,h4,h5⟩,t⟩
theorem aCU{j1 j2 w0 m}(lt)(hJ:oT P l [j1,j2])(hb:b.heap.size<=w.heap.size)(hB:Hp w0 b m)(hH:Hp w0 w m)(h:∀X Y y,Aa w y->Hp w0 y (m++[.blk X j1.T j1.zs]++[.blk Y j2.T j2.zs])->b.heap.size<=X->b.heap.size<=Y->S y->wpAnyH P md l.toArray Q S fuel lt ((a.put j1.d (.pointer (π X))).put j2.d (.pointer (π Y))) y)(hchk:((Sm 2).all fun p=>p.all id||(!(Region.ready md l.toArray (lP [j1,j2] p listed)).isEmpty&&(Region.ready md l.toArray (lP [j1,j2] p listed)).all fun k=>(pA [j1,j2] p).contains k))=true:=by kernel_rfl)(hnd:nd [j1,j2]=true:=by kernel_rfl)(hSx:∀x y,S x->Aa x y->S y:=by intro x y h1 h2;exact h1.trans h2)(hlt:lP [j1,j2] [true,true] listed=lt:=by kernel_rfl):FN P md l Q S [j1,j2] b fuel listed a w:=wG hchk hnd hJ hSx hb hB hH hlt h
theorem aDF{j1 j2 j3 w0 m}(lt)(hJ:oT P l [j1,j2,j3])(hb:b.heap.size<=w.heap.size)(hB:Hp w0 b m)(hH:Hp w0 w m)(h:∀X Y Z y,Aa w y->Hp w0 y (m++[.blk X j1.T j1.zs]++[.blk Y j2.T j2.zs]++[.blk Z j3.T j3.zs])->b.heap.size<=X->b.heap.size<=Y->b.heap.size<=Z->S y->wpAnyH P md l.toArray Q S fuel lt (((a.put j1.d (.pointer (π X))).put j2.d (.pointer (π Y))).put j3.d (.pointer (π Z))) y)(hchk:((Sm 3).all fun p=>p.all id||(!(Region.ready md l.toArray (lP [j1,j2,j3] p listed)).isEmpty&&(Region.ready md l.toArray (lP [j1,j2,j3] p listed)).all fun k=>(pA [j1,j2,j3] p).contains k))=true:=by kernel_rfl)(hnd:nd [j1,j2,j3]=true:=by kernel_rfl)(hSx:∀x y,S x->Aa x y->S y:=by intro x y h1 h2;exact h1.trans h2)(hlt:lP [j1,j2,j3] [true,true,true] listed=lt:=by kernel_rfl):FN P md l Q S [j1,j2,j3] b fuel listed a w:=wF hchk hnd hJ hSx hb hB hH hlt h
end
end
section
attribute [local go_sem ↓] Go.wp_at_zero Go.wp_at_succ Aq An
theorem Jo(a b w)(h1: -9223372036854775808<=a)(h2:a<=9223372036854775807)(h3: -9223372036854775808<=b)(h4:b<=9223372036854775807)(hb:b≠0):
    Calls prog 17 #[iV a,iV b] w fun e w'=>∃c,e= .returned (.tuple #[.agg c,iV 0])/\Ls w' c ((a:Rat)/(b:Rat))/\Aa w w':=by
  refine(Me a b w h1 h2 h3 h4 hb).mono fun e w' h=> ?_
  obtain⟨c,rfl,h3,h4⟩:=Lr.v h;exact⟨_,rfl,⟨c,rfl,by rw[<-Rat.divInt_eq_div];exact h3⟩,h4⟩
end
section
attribute [local go_sem ↓] Go.wp_at_zero Go.wp_at_succ Ed Ec Aq An
theorem Vv(u rs w)(hu:Cs w u rs)(hv:Gf rs=true)(hn:rs.length<=1048576):
  Calls prog 121 #[u,.agg #[iV 0,iV 0]] w fun e w'=>∃v,e= .returned v/\Tr w.heap.size w' v rs/\Aa w w':=by
 have HT:=zH (Hr hv);have B7:∀r,r∈rs->r.length<=4096:=fun r hr=>by
  obtain⟨k,hk⟩:=List.mem_iff_getElem?.1 hr;have h1:=Ih hk;have h2:=Ig rs (k+1);have h3:=HT.1;omega
 have F8:=zH B7;have HV:=zH hv;have HC:=zH (fun W (hW:Aa w W)=>Ck u rs W (hu.ext hW) hn (fun r hr=>Al (B7 r hr) (by decide)));have HU:=zH hu;obtain⟨Au,cu,rfl,_⟩:=hu;obtain⟨i0,hi,A8,A7,A6⟩:=info_parts zI;have HI:=zH (And.intro hi (And.intro A8 (And.intro A7 A6)));clear hi A8 A7 A6 B7;obtain⟨i1,hi,A8,A7,A6⟩:=info_parts zG;have HJ:=zH (And.intro hi (And.intro A8 (And.intro A7 A6)));clear hi A8 A7 A6 hv;go_enter func121,ntmps121
 have hB:=Aj.new w 52 #[iV 0,iV 0];have hE:Aa w (w.alloc (.cells #[iV 0,iV 0] 52)):=At.alloc _;go_upto_if 13 with(go_at_call 41;refine(HC.1 _ hE).mono ?_;rintro e w1 ⟨rfl,B6⟩)
 have F3:(!Gf rs)=false:=by rw[HV.1];rfl
 rw[F3];have E0:=zH (hE.trans B6);have C7:=zH (hB.ext B6);clear hB hE B6;generalize hX3:w.heap.size=X3 at C7⊢
 have G9:=zH hX3;clear hX3;go_wp2_with fail;go_loopg [5,16] rs.length (fun c v i wr=>∃(k:Nat) (v2:Value),k<=rs.length/\c=rs.length-k/\i= iV k/\v2=v/\Tr w.heap.size wr v2 (rs.take k)/\Aa w wr/\Aj wr X3 52 #[iV 0,iV 0]/\v2.ownBlock≠some X3)
 case atStart=>exact⟨0,_,dXX _,rfl,rfl,rfl,⟨[],Bg.nil _ _ _ _,rfl,fun i r h=>by simp at h⟩,E0.1,C7.1,by simp[Value.ownBlock]⟩
 clear E0 C7;obtain⟨k,v,hk,rfl,rfl,rfl,D2,hx,D9,D0⟩:=hrel;have C2:=zH D2;have HX:=zH hx;have HB:=zH D9;have E1:=zH D0;clear D2 hx D9 D0;by_cases hlt:k<rs.length
 ·have E8:(k:Int)<(rs.length:Int):=ω
  obtain⟨r,hr⟩:∃r,rs[k]?=some r:=⟨_,aQQ hlt⟩;have E7:∃g A5,Au=some ⟨g,A5,none⟩/\∃B cb,w.cell? ⟨g,A5+k,none⟩=some (.slice B r.length cb)/\Hj w (.slice B r.length cb) r:=by
   obtain⟨A2,c2,A4,h2⟩:=HU.1;injection A4 with e1 _ _
   obtain⟨g,A5,h3,h4⟩:=h2 ω;obtain⟨B,cb,h5,h6⟩:=h4 k r hr;exact⟨g,A5,e1.trans h3,B,cb,h5,h6⟩
  obtain⟨g,A5,rfl,B,cb,D7,D5⟩:=E7;have c1:=HX.1.get D7;have HP:=zH (D5.ext HX.1);have F9:=zH hr;have G5:=F8.1 r (bZZ hr);have C4:=zH hlt;have F6:=zH (show rs.take (k+1)=rs.take k++[r]by rw[iQQ hlt];congr 1;obtain⟨_,h⟩:=List.getElem?_eq_some_iff.1 hr;rw[h]);have D6:(rs.take k).length=k:=by rw[eQQ];omega
  have E3:=zH D6;clear D7 D5 hr hlt D6;generalize wr=W0 at*;go_wp2_with fail;go_loopg [8,22] r.length (fun c u i wx=>∃(j:Nat) (u2:Value),j<=r.length/\c=r.length-j/\i= iV j/\u2=u/\Bg wx W0.heap.size 52 2 u2 (r.take j).length (Gi (r.take j))/\Aa W0 wx)
  case atStart=>exact⟨0,_,dXX _,rfl,rfl,rfl,Bg.nil _ _ _ _,Aa.refl _⟩
  clear c1;obtain⟨j,v8,hj,rfl,rfl,rfl,A9,C9⟩:=hrel;have A1:=zH A9;have B2:=zH C9;clear A9 C9;by_cases hjl:j<r.length
  ·have E9:(j:Int)<(r.length:Int):=ω
   obtain⟨p,hp⟩:∃p,r[j]?=some p:=⟨_,aQQ hjl⟩;have F2:∃gb ob,B=some ⟨gb,ob,none⟩/\wr.cell? ⟨gb,ob+j*2,none⟩=some (iV p.1)/\wr.cell? ⟨gb,ob+j*2+1,none⟩=some (iV p.2):=by
    obtain⟨A2,c2,A4,h2⟩:=HP.1;injection A4 with e1 _ _
    obtain⟨gb,ob,h3,h4⟩:=h2 (by rintro rfl;simp at hjl);obtain⟨h5,h6⟩:=(h4.ext B2.1) j hjl;have F1:r.getD j (0,0)=p:=by obtain⟨_,h⟩:=List.getElem?_eq_some_iff.1 hp;simp[List.getD,hjl,h]
    rw[F1]at h5 h6;exact⟨gb,ob,e1.trans h3,h5,h6⟩
   obtain⟨gb,ob,rfl,q1,q2⟩:=F2;have G1:=zH (yT HV.1 F9.1 hp);have E4:=zH hjl;have F7:=zH (show r.take (j+1)=r.take j++[p]by rw[iQQ hjl];congr 1;obtain⟨_,h⟩:=List.getElem?_eq_some_iff.1 hp;rw[h]);have B8:(r.take j).length=j:=by rw[eQQ];omega
   have G3:=zH B8;have E2:=zH (show World.rangeAt wr gb (ob+j*2) [iV p.1,iV p.2]from fun i v hv=>by
    match i,hv with
    |0,hv=>simp at hv;rw[<-hv];exact q1
    |1,hv=>simp at hv;rw[<-hv];exact q2)
   rw[B8]at A1;clear hp hjl q1 q2 B8;go_upto_region 10 with fail;refine wp_region_lit ?_;apply zq (.pointer (some ⟨gb,ob+j*2,none⟩));refine Cn (by rfl) (wp_load_mid _ _ (by rfl) gb (ob+j*2) (by rfl) [iV p.1,iV p.2] _ E2.1 underlying52 (by rfl) (by kernel_rfl) ?_);try simp only[ζ]
   refine zp (w':=wr.alloc (.cells #[iV 0,iV 0] 52)) (.pointer (π wr.heap.size)) (by go_simp) ?_;refine pO #[iV p.1,iV p.2] (Aj.new wr _ _) rfl (by kernel_rfl) (all_oneCell_toArray (rB p)) ?_
   (try simp only[Act.put])
   obtain⟨B5,C8⟩:=Sz wr 52 #[iV 0,iV 0] #[iV p.1,iV p.2] rfl;generalize (wr.alloc (.cells #[iV 0,iV 0] 52)).setCells wr.heap.size 0 (#[iV p.1,iV p.2]:Array Value).toList=w4 at*;generalize wr.heap.size=G8 at*;have C1:=zH (B2.1.trans B5);have C6:=zH C8;have A3:=zH (A1.1.ext B5);clear B5 C8 E2 A1;go_upto_region 11 with fail
   refine wp_region_lit ?_;refine zq (v8) ?_;refine pL C6.1 underlying52 (by kernel_rfl) ?_;try simp only[ζ]
   refine pL (HB.1.ext C1.1) underlying52 (by kernel_rfl) ?_;try simp only[ζ]
   refine Gv (by rfl) (by go_simp) (tQ p.1 p.2 _ G1.1) ?_;rintro e w5 ⟨rfl,hx⟩;have C5:=zH (show Aa w4 w5 from((Aa.refl w4)).trans hx);clear hx;refine⟨_,rfl,?_⟩;try simp only[ζ]
   have A0:Aa w4 (w5.alloc (.cells #[iV p.1,iV p.2] 52)):=C5.1.alloc _;have B0:=(C1.1.trans A0).size;have G7:j<=4096:=ω
   refine zp (w':=(w5.alloc (.cells #[iV p.1,iV p.2] 52))) (.slice (π w5.heap.size) 1 1) (by go_simp) ?_;refine Cn (by rfl) (Eu _ _ 53 (by rfl) W0.heap.size 52 i0 _ 2 16 underlying53 HI.1.1 HI.1.2.1 HI.1.2.2.1 HI.1.2.2.2 rfl (by decide) rD _ j (Gi (r.take j)) (by rfl) (A3.1.ext A0) ⟨w5.heap.size,0,none⟩ 1 1 [iV p.1,iV p.2] (by rfl) rfl (uC _ _ _ _) (rB p) (vH p) (by decide) (by unfold maxLen;omega) ω B0 ?_);intro gx cx w8 hf h2 h3 h4;try simp only[ζ]
   have C3:=zH (show Bg w8 W0.heap.size 52 2 (.slice (π gx) (j+1) cx) (r.take (j+1)).length (Gi (r.take (j+1)))by rw[F7.1,Zm,aXX,G3.1];exact h2);have C0:=zH (show Aa W0 w8 from(C1.1.trans A0).grown h3 (fun j hj=>(A3.1.ext A0).block j hj));clear h2 h3 h4 hf A0 B0;refine zp (w':=w8) (.slice (π gx) (j+1) cx) (by go_simp) ?_;go_wp2_with fail
   go_roundg (r.length-(j+1))
   case measure=>have:=E4.1;omega
   case rel=>exact⟨j+1,_,E4.1,rfl,by go_num,rfl,C3.1,C0.1⟩
  obtain rfl:j=r.length:=ω;have F0:¬(r.length:Int)<(r.length:Int):=ω;obtain⟨Bn,cn,rfl,D4,D8⟩:=Bg.pts (ps:=r) (by have h:=A1.1;rwa[cQQ (Cp _)]at h);have G0:=zH D4;have E5:=zH D8;have B3:=zH (C2.1.ext B2.1);have B1:=zH (HX.1.trans B2.1);have E6:=zH (HB.1.ext B2.1);have G2:=zH (show∀A,Bn=some A->A.block<wr.heap.size from fun A hA=>by
   subst hA;obtain⟨_,⟨hv,_⟩|⟨g2,c2,r2,hv,_,B9,_⟩⟩:=A1.1
   ·cases hv
   injection hv with e1 _ _;injection e1 with e1;rw[e1];exact B9.lt)
  have F5:=zH (show∀j,v.ownBlock=some j->j<W0.heap.size from fun j hj=>by
   obtain⟨vs,h1,_⟩:=C2.1;obtain⟨_,⟨rfl,_⟩|⟨g2,c2,r2,rfl,_,B9,_⟩⟩:=h1
   ·simp[Value.ownBlock]at hj
   simp[Value.ownBlock]at hj;rw[<-hj];exact B9.lt)
  clear D4 D8 A1;go_upto_region 13 with fail;refine wp_region_lit ?_;refine qV (v) ?_;apply zq (.slice Bn r.length cn);have A0:Aa wr (wr.alloc (.cells #[.slice Bn r.length cn] 53)):=At.alloc _;obtain⟨vs,B4,A4,D1⟩:=B3.1.ext A0;have B0:=(B1.1.trans A0).size;have G6:k<=1048576:=by have:=C4.1;omega
  refine zp (w':=(wr.alloc (.cells #[.slice Bn r.length cn] 53))) (.slice (π wr.heap.size) 1 1) (by go_simp) ?_;refine Cn (by rfl) (Eu _ _ 31 (by rfl) w.heap.size 53 i1 _ 1 24 underlying31 HJ.1.1 HJ.1.2.1 HJ.1.2.2.1 HJ.1.2.2.2 rfl (by decide) rC _ k vs (by rfl) (by have h:=B4;rwa[E3.1]at h) ⟨wr.heap.size,0,none⟩ 1 1 [.slice Bn r.length cn] (by rfl) rfl (Hq _ _ _) (by simp[Value.oneCell']) (by intro x hx q;simp at hx;rw[hx];simp) (by decide) (by unfold maxLen;omega) ω B0 ?_);intro gx cx w8 hf h2 h3 h4;try simp only[ζ]
  skip
  have D3:=Tr.snoc (B3.1.ext A0) E3.1 (r:=r) (s:= .slice Bn r.length cn) rfl (G0.1.ext A0) (fun A hA=>⟨fun e=>by have q1:=F5.1 _ e;have q2:=E5.1 A hA;omega,kQQ (G2.1 A hA) A0.size⟩) (fun A hA=>by have q2:=E5.1 A hA;have q3:=HX.1.size;omega) vs ⟨vs,B4,A4,rfl,D1⟩ h2 h3 hf;have C3:=zH (show Tr w.heap.size w8 (.slice (π gx) (k+1) cx) (rs.take (k+1))by rw[F6.1];exact D3);have C0:=zH (show Aa w w8 from(B1.1.trans A0).grown h3 (fun j hj=>B4.block j hj));have G4:=zH ((E6.1.ext A0).grown h3 E1.1);have F4:=zH (show(Value.slice (π gx) (k+1) cx).ownBlock≠some X3 from fun e=>by simp[Value.ownBlock]at e;rcases hf with hf|hf;exact E1.1 (by rw[<-e];exact hf);have:=E6.1.lt;have:=A0.size;omega);clear h2 h3 h4 hf A0 B0 D3 B4 A4 D1;refine zp (w':=w8) (.slice (π gx) (k+1) cx) (by go_simp) ?_;go_wp2_with fail
  go_roundg (rs.length-(k+1))
  case measure=>have:=C4.1;omega
  case rel=>exact⟨k+1,_,C4.1,rfl,by go_num,rfl,C3.1,C0.1,G4.1,F4.1⟩
 obtain rfl:k=rs.length:=ω;have F0:¬(rs.length:Int)<(rs.length:Int):=ω;have HR:=zH (show Tr w.heap.size wr v rs from by have h:=C2.1;rwa[cQQ (Cp _)]at h);go_wp2_with fail;go_ret;exact⟨_,rfl,HR.1,HX.1⟩
end
section
def Mq (r:Dr)(i:Nat):Option ((Int×Int)×(Int×Int)):=
  match r[i]?,r[(i+1)%r.length]?with
  |some a,some b=>if a=b then none else some (a,b)
  |_,_=>none
def El (r:Dr)(n:Nat):List ((Int×Int)×(Int×Int)):=(List.range n).filterMap (Mq r)
def Cd (rs:List Dr):List ((Int×Int)×(Int×Int)):=rs.flatMap fun r=>El r r.length
theorem Sf{r i a b}(ha:r[i]?=some a)(hb:r[(i+1)%r.length]?=some b):Mq r i=if a=b then none else some (a,b):=by
  unfold Mq;rw[ha,hb]
theorem Ko{r n}(h:Mq r n=none):El r (n+1)=El r n:=by
  unfold El;rw[List.range_succ,List.filterMap_append];simp[h]
theorem Ew{r n e}(h:Mq r n=some e):El r (n+1)=El r n++[e]:=by
  unfold El;rw[List.range_succ,List.filterMap_append];simp[h]
theorem lU{r n m}(h:n<=m):El r n<+:El r m:=by
  unfold El;obtain⟨d,rfl⟩:=Nat.exists_eq_add_of_le h;rw[List.range_add,List.filterMap_append];exact List.prefix_append _ _
theorem Mp{rs:List Dr}{k r}(h:rs[k]?=some r):Cd (rs.take (k+1))=Cd (rs.take k)++El r r.length:=by
  unfold Cd;rw[List.take_add_one,h];simp
theorem We(rs k):Cd (rs.take k)<+:Cd rs:=by
  conv=>rhs;rw[<-List.take_append_drop k rs]
  unfold Cd;rw[List.flatMap_append];exact List.prefix_append _ _
theorem Nd{rs k n r}(h:rs[k]?=some r)(hn:n<=r.length):Cd (rs.take k)++El r n<+:Cd rs:=by
  refine List.IsPrefix.trans ?_ (We rs (k+1));rw[Mp h];exact(List.prefix_append_right_inj _).2 (lU hn)
theorem gJ(r n):(El r n).length<=n:=by
  unfold El;have:=List.length_filterMap_le (Mq r) (List.range n);simpa using this
theorem nW (rs:List Dr):∀n:Nat,rs.foldl (fun n r=>n+r.length) n=n+rs.foldl (fun n r=>n+r.length) 0:=by
  induction rs with
  |nil=>intro n;simp
  |cons r rs ih=>intro n;rw[List.foldl_cons,List.foldl_cons,ih (n+r.length),ih (0+r.length)];omega
theorem Eg(rs):(Cd rs).length<=Gy rs:=by
  unfold Gy;induction rs with
  |nil=>simp[Cd]
  | cons r rs ih=>
    have h1:=gJ r r.length;have h2:Cd (r::rs)=El r r.length++Cd rs:=by simp[Cd]
    rw[h2,aXX,List.foldl_cons,nW];omega
end
section
attribute [local go_sem ↓] Go.wp_at_zero Go.wp_at_succ Ed Ec
theorem Ea(u rs w)(hu:Cs w u rs)(hn:rs.length<=1048576)(hr:∀r,r∈rs->r.length<=1048576):
    Calls prog 38 #[u] w fun e w'=>e= .returned (.bool (Gf rs))/\Aa w w':=by
  obtain⟨A,cu,rfl,hA⟩:=hu;have HA:=zH hA;have HR:=zH hr;clear hA hr;go_enter func38,ntmps38
  go_wp2_with fail;go_loopg [3,4] rs.length (fun c n i wr=>∃k m:Nat,k<=rs.length/\c=rs.length-k/\i= iV k/\n= iV m/\m=Gy (rs.take k)/\m<=4096/\(∀i r,i<k->rs[i]?=some r->Dk r=true)/\Aa w wr)
  case atStart=>exact⟨0,0,dXX _,rfl,rfl,rfl,rfl,dXX _,fun i r h=>absurd h (Nat.not_lt_zero _),Aa.refl _⟩
  obtain⟨k,m,hk,rfl,rfl,rfl,hm,C6,ho,hx⟩:=hrel;have HO:=zH ho;have HX:=zH hx;have HM:=zH hm;clear ho hx hm;by_cases hlt:k<rs.length
  · obtain⟨r,hr⟩:∃r,rs[k]?=some r:=⟨_,aQQ hlt⟩
    obtain⟨g,C4,rfl,hp⟩:=HA.1 ω;obtain⟨B,cb,h1,h2⟩:=hp k r hr;have c1:=HX.1.get h1;have C3:=zH c1;have HP:=zH (h2.ext HX.1);have C2:=zH (HR.1 r (bZZ hr));have A4:=zH hr;have B9:=zH (Ih hr);have B5:(k:Int)<(rs.length:Int):=ω
    have B1:=zH hlt;have C5:=C2.1;obtain⟨m2,A1⟩:∃m2,m2=m+r.length:=⟨_,rfl⟩;have e1:(m:Int)+(r.length:Int)=(m2:Int):=ω
    have wm:IntKind.i64.wrap (m2:Int)=(m2:Int):=by rw[IntKind.wrap_i64];omega
    have ws:IntKind.i64.wrap (4096-(m:Int))=4096-(m:Int):=by rw[IntKind.wrap_i64];omega
    have B0:=zH (show m2=Gy (rs.take (k+1))by rw[B9.1,<-HM.1];exact A1);have C8:=zH A1;clear hp h1 h2 hr hlt;by_cases hbig:4096<m2
    · have B7:4096-(m:Int)<(r.length:Int):=ω
      have HF:=zH (Pm A4.1 (Or.inl (by rw[<-B0.1];exact hbig)));clear A1;go_wp2_with fail;go_ret;exact⟨by rw[HF.1];rfl,HX.1⟩
    have B7:¬4096-(m:Int)<(r.length:Int):=ω;clear A1;go_wp2_with fail;generalize wr=W0 at*;go_loopg [5] r.length (fun c j wi=>∃t:Nat,t<=r.length/\c=r.length-t/\j= iV t/\Dk (r.take t)=true/\Aa W0 wi)
    case atStart=>exact⟨0,dXX _,rfl,rfl,rfl,Aa.refl _⟩
    obtain⟨t,ht,rfl,rfl,A7,A5⟩:=hrel;have A9:=zH A7;have A0:=zH A5;have c2:=A0.1.get C3.1;clear A7 A5 c1;by_cases hlt3:t<r.length
    · obtain⟨A2,B8,ev,hv⟩:=HP.1
      injection ev with ev1 ev2 ev3
      subst ev1 ev3;clear ev2;obtain⟨g2,B3,rfl,A6⟩:=hv (by rintro rfl;simp at hlt3);obtain⟨d0,d1⟩:=(A6.ext A0.1) t hlt3;have A8:r.getD t (0,0)=r[t]:=by simp[List.getD,hlt3]
      rw[A8]at d0 d1;have C0:=zH (gR r t hlt3 A9.1);have C1:=zH (Ny r t hlt3);have B4:(t:Int)<(r.length:Int):=ω
      have B2:=zH hlt3;generalize r[t]=x at*;clear A6 hv A8 hlt3;by_cases hok:De x.1 x.2=true
      · have hb:(!De x.1 x.2)=false:=by rw[hok];rfl
        go_wp2_with (go_at_call 77;refine(Dx _ _ _).mono ?_;rintro e w2 ⟨rfl,A3⟩)
        go_roundg (r.length-(t+1))
        case measure=>have:=B2.1;omega
        case rel=>exact⟨t+1,B2.1,rfl,by go_num,C0.1 hok,A0.1.trans A3⟩
      replace hok:=eq_false_of_ne_true hok;have hb:(!De x.1 x.2)=true:=by rw[hok];rfl
      have HF:=zH (Pm A4.1 (Or.inr (C1.1 hok)));go_wp2_with (go_at_call 77;refine(Dx _ _ _).mono ?_;rintro e w2 ⟨rfl,A3⟩)
      go_ret;exact⟨by rw[HF.1];rfl,(HX.1.trans A0.1).trans A3⟩
    have B6:¬(t:Int)<(r.length:Int):=ω;have HE:=zH (Qv r t ht hlt3 A9.1);go_wp2_with fail;go_roundg (rs.length-(k+1))
    case measure=>have:=B1.1;omega
    case rel=>exact⟨k+1,m2,B1.1,rfl,by go_num,rfl,B0.1,ω,fun i r2 hi hr2=>by
      rcases Nat.lt_or_ge i k with h|h
      · exact HO.1 i r2 h hr2
      obtain rfl:i=k:=ω;rw[A4.1]at hr2;injection hr2 with hr2
      rw[<-hr2];exact HE.1,HX.1.trans A0.1⟩
  obtain rfl:k=rs.length:=ω;have HF:=zH (jK (rs:=rs) (by have h:=HM.1;rw[cQQ (Cp _)]at h;omega) HO.1);have C7:¬(rs.length:Int)<(rs.length:Int):=ω
  go_wp2_with fail;go_ret;exact⟨by rw[HF.1];rfl,HX.1⟩
end
section
attribute [local go_sem ↓] Go.wp_at_zero Go.wp_at_succ Aq An
end
section
attribute [local go_sem ↓] Go.wp_at_zero Go.wp_at_succ
theorem Rb(n w):Calls prog 197 #[iV n] w fun e w'=>e= .returned φ/\Aa w w':=by
  have A0:(n != n)=false:=by simp
  go_enter func197,ntmps197;go_wp2_with fail;go_ret;exact⟨by first|rfl|simp,Aa.refl _⟩
def Om (a b:Int):Int:=if a<b then-1 else if b<a then 1 else 0
theorem eR(a b w):Calls prog 180 #[iV a,iV b] w fun e w'=>e= .returned (iV (Om a b))/\Aa w w':=by
 by_cases h1:a<b
 ·have e:Om a b= -1:=by unfold Om;rw[if_pos h1]
  rw[e];go_enter func180,ntmps180;go_wp2_with (go_at_call 197;refine(Rb _ _).mono ?_;rintro e w2 ⟨rfl,A0⟩)
  go_ret;exact⟨rfl,At.trans (by first|assumption|(apply Aa.trans<;>assumption))⟩
 by_cases h2:b<a
 ·have e:Om a b=1:=by unfold Om;rw[if_neg h1,if_pos h2]
  rw[e];go_enter func180,ntmps180;go_wp2_with (go_at_call 197;refine(Rb _ _).mono ?_;rintro e w2 ⟨rfl,A0⟩)
  go_ret;exact⟨rfl,At.trans (by first|assumption|(apply Aa.trans<;>assumption))⟩
 have e:Om a b=0:=by unfold Om;rw[if_neg h1,if_neg h2]
 rw[e];go_enter func180,ntmps180;go_wp2_with (go_at_call 197;refine(Rb _ _).mono ?_;rintro e w2 ⟨rfl,A0⟩)
 go_ret;exact⟨rfl,At.trans (by first|assumption|(apply Aa.trans<;>assumption))⟩
def yQ (a b:Int):Int:=if a=0 then b else a
theorem yP(g off c a b w)(h0:w.cell? ⟨g,off,none⟩=some (iV a))(h1:w.cell? ⟨g,off+1,none⟩=some (iV b)):
  Calls prog 179 #[.slice (some ⟨g,off,none⟩) 2 c] w fun e w'=>e= .returned (iV (yQ a b))/\Aa w w':=by
 go_enter func179,ntmps179;go_wp2_with fail;go_loopg [8] 2 (fun d i wr=>∃k:Nat,k<=2/\d=2-k/\i= iV k/\(0<k->a=0)/\(1<k->b=0)/\Aa w wr)
 case atStart=>exact⟨0,ω,rfl,rfl,ω,ω,Aa.refl _⟩
 obtain⟨k,hk,rfl,rfl,ha,hb,hx⟩:=hrel;have HX:=zH hx;have k0:=hx.get h0;have k1:=hx.get h1;clear hx;rcases(show k=0\/k=1\/k=2 by omega)with rfl|rfl|rfl
 ·by_cases hz:a=0
  ·subst hz
   go_wp2_with fail;go_roundg 1
   case measure=>omega
   case rel=>exact⟨1,ω,rfl,by first|rfl|go_num,by simp,ω,HX.1⟩
  clear ha hb;go_wp2_with fail;go_ret;exact⟨by simp[yQ,hz],HX.1⟩
 ·have hz:=ha (ω)
  subst hz;by_cases hz:b=0
  ·subst hz
   clear ha hb;go_wp2_with fail;go_roundg 0
   case measure=>omega
   case rel=>exact⟨2,ω,rfl,by first|rfl|go_num,by simp,by simp,HX.1⟩
  clear ha hb;go_wp2_with fail;go_ret;exact⟨by simp[yQ],HX.1⟩
 have hz:=ha ω;have A0:=hb ω;subst hz;subst A0;clear ha hb;go_wp2_with fail
 go_ret;exact⟨by simp[yQ],HX.1⟩
end
section
attribute [local go_sem ↓] Go.wp_at_zero Go.wp_at_succ Aq An
def Qf (p:Rat)(i:Int)(q:Rat)(j:Int):Bool:=decide (p<q)||(decide (p=q)&&decide (j<i))
end
section
theorem eS{a b}:Om a b<0↔a<b:=by
  unfold Om;split
  · omega
  split<;>omega
theorem yO(p q i j):decide (yQ (Di p q) (Om j i)<0)=Qf p i q j:=by
 unfold yQ Qf;by_cases h1:Di p q=0
 ·have h2:=rcmp_eq.1 h1
  subst h2;rw[if_pos h1];have h3:¬p<p:=by grind
  by_cases h4:j<i
  ·have h5:Om j i<0:=eS.2 h4
   simp[h4,h5]
  have h5:¬Om j i<0:=fun k=>h4 (eS.1 k)
  simp[h3,h4,h5]
 have h2:¬p=q:=fun k=>h1 (rcmp_eq.2 k)
 rw[if_neg h1];by_cases h3:p<q
 ·have h4:=rcmp_lt.2 h3
  simp[h3,h4]
 have h4:¬Di p q<0:=fun k=>h3 (rcmp_lt.1 k)
 simp[h2,h3,h4]
abbrev QI:=Rat×Int
def vT (a b:QI):Bool:=Qf a.1 a.2 b.1 b.2
theorem Pu{a b}:vT a b=true↔a.1<b.1\/(a.1=b.1/\b.2<a.2):=by
  unfold vT Qf;simp
theorem aCQ:Stb.Wk vT:=by
  refine⟨fun x y h=> ?_,fun x y z h1 h2=> ?_⟩
  · rw[Bool.eq_false_iff]
    intro k;have h:=Pu.1 h;have k:=Pu.1 k;grind
  rw[Bool.eq_false_iff]at h1 h2⊢;intro k;have k:=Pu.1 k;have h1:¬_:=fun q=>h1 (Pu.2 q)
  have h2:¬_:=fun q=>h2 (Pu.2 q)
  grind
end
end Go.Proofs.YtlipfipniibpoaaGreat
