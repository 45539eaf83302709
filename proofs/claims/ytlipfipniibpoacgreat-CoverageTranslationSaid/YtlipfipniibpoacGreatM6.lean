import Derived.Shelf.SlSortCmp.NoneTotal
import Derived.Sort.CutIn
import Derived.Sort.LoopGhostIn
import Derived.Maps.Own
import Derived.Maps.OwnOps
import Derived.Test.YtlipfipniibpoacGreatM5
set_option maxRecDepth 100000
set_option maxHeartbeats 4000000
namespace Go.Proofs.YtlipfipniibpoacGreat
open Go.RowKit
open Go.Proofs.Tryz
section
open Go.RowKit Go.Shelf Go.Lib Go.Sort
theorem uF {W W':World}(h:Aa W W')(hd:W.drawn<=W'.drawn):∃q os',W'=grow (W.drewN q) os':=by
 refine⟨W'.drawn-W.drawn,W'.heap.extract W.heap.size W'.heap.size,?_⟩;have e:W'.heap=W.heap++W'.heap.extract W.heap.size W'.heap.size:=by
  have hs:=h.size;apply Array.ext_getElem?;intro i;rw[Array.getElem?_append];by_cases hi:i<W.heap.size
  ·rw[if_pos hi]
   exact h.block i hi
  rw[if_neg hi,Array.getElem?_extract];have A0:min W'.heap.size W'.heap.size-W.heap.size=W'.heap.size-W.heap.size:=ω
  by_cases h2:i<W'.heap.size
  ·rw[if_pos ω]
   congr 1;omega
  rw[if_neg ω,Array.getElem?_eq_none ω]
 have h1:=h.os;have h2:=h.tape;have h3:=h.output;cases W' with
 |mk hp tp dr o ou=>
  simp only at e h1 h2 h3 hd;subst h1;subst h2;subst h3;simp only[grow,World.drewN];rw[<-e];congr 1;omega
section
variable {α:Type} {enc:α->List Value} {k:Nat}
theorem Za [Inhabited α](hk:∀x,(enc x).length=k)(h0:0<k)(xs:List α)(j:Nat)(hj:j<xs.length*k):(xs.flatMap enc)[j]?=some ((enc xs.toArray[j/k]!)[j%k]!):=by
 have h1:j/k<xs.length:=Nat.div_lt_of_lt_mul (by rw[lZZ];exact hj);have e1:xs[j/k]?=some xs.toArray[j/k]! :=by
  rw[getElem!_pos xs.toArray (j/k) (by simpa using h1),aQQ h1];simp
 have h2:j%k<(enc xs.toArray[j/k]!).length:=by rw[hk];exact Nat.mod_lt _ h0
 have h3:=Hk hk xs (j/k) _ e1 (j%k) _ (aQQ h2);rw[lZZ,Nat.div_add_mod]at h3;rw[h3,getElem!_pos (enc xs.toArray[j/k]!) (j%k) h2]
theorem iO [Inhabited α](hk:∀x,(enc x).length=k)(h0:0<k){w:World}{g:Nat}{T:TypeId}{xs:List α}{rest:List Value}(hb:Ad w g T (xs.flatMap enc++rest).toArray):HoldsK enc k w g 0 xs.toArray:=by
  intro j hj;have A0:j<xs.length*k:=by simpa using hj
  refine⟨?_,hb.frozen _⟩;have A1:j<xs.toArray.size*k:=by simpa using A0
  rw[eZZ,hb.cell,aZZ,dQQ (by rw[Do hk];exact A0),Za hk h0 xs j A0,get_flatK enc k _ j A1];rfl
theorem Me [Inhabited α](w:World)(g off m:Nat)(dk:Array α)(os:Array Obj)(_hg:g<w.heap.size):Bj g w (sortWorldK enc k w g off m dk os):=by
  have hs:(putRowK enc k (Sort.ahead w m) g off dk).heap.size=w.heap.size:=size_putRowK enc k _ _ _ _;refine⟨rfl,rfl,rfl,?_,fun i hi hne=> ?_⟩
  · unfold sortWorldK
    rw[size_grow,hs];exact Nat.le_add_right _ _
  unfold sortWorldK;rw[heap_grow_old _ _ (by rw[hs];exact hi)];show(w.heap.modify g _)[i]?=_;rw[Array.getElem?_modify,if_neg (fun e=>hne (by rw[e]))]
theorem Wm [Inhabited α](hk:∀x,(enc x).length=k)(h0:0<k){w:World}{g:Nat}{T:TypeId}{xs ys:List α}{rest:List Value}(hb:Ad w g T (xs.flatMap enc++rest).toArray)(hl:ys.length=xs.length)(m:Nat)(os:Array Obj):
  Ad (sortWorldK enc k w g 0 m ys.toArray os) g T (ys.flatMap enc++rest).toArray:=by
 have hg:=hb.lt;have hs:(putRowK enc k (Sort.ahead w m) g 0 ys.toArray).heap.size=w.heap.size:=size_putRowK enc k _ _ _ _;unfold sortWorldK Ad;rw[heap_grow_old _ _ (by rw[hs];exact hg)];show(w.heap.modify g (onCells (putCells id 0 (flatK enc k ys.toArray))))[g]?=_;have A5:w.heap[g]?=some (.cells (xs.flatMap enc++rest).toArray T (0,0)):=hb;rw[Array.getElem?_modify,if_pos rfl,A5];simp only[Option.map_some,onCells];congr 2;apply Array.ext_getElem?;intro j;unfold putCells;rw[Array.getElem?_mapIdx,aZZ,aZZ];have A4:(flatK enc k ys.toArray).size=ys.length*k:=by simp
 have A3:(xs.flatMap enc).length=xs.length*k:=Do hk xs;have A2:(ys.flatMap enc).length=ys.length*k:=Do hk ys;by_cases hj:j<ys.length*k
 ·have A0:j<(xs.flatMap enc).length:=by rw[A3,<-hl];exact hj
  rw[dQQ A0,aQQ A0,dQQ (by rw[A2];exact hj),Za hk h0 ys j hj];simp only[Option.map_some];rw[if_pos (by rw[A4];omega),Nat.sub_zero,get_flatK enc k _ j (by simpa using hj)];rfl
 have A1:¬(0<=j/\j<0+(flatK enc k ys.toArray).size):=by rw[A4];omega
 have A0:(xs.flatMap enc).length<=j:=by rw[A3,<-hl];omega
 rw[cZZ A0,cZZ (by rw[A2];omega),A3,A2,hl];cases (rest[j-xs.length*k]?)with
 |none=>rfl
 |some v=>simp only[Option.map_some];rw[if_neg A1]
end
theorem mQ {ρ:Ren}(LL:SlLaysF0.n6 prog ρ)(k:Nat)(h0:0<k)(aE:∀w,(isAgg (ρ.t 24)).run prog w= .ok true w)(zE:∀w,(Go.sizeOf (ρ.t 24)).run prog w= .ok k w){α:Type}(enc:α->List Value)(hk:∀x,(enc x).length=k)
  (h1:∀x,∀v∈enc x,v.oneCell'=true)(hu:∀x,Aq (enc x))(Ok:World->α->Prop)(hOk:∀{w w' x},Ok w x->Af w w'->Ok w' x)(cf:α->α->Int)
  (hO1:∀x,¬cf x x<0)(hO2:∀x y z,cf x y<0->cf y z<0->cf x z<0)(hO3:∀x y z,¬cf x y<0->¬cf y z<0->¬cf x z<0)(f:Nat)(eg:∀args w,(callFunc f args).run prog w= .ok (.enter f args) w)
  (hcmp:∀w x y,Ok w x->Ok w y->Calls prog f #[.agg (enc x).toArray,.agg (enc y).toArray] w fun e w'=>e= .returned (iV (cf x y))/\Aa w w')
  (v:Value)(es:List α)(base:Nat)(T:TypeId)(w:World)(h:Be w base T k v es.length (es.flatMap enc))(hok:∀e,e∈es->Ok w e)(hn:es.length<4611686018427387904):
  Calls prog (ρ.f 6) #[v,.func (.func f) #[] #[]] w fun e w'=>e= .returned (.tuple #[])/\
   ∃es':List α,es'.Perm es/\es'.Pairwise (fun x y=>¬cf y x<0)/\Be w' base T k v es'.length (es'.flatMap enc)/\w.grownBy w' v.ownBlock/\Af w w':=by
 cases es with
 |nil=>
  obtain⟨A,c,rfl,_⟩:=Be.form h;refine(AnyF.slices_SortFunc_none LL A c _ w).mono ?_;rintro e w' ⟨rfl,rfl⟩;exact⟨rfl,[],.refl _,.nil,h,World.grownBy.refl _ _,Af.refl _⟩
 |cons e0 es0=>
  rcases h.2 with⟨_,hn0⟩|⟨g,cap,rest,rfl,hb,hg,hc1,hc2,hc3,hc4⟩
  ·simp at hn0
  have A0:∃xs:List {e:α//Ok w e},xs.map Subtype.val=e0::es0:=by
   clear h hg hc1 hc3 hn hc4;generalize e0::es0=es at hok;induction es with
   |nil=>exact⟨[],rfl⟩
   |cons e es ih=>
    obtain⟨xs,hx⟩:=ih (fun f hf=>hok f (by simp[hf]));exact⟨⟨e,hok e (by simp)⟩::xs,by rw[List.map_cons,hx]⟩
  obtain⟨xs,A0⟩:=A0;haveI:Inhabited {e:α//Ok w e}:=⟨⟨e0,hok e0 (by simp)⟩⟩
  have B1:∀ys:List {e:α//Ok w e},ys.flatMap (fun x=>enc x.1)=(ys.map Subtype.val).flatMap enc:=fun ys=>by rw[List.flatMap_map]
  have A7:xs.length=(e0::es0).length:=by rw[<-A0,dZZ]
  rw[<-A0,<-B1]at hg hc3 hc4;rw[<-A7]at hn h hc1⊢;have A4:∀x: {e:α//Ok w e},(enc x.1).length=k:=fun x=>hk x.1
  have A6:SWO (ltOf (fun x y: {e:α//Ok w e}=>cf x.1 y.1)):=
   ⟨fun x=>decide_eq_false (hO1 x.1),fun x y z a b=>decide_eq_true (hO2 x.1 y.1 z.1 (of_decide_eq_true a) (of_decide_eq_true b)),fun x y z a b=>decide_eq_false (hO3 x.1 y.1 z.1 (of_decide_eq_false a) (of_decide_eq_false b))⟩
  have A3:∀(m:Nat) (os:Array Obj) (dk:Array {e:α//Ok w e}),Af w (sortWorldK (fun x=>enc x.1) k w g 0 m dk os):=fun m os dk=>
   Af.of_own hg hc4.arr (Me w g 0 m dk os hg.lt)
  have A2:CmpLays prog f #[] (fun x: {e:α//Ok w e}=>enc x.1) k (fun x y=>cf x.1 y.1) g 0 xs.toArray.size w:=by
   intro m os dk _ x y;have hd:=A3 m os dk;revert hd
   generalize sortWorldK (fun x: {e:α//Ok w e}=>enc x.1) k w g 0 m dk os=W;intro hd;have hx:Ok W x.1:=hOk (w:=w) (w':=W) (x:=x.1) x.2 hd;have hy:Ok W y.1:=hOk (w:=w) (w':=W) (x:=y.1) y.2 hd;have hc:=Calls.drawn (hcmp W x.1 y.1 hx hy) (fun e w' he=>⟨_,he.1⟩);rw[Array.append_empty];exact hc.mono fun e w' he=>⟨he.1.1,uF he.1.2 he.2⟩
  have hH:HoldsK (fun x: {e:α//Ok w e}=>enc x.1) k w g 0 xs.toArray:=iO (enc:=fun x: {e:α//Ok w e}=>enc x.1) A4 h0 (xs:=xs) (T:=T) (rest:=rest) hg;have A5:xs.toArray.size<4611686018427387904:=by simpa using hn
  have hS:=AnyQ.slices_SortFunc LL k aE zE (fun x: {e:α//Ok w e}=>enc x.1) A4 (fun x=>h1 x.1) (fun x y=>cf x.1 y.1) A6 f #[] g 0 cap xs.toArray w eg A2 hH hg.lt A5;rw[List.size_toArray]at hS;refine hS.mono ?_;rintro e w' ⟨rfl,d',n,os,hp,hs,rfl⟩;obtain⟨B0,_,A9⟩:=hp;have hl:d'.toList.length=xs.length:=by simpa using B0
  have A1:d'.toList.Perm xs:=by
   have e1:d'.extract 0 xs.length=d':=by
    have A5:d'.size=xs.length:=by simpa using B0
    rw[<-A5];simp
   have e2:xs.toArray.extract 0 xs.length=xs.toArray:=by simp
   rw[e1,e2]at A9;simpa using A9
  have B2:=Wm (k:=k) (enc:=fun x: {e:α//Ok w e}=>enc x.1) A4 h0 hg hl n os;rw[Array.toArray_toList]at B2;have B3:(d'.toList.map Subtype.val).length=xs.length:=by rw[dZZ,hl]
  have A8:∀ys:List {e:α//Ok w e},(ys.flatMap (fun x=>enc x.1)).length=ys.length*k:=fun ys=>Do A4 ys
  refine⟨rfl,d'.toList.map Subtype.val,by rw[<-A0];exact A1.map _,?_,?_,?_,?_⟩
  ·rw[List.pairwise_map,List.pairwise_iff_getElem]
   intro i j hi hj B5;have h3:=hs i j (eXX _) B5 (by rw[hl]at hj;simpa using hj);have B6:i<d'.size:=by simpa using hi
   have B4:j<d'.size:=by simpa using hj
   rw[getElem!_pos d' i B6,getElem!_pos d' j B4]at h3;have h4:=of_decide_eq_false h3;simpa using h4
  ·rw[B3,<-B1]
   refine⟨by rw[A8,hl],.inr ⟨g,cap,rest,rfl,hb,B2,hc1,hc2,?_,?_⟩⟩
   ·rw[A8,hl,<-A8];exact hc3
   refine Aq.app ?_ hc4.right;intro z hz;obtain⟨x,_,hx⟩:=List.mem_flatMap.1 hz;exact hu x.1 z hx
  ·have ho:=Me (k:=k) (enc:=fun x: {e:α//Ok w e}=>enc x.1) w g 0 n d' os hg.lt
   simpa[Value.ownBlock,Bj]using ho
  exact A3 n os d'
end
section
structure Ca where
  a:RV
  q:Rat
def Ca.cells (e:Ca):List Value:=(rc e.a)
theorem Ca.len (e:Ca):e.cells.length=4:=rfl
theorem Ca.one (e:Ca):∀v,v∈e.cells->v.oneCell'=true:=by simp[Ca.cells,Value.oneCell']
theorem zS (e:Ca):Aq e.cells:=by simp[Ca.cells,Aq]
def Ca.Ok (L:Nat)(w:World)(e:Ca):Prop:=e.a.Is w e.q/\Nm.rl e.q<=L
theorem Ca.Ok.dig {L:Nat}{w w':World}{e:Ca}(h:e.Ok L w)(d:Af w w'):e.Ok L w':=⟨h.1.dig d,h.2⟩
structure aFZ where
  a:RV
  b:RV
  p:Rat
  q:Rat
def aEZ (p q:Rat×Rat):Int:=if Df p.2 q.2≠0 then Df p.2 q.2 else Df p.1 q.1
theorem Lj {w:World}{g o:Nat}{v:Value}(h:w.cell? ⟨g,o,none⟩=some v):w.rangeAt g o [v]:=by
  intro j u hj;match j,hj with
  |0,hj=>simp at hj;subst hj;exact h
  |j+1,hj=>simp at hj
section
variable {α:Type} (eqv:α->α->Bool)
def Hl (p:α):List α->List α
  | []=>[]
  |x::l=>if eqv x p then Hl x l else x::Hl x l
def Dq:List α->List α
  | []=>[]
  |x::l=>x::Hl eqv x l
theorem jE (l:List α):∀(p:α) (q x:α),(p::l).getLast?=some q->Hl eqv p (l++[x])=Hl eqv p l++(if eqv x q then[]else[x]):=by
  induction l with
  | nil=>
    intro p q x h;simp at h;subst h;simp[Hl]
  | cons y l ih=>
    intro p q x h;have h2:(y::l).getLast?=some q:=by simpa using h
    have h3:=ih y q x h2;simp only[jQQ,Hl];split
    · exact h3
    rw[h3,jQQ]
theorem Xm {l:List α}{q x:α}(h:l.getLast?=some q):Dq eqv (l++[x])=Dq eqv l++(if eqv x q then[]else[x]):=by
  cases l with
  |nil=>simp at h
  | cons p l=>
    simp only[jQQ,Dq];rw[jE eqv l p q x h]
theorem qE (l:List α):∀(p z:α),z∈Hl eqv p l->z∈l:=by
  induction l with
  |nil=>intro p z h;simp[Hl]at h
  | cons y l ih=>
    intro p z h;unfold Hl at h;split at h
    · exact cXX _ (ih y z h)
    rcases List.mem_cons.1 h with h|h
    · rw[h];simp
    exact cXX _ (ih y z h)
theorem Ql {l:List α}{z:α}(h:z∈Dq eqv l):z∈l:=by
  cases l with
  |nil=>simp[Dq]at h
  | cons p l=>
    rcases List.mem_cons.1 h with h|h
    · rw[h];simp
    exact cXX _ (qE eqv l p z h)
variable {eqv}
theorem qG {β:Type}{key:α->β}(hk:∀x y,eqv x y=true->key x=key y)(l:List α):∀(p z:α),z∈p::l->∃y∈p::Hl eqv p l,key y=key z:=by
 induction l with
 |nil=>intro p z h;exact⟨z,by simpa[Hl]using h,rfl⟩
 |cons x l ih=>
  intro p z h;rcases List.mem_cons.1 h with rfl|h
  ·exact⟨z,by simp,rfl⟩
  obtain⟨y,h1,h2⟩:=ih x z h;unfold Hl;split
  ·rename_i he
   rcases List.mem_cons.1 h1 with rfl|h1
   ·exact⟨p,by simp,by rw[<-h2,hk _ _ he]⟩
   exact⟨y,cXX _ h1,h2⟩
  exact⟨y,cXX _ h1,h2⟩
theorem bO {β:Type}{key:α->β}(hk:∀x y,eqv x y=true->key x=key y){l:List α}{z:α}(h:z∈l):∃y∈Dq eqv l,key y=key z:=by
  cases l with
  |nil=>simp at h
  |cons p l=>exact qG hk l p z h
theorem bP {lt le:α->α->Prop}(ht:∀a b c,le a b->lt b c->lt a c)(h1:∀x y,le y x->eqv x y=false->lt y x)(h2:∀x y,eqv x y=true->∀z,lt x z->lt y z)(l:List α):∀p:α,(p::l).Pairwise le->(p::Hl eqv p l).Pairwise lt/\∀z,z∈Hl eqv p l->lt p z:=by
 induction l with
 |nil=>intro p _;simp[Hl]
 |cons x l ih=>
  intro p hp;have A1:=List.pairwise_cons.1 hp;obtain⟨h3,h4⟩:=ih x A1.2;have A0:=A1.1 x (by simp);unfold Hl;split
  ·rename_i he
   have h5:∀z,z∈Hl eqv x l->lt p z:=fun z hz=>h2 _ _ he z (h4 z hz)
   exact⟨List.pairwise_cons.2 ⟨h5,(List.pairwise_cons.1 h3).2⟩,h5⟩
  rename_i he;have A2:=h1 x p A0 (by simpa using he);have h5:∀z,z∈x::Hl eqv x l->lt p z:=fun z hz=>by
   rcases List.mem_cons.1 hz with rfl|hz
   ·exact A2
   exact ht p x z A0 (h4 z hz)
  exact⟨List.pairwise_cons.2 ⟨h5,h3⟩,h5⟩
theorem Sy {lt le:α->α->Prop}(ht:∀a b c,le a b->lt b c->lt a c)(h1:∀x y,le y x->eqv x y=false->lt y x)(h2:∀x y,eqv x y=true->∀z,lt x z->lt y z){l:List α}(hl:l.Pairwise le):(Dq eqv l).Pairwise lt:=by
  cases l with
  |nil=>exact .nil
  |cons p l=>exact(bP ht h1 h2 l p hl).1
end
theorem Ki {α:Type}{lt:α->α->Prop}(hi:∀a,¬lt a a)(ht:∀a b c,lt a b->lt b c->lt a c):∀{l m:List α},l.Pairwise lt->m.Pairwise lt->(∀z,z∈l↔z∈m)->l=m
 | [],[],_,_,_=>rfl
 | [],y::m,_,_,h=>by have:=(h y).2 (by simp);simp at this
 |x::l,[],_,_,h=>by have:=(h x).1 (by simp);simp at this
 |x::l,y::m,hl,hm,h=>by
  have A1:=List.pairwise_cons.1 hl;have A0:=List.pairwise_cons.1 hm;have e:x=y:=by
   rcases List.mem_cons.1 ((h x).1 (by simp))with e|hx
   ·exact e
   rcases List.mem_cons.1 ((h y).2 (by simp))with e|hy
   ·exact e.symm
   exact absurd (ht _ _ _ (A1.1 y hy) (A0.1 x hx)) (hi x)
  subst e;rw[Ki hi ht A1.2 A0.2 (fun z=>by
   constructor
   ·intro hz
    rcases List.mem_cons.1 ((h z).1 (cXX _ hz))with e|h2
    ·subst e;exact absurd (A1.1 z hz) (hi z)
    exact h2
   intro hz;rcases List.mem_cons.1 ((h z).2 (cXX _ hz))with e|h2
   ·subst e;exact absurd (A0.1 z hz) (hi z)
   exact h2)]
theorem lK {P:Program}{ρ:Operand->Value}{o:Oper}{w:World}{g n c size k d c2:Nat}{z:Int}{t e:TypeId}{x y:Operand}(ho:o.op= .slice t x (some y) none none)(ht:P.underlying t=some (.slice e))(hs:(P.info? e).map (·.size)=some size)
  (hx:ρ x= .slice (some ⟨g,0,none⟩) n c)(hy:ρ y= iV z)(hz:z=(k:Int))(hn:n=k+d)(hd:0<d)(hc:c=k+c2)(hc2:d<=c2):(execOp ρ o).run P w= .ok (.value (.slice (some ⟨g,k*size,none⟩) d c2)) w:=by
 subst hz;subst hn;subst hc;have A0:P.elem t=e:=by simp[Program.elem,ht]
 have h1:P.underlying t=some (.slice (P.elem t)):=by rw[A0];exact ht
 unfold execOp;simp only[ho,hx,hy,Option.map_some,Option.map_none,Sem.run_bind,run_sliceAt_slice _ _ _ _ _ _ h1,run_slice_l w t _ _ _ h1 .i64 (k:Int) ω (by omega:(k:Int)<=((k+d:Nat):Int)),A0];cases hq:P.info? e with
 |none=>simp[hq]at hs
 |some i=>
  have h2:i.size=size:=by simpa[hq]using hs
  have h3:k+d-k=d:=ω;have h4:k+c2-k=c2:=ω;simp[sizeOf,typeInfo,hq,sliced,h2,h3,h4,Int.toNat_natCast,show¬c2=0 by omega,Addr.add_lit]
theorem Mo {w:World}{g a b c:Nat}{cs:List Value}(h:w.rangeAt g ((a+b)*c) cs):w.rangeAt g (a*c+b*c) cs:=by rw[kZZ]at h;exact h
theorem Sm {α:Type}{l m:List α}{i x:Nat}(h:l.drop i=m.drop i)(hx:i<=x):l[x]?=m[x]?:=by
  have e1:(l.drop i)[x-i]?=(m.drop i)[x-i]?:=by rw[h]
  rw[List.getElem?_drop,List.getElem?_drop]at e1;rwa[show i+(x-i)=x by omega]at e1
theorem Fr.grownBy {r:Option Nat}{w w':World}(h:Fr (fun k=>r=some k) w w'):w.grownBy w' r:=⟨h.os,h.tape,h.output,h.size,fun k hk hne=>h.block k hk (fun e=>hne e.symm)⟩
theorem zV (w:World)(b:Nat)(h:b<=w.heap.size):∃w0,Aa w0 w/\w0.heap.size=b:=
  ⟨{w with heap:=w.heap.extract 0 b},⟨rfl,rfl,rfl,by rw[show({w with heap:=w.heap.extract 0 b}:World).heap.size=min b w.heap.size-0 from Array.size_extract];omega,fun k hk=>by
    have A0:k<b:=by simp at hk;omega
    simp[show k<min b w.heap.size by omega]⟩,by simp;omega⟩
theorem Hp.one {w0 w:World}{t:TypeId}{size n:Nat}{v:Value}{xs:List Value}(x:Aa w0 w)(h:Be w w0.heap.size t size v n xs):Hp w0 w [.row t size v n xs]:=
  ((Hp.start w0).step x).add h (fun i f hf=>by simp at hf)
theorem Wz {α:Type}{l:List α}{k:Nat}{e:α}(h:k<l.length):(l.set k e).take (k+1)=l.take k++[e]:=by
  rw[List.take_add_one,List.take_set_of_le (Ck k)];simp[h]
theorem Qk {α:Type}{eqv:α->α->Bool}{es:List α}{j:Nat}{e f:α}(he:es[j+1]?=some e)(hf:es[j]?=some f):Dq eqv (es.take (j+1+1))=Dq eqv (es.take (j+1))++(if eqv e f then[]else[e]):=by
  have h1:es.take (j+1+1)=es.take (j+1)++[e]:=by rw[List.take_add_one,he];rfl
  rw[h1];refine Xm eqv ?_;rw[List.take_add_one,hf];simp
theorem yR {P:Program}{ρ:Operand->Value}{o:Oper}{w:World}{g n c size k:Nat}{z:Int}{t e:TypeId}{x y:Operand}(ho:o.op= .slice t x none (some y) none)(ht:P.underlying t=some (.slice e))(hs:(P.info? e).map (·.size)=some size)
  (hx:ρ x= .slice (some ⟨g,0,none⟩) n c)(hy:ρ y= iV z)(hz:z=(k:Int))(hk:k<=n)(hn:n<=c)(hc:0<c):(execOp ρ o).run P w= .ok (.value (.slice (some ⟨g,0,none⟩) k c)) w:=by
 subst hz;have A0:P.elem t=e:=by simp[Program.elem,ht]
 have h1:P.underlying t=some (.slice (P.elem t)):=by rw[A0];exact ht
 unfold execOp;simp only[ho,hx,hy,Option.map_some,Option.map_none,Sem.run_bind,run_sliceAt_slice _ _ _ _ _ _ h1,run_slice_h w t _ _ _ h1 .i64 (k:Int) ω (by omega:(k:Int)<=(c:Int)),A0];cases hq:P.info? e with
 |none=>simp[hq]at hs
 |some i=>
  have h2:i.size=size:=by simpa[hq]using hs
  simp[sizeOf,typeInfo,hq,sliced,h2,Int.toNat_natCast,show¬c=0 by omega,Addr.add_lit]
theorem Be.cut {w:World}{base:Nat}{t:TypeId}{size g n cap k:Nat}{xs:List Value}(h:Be w base t size (.slice (some ⟨g,0,none⟩) n cap) n xs)(hk:k<=n):Be w base t size (.slice (some ⟨g,0,none⟩) k cap) k (xs.take (k*size)):=by
 obtain⟨h1,⟨hv,_⟩|⟨g',A0,rest,hv,a,hb,h3,h4,h5,h6⟩⟩:=h
 ·cases hv
 injection hv with e1 e2 e3
 injection e1 with e1
 injection e1 with e1
 subst e1;subst e3;have hl:k*size<=xs.length:=by rw[h1];exact iQQ _ hk
 have e:xs.take (k*size)++(xs.drop (k*size)++rest)=xs++rest:=by rw[<-kXX,List.take_append_drop]
 refine⟨by rw[eQQ];omega,.inr ⟨g,cap,xs.drop (k*size)++rest,rfl,a,by rw[e];exact hb,ω,h4,?_,by rw[e];exact h6⟩⟩;rw[eQQ,aXX,List.length_drop];omega
theorem tN {α:Type}{f:α->List Value}{P:Program}{w0 w:World}{m:List De}{ix:Nat}{a:Act}{Q:Exit->Act->World->Prop}{rest:List Oper}{op:Oper}{ops:Array Oper}(hw:Region.wanted op (yielded ops a.tmps)=true)(x:Operand)(ty:TypeId)(ho:op.op= .call {callee:= .builtin .clear,args:=#[x],argTypes:=#[ty]})
  {g n cap size:Nat}{t:TypeId}{es:List α}(hH:Hp w0 w m)(hi:m[ix]?=some (.row t size (.slice (some ⟨g,0,none⟩) n cap) n (es.flatMap f)))(hc:∀x,(f x).length=size)(hl:es.length=n)(k c:Nat)(hk:k<n)(hx:a.eval x= .slice (some ⟨g,k*size,none⟩) (n-k) c)
  (ht:P.underlying ty=some (.slice t))(z:Value)(hz:∀w,(zeroValue t).run P w= .ok z w)(hzs:z.cells.size=size)(h1:∀v,v∈z.cells.toList->v.oneCell'=true)(hn:Aq z.cells.toList)(h0:0<size)
  (h:∀w',Hp w0 w' (m.set ix (.row t size (.slice (some ⟨g,0,none⟩) k cap) k ((es.take k).flatMap f)))->Af w w'->Bj g w w'->wpList P ops Q rest (a.put op.dst (.tuple #[])) w'):wpList P ops Q (op::rest) a w:=by
 have A1:(Builtin.zeroCells z.cells (n-k)).size=(n-k)*size:=by rw[size_zeroCells,hzs]
 have A7:(es.flatMap f).length=n*size:=by rw[Do hc,hl]
 have B3:k*size+(n-k)*size=n*size:=by rw[<-kZZ];congr 1;omega
 have A9:w.there g (k*size) ((n-k)*size):=(hH.row hi).there (k*size) ((n-k)*size) (by rw[A7];omega);have B1:Aq (Builtin.zeroCells z.cells (n-k)).toList:=Rd _ _ ω hn;have A4:∀v,v∈(Builtin.zeroCells z.cells (n-k)).toList->v.oneCell'=true:=by
  intro v hv;unfold Builtin.zeroCells at hv;simp only[Array.toList_map,List.mem_map]at hv;obtain⟨i,_,rfl⟩:=hv;have B2:i%z.cells.size<z.cells.size:=Nat.mod_lt _ ω;rw[getElem!_pos z.cells _ B2];exact h1 _ (by simp)
 have B0:=run_storeCells_cells (P:=P) g (k*size) (Builtin.zeroCells z.cells (n-k)).toList 0 w (fun j hj=>by simpa using(A9 j (by simpa[A1]using hj)).1) (fun j hj=>by simpa using(A9 j (by simpa[A1]using hj)).2) A4;have A3:(Builtin.clear_ #[ty] op.type #[.slice (some ⟨g,k*size,none⟩) (n-k) c]).run P w= .ok (.tuple #[]) (w.setCells g (k*size) (Builtin.zeroCells z.cells (n-k)).toList):=by
  obtain⟨d,hd⟩:∃d,n-k=d+1:=⟨n-k-1,ω⟩;rw[hd]at B0⊢;simp[Builtin.clear_,run_underlying ht,hz,B0]
 have A2:=(hH.row hi).setPart (k*size) (Builtin.zeroCells z.cells (n-k)).toList (by rw[A7,Array.length_toList,A1];omega) B1;have A0:=A2.cut (nZZ hk);have e:((es.flatMap f).take (k*size)++(Builtin.zeroCells z.cells (n-k)).toList++(es.flatMap f).drop (k*size+(Builtin.zeroCells z.cells (n-k)).toList.length)).take (k*size)=(es.take k).flatMap f:=by
  have B4:((es.flatMap f).take (k*size)).length=k*size:=by rw[eQQ,A7];exact Nat.min_eq_left (iQQ _ ω)
  rw[kXX,List.take_append_of_le_length ω,cQQ ω,Ro hc]
 rw[e]at A0;have A6:w.grownBy (w.setCells g (k*size) (Builtin.zeroCells z.cells (n-k)).toList) (some g):=Dk _ _ _ _;have A5:=hH.turn (r:=some g) (e':= .row t size (.slice (some ⟨g,0,none⟩) k cap) k ((es.take k).flatMap f)) hi (fun k hk=>by simpa[De.own,Value.ownBlock]using hk) A6 A0 (fun k hk=> .inl hk);have A8:Af w (w.setCells g (k*size) (Builtin.zeroCells z.cells (n-k)).toList):=by
  refine Af.grown (hH.row hi) ?_;exact A6
 have h2:=h _ A5 A8 A6;refine Cj hw ?_;unfold Oper.wp;simp[execOp,ho,resolve,invoke,builtin,hx,A3,Result.andThen];exact h2
end
section
def Kk:List Rat->Rat->List Rat
  | [],y=>[y]
  |x::l,y=>if x<y then x::Kk l y else if x=y then x::l else y::x::l
theorem Vc {y z:Rat}:∀{l:List Rat},z∈Kk l y↔z=y\/z∈l
  | []=>by simp[Kk]
  | x::l=>by
    unfold Kk;split
    · rw[List.mem_cons,Vc,List.mem_cons]
      constructor
      · rintro(h|h|h)
        · exact .inr (.inl h)
        · exact .inl h
        exact .inr (.inr h)
      rintro(h|h|h)
      · exact .inr (.inl h)
      · exact .inl h
      exact .inr (.inr h)
    split
    · rename_i h;subst h;simp
    simp
theorem dS {y:Rat}:∀{l:List Rat},l.Pairwise (· < ·)->(Kk l y).Pairwise (· < ·)
 | [],_=>by simp[Kk]
 |x::l,h=>by
  obtain⟨h1,h2⟩:=List.pairwise_cons.1 h;unfold Kk;split
  ·rename_i hx
   refine List.pairwise_cons.2 ⟨fun z hz=> ?_,dS h2⟩;rcases Vc.1 hz with e|e
   ·rw[e];exact hx
   exact h1 z e
  split
  ·exact h
  rename_i hx hy;have A0:y<x:=by
   have:=Rat.not_lt.1 hx;grind
  refine List.pairwise_cons.2 ⟨fun z hz=> ?_,h⟩;rcases List.mem_cons.1 hz with e|e
  ·rw[e];exact A0
  have:=h1 z e;grind
def Rb (lo hi:Rat)(l all:List Rat):List Rat:=all.foldl (fun o x=>if lo<x/\x<hi then Kk o x else o) l
theorem Ih {lo hi z:Rat}:∀{all l:List Rat},z∈Rb lo hi l all↔z∈l\/(z∈all/\lo<z/\z<hi)
  | [],l=>by simp[Rb]
  | x::all,l=>by
    show z∈Rb lo hi (if lo<x/\x<hi then Kk l x else l) all↔_;rw[Ih];by_cases h:lo<x/\x<hi
    · rw[if_pos h,Vc,List.mem_cons]
      constructor
      · rintro((e|e)|e)
        · subst e;exact .inr ⟨.inl rfl,h⟩
        · exact .inl e
        exact .inr ⟨.inr e.1,e.2⟩
      rintro(e|⟨e|e,f⟩)
      · exact .inl (.inr e)
      · exact .inl (.inl e)
      exact .inr ⟨e,f⟩
    rw[if_neg h,List.mem_cons];constructor
    · rintro(e|e)
      · exact .inl e
      exact .inr ⟨.inr e.1,e.2⟩
    rintro(e|⟨e|e,f⟩)
    · exact .inl e
    · subst e;exact absurd f h
    exact .inr ⟨e,f⟩
theorem Mg {lo hi:Rat}:∀{all l:List Rat},l.Pairwise (· < ·)->(Rb lo hi l all).Pairwise (· < ·)
  | [],l,h=>h
  | x::all,l,h=>by
    show(Rb lo hi (if lo<x/\x<hi then Kk l x else l) all).Pairwise (· < ·);refine Mg ?_;split
    · exact dS h
    exact h
def Ea (a b:Int×Int)(pre:List Cx)(x:Cx):List Rat:=pre.flatMap (fun o=>Ks x o)++Kg x a.1++Kg x b.1
def Jm (a b:Int×Int):List Cx->List Cx->List Rat
  |_,[]=>[]
  |pre,x::l=>Ea a b pre x++Jm a b (pre++[x]) l
def Su (rs:List Ac):List Rat:=rs.flatMap fun r=>r.map fun p=>(p.2:Rat)
def Lh (a b:Int×Int)(rs:List Ac):List Rat:=Su rs++Jm a b [] (Ba rs)
theorem Qw (x o:Cx):Ks o x=Ks x o:=by unfold Ks;rw[Qv,Qu]
theorem bX {lo hi q z:Rat}:z∈fM lo hi q↔z=q/\lo<z/\z<hi:=by
  unfold fM;split
  · rename_i h;simp;intro e;rw[e];exact h
  rename_i h;simp;intro e h1 h2;rw[e]at h1 h2;exact h ⟨h1,h2⟩
theorem Qm {lo hi z:Rat}{l:List Rat}:z∈l.flatMap (fM lo hi)↔z∈l/\lo<z/\z<hi:=by
  rw[List.mem_flatMap];constructor
  · rintro⟨q,h1,h2⟩;obtain⟨e,h3⟩:=bX.1 h2;rw[e]at h3⊢;exact⟨h1,h3⟩
  rintro⟨h1,h2⟩;exact⟨z,h1,bX.2 ⟨rfl,h2⟩⟩
theorem rI {a b:Int×Int}{pre:List Cx}{x:Cx}{z:Rat}:z∈Wd a b pre x↔z∈Ea a b pre x/\(a.2:Rat)<z/\z<(b.2:Rat):=by
 unfold Wd Ea;rw[mQQ,mQQ,mQQ,mQQ,Qm,Qm,List.mem_flatMap,List.mem_flatMap];constructor
 ·rintro((⟨h1,h2⟩|⟨h1,h2⟩)|⟨o,h1,h2⟩)
  ·exact⟨.inl (.inr h1),h2⟩
  ·exact⟨.inr h1,h2⟩
  rw[Qm,Qw]at h2;exact⟨.inl (.inl ⟨o,h1,h2.1⟩),h2.2⟩
 rintro⟨(⟨o,h1,h2⟩|h1)|h1,h3⟩
 ·exact .inr ⟨o,h1,by rw[Qm,Qw];exact⟨h2,h3⟩⟩
 ·exact .inl (.inl ⟨h1,h3⟩)
 exact .inl (.inr ⟨h1,h3⟩)
theorem lL {a b:Int×Int}{z:Rat}:∀{l p:List Cx},z∈pQ a b p l↔z∈Jm a b p l/\(a.2:Rat)<z/\z<(b.2:Rat)
  | [],p=>by simp[pQ,Jm]
  | x::l,p=>by
    unfold pQ Jm;rw[mQQ,mQQ,rI,lL];constructor
    · rintro(h|h)
      · exact⟨.inl h.1,h.2⟩
      exact⟨.inr h.1,h.2⟩
    rintro⟨h|h,k⟩
    · exact .inl ⟨h,k⟩
    exact .inr ⟨h,k⟩
theorem yS {a b:Int×Int}{rs:List Ac}{z:Rat}:z∈aAF a b rs↔z∈Su rs/\(a.2:Rat)<z/\z<(b.2:Rat):=by
  unfold aAF Su;simp only[List.mem_flatMap,List.mem_map,bX];constructor
  · rintro⟨r,h1,p,h2,h3,h4⟩;exact⟨⟨r,h1,p,h2,h3.symm⟩,h4⟩
  rintro⟨⟨r,h1,p,h2,h3⟩,h4⟩;exact⟨r,h1,p,h2,h3.symm,h4⟩
def Dx (a b:Int×Int)(rs:List Ac):List Rat:=if Kv a b rs then Rb (a.2:Rat) (b.2:Rat) [(a.2:Rat),(b.2:Rat)] (Lh a b rs)else[]
theorem yO {a b:Int×Int}{rs:List Ac}{l:List Rat}(h:l.Pairwise (· < ·))(hm:∀x,x∈l↔x∈aCF a b rs):l=Dx a b rs:=by
 unfold Dx;unfold aCF at hm;by_cases k:Kv a b rs
 ·rw[if_pos k]at hm⊢
  have A0:(a.2:Rat)<(b.2:Rat):=by exact_mod_cast k.2.2.2
  refine Ki (lt:=(· < ·)) (fun x=>Rat.lt_irrefl) (fun x y z h1 h2=>by grind) h (Mg (by simp[A0])) (fun z=> ?_);rw[hm,Ih];unfold Lh;rw[mQQ,mQQ,mQQ,yS,lL];constructor
  ·rintro((e|e)|e)
   ·exact .inl e
   ·exact .inr ⟨.inl e.1,e.2⟩
   exact .inr ⟨.inr e.1,e.2⟩
  rintro(e|⟨e|e,f⟩)
  ·exact .inl (.inl e)
  ·exact .inl (.inr ⟨e,f⟩)
  exact .inr ⟨e,f⟩
 rw[if_neg k]at hm⊢;cases l with
 |nil=>rfl
 |cons x l=>have:=(hm x).1 (by simp);simp at this
def Cv (W:Rat->Rat):List Rat->Rat
  |x::y::l=>W ((x+y)/2)*(y-x)+Cv W (y::l)
  |_=>0
theorem aBN {p q:Rat}(h:p<q):p<(p+q)/2/\(p+q)/2<q:=by
  rw[Rat.div_def];have e:(2:Rat)*(2:Rat)⁻¹=1:=Rat.mul_inv_cancel 2 (by decide);have k:(0:Rat)<(2:Rat)⁻¹:=by decide+kernel
  have e2:(2:Rat)⁻¹+(2:Rat)⁻¹=1:=by decide+kernel
  generalize (2:Rat)⁻¹=i at*;have h1:=Rat.mul_lt_mul_of_pos_left h k;have e3:p=i*p+i*p:=by grind
  have e4:q=i*q+i*q:=by grind
  have e5:(p+q)*i=i*p+i*q:=by grind
  rw[e5];generalize i*p=a at*;generalize i*q=b at*;constructor<;>grind
structure aGA (lo hi:Rat) (l:List Rat):Prop where
  srt:l.Pairwise (· < ·)
  bd:∀z,z∈l->lo<=z/\z<=hi
  lo:lo∈l
  hi:hi∈l
def Wv (l:List QQ)(x:Rat):Prop:=∃p,p∈l/\p.1<=x/\x<=p.2
def Ss (l:List QQ):Prop:=l.Pairwise (fun a b=>a.2<b.1)/\∀p,p∈l->p.1<p.2
theorem jZ:Ss []:=⟨List.Pairwise.nil,by simp⟩
theorem Ss.tail {a:QQ}{l:List QQ}(h:Ss (a::l)):Ss l:=⟨(List.pairwise_cons.1 h.1).2,fun p hp=>h.2 p (cXX _ hp)⟩
theorem Ss.far {a:QQ}{l:List QQ}(h:Ss (a::l)){p:QQ}(hp:p∈l):a.2<p.1:=(List.pairwise_cons.1 h.1).1 p hp
theorem Ss.head {a:QQ}{l:List QQ}(h:Ss (a::l)):a.1<a.2:=h.2 a (dXX ..)
theorem Gh {a:QQ}{l:List QQ}{x:Rat}:Wv (a::l) x↔(a.1<=x/\x<=a.2)\/Wv l x:=by
  constructor
  · rintro⟨p,hp,h⟩
    rcases List.mem_cons.1 hp with rfl|hp
    · exact Or.inl h
    exact Or.inr ⟨p,hp,h⟩
  rintro(h|⟨p,hp,h⟩)
  · exact⟨a,dXX ..,h⟩
  exact⟨p,cXX _ hp,h⟩
theorem Mq {a:QQ}{l:List QQ}{x:Rat}:Wv (l++[a]) x↔Wv l x\/(a.1<=x/\x<=a.2):=by
  constructor
  · rintro⟨p,hp,h⟩
    rcases List.mem_append.1 hp with hp|hp
    · exact Or.inl ⟨p,hp,h⟩
    rw[mXX]at hp;subst hp;exact Or.inr h
  rintro(⟨p,hp,h⟩|h)
  · exact⟨p,List.mem_append.2 (Or.inl hp),h⟩
  exact⟨a,List.mem_append.2 (Or.inr (List.mem_singleton.2 rfl)),h⟩
theorem Js {x:Rat}:¬Wv [] x:=by rintro⟨p,hp,_⟩;simp at hp
theorem Ss.tail_cov {a:QQ}{l:List QQ}(h:Ss (a::l)){x:Rat}:Wv l x↔Wv (a::l) x/\a.2<x:=by
  constructor
  · rintro⟨p,hp,h1,h2⟩
    refine⟨Gh.2 (Or.inr ⟨p,hp,h1,h2⟩),?_⟩;have:=h.far hp;grind
  rintro⟨hc,hx⟩;rcases Gh.1 hc with h1|h1
  · grind
  exact h1
theorem Ss.first_le {a:QQ}{l:List QQ}(h:Ss (a::l)){x:Rat}(hc:Wv (a::l) x):a.1<=x:=by
  rcases Gh.1 hc with h1|⟨p,hp,h1,_⟩
  · exact h1.1
  have:=h.far hp;have:=h.head;grind
theorem Ss.gap {a:QQ}{l:List QQ}(h:Ss (a::l)){y:Rat}(hy:a.2<y):∃x,a.2<x/\x<y/\¬Wv (a::l) x:=by
 have hm:∃z,a.2<z/\z<=y/\∀p,p∈l->z<=p.1:=by
  cases l with
  |nil=>exact⟨y,hy,by grind,by simp⟩
  |cons b l=>
   have A1:=h.far (dXX (a:=b) (l:=l));have ht:=h.tail;have hb:∀p,p∈b::l->b.1<=p.1:=by
    intro p hp;rcases List.mem_cons.1 hp with rfl|hp
    ·grind
    have:=ht.far hp;have:=ht.head;grind
   by_cases hyb:y<=b.1
   ·exact⟨y,hy,by grind,fun p hp=>by have:=hb p hp;grind⟩
   exact⟨b.1,A1,by grind,hb⟩
 obtain⟨z,A3,A2,A0⟩:=hm;refine⟨(a.2+z)/2,by grind,by grind,?_⟩;intro hc;rcases Gh.1 hc with h1|⟨p,hp,h1,_⟩
 ·grind
 have:=A0 p hp;grind
theorem Uq:∀{l m:List QQ},Ss l->Ss m->(∀x,Wv l x↔Wv m x)->l=m
 | [],[],_,_,_=>rfl
 | [],b::m,_,hm,h=>by
  have:=(h b.1).2 (Gh.2 (Or.inl ⟨by grind,by have:=hm.head;grind⟩));exact(Js this).elim
 |a::l,[],hl,_,h=>by
  have:=(h a.1).1 (Gh.2 (Or.inl ⟨by grind,by have:=hl.head;grind⟩));exact(Js this).elim
 |a::l,b::m,hl,hm,h=>by
  have ha:=hl.head;have hb:=hm.head;have e1:a.1=b.1:=by
   have h1:=hm.first_le ((h a.1).1 (Gh.2 (Or.inl ⟨by grind,by grind⟩)));have h2:=hl.first_le ((h b.1).2 (Gh.2 (Or.inl ⟨by grind,by grind⟩)));grind
  have e2:a.2=b.2:=by
   by_cases h1:a.2<b.2
   ·obtain⟨x,A2,A1,A0⟩:=hl.gap h1
    exact(A0 ((h x).2 (Gh.2 (Or.inl ⟨by grind,by grind⟩)))).elim
   by_cases h2:b.2<a.2
   ·obtain⟨x,A2,A1,A0⟩:=hm.gap h2
    exact(A0 ((h x).1 (Gh.2 (Or.inl ⟨by grind,by grind⟩)))).elim
   grind
  have e:a=b:=Prod.ext e1 e2;subst e;rw[Uq hl.tail hm.tail (fun x=>by rw[hl.tail_cov,hm.tail_cov,h])]
theorem uX {l m:List QQ}(h:∀p,p∈l↔p∈m)(x:Rat):Wv l x↔Wv m x:=
  ⟨fun⟨p,hp,k⟩=>⟨p,(h p).1 hp,k⟩,fun⟨p,hp,k⟩=>⟨p,(h p).2 hp,k⟩⟩
theorem bD {l:List QQ}{a:QQ}(h:l.getLast?=some a):l=l.dropLast++[a]:=by
  obtain⟨ys,rfl⟩:=List.getLast?_eq_some_iff.1 h;simp
theorem Pi {l:List QQ}{a:QQ}:Ss (l++[a])↔Ss l/\a.1<a.2/\∀p,p∈l->p.2<a.1:=by
 constructor
 ·rintro⟨h1,h2⟩
  rw[List.pairwise_append]at h1;exact⟨⟨h1.1,fun p hp=>h2 p (List.mem_append.2 (Or.inl hp))⟩,h2 a (by simp),fun p hp=>h1.2.2 p hp a (by simp)⟩
 rintro⟨h1,h2,h3⟩;refine⟨List.pairwise_append.2 ⟨h1.1,List.pairwise_singleton ..,fun p hp q hq=> ?_⟩,fun p hp=> ?_⟩
 ·rw[mXX]at hq
  subst hq;exact h3 p hp
 rcases List.mem_append.1 hp with hp|hp
 ·exact h1.2 p hp
 rw[mXX]at hp;subst hp;exact h2
theorem oM {out:List QQ}{s:QQ}(h:Ss out)(hs:s.1<s.2)(hl:∀p,p∈out->p.1<=s.1):
  Ss (El out s)/\(∀x,Wv (El out s) x↔Wv out x\/(s.1<=x/\x<=s.2))/\∀p,p∈El out s->p.1<=s.1:=by
 unfold El;split
 ·rename_i h0
  rw[List.getLast?_eq_none_iff]at h0;subst h0;refine⟨Pi.2 ⟨jZ,hs,by simp⟩,fun x=>Mq,?_⟩;intro p hp;simp at hp;subst hp;grind
 rename_i l h0;have e:=bD h0;generalize out.dropLast=o at e
 subst e;obtain⟨k1,k2,k3⟩:=Pi.1 h;have A0:=hl l (by simp);split
 ·rename_i h1
  refine⟨Pi.2 ⟨h,hs,?_⟩,fun x=>Mq,?_⟩
  ·intro p hp
   rcases List.mem_append.1 hp with hp|hp
   ·have:=k3 p hp
    grind
   rw[mXX]at hp;subst hp;exact h1
  intro p hp;rcases List.mem_append.1 hp with hp|hp
  ·exact hl p hp
  rw[mXX]at hp;subst hp;grind
 rename_i h1;split
 ·rename_i h2
  refine⟨Pi.2 ⟨k1,by show l.1<s.2;grind,k3⟩,fun x=> ?_,?_⟩
  ·rw[Mq,Mq]
   show Wv o x\/(l.1<=x/\x<=s.2)↔(Wv o x\/(l.1<=x/\x<=l.2))\/(s.1<=x/\x<=s.2);grind
  intro p hp;rcases List.mem_append.1 hp with hp|hp
  ·exact hl p (List.mem_append.2 (Or.inl hp))
  rw[mXX]at hp;subst hp;exact A0
 rename_i h2;refine⟨h,fun x=> ?_,hl⟩;rw[Mq];grind
theorem uA (l:List QQ):∀(out:List QQ),Ss out->(∀p,p∈l->p.1<p.2)->l.Pairwise (fun a b=>a.1<=b.1)->(∀p,p∈out->∀q,q∈l->p.1<=q.1)->
  Ss (l.foldl El out)/\∀x,Wv (l.foldl El out) x↔Wv out x\/Wv l x:=by
 induction l with
 |nil=>intro out h _ _ _;exact⟨h,fun x=>⟨Or.inl,fun k=>k.elim id fun k=>(Js k).elim⟩⟩
 |cons s l ih=>
  intro out h h1 h2 h3;obtain⟨a1,a2,a3⟩:=oM h (h1 s (dXX ..)) (fun p hp=>h3 p hp s (dXX ..));obtain⟨p1,p2⟩:=List.pairwise_cons.1 h2;obtain⟨b1,b2⟩:=ih (El out s) a1 (fun p hp=>h1 p (cXX _ hp)) p2 (fun p hp q hq=>by have:=a3 p hp;have:=p1 q hq;grind);refine⟨b1,fun x=> ?_⟩;rw[List.foldl_cons,b2,a2,Gh,or_assoc]
theorem Rh {ps:List QQ}{p:QQ}:p∈Hq ps↔p∈ps/\p.1<p.2:=by unfold Hq;simp
theorem Ln (ps:List QQ):Ss (Fk ps)/\∀x,Wv (Fk ps) x↔Wv (Hq ps) x:=by
  have hs:Stb.Srt aAB (Ec ps):=Stb.stab_srt (aEH fun p:QQ=>p.1) _;have hm:∀p,p∈Ec ps↔p∈Hq ps:=fun p=>Stb.mem_stab
  obtain⟨a,b⟩:=uA (Ec ps) [] jZ (fun p hp=>(Rh.1 ((hm p).1 hp)).2) (List.Pairwise.imp (fun {x y} h=>by unfold aAB at h;rw[decide_eq_false_iff_not]at h;grind) hs) (by simp);refine⟨a,fun x=> ?_⟩;unfold Fk;rw[b,uX hm];exact⟨fun k=>k.elim (fun k=>(Js k).elim) id,Or.inr⟩
theorem mS {l:List QQ}(h:Ss l):Hq l=l:=by
  unfold Hq;rw[List.filter_eq_self];intro p hp;rw[decide_eq_true_iff];exact h.2 p hp
theorem iD {l:List QQ}(h:Ss l):Fk l=l:=Uq (Ln l).1 h (fun x=>by rw[(Ln l).2,mS h])
theorem eJ (ps:List QQ):Fk (Fk ps)=Fk ps:=iD (Ln ps).1
theorem tV {α:Type}{lt:α->α->Bool}{R:α->α->Prop}(hs:∀x y,R x y->R y x){l:List α}{y:α}(h:l.Pairwise R)(hy:∀x,x∈l->R x y):(Stb.ins lt l y).Pairwise R:=by
 induction l with
 |nil=>exact List.pairwise_singleton ..
 |cons x l ih=>
  obtain⟨h1,h2⟩:=List.pairwise_cons.1 h;rw[Stb.ins];split
  ·exact List.pairwise_cons.2 ⟨fun z hz=>hs _ _ (hy z hz),h⟩
  refine List.pairwise_cons.2 ⟨fun z hz=> ?_,ih h2 fun z hz=>hy z (cXX _ hz)⟩;rcases Stb.mem_ins.1 hz with rfl|hz
  ·exact hy x (dXX ..)
  exact h1 z hz
theorem mH {α:Type}{lt:α->α->Bool}{R:α->α->Prop}(hs:∀x y,R x y->R y x)(l:List α)(h:l.Pairwise R):(Stb.stab lt l).Pairwise R:=by
  induction l using Stb.rev_rec with
  |nil=>exact List.Pairwise.nil
  | snoc l y ih=>
    rw[List.pairwise_append]at h;rw[Stb.stab_snoc];exact tV hs (ih h.1) fun x hx=>h.2.2 x (Stb.mem_stab.1 hx) y (by simp)
theorem gQ (p:QQ)(l:List QQ):Hq (p::l)=if p.1<p.2 then p::Hq l else Hq l:=by
  unfold Hq;by_cases h:p.1<p.2<;>simp[h]
def Ev (f t:Rat)(p:QQ):Rat:=
  if (if p.1<f then f else p.1)<(if t<p.2 then t else p.2)then(if t<p.2 then t else p.2)-(if p.1<f then f else p.1)else 0
def Ed (f t:Rat)(l:List QQ):Rat:=(l.map (Ev f t)).sum
theorem Ep (f t:Rat):Ed f t []=0:=rfl
theorem Cd (f t:Rat)(p:QQ)(l:List QQ):Ed f t (p::l)=Ev f t p+Ed f t l:=by unfold Ed;rw[List.map_cons,List.sum_cons]
theorem Jh (f t:Rat)(l m:List QQ):Ed f t (l++m)=Ed f t l+Ed f t m:=by
  induction l with
  |nil=>rw[Ep,fZZ];grind
  |cons p l ih=>rw[jQQ,Cd,Cd,ih];grind
theorem Oj {f t:Rat}{p:QQ}(h:¬p.1<p.2):Ev f t p=0:=by unfold Ev;grind
theorem iJ (f t:Rat)(l:List QQ):Ed f t (Hq l)=Ed f t l:=by
  induction l with
  |nil=>rfl
  | cons p l ih=>
    rw[gQ];split
    · rw[Cd,Cd,ih]
    rename_i h;rw[Cd,Oj h,ih];grind
theorem xZ (f t:Rat)(p:QQ):0<=Ev f t p:=by unfold Ev;grind
theorem xX (f t:Rat)(l:List QQ):0<=Ed f t l:=by
  induction l with
  |nil=>rw[Ep];grind
  |cons p l ih=>rw[Cd];have:=xZ f t p;grind
theorem pA {f t:Rat}(h:t<=f)(l:List QQ):Ed f t l=0:=by
  induction l with
  |nil=>rfl
  | cons p l ih=>
    rw[Cd,ih];have:Ev f t p=0:=by unfold Ev;grind
    grind
theorem aZ {f t:Rat}:∀(l:List QQ),Ss l->f<=t->Ed f t l<=t-f
 | [],_,h=>by rw[Ep];grind
 |p::l,hs,h=>by
  rw[Cd];have hp:=hs.head;by_cases h1:p.2<=f
  ·have:=aZ l hs.tail h
   have:Ev f t p=0:=by unfold Ev;grind
   grind
  by_cases h2:t<=p.2
  ·have hz:Ed f t l=0:=by
    have A0:∀q,q∈l->Ev f t q=0:=fun q hq=>by have:=hs.far hq;unfold Ev;grind
    clear hs;induction l with
    |nil=>rfl
    |cons q l ih=>rw[Cd,A0 q (dXX ..),ih fun r hr=>A0 r (cXX _ hr)];grind
   have:Ev f t p<=t-f:=by unfold Ev;grind
   grind
  have hz:Ed f t l=Ed p.2 t l:=by
   have A0:∀q,q∈l->Ev f t q=Ev p.2 t q:=fun q hq=>by have:=hs.far hq;unfold Ev;grind
   unfold Ed;rw[List.map_congr_left A0]
  have h3:=aZ (f:=p.2) (t:=t) l hs.tail (by grind);have:Ev f t p<=p.2-f:=by unfold Ev;grind
  grind
end
section
attribute [local go_sem ↓] Go.wp_at_zero Go.wp_at_succ Aj Ai
theorem Mx (L:Nat)(hL:L<=60000)(Bc:Nat)(w:World)(e f:Ca)(he:e.Ok L w)(hf:f.Ok L w)(hc:w.cell? ⟨Bc,0,none⟩=some (.func (.func 46) #[] #[])):
  Calls prog 171 #[(rg e.a),(rg f.a),.pointer (some ⟨Bc,0,none⟩)] w fun x w'=>x= .returned (.bool (decide (e.q=f.q)))/\Aa w w':=by
 have RE:=zH he.1;have A2:=zH he.2;have RF:=zH hf.1;have A1:=zH hf.2;have HC:=zH hc;clear he hf hc;go_enter func171,ntmps171
 have H0:=zH (Hp.start w);go_upto_region 0 with fail;apply wl;apply Cn 33 (rc e.a) H0.1;intro B1 A9 A5 _;apply Cn 33 (rc f.a) A5.1;intro B0 A8 A0 _;apply zq (.bool false);rcases Cy (e.q=f.q)with CQ|CQ
 ·go_upto_region 1 with fail
  apply wl;refine ze Bc 0 (.func (.func 46) #[] #[]) (Lj (A0.1.ext.get HC.1)) ?_;refine Cc A0.1 _ _ ?_;refine aC A0.1 (Gd (L:=60000) (RV.Is.nin (RE.1.dig A0.1.dig0) (Av A2.1 ω)) (RV.Is.nin (RF.1.dig A0.1.dig0) (Av A1.1 ω)) ω) ?_;intro A7 A4 _;apply zp (.bool true) (by exact Xi (e:=(Ar (Ra.2 CQ.1))));apply zq (.bool true);go_wp2_with fail;go_ret;exact⟨by rw[decide_eq_true CQ.1];rfl,A4.1.ext⟩
 go_upto_region 1 with fail;apply wl;refine ze Bc 0 (.func (.func 46) #[] #[]) (Lj (A0.1.ext.get HC.1)) ?_;refine Cc A0.1 _ _ ?_;refine aC A0.1 (Gd (L:=60000) (RV.Is.nin (RE.1.dig A0.1.dig0) (Av A2.1 ω)) (RV.Is.nin (RF.1.dig A0.1.dig0) (Av A1.1 ω)) ω) ?_;intro A6 A3 _;apply zp (.bool false) (by exact Xi (e:=(Al (fun hh=>CQ.1 (Ra.1 hh)))));apply zq (.bool false);go_wp2_with fail;go_ret;exact⟨by rw[decide_eq_false CQ.1];rfl,A3.1.ext⟩
theorem qD (L:Nat)(hL:L<=60000)(Bc:Nat)(v:Value)(es:List Ca)(base:Nat)(w:World)(h:Be w base 33 4 v es.length (es.flatMap Ca.cells))(hbase:base<=w.heap.size)(hok:∀e,e∈es->e.Ok L w)(hc:w.cell? ⟨Bc,0,none⟩=some (.func (.func 46) #[] #[]))(hB:¬v.ownBlock=some Bc)(hn:es.length<=100000000):
  Calls prog 170 #[v,.func (.func 171) #[] #[.pointer (some ⟨Bc,0,none⟩)]] w fun x w'=>∃v',x= .returned v'/\Be w' base 33 4 v' (Dq (fun x y:Ca=>decide (x.q=y.q)) es).length ((Dq (fun x y:Ca=>decide (x.q=y.q)) es).flatMap Ca.cells)/\w.grownBy w' v.ownBlock/\Af w w'/\v'.ownBlock=v.ownBlock:=by
 obtain⟨w0,I3,rfl⟩:=zV w base hbase;have F2:=zH hok;have HC:=zH hc;have HB:=zH hB;clear hc hB hok;rcases h.2 with⟨rfl,h0⟩|⟨g,cap,rest,rfl,hb,hg,hc1,E9,E8,hc4⟩
 ·have he:es=[]:=iZZ h0
  subst he;go_enter func170,ntmps170;go_wp2_with fail;go_ret;exact⟨_,rfl,h,World.grownBy.refl _ _,Af.refl _,rfl⟩
 have H0:=zH (Hp.one I3 h);have A5:=zH hc1;clear h I3 hb hg E9 E8 hc4;have B6:=zH (show Fr (fun kz=>Value.ownBlock (.slice (some ⟨g,0,none⟩) es.length cap)=some kz) w w from Fr.of_ext (Aa.refl w));go_enter func170,ntmps170
 go_upto_region 0 with fail;apply wl;refine Cs Ah _ ?_;by_cases c2:es.length<2
 ·have HS:=zH c2
  clear c2;go_upto_region 1 with fail;apply wl;refine Cc Ah _ (iV ((es.length:Nat):Int)) ?_;apply zp (.bool true) (by exact Eg (e:=(Ar (by have A0:=HS.1;omega))));go_upto_region 2 with fail;apply wl;refine Cc Ah _ _ ?_;have G0:Dq (fun x y:Ca=>decide (x.q=y.q)) es=es:=by have hs:=HS.1;match es,hs with| [],_=>rfl| [x],_=>rfl|x::y::l,hs=>exact absurd hs (by simp)
  go_wp2_with fail;go_ret;exact⟨_,rfl,by rw[G0];exact H0.1.row (i:=0) (by rfl),World.grownBy.refl _ _,Af.refl _,rfl⟩
 have HS:=zH c2;clear c2;go_upto_region 1 with fail;apply wl;refine Cc Ah _ (iV ((es.length:Nat):Int)) ?_;apply zp (.bool false) (by exact Eg (e:=(Al (by have A0:=HS.1;omega))));go_upto_region 3 with fail;apply wl;apply zq (iV 1);go_wp2_with fail;go_loopg [5] (es.length) (fun cq K8 wr=>∃(j:Nat),cq=es.length-j/\K8= iV ((j+1:Nat):Int)/\(j+1<=es.length)/\(Dq (fun x y:Ca=>decide (x.q=y.q)) (es.take (j+1))=es.take (j+1))/\(Fr (fun kz=>Value.ownBlock (.slice (some ⟨g,0,none⟩) es.length cap)=some kz) w wr)/\Hp w0 wr [.row 33 4 (.slice (some ⟨g,0,none⟩) es.length cap) (es.length) (List.flatMap Ca.cells es)]/\Af w wr)
 case atStart=>exact⟨0,rfl,rfl,(by have h_:=HS.1;omega),(by have hs:=HS.1;match es,hs with| [],hs=>exact absurd hs (by decide)|x::l,_=>rfl),B6.1,H0.1,Af.refl _⟩
 obtain⟨j,rfl,rfl,C9,C4,A2,D2,D3⟩:=hrel;generalize wr=B9 at*;have HK:=zH C9;clear C9;have G7:=zH C4;clear C4;have B6:=zH A2;clear A2;have C8:=zH D2;have F5:=zH D3;clear D2 D3;rcases Cy (j+1<es.length)with HLT|HLT
 ·go_upto_region 4 with fail
  apply wl;refine Dv Ah (iV ((j+1:Nat):Int)) _ (iV ((es.length:Nat):Int)) ?_;apply zp (.bool true) (by exact Eg (e:=(Ar (by have A0:=HK.1;have A3:=HLT.1;omega))));obtain⟨e,he⟩:∃e,es[j+1]?=some e:=⟨_,aQQ HLT.1⟩;obtain⟨f,hf⟩:∃f,es[j]?=some f:=⟨_,aQQ (by have h_:=HLT.1;omega)⟩;have F1:=zH he;have A6:=F2.1 e (bZZ he);have J5:=zH A6.1;have K2:=zH A6.2;clear he A6;have G5:=zH hf;have A6:=F2.1 f (bZZ hf);have J4:=zH A6.1;have K1:=zH A6.2;clear hf A6;have J2:=zH (Qk (eqv:=(fun x y:Ca=>decide (x.q=y.q))) F1.1 G5.1);rcases Cy (e.q=f.q)with HEQ|HEQ
  ·go_upto_region 6 with fail
   refine zy ?_;have L7:=zH (C8.1.step (Aa.refl B9).drew);have K0:=zH (Af.of_ext (w:=B9) zb);have J1:=zH (B6.1.trans (Fr.of_ext (Aa.refl B9).drew));refine vS Ah zb (bs 11 7) 0 1 2 _ _ (iV ((j+1:Nat):Int)) ?_;refine zo 3 (bs 11 15) (v:= .pointer (some ⟨g,(j+1)*4,none⟩)) zb ?_ (hv:=by intro w B2;exact Iu (k:=j+1) underlying118 (l:=(by have h_:=HLT.1;omega)) (f:=(eZZ _).symm));refine zg 4 (bs 11 31) g ((j+1)*4) (rc e.a) (C8.1.elem (f:=Ca.cells) (i:=0) rR Ca.len F1.1) underlying33 zb ?_;refine Xn Ah zb (bs 11 127) 5 6 _ (iV ((j+1:Nat):Int)) ?_;refine zu 7 (bs 11 255) (v:= iV (j:Int)) zb ?_ (hv:=by intro w B2;exact Zd (by have A0:=HK.1;have A3:=HLT.1;omega));refine zo 8 (bs 11 511) (v:= .pointer (some ⟨g,j*4,none⟩)) zb ?_ (hv:=by intro w B2;exact Iu (k:=j) underlying118 (l:=(by have h_:=HLT.1;omega)) (f:=(eZZ _).symm));refine zg 9 (bs 11 1023) g (j*4) (rc f.a) (C8.1.elem (f:=Ca.cells) (i:=0) rR Ca.len G5.1) underlying33 zb ?_;have B7:=tD F5 K0;refine mC 10 (bs 11 2047) (Mx L hL Bc _ e f ⟨(J5.1.dig B7.1),K2.1⟩ ⟨(J4.1.dig B7.1),K1.1⟩ (J1.1.cell HC.1 HB.1)) ?_;rintro e I0 ⟨rfl,hx⟩;have J7:=zH (L7.1.step hx);have H5:=zH (show Af B9.drew I0 from Af.of_ext hx);have L2:=zH (J1.1.trans (Fr.of_ext hx));have K9:=zH (zb.trans hx);clear hx;refine⟨.bool true,by rw[decide_eq_true HEQ.1],K9.1,?_⟩;try simp only[ζ]
   refine wpAnyH_done kR ?_ _;obtain⟨d,hd⟩:∃d,es.length=j+1+d:=⟨es.length-(j+1),by have h_:=HLT.1;omega⟩;obtain⟨c2,E9⟩:∃c2,cap=j+1+c2:=⟨cap-(j+1),by have h_:=HLT.1;have A7:=A5.1;omega⟩;have HD:=zH hd;have A8:=zH E9;clear hd E9;go_upto_region 7 with fail
   apply wl;refine Cc Ah _ (iV ((j+1:Nat):Int)) ?_;apply zp (.slice (some ⟨g,(j+1)*4,none⟩) d c2) (by exact lK rR underlying118 kR rR rR (by first|rfl|omega) HD.1 (by have A0:=HK.1;have A3:=HLT.1;have B1:=HD.1;have A9:=A8.1;have B0:=A5.1;omega) A8.1 (by have A0:=HK.1;have A3:=HLT.1;have B1:=HD.1;have A9:=A8.1;have B0:=A5.1;omega));apply zq (.slice (some ⟨g,(j+1)*4,none⟩) d c2);go_upto_region 8 with fail;apply wl;apply zq (iV 1);go_wp2_with fail;go_loopg [5,7] (d) (fun cq K7 v45 wr=>∃(i:Nat) (k:Nat) (ds:List Ca),cq=d-i/\K7= iV (k:Int)/\v45= iV ((i+1:Nat):Int)/\(i+1<=d)/\(k<j+1+(i+1))/\(ds.length=es.length)/\(ds.take k=Dq (fun x y:Ca=>decide (x.q=y.q)) (es.take (j+1+(i+1))))/\(ds.drop (j+1+i)=es.drop (j+1+i))/\(Fr (fun kz=>Value.ownBlock (.slice (some ⟨g,0,none⟩) es.length cap)=some kz) w wr)/\Hp w0 wr [.row 33 4 (.slice (some ⟨g,0,none⟩) es.length cap) (es.length) (List.flatMap Ca.cells ds)]/\Af I0 wr)
   case atStart=>exact⟨0,j+1,es,rfl,rfl,rfl,(by have h_:=HLT.1;have A7:=HD.1;omega),ω,rfl,(by rw[show j+1+(0+1)=j+1+1 by omega,J2.1,if_pos (decide_eq_true HEQ.1),gZZ];exact G7.1.symm),rfl,L2.1,J7.1,Af.refl _⟩
   obtain⟨i,k,ds,rfl,rfl,rfl,D0,C0,C1,C3,C2,A2,D2,D3⟩:=hrel;generalize wr=B8 at*;have HI:=zH D0;clear D0;have A1:=zH C0;clear C0;have A4:=zH C1;clear C1;have G6:=zH C3;clear C3;have F3:=zH C2;clear C2;have B6:=zH A2;clear A2;have C7:=zH D2;have E5:=zH D3;clear D2 D3 J7;rcases Cy (i+1<d)with HLT2|HLT2
   ·go_upto_region 9 with fail
    apply wl;refine Dv Ah (iV ((i+1:Nat):Int)) (.slice (some ⟨g,(j+1)*4,none⟩) d c2) (iV (d:Int)) ?_;apply zp (.bool true) (by exact Eg (e:=(Ar (by have A0:=HI.1;have A3:=A1.1;have B1:=HD.1;have A9:=A8.1;have B0:=A5.1;have B5:=A4.1;have B4:=HLT2.1;omega))));obtain⟨e2,F9⟩:∃e2,es[j+1+i+1]?=some e2:=⟨_,aQQ (by have h_:=HLT2.1;have A7:=HD.1;omega)⟩;obtain⟨f2,F8⟩:∃f2,es[j+1+i]?=some f2:=⟨_,aQQ (by have h_:=HLT2.1;have A7:=HD.1;omega)⟩;have D8:=zH F9;have A6:=F2.1 e2 (bZZ F9);have E0:=zH A6.1;have E7:=zH A6.2;clear F9 A6;have D7:=zH F8;have A6:=F2.1 f2 (bZZ F8);have D9:=zH A6.1;have E6:=zH A6.2;clear F8 A6;have C5:=zH (show ds[j+1+(i+1)]?=some e2 from(Sm F3.1 ω).trans D8.1);have D6:=zH (show ds[j+1+i]?=some f2 from(Sm F3.1 ω).trans D7.1);have D5:=zH (Qk (eqv:=(fun x y:Ca=>decide (x.q=y.q))) D8.1 D7.1);rcases Cy (e2.q=f2.q)with HEQ2|HEQ2
    ·go_upto_region 11 with fail
     refine zy ?_;have L6:=zH (C7.1.step (Aa.refl B8).drew);have J9:=zH (Af.of_ext (w:=B8) zb);have J0:=zH (B6.1.trans (Fr.of_ext (Aa.refl B8).drew));refine vS Ah zb (bs 12 7) 0 1 2 _ (.slice (some ⟨g,(j+1)*4,none⟩) d c2) (iV ((i+1:Nat):Int)) ?_;refine zo 3 (bs 12 15) (v:= .pointer (some ⟨g,(j+1)*4+(i+1)*4,none⟩)) zb ?_ (hv:=by intro w B2;exact Iu (k:=i+1) underlying118 (l:=(by have h_:=HLT2.1;omega)) (f:=rfl));refine zg 4 (bs 12 31) g ((j+1)*4+(i+1)*4) (rc e2.a) (Mo (C7.1.elem (f:=Ca.cells) (i:=0) rR Ca.len C5.1)) underlying33 zb ?_;refine Xn Ah zb (bs 12 127) 5 6 (.slice (some ⟨g,(j+1)*4,none⟩) d c2) (iV ((i+1:Nat):Int)) ?_;refine zu 7 (bs 12 255) (v:= iV (i:Int)) zb ?_ (hv:=by intro w B2;exact Zd (by have A0:=HI.1;have A3:=A1.1;have B1:=HD.1;have A9:=A8.1;have B0:=A5.1;have B5:=A4.1;have B4:=HLT2.1;omega));refine zo 8 (bs 12 511) (v:= .pointer (some ⟨g,(j+1)*4+i*4,none⟩)) zb ?_ (hv:=by intro w B2;exact Iu (k:=i) underlying118 (l:=(by have h_:=HLT2.1;omega)) (f:=rfl));refine zg 9 (bs 12 1023) g ((j+1)*4+i*4) (rc f2.a) (Mo (C7.1.elem (f:=Ca.cells) (i:=0) rR Ca.len D6.1)) underlying33 zb ?_;have E2:=tD (tD (tD B7 H5) E5) J9;refine mC 10 (bs 12 2047) (Mx L hL Bc _ e2 f2 ⟨(E0.1.dig E2.1),E7.1⟩ ⟨(D9.1.dig E2.1),E6.1⟩ (J0.1.cell HC.1 HB.1)) ?_;rintro e K4 ⟨rfl,hx⟩;have L5:=zH (L6.1.step hx);have L9:=zH (show Af B8.drew K4 from Af.of_ext hx);have L1:=zH (J0.1.trans (Fr.of_ext hx));have I8:=zH (zb.trans hx);clear hx;refine⟨.bool true,by rw[decide_eq_true HEQ2.1],I8.1,?_⟩;try simp only[ζ]
     refine zx 11 (bs 12 4095) (.bool false) I8.1 ?_;refine wpAnyH_done kR ?_ _;go_upto_region 10 with fail;apply wl;apply zq (iV ((i+1:Nat):Int));apply zp (iV ((i+2:Nat):Int)) (by exact He (by have A0:=HI.1;have A3:=A1.1;have B1:=HD.1;have A9:=A8.1;have B0:=A5.1;have B5:=A4.1;have B4:=HLT2.1;omega));apply zq (iV ((i+2:Nat):Int));have H4:=tD (tD E5 J9) L9;go_wp2_with fail
     go_roundg (d-(i+1))
     case measure=>exact(by have A0:=HI.1;have A3:=A1.1;have B1:=HD.1;have A9:=A8.1;have B0:=A5.1;have B5:=A4.1;have B4:=HLT2.1;have I1:=(show i<d from by have h_:=HLT2.1;omega);omega)
     case rel=>exact⟨i+1,k,ds,rfl,rfl,(by go_num),HLT2.1,(by have h_:=A1.1;omega),A4.1,(by rw[show j+1+(i+1+1)=j+1+i+1+1 by omega,D5.1,if_pos (decide_eq_true HEQ2.1),gZZ];exact G6.1),(by rw[show j+1+(i+1)=(j+1+i)+1 by omega,<-List.drop_drop,F3.1,List.drop_drop]),L1.1,L5.1,H4.1⟩
    go_upto_region 11 with fail;refine zy ?_;have L4:=zH (C7.1.step (Aa.refl B8).drew);have J8:=zH (Af.of_ext (w:=B8) zb);have I9:=zH (B6.1.trans (Fr.of_ext (Aa.refl B8).drew));refine vS Ah zb (bs 12 7) 0 1 2 _ (.slice (some ⟨g,(j+1)*4,none⟩) d c2) (iV ((i+1:Nat):Int)) ?_;refine zo 3 (bs 12 15) (v:= .pointer (some ⟨g,(j+1)*4+(i+1)*4,none⟩)) zb ?_ (hv:=by intro w B2;exact Iu (k:=i+1) underlying118 (l:=(by have h_:=HLT2.1;omega)) (f:=rfl));refine zg 4 (bs 12 31) g ((j+1)*4+(i+1)*4) (rc e2.a) (Mo (C7.1.elem (f:=Ca.cells) (i:=0) rR Ca.len C5.1)) underlying33 zb ?_;refine Xn Ah zb (bs 12 127) 5 6 (.slice (some ⟨g,(j+1)*4,none⟩) d c2) (iV ((i+1:Nat):Int)) ?_;refine zu 7 (bs 12 255) (v:= iV (i:Int)) zb ?_ (hv:=by intro w B2;exact Zd (by have A0:=HI.1;have A3:=A1.1;have B1:=HD.1;have A9:=A8.1;have B0:=A5.1;have B5:=A4.1;have B4:=HLT2.1;omega));refine zo 8 (bs 12 511) (v:= .pointer (some ⟨g,(j+1)*4+i*4,none⟩)) zb ?_ (hv:=by intro w B2;exact Iu (k:=i) underlying118 (l:=(by have h_:=HLT2.1;omega)) (f:=rfl));refine zg 9 (bs 12 1023) g ((j+1)*4+i*4) (rc f2.a) (Mo (C7.1.elem (f:=Ca.cells) (i:=0) rR Ca.len D6.1)) underlying33 zb ?_;have E1:=tD (tD (tD B7 H5) E5) J8;refine mC 10 (bs 12 2047) (Mx L hL Bc _ e2 f2 ⟨(E0.1.dig E1.1),E7.1⟩ ⟨(D9.1.dig E1.1),E6.1⟩ (I9.1.cell HC.1 HB.1)) ?_;rintro e K3 ⟨rfl,hx⟩;have J6:=zH (L4.1.step hx);have L8:=zH (show Af B8.drew K3 from Af.of_ext hx);have L0:=zH (I9.1.trans (Fr.of_ext hx));have I7:=zH (zb.trans hx);clear hx;refine⟨.bool false,by rw[decide_eq_false HEQ2.1],I7.1,?_⟩;try simp only[ζ]
    refine zx 11 (bs 12 4095) (.bool true) I7.1 ?_;refine wpAnyH_done kR ?_ _;go_upto_region 12 with fail;apply wl;refine Fg Ah _ (iV (k:Int)) (.slice (some ⟨g,(j+1)*4,none⟩) d c2) (iV ((i+1:Nat):Int)) ?_;apply zp (.pointer (some ⟨g,(j+1)*4+(i+1)*4,none⟩)) (by exact Iu (k:=i+1) underlying118 (l:=(by have h_:=HLT2.1;omega)) (f:=rfl));refine zd g ((j+1)*4+(i+1)*4) (rc e2.a) (Mo (J6.1.elem (f:=Ca.cells) (i:=0) rR Ca.len C5.1)) underlying33 ?_;apply zp (.pointer (some ⟨g,k*4,none⟩)) (by exact Iu (k:=k) underlying118 (l:=(by have h_:=A1.1;have I6:=HLT2.1;have A7:=HD.1;omega)) (f:=(eZZ _).symm));refine oI (f:=Ca.cells) rR _ _ _ rR J6.1 (ix:=0) rR Ca.len k e2 (by have h_:=A1.1;have I6:=HLT2.1;have A7:=HD.1;have F0:=A4.1;omega) (rc e2.a) rR (k*4) rR rR rR kR (by simp[Value.oneCell']) (by simp[Aq]) ?_;intro K6 hh hd ho;have H3:=hN hh;have H9:=zH (hd);have G4:=zH (L0.1.trans_new ho (fun j hj=> .inl hj));clear hh hd ho
    (try simp only[Act.put])
    go_upto_region 13 with fail;apply wl;apply zq (iV (k:Int));apply zp (iV ((k+1:Nat):Int)) (by exact He (by have A0:=HI.1;have A3:=A1.1;have B1:=HD.1;have A9:=A8.1;have B0:=A5.1;have B5:=A4.1;have B4:=HLT2.1;omega));apply zq (iV ((k+1:Nat):Int));go_upto_region 10 with fail;apply wl;apply zq (iV ((i+1:Nat):Int));apply zp (iV ((i+2:Nat):Int)) (by exact He (by have A0:=HI.1;have A3:=A1.1;have B1:=HD.1;have A9:=A8.1;have B0:=A5.1;have B5:=A4.1;have B4:=HLT2.1;omega));apply zq (iV ((i+2:Nat):Int));have E4:=tD (tD (tD E5 J8) L8) H9;go_wp2_with fail
    go_roundg (d-(i+1))
    case measure=>exact(by have A0:=HI.1;have A3:=A1.1;have B1:=HD.1;have A9:=A8.1;have B0:=A5.1;have B5:=A4.1;have B4:=HLT2.1;have I1:=(show i<d from by have h_:=HLT2.1;omega);omega)
    case rel=>exact⟨i+1,k+1,(ds.set k e2),rfl,(by go_num),(by go_num),HLT2.1,(by have h_:=A1.1;omega),(by rw[fQQ];exact A4.1),(by rw[show j+1+(i+1+1)=j+1+i+1+1 by omega,D5.1,if_neg (by rw[decide_eq_false HEQ2.1];decide),Wz (by have h_:=A1.1;have I6:=HLT2.1;have A7:=HD.1;have F0:=A4.1;omega)];exact congrArg (· ++[e2]) G6.1),(by rw[List.drop_set_of_lt (by have h_:=A1.1;omega),show j+1+(i+1)=(j+1+i)+1 by omega,<-List.drop_drop,F3.1,List.drop_drop]),G4.1,H3.1,E4.1⟩
   go_upto_region 9 with fail;apply wl;refine Dv Ah (iV ((i+1:Nat):Int)) (.slice (some ⟨g,(j+1)*4,none⟩) d c2) (iV (d:Int)) ?_;apply zp (.bool false) (by exact Eg (e:=(Al (by have A0:=HI.1;have A3:=A1.1;have B1:=HD.1;have A9:=A8.1;have B0:=A5.1;have B5:=A4.1;have B4:=HLT2.1;omega))));have F7:i+1=d:=by have h_:=HLT2.1;have A7:=HI.1;omega
   have L3:=zH (show ds.take k=Dq (fun x y:Ca=>decide (x.q=y.q)) es from by rw[G6.1,show j+1+(i+1)=es.length by rw[HD.1];omega,cQQ (Ck _)]);obtain⟨d3,I4⟩:∃d3,es.length=k+d3:=⟨es.length-k,by have h_:=A1.1;have A7:=HD.1;omega⟩;obtain⟨c3,E8⟩:∃c3,cap=k+c3:=⟨cap-k,by have h_:=A1.1;have A7:=HD.1;have F0:=A5.1;omega⟩;have C6:=zH I4;have G8:=zH E8;have I5:0<d3:=by have h_:=A1.1;have A7:=HD.1;omega
   have F4:=zH I5;clear I4 E8 F7 I5;go_upto_region 14 with fail;apply wl;refine Cc Ah _ (iV (k:Int)) ?_;apply zp (.slice (some ⟨g,k*4,none⟩) d3 c3) (by exact lK rR underlying118 kR rR rR (by first|rfl|omega) C6.1 F4.1 G8.1 (by have A0:=HI.1;have A3:=A1.1;have B1:=HD.1;have A9:=A8.1;have B0:=A5.1;have B5:=A4.1;have B4:=HLT2.1;have M1:=C6.1;have I1:=G8.1;have M0:=F4.1;omega));refine tN (f:=Ca.cells) rR _ 118 rR C7.1 (ix:=0) rR Ca.len A4.1 k c3 (by have h_:=C6.1;have A7:=F4.1;omega) (by rw[show es.length-k=d3 by have h_:=C6.1;omega];rfl) underlying118 (.agg z4) Tryz.zeroValue33 rfl (by simp[Value.cells,Value.oneCell']) (by simp[Value.cells,Aq]) dC ?_;intro K5 hh hd ho;have H2:=hN hh;have H8:=zH (hd);have G3:=zH (B6.1.trans_new ho (fun j hj=> .inl hj));clear hh hd ho
   (try simp only[Act.put])
   go_upto_region 15 with fail;apply wl;refine Cc Ah _ (iV (k:Int)) ?_;apply zp (.slice (some ⟨g,0,none⟩) k cap) (by exact yR (size:=4) rR underlying118 kR rR rR (by first|rfl|omega) (by have h_:=C6.1;omega) A5.1 (by have h_:=G8.1;have A7:=C6.1;have F0:=A5.1;have M2:=F4.1;omega));refine Cs Ah _ ?_;have J3:=zH (H2.1.row (i:=0) (by rfl));have D1:(ds.take k).length=k:=by rw[eQQ,A4.1,C6.1];omega
   rw[L3.1]at D1 J3;go_wp2_with fail;go_ret;exact⟨_,rfl,by rw[D1];exact J3.1,G3.1.grownBy,((((F5.1.trans K0.1).trans H5.1).trans E5.1).trans H8.1),rfl⟩
  go_upto_region 6 with fail;refine zy ?_;have H1:=zH (C8.1.step (Aa.refl B9).drew);have H7:=zH (Af.of_ext (w:=B9) zb);have D4:=zH (B6.1.trans (Fr.of_ext (Aa.refl B9).drew));refine vS Ah zb (bs 11 7) 0 1 2 _ _ (iV ((j+1:Nat):Int)) ?_;refine zo 3 (bs 11 15) (v:= .pointer (some ⟨g,(j+1)*4,none⟩)) zb ?_ (hv:=by intro w B2;exact Iu (k:=j+1) underlying118 (l:=(by have h_:=HLT.1;omega)) (f:=(eZZ _).symm));refine zg 4 (bs 11 31) g ((j+1)*4) (rc e.a) (C8.1.elem (f:=Ca.cells) (i:=0) rR Ca.len F1.1) underlying33 zb ?_;refine Xn Ah zb (bs 11 127) 5 6 _ (iV ((j+1:Nat):Int)) ?_;refine zu 7 (bs 11 255) (v:= iV (j:Int)) zb ?_ (hv:=by intro w B2;exact Zd (by have A0:=HK.1;have A3:=HLT.1;omega));refine zo 8 (bs 11 511) (v:= .pointer (some ⟨g,j*4,none⟩)) zb ?_ (hv:=by intro w B2;exact Iu (k:=j) underlying118 (l:=(by have h_:=HLT.1;omega)) (f:=(eZZ _).symm));refine zg 9 (bs 11 1023) g (j*4) (rc f.a) (C8.1.elem (f:=Ca.cells) (i:=0) rR Ca.len G5.1) underlying33 zb ?_;have B3:=tD F5 H7;refine mC 10 (bs 11 2047) (Mx L hL Bc _ e f ⟨(J5.1.dig B3.1),K2.1⟩ ⟨(J4.1.dig B3.1),K1.1⟩ (D4.1.cell HC.1 HB.1)) ?_;rintro e F6 ⟨rfl,hx⟩;have G9:=zH (H1.1.step hx);have H6:=zH (show Af B9.drew F6 from Af.of_ext hx);have G2:=zH (D4.1.trans (Fr.of_ext hx));have G1:=zH (zb.trans hx);clear hx;refine⟨.bool false,by rw[decide_eq_false HEQ.1],G1.1,?_⟩;try simp only[ζ]
  refine wpAnyH_done kR ?_ _;go_upto_region 5 with fail;apply wl;apply zq (iV ((j+1:Nat):Int));apply zp (iV ((j+2:Nat):Int)) (by exact He (by have A0:=HK.1;have A3:=HLT.1;omega));apply zq (iV ((j+2:Nat):Int));have E3:=tD B3 H6;go_wp2_with fail
  go_roundg (es.length-(j+1))
  case measure=>exact(by have A0:=HK.1;have A3:=HLT.1;have A9:=(show j<es.length from by have h_:=HLT.1;omega);omega)
  case rel=>exact⟨j+1,rfl,(by go_num),HLT.1,(by rw[J2.1,if_neg (by rw[decide_eq_false HEQ.1];decide),G7.1,List.take_add_one (i:=j+1),F1.1];rfl),G2.1,G9.1,E3.1⟩
 go_upto_region 4 with fail;apply wl;refine Dv Ah (iV ((j+1:Nat):Int)) _ (iV ((es.length:Nat):Int)) ?_;apply zp (.bool false) (by exact Eg (e:=(Al (by have A0:=HK.1;have A3:=HLT.1;omega))));go_upto_region 16 with fail;apply wl;refine Cc Ah _ _ ?_;have G0:Dq (fun x y:Ca=>decide (x.q=y.q)) es=es:=by have h_:=G7.1;rwa[show j+1=es.length by have A7:=HLT.1;have F0:=HK.1;omega,cQQ (Ck _)]at h_
 go_wp2_with fail;go_ret;exact⟨_,rfl,by rw[G0];exact C8.1.row (i:=0) (by rfl),B6.1.grownBy,F5.1,rfl⟩
end
section
open Go.Shelf Go.RowKit
def cS:Go.Shelf.Ren:=⟨fun|6=>129|15=>156|14=>155|28=>160|29=>180|20=>172|21=>173|22=>174|23=>175|24=>176|25=>177|26=>178|27=>179|46=>186|47=>187|48=>188|49=>189|50=>190|57=>195|n=>n,fun|22=>118|24=>33|25=>42|3=>3|39=>46|0=>0|53=>94|55=>92|4=>4|46=>188|45=>187|50=>82|5=>5|9=>9|66=>198|70=>202|76=>208|77=>209|n=>n,fun|n=>n⟩
theorem wH:Go.Proofs.SlLaysF0.n6 prog cS:={
 mixed:=by kernel_rfl
 f6:=⟨Tryz.f129.name,by decide,func129.trans (congrArg some (by kernel_rfl))⟩
 f14:=⟨Tryz.f155.name,by decide,func155.trans (congrArg some (by kernel_rfl))⟩
 f15:=func156.trans (congrArg some (by kernel_rfl))
 f20:=⟨Tryz.f172.name,by decide,func172.trans (congrArg some (by kernel_rfl))⟩
 f21:=⟨Tryz.f173.name,by decide,func173.trans (congrArg some (by kernel_rfl))⟩
 f22:=⟨Tryz.f174.name,by decide,func174.trans (congrArg some (by kernel_rfl))⟩
 f23:=⟨Tryz.f175.name,by decide,func175.trans (congrArg some (by kernel_rfl))⟩
 f24:=⟨Tryz.f176.name,by decide,func176.trans (congrArg some (by kernel_rfl))⟩
 f25:=⟨Tryz.f177.name,by decide,func177.trans (congrArg some (by kernel_rfl))⟩
 f26:=⟨Tryz.f178.name,by decide,func178.trans (congrArg some (by kernel_rfl))⟩
 f27:=⟨Tryz.f179.name,by decide,func179.trans (congrArg some (by kernel_rfl))⟩
 f28:=func160.trans (congrArg some (by kernel_rfl))
 f29:=func180.trans (congrArg some (by kernel_rfl))
 f46:=⟨Tryz.f186.name,by decide,func186.trans (congrArg some (by kernel_rfl))⟩
 f47:=func187.trans (congrArg some (by kernel_rfl))
 f48:=func188.trans (congrArg some (by kernel_rfl))
 f49:=⟨Tryz.f189.name,by decide,func189.trans (congrArg some (by kernel_rfl))⟩
 f50:=⟨Tryz.f190.name,by decide,func190.trans (congrArg some (by kernel_rfl))⟩
 f57:=⟨Tryz.f195.name,by decide,func195.trans (congrArg some (by kernel_rfl))⟩
 t0:=underlying0
 a0:=Tryz.isAgg0
 z0:=Tryz.sizeOf0
 v0:=Tryz.zeroValue0
 t3:=underlying3
 a3:=Tryz.isAgg3
 z3:=Tryz.sizeOf3
 v3:=Tryz.zeroValue3
 t4:=underlying4
 a4:=Tryz.isAgg4
 z4:=Tryz.sizeOf4
 v4:=Tryz.zeroValue4
 t5:=underlying5
 a5:=Tryz.isAgg5
 z5:=Tryz.sizeOf5
 v5:=Tryz.zeroValue5
 t9:=underlying9
 a9:=Tryz.isAgg9
 z9:=Tryz.sizeOf9
 v9:=Tryz.zeroValue9
 t22:=underlying118
 a22:=Tryz.isAgg118
 z22:=Tryz.sizeOf118
 v22:=Tryz.zeroValue118
 t25:=underlying42
 a25:=Tryz.isAgg42
 z25:=Tryz.sizeOf42
 v25:=Tryz.zeroValue42
 t39:=underlying46
 a39:=Tryz.isAgg46
 z39:=Tryz.sizeOf46
 v39:=Tryz.zeroValue46
 t45:=underlying187
 a45:=Tryz.isAgg187
 z45:=Tryz.sizeOf187
 v45:=Tryz.zeroValue187
 t46:=underlying188
 a46:=Tryz.isAgg188
 z46:=Tryz.sizeOf188
 v46:=Tryz.zeroValue188
 t50:=underlying82
 a50:=Tryz.isAgg82
 z50:=Tryz.sizeOf82
 v50:=Tryz.zeroValue82
 t53:=underlying94
 a53:=Tryz.isAgg94
 z53:=Tryz.sizeOf94
 v53:=Tryz.zeroValue94
 t55:=underlying92
 a55:=Tryz.isAgg92
 z55:=Tryz.sizeOf92
 v55:=Tryz.zeroValue92
 t66:=underlying198
 a66:=Tryz.isAgg198
 z66:=Tryz.sizeOf198
 v66:=Tryz.zeroValue198
 t70:=underlying202
 a70:=Tryz.isAgg202
 z70:=Tryz.sizeOf202
 v70:=Tryz.zeroValue202
 t76:=underlying208
 a76:=Tryz.isAgg208
 z76:=Tryz.sizeOf208
 v76:=Tryz.zeroValue208
 t77:=underlying209
 a77:=Tryz.isAgg209
 z77:=Tryz.sizeOf209
 v77:=Tryz.zeroValue209}
theorem Uj (L:Nat)(hL:L<=60000)(v:Value)(es:List Ca)(base:Nat)(w:World)(h:Be w base 33 4 v es.length (es.flatMap Ca.cells))(hok:∀e,e∈es->e.Ok L w)(hn:es.length<=100000000):
  Calls prog 129 #[v,.func (.func 46) #[] #[]] w fun e w'=>e= .returned (.tuple #[])/\
   ∃es':List Ca,es'.Perm es/\es'.Pairwise (fun x y=>x.q<=y.q)/\Be w' base 33 4 v es'.length (es'.flatMap Ca.cells)/\w.grownBy w' v.ownBlock/\Af w w':=by
 have hc:=mQ wH 4 (by decide) Tryz.isAgg33 Tryz.sizeOf33 Ca.cells Ca.len Ca.one zS (fun w e=>e.Ok L w) (fun h d=>h.dig d) (fun x y=>Df x.q y.q)
  (fun x h=>Rat.not_lt.2 Rat.le_refl (rcmp_lt.1 h)) (fun x y z h1 h2=>rcmp_lt.2 (by have a:=rcmp_lt.1 h1;have b:=rcmp_lt.1 h2;grind))
  (fun x y z h1 h2 h3=>by have k1:=Rat.not_lt.1 (fun h=>h1 (rcmp_lt.2 h));have k2:=Rat.not_lt.1 (fun h=>h2 (rcmp_lt.2 h));exact Rat.not_lt.2 (Rat.le_trans k2 k1) (rcmp_lt.1 h3))
  46 (enters_of func46 (by kernel_rfl) rfl)
  (fun w x y hx hy=>(Gd (L:=60000) (RV.Is.nin hx.1 (Av hx.2 hL)) (RV.Is.nin hy.1 (Av hy.2 hL)) ω:Calls _ _ _ _ _)) v es base 33 w h hok (ω)
 refine hc.mono ?_;rintro e w' ⟨rfl,es',h1,h2,h3⟩;exact⟨rfl,es',h1,h2.imp (fun h=>Rat.not_lt.1 (fun k=>h (rcmp_lt.2 k))),h3⟩
end
section
attribute [local go_sem ↓] Go.wp_at_zero Go.wp_at_succ Aj Ai
theorem gW (L:Nat)(hL:L<=60000)(v:Value)(es:List Ca)(base:Nat)(w:World)(h:Be w base 33 4 v es.length (es.flatMap Ca.cells))(hbase:base<=w.heap.size)(hok:∀e,e∈es->e.Ok L w)(hn:es.length<=100000000):
  Calls prog 153 #[v,.func (.func 46) #[] #[]] w fun x w'=>∃(v':Value) (es':List Ca),x= .returned v'/\Be w' base 33 4 v' es'.length (es'.flatMap Ca.cells)/\w.grownBy w' v.ownBlock/\Af w w'/\v'.ownBlock=v.ownBlock/\
   (es'.map Ca.q).Pairwise (· < ·)/\(∀x,x∈es'.map Ca.q↔x∈es.map Ca.q)/\(∀e,e∈es'->e∈es):=by
 obtain⟨w0,A6,rfl⟩:=zV w base hbase;obtain⟨A,c,rfl,_⟩:=Be.form h;have A9:=zH hok;have H0:=zH (Hp.one A6 h);have C1:=zH (show Fr (fun kz=>Value.ownBlock (.slice A es.length c)=some kz) w w from Fr.of_ext (Aa.refl w));clear h A6 hok;go_enter func153,ntmps153
 go_upto_region 0 with fail;apply wl;apply aA 42 [.func (.func 46) #[] #[]] H0.1;intro X1 w2 H4 hx B4;have D4:=zH (Af.of_ext hx);have K6:=zH (C1.1.trans (Fr.of_ext hx));clear hx B4;refine Cs Ah _ ?_;go_upto_region 1 with fail
 apply wl;refine Cc H4.1 _ _ ?_;refine zc (Uj L hL (.slice A es.length c) es _ _ (H4.1.row (i:=0) rR) (fun e he=>(A9.1 e he).dig D4.1) hn) ?_;rintro e B1 ⟨rfl,A1,A4,A7,A3,A5,A8⟩;have A0:=zH A4;have C0:=zH A7;rw[A4.length_eq]at A3;have hh:=H4.1.turn (i:=0) (e:= .row 33 4 (.slice A es.length c) es.length (es.flatMap Ca.cells)) (e':= .row 33 4 (.slice A es.length c) es.length (A1.flatMap Ca.cells)) (by rfl) (fun k h=>h) A5 A3 (fun k hk=> .inl hk);have A2:=hN hh;have B0:=zH (show Af w2 B1 from A8);have B9:=zH (K6.1.trans_new A5 (fun j hj=> .inl hj));have hx:=True.intro;clear hh A3 A5 A8 A4 A7 hx;refine zn ?_;go_upto_region 2 with fail
 apply wl;refine Cc Ah _ _ ?_;refine zc (qD L hL X1 (.slice A es.length c) A1 _ _ (by rw[A0.1.length_eq];exact A2.1.row (i:=0) rR) A2.1.ext.size (fun e he=>(A9.1 e (A0.1.mem_iff.1 he)).dig (D4.1.trans B0.1)) (A2.1.cell (i:=1) rR 0 rR) (A2.1.offRow (i:=1) (j:=0) rR rR dC rR) (by rw[A0.1.length_eq];exact hn)) ?_;rintro e C2 ⟨v2,rfl,B3,B5,B6,B7⟩;have B8:=zH (B9.1.trans_new B5 (fun j hj=> .inl hj));have hx:=True.intro;clear hx;refine zn ?_;refine zq (v2) ?_;go_wp2_with fail
 go_ret;have B2:(Dq (fun x y:Ca=>decide (x.q=y.q)) A1).Pairwise (fun x y=>x.q<y.q):=Sy (le:=fun x y=>x.q<=y.q) (fun a b c h1 h2=>by grind) (fun x y h1 h2=>by have h3:=of_decide_eq_false h2;grind) (fun x y h1 z h2=>by have h3:=of_decide_eq_true h1;grind) C0.1;refine⟨_,Dq (fun x y:Ca=>decide (x.q=y.q)) A1,rfl,B3,B8.1.grownBy,(D4.1.trans B0.1).trans B6,B7,?_,fun x=>⟨fun hx=> ?_,fun hx=> ?_⟩,fun e he=>A0.1.mem_iff.1 (Ql _ he)⟩
 ·rw[List.pairwise_map];exact B2
 ·obtain⟨e,he,rfl⟩:=List.mem_map.1 hx
  exact List.mem_map_of_mem (A0.1.mem_iff.1 (Ql _ he))
 obtain⟨e,he,rfl⟩:=List.mem_map.1 hx;obtain⟨f,hf,h2⟩:=bO (eqv:=(fun x y:Ca=>decide (x.q=y.q))) (key:=Ca.q) (fun x y h=>of_decide_eq_true h) (A0.1.mem_iff.2 he);exact List.mem_map.2 ⟨f,hf,h2⟩
def cC (L:Nat)(y lo hi:Rat)(Bo:Nat)(A:Option Addr)(n c:Nat)(es:List Ca)(w0 w w':World):Prop:=
  ∃ (A':Option Addr) (c' n':Nat) (es':List Ca),Hp w0 w' [.blk Bo 118 [.slice A' n' c'],.row 33 4 (.slice A' n' c') n' (List.flatMap Ca.cells es')]/\Af w w'/\Fr (fun kz=>kz=Bo\/Value.ownBlock (.slice A n c)=some kz) w w'/\
    (∀k,Value.ownBlock (.slice A' n' c')=some k->Value.ownBlock (.slice A n c)=some k\/w.heap.size<=k)/\es'.map Ca.q=es.map Ca.q++(if lo<y/\y<hi then[y]else[])/\n'=es'.length/\n'<=n+1/\∀e,e∈es'->e.Ok L w'
theorem aG (L:Nat)(hL:L<=60000)(ry rl rh:RV)(y lo hi:Rat)(Xl Xh Bo:Nat)(A:Option Addr)(n c:Nat)(es:List Ca)(w0 w:World)(hh:Hp w0 w [.blk Bo 118 [.slice A n c],.row 33 4 (.slice A n c) n (List.flatMap Ca.cells es)])
  (hy:ry.Is w y)(h1:Nm.rl y<=L)(hl:rl.Is w lo)(hh2:rh.Is w hi)(hl2:Nm.rl lo<=L)(hh3:Nm.rl hi<=L)(hrl:w.rangeAt Xl 0 (rc rl))(hrh:w.rangeAt Xh 0 (rc rh))
  (hnl:¬(Xl=Bo\/Value.ownBlock (.slice A n c)=some Xl))(hnh:¬(Xh=Bo\/Value.ownBlock (.slice A n c)=some Xh))(hn:n=es.length)(hn2:n<=90000000)(hok:∀e,e∈es->e.Ok L w):
  Calls prog 151 #[(rg ry),.pointer (some ⟨Xl,0,none⟩),.pointer (some ⟨Xh,0,none⟩),.pointer (some ⟨Bo,0,none⟩)] w fun e w'=>e= .returned (.tuple #[])/\cC L y lo hi Bo A n c es w0 w w':=by
 have RY:=zH hy;have BY:=zH h1;have RL:=zH hl;have RH:=zH hh2;have BL:=zH hl2;have BH:=zH hh3;have GL:=zH hrl;have GH:=zH hrh;have NL:=zH hnl;have NH:=zH hnh;have HN:=zH hn;have A4:=zH hok;have H0:=zH hh;have B6:=zH hn2;clear hy h1 hl hh2 hl2 hh3 hrl hrh hnl hnh hn hn2 hok hh;have D0:=zH (show Fr (fun kz=>kz=Bo\/Value.ownBlock (.slice A n c)=some kz) w w from Fr.of_ext (Aa.refl w));go_enter func151,ntmps151
 go_upto_region 0 with fail;apply wl;apply aA 33 (rc ry) H0.1;intro X1 w2 H4 hx C5;have D4:=zH (Af.of_ext hx);have K6:=zH (D0.1.trans (Fr.of_ext hx));clear hx C5;rcases Cy (lo<y/\y<hi)with CL|CL
 ·go_upto_region 1 with fail
  apply wl;refine zd Xl (0) (rc rl) (K6.1.range GL.1 NL.1) underlying33 ?_;refine Cs H4.1 _ ?_;refine zc (Gd (L:=60000) (RV.Is.nin (RL.1.dig D4.1) (Av BL.1 ω)) (RV.Is.nin (RY.1.dig D4.1) (Av BY.1 ω)) ω) ?_;rintro e w9 ⟨rfl,hx⟩;have B9:=zH (H4.1.step hx);have B1:=zH (Af.of_ext hx);have B5:=zH (K6.1.trans (Fr.of_ext hx));clear hx;refine zn ?_;apply zp (.bool true) (by exact Eg (e:=(Ar (rcmp_lt.2 CL.1.1))));refine Cc B9.1 (.bool true) _ ?_;refine zd Xh (0) (rc rh) (B5.1.range GH.1 NH.1) underlying33 ?_;have A0:=tD D4 B1;refine zc (Gd (L:=60000) (RV.Is.nin (RY.1.dig A0.1) (Av BY.1 ω)) (RV.Is.nin (RH.1.dig A0.1) (Av BH.1 ω)) ω) ?_;rintro e B2 ⟨rfl,hx⟩;have B8:=zH (B9.1.step hx);have B0:=zH (Af.of_ext hx);have B4:=zH (B5.1.trans (Fr.of_ext hx));clear hx;refine zn ?_;apply zp (.bool true) (by exact Eg (e:=(Ar (rcmp_lt.2 CL.1.2))));apply zq (.bool true);go_upto_region 2 with fail
  apply wl;refine Cc B8.1 _ _ ?_;refine zp (w':=(B2.alloc (.cells ((rc ry):List Value).toArray 33))) (.slice (some ⟨B2.heap.size,0,none⟩) 1 1) (by go_simp) ?_;refine Oh rR _ _ _ rR aAG rR B8.1 (ix:=1) rR 1 1 (rc ry) rR rfl (by simp[Value.oneCell']) (by simp[Aq]) dC (by unfold maxLen;exact(by have C4:=B6.1;omega)) (by have C4:=B6.1;omega) ?_;intro A3 A1 C3 hf hh hd hg;have A5:=zH hf;clear hf;rw[show List.flatMap Ca.cells es++(rc ry)=_ from Ez Ca.cells _ (⟨ry,y⟩:Ca)]at hh;have D5:=hN hh;have A9:=zH (hd);have C9:=zH (show Fr (fun kz=>kz=Bo\/Value.ownBlock (.slice A n c)=some kz) w C3 from(B4.1.trans (Fr.of_ext (An.alloc _))).trans_new hg (fun j hj=> .inl (.inr hj)));clear hh hd hg;try simp only[ζ]
  apply aU 0 (.slice (some ⟨A3,0,none⟩) (n+1) A1) D5.1;intro D9 D3 hd ho;have A8:=zH (hd);have C8:=zH (C9.1.trans_new ho (fun j hj=> .inl (.inl (by injection hj with hj;exact hj.symm))));clear hd ho;have A6:=tD (tD (tD A0 B0) A9) A8;go_wp2_with fail
  first|refine bodyPost_end (v:= .tuple #[]) (results_none rfl _ _ _) rfl ?_|refine bodyPost_ret (v:= .tuple #[]) (results_none rfl _ _ _) rfl ?_
  exact⟨rfl,some ⟨A3,0,none⟩,A1,n+1,es++[(⟨ry,y⟩:Ca)],D3.1.take 2,((((D4.1.trans B1.1).trans B0.1).trans A9.1).trans A8.1),C8.1,(fun k_ hk_=>by have e_:A3=k_:=(by simpa[Value.ownBlock]using hk_);subst e_;exact A5.1.imp id (fun h_=>Av B4.1.size h_)),(by rw[fXX,if_pos CL.1];rfl),(by rw[aXX,<-HN.1];rfl),Ck _,(fun g_ hg_=>(List.mem_append.1 hg_).elim (fun hg_=>(A4.1 g_ hg_).dig ((((D4.1.trans B1.1).trans B0.1).trans A9.1).trans A8.1)) (fun hg_=>by rw[List.mem_singleton.1 hg_];exact⟨(RY.1.dig A6.1),BY.1⟩))⟩
 rcases Cy (lo<y)with C1|C1
 ·go_upto_region 1 with fail
  apply wl;refine zd Xl (0) (rc rl) (K6.1.range GL.1 NL.1) underlying33 ?_;refine Cs H4.1 _ ?_;refine zc (Gd (L:=60000) (RV.Is.nin (RL.1.dig D4.1) (Av BL.1 ω)) (RV.Is.nin (RY.1.dig D4.1) (Av BY.1 ω)) ω) ?_;rintro e D8 ⟨rfl,hx⟩;have B7:=zH (H4.1.step hx);have A7:=zH (Af.of_ext hx);have B3:=zH (K6.1.trans (Fr.of_ext hx));clear hx;refine zn ?_;apply zp (.bool true) (by exact Eg (e:=(Ar (rcmp_lt.2 C1.1))));refine Cc B7.1 (.bool true) _ ?_;refine zd Xh (0) (rc rh) (B3.1.range GH.1 NH.1) underlying33 ?_;have A2:=tD D4 A7;refine zc (Gd (L:=60000) (RV.Is.nin (RY.1.dig A2.1) (Av BY.1 ω)) (RV.Is.nin (RH.1.dig A2.1) (Av BH.1 ω)) ω) ?_;rintro e D7 ⟨rfl,hx⟩;have D2:=zH (B7.1.step hx);have C2:=zH (Af.of_ext hx);have C7:=zH (B3.1.trans (Fr.of_ext hx));clear hx;refine zn ?_;apply zp (.bool false) (by exact Eg (e:=(Al (fun hh=>(fun h_=>CL.1 ⟨C1.1,h_⟩) (rcmp_lt.1 hh)))));apply zq (.bool false);go_wp2_with fail
  first|refine bodyPost_end (v:= .tuple #[]) (results_none rfl _ _ _) rfl ?_|refine bodyPost_ret (v:= .tuple #[]) (results_none rfl _ _ _) rfl ?_
  exact⟨rfl,A,c,n,es,D2.1.take 2,((D4.1.trans A7.1).trans C2.1),C7.1,(fun k_ hk_=> .inl hk_),(by rw[if_neg CL.1,gZZ]),HN.1,Nat.le_succ _,(fun g_ hg_=>(A4.1 g_ hg_).dig ((D4.1.trans A7.1).trans C2.1))⟩
 go_upto_region 1 with fail;apply wl;refine zd Xl (0) (rc rl) (K6.1.range GL.1 NL.1) underlying33 ?_;refine Cs H4.1 _ ?_;refine zc (Gd (L:=60000) (RV.Is.nin (RL.1.dig D4.1) (Av BL.1 ω)) (RV.Is.nin (RY.1.dig D4.1) (Av BY.1 ω)) ω) ?_;rintro e D6 ⟨rfl,hx⟩;have D1:=zH (H4.1.step hx);have C0:=zH (Af.of_ext hx);have C6:=zH (K6.1.trans (Fr.of_ext hx));clear hx;refine zn ?_;apply zp (.bool false) (by exact Eg (e:=(Al (fun hh=>C1.1 (rcmp_lt.1 hh)))));refine Ta Ah (.bool false) _ _ _ _ (.bool false) ?_;go_wp2_with fail
 first|refine bodyPost_end (v:= .tuple #[]) (results_none rfl _ _ _) rfl ?_|refine bodyPost_ret (v:= .tuple #[]) (results_none rfl _ _ _) rfl ?_
 exact⟨rfl,A,c,n,es,D1.1.take 2,(D4.1.trans C0.1),C6.1,(fun k_ hk_=> .inl hk_),(by rw[if_neg CL.1,gZZ]),HN.1,Nat.le_succ _,(fun g_ hg_=>(A4.1 g_ hg_).dig (D4.1.trans C0.1))⟩
end
section
theorem hC {w:World}{g o:Nat}{r:Ac}{k:Nat}{p:Int×Int}(h:Wr w g o r)(hp:r[k]?=some p):w.rangeAt g (o+k*2) [iV p.1,iV p.2]:=by
  obtain⟨hk,rfl⟩:=List.getElem?_eq_some_iff.1 hp;have h2:=h k hk;intro j v hj;match j,hj with
  |0,hj=>simp at hj;subst hj;have h3:=h2.1;simpa[bQQ,hk]using h3
  |1,hj=>simp at hj;subst hj;have h3:=h2.2;simpa[bQQ,hk,Nat.add_assoc]using h3
  |j+2,hj=>simp at hj
theorem aBM {rs:List Ac}{r:Ac}(h:En rs=true)(hr:r∈rs):Di r=true:=by
  unfold En at h;rw[hZZ]at h;exact List.all_eq_true.1 h.2 r hr
theorem kM {rs:List Ac}{r:Ac}{i k:Nat}{p:Int×Int}(h:En rs=true)(hr:rs[i]?=some r)(hp:r[k]?=some p):Dj p:=by
  have h2:=aBM h (bZZ hr);unfold Di at h2;exact List.all_eq_true.1 h2 p (bZZ hp)
theorem uI {a b:Int×Int}{rs:List Ac}{r:Ac}{i:Nat}(h:rs[i]?=some r):aAF a b (rs.take (i+1))=aAF a b (rs.take i)++r.flatMap (fun p=>fM a.2 b.2 (p.2:Rat)):=by
  unfold aAF;rw[List.take_add_one,h,List.flatMap_append];simp
theorem Hp.litRow17 {w0 w:World}{m:List De}{i X n size:Nat}{t:TypeId}{cs:List Value}(h:Hp w0 w m)(hi:m[i]?=some (.blk X t cs))(hl:cs.length=n*size)(hn:n<=maxLen):Be w w0.heap.size t size (.slice (some ⟨X,0,none⟩) n n) n cs:=
  ⟨hl,.inr ⟨X,n,[],rfl,h.ge hi rfl,by rw[gZZ];exact h.blk hi,Ck _,hn,by simp[hl],by rw[gZZ];exact h.noU hi⟩⟩
theorem Af.keptQ {w w':World}{r:Option Nat}(hg:w.grownBy w' r)(hr:∀k,r=some k->∃o:Obj,w.heap[k]?=some o/\o.isCells=false):Af w w':=by
 intro v xs h;obtain⟨p,A1,rfl,hc,hd,hp⟩:=h;refine⟨p,A1,rfl,hc,hd,fun h0=> ?_⟩;obtain⟨b,o,rfl,hb⟩:=hp h0;refine⟨b,o,rfl,fun i hi=> ?_⟩;have h1:=hb i hi;have A0:¬(some b=r):=fun e=>by
  obtain⟨ob,h2,h3⟩:=hr b e.symm;cases ob with
  |cells cs t fz=>cases h3
  |_=>simp[World.cell?,h2]at h1
 rw[World.cell?_of_block (hg.block b (World.block_lt_of_cell? w ⟨b,o+i,none⟩ h1) A0)];exact h1
theorem Hp.keptQ {w0 w w':World}{m:List De}{r:Option Nat}(h:Hp w0 w m)(hg:w.grownBy w' r)(hr:∀k,r=some k->w0.heap.size<=k/\∃o:Obj,w.heap[k]?=some o/\o.isCells=false):Hp w0 w' m:=by
 refine⟨h.ext.grown hg (fun k hk=>(hr k hk).1),fun i e he=>(h.all i e he).kept hg (fun k hk hrk=> ?_),h.apart⟩;obtain⟨o,h2,h3⟩:=(hr k hrk).2;cases e with
 |blk g t cs=>
  injection hk with hk
  subst hk;have:=h.blk he;unfold Ad at this;rw[h2]at this;injection this with this
  rw[this]at h3;cases h3
 |row t size v n xs=>
  obtain⟨h4,⟨rfl,_⟩|⟨g,A0,rest,rfl,a,hb,c⟩⟩:=h.row he
  ·simp[De.own,Value.ownBlock]at hk
  have hk:g=k:=by simpa[De.own,Value.ownBlock]using hk
  subst hk;unfold Ad at hb;rw[h2]at hb;injection hb with hb
  rw[hb]at h3;cases h3
theorem eL {w0 w:World}{m:List De}{i X:Nat}{t:TypeId}{p q:Int}(h:Hp w0 w m)(hi:m[i]?=some (.blk X t [iV p,iV q]))(k:Nat)(hk:k<2):w.rangeAt X k [iV (if k=0 then p else q)]:=by
  have:k=0\/k=1:=ω;rcases this with rfl|rfl
  · exact h.range hi 0 1
  exact h.range hi 1 1
theorem Qr.yes {C:Prop}{q:Rat}{w w':World}{e:Ending}(h:Qr C q w e w')(hc:C):∃r:RV,e= .returned (.tuple #[(rg r),.bool true])/\r.Is w' q/\Aa w w':=by
  obtain⟨⟨r,_,h1,h2⟩|⟨h1,_⟩,hx⟩:=h
  · exact⟨r,h1,h2,hx⟩
  exact absurd hc h1
theorem Qr.no {C:Prop}{q:Rat}{w w':World}{e:Ending}(h:Qr C q w e w')(hc:¬C):e= .returned (.tuple #[.agg z4,.bool false])/\Aa w w':=by
  obtain⟨⟨r,h0,h1,h2⟩|⟨_,h1⟩,hx⟩:=h
  · exact absurd h0 hc
  exact⟨h1,hx⟩
theorem Ox.yes {a b c d:Int×Int}{w w':World}{e:Ending}(h:Ox a b c d w e w')(hc:Ff a b c d=1):∃r s:RV,e= .returned (.tuple #[(rg r),(rg s),iV 1])/\r.Is w' (Xc a b c d)/\s.Is w' (Kj a b c d)/\Aa w w':=by
  obtain⟨⟨r,s,_,h1,h2,h3⟩|⟨h1,_⟩,hx⟩:=h
  · exact⟨r,s,h1,h2,h3,hx⟩
  exact absurd hc h1
theorem Ox.no {a b c d:Int×Int}{w w':World}{e:Ending}(h:Ox a b c d w e w')(hc:¬Ff a b c d=1):e= .returned (.tuple #[.agg z4,.agg z4,iV (Ff a b c d)])/\Aa w w':=by
  obtain⟨⟨r,s,h0,h1,h2,h3⟩|⟨_,h1⟩,hx⟩:=h
  · exact absurd h0 hc
  exact⟨h1,hx⟩
theorem qX {e:Cx}{x:Int}(h:Oy e.1 e.2 x):Kg e x=[Kn e.1 e.2 x]:=if_pos h
theorem vU {e:Cx}{x:Int}(h:¬Oy e.1 e.2 x):Kg e x=[]:=if_neg h
theorem rY {o e:Cx}(h:Ff o.1 o.2 e.1 e.2=1):Ks o e=[Kj o.1 o.2 e.1 e.2]:=if_pos h
theorem wR {o e:Cx}(h:¬Ff o.1 o.2 e.1 e.2=1):Ks o e=[]:=if_neg h
def lX (a b:Int×Int)(e:Cx)(k:Nat):List Rat:=(if 1<=k then(Kg e a.1).flatMap (fM a.2 b.2)else[])++(if 2<=k then(Kg e b.1).flatMap (fM a.2 b.2)else[])
theorem Xs (a b:Int×Int)(e:Cx)(k:Nat)(hk:k<2):lX a b e (k+1)=lX a b e k++(Kg e (if k=0 then a.1 else b.1)).flatMap (fM a.2 b.2):=by
  have:k=0\/k=1:=ω;rcases this with rfl|rfl<;>simp[lX]
theorem Fr.trans_fr {G G':Nat->Prop}{a b c:World}(h:Fr G a b)(k:Fr G' b c)(hG:∀j,G' j->G j\/a.heap.size<=j):Fr G a c:=
  ⟨k.os.trans h.os,k.tape.trans h.tape,k.output.trans h.output,Av h.size k.size,fun i hi hn=>(k.block i (jXX hi h.size) (fun g=>(hG i g).elim hn (fun h2=>ω))).trans (h.block i hi hn)⟩
theorem Hp.addTyp3 {w0 w:World}{m:List De}{X Y B:Nat}{T:TypeId}{zs us:List Value}(h:Hp w0 w m)(B1:Ad w X T zs.toArray)(B2:Ad w Y T us.toArray)(hne:X≠Y)(hB:w0.heap.size<=B)(z1:B<=X)(z2:B<=Y)(n1:Aq zs)(n2:Aq us)
  (ht:∀e,e∈m->e.typ≠T\/∀k,e.own=some k->k<B):Hp w0 w (m++[.blk X T zs]++[.blk Y T us]):=by
 have h1:Hp w0 w (m++[.blk X T zs]):=h.add ⟨Av hB z1,B1,n1⟩ (fun i f hf k hk e=>by
  injection e with e
  subst e;rcases ht f (bZZ hf)with h2|h2
  ·exact h2 (h.typ hf B1 hk)
  have:=h2 _ hk;omega)
 refine h1.add ⟨Av hB z2,B2,n2⟩ (fun i f hf k hk e=> ?_);injection e with e
 subst e;rcases List.mem_append.1 (bZZ hf)with hm|hm
 ·obtain⟨j,hj⟩:=List.mem_iff_getElem?.1 hm
  rcases ht f hm with h2|h2
  ·exact h2 (h.typ hj B2 hk)
  have:=h2 _ hk;omega
 simp at hm;subst hm;injection hk with hk
 exact hne hk
def Ky (F:Fence)(n:Nat)(P:Program)(fn:Func)(R:Ending->World->Prop):Exit->Act->World->Prop
  | .normal,a,w| .ret,a,w=>LeavesInM F n P fn a.tmps R a.defers .returning w
  |_,_,_=>False
theorem Ky.m {F:Fence}{n:Nat}{P:Program}{fn:Func}{R:Ending->World->Prop}:∀e a w,Ky F n P fn R e a w->bodyPostM F n P fn R e a w:=by
  intro e a w h;cases e<;>first|exact h|exact h.elim
end
section
attribute [local go_sem ↓] Go.wp_at_zero Go.wp_at_succ Aj Ai
structure aFQ where
  a:Int×Int
  b:Int×Int
  r:Nat
  i:Nat
  n:Nat
def aEY (e:aFQ)(p:Rat×Rat):Prop:=(((e.b.1-e.a.1):Int):Rat)*(p.2-(((e.a.2):Int):Rat))=(((e.b.2-e.a.2):Int):Rat)*(p.1-(((e.a.1):Int):Rat))/\(((0):Int):Rat)<=(((e.b.1-e.a.1):Int):Rat)*(p.1-(((e.a.1):Int):Rat))+(((e.b.2-e.a.2):Int):Rat)*(p.2-(((e.a.2):Int):Rat))/\(((e.b.1-e.a.1):Int):Rat)*(p.1-(((e.a.1):Int):Rat))+(((e.b.2-e.a.2):Int):Rat)*(p.2-(((e.a.2):Int):Rat))<=(((e.b.1-e.a.1):Int):Rat)*(((e.b.1-e.a.1):Int):Rat)+(((e.b.2-e.a.2):Int):Rat)*(((e.b.2-e.a.2):Int):Rat)
instance aDN (e:aFQ) (p:Rat×Rat):Decidable (aEY e p):=inferInstanceAs (Decidable (_/\_))
end
section
def aAS (a b:Int×Int):Rat:=((1:Int):Rat)/((b.2-a.2:Int):Rat)*((b.1-a.1:Int):Rat)
theorem qY (a b:Int×Int)(y:Rat):Fe a.1 a.2 b.1 b.2 y=aAS a b*y+((a.1:Rat)-(a.2:Rat)*aAS a b):=by
  unfold Fe aAS;generalize ((1:Int):Rat)/((b.2-a.2:Int):Rat)=i;generalize ((b.1-a.1:Int):Rat)=u;grind
end
section
theorem iK {f t:Rat}{p:QQ}{m:Rat}(h1:p.1<=m)(h2:m<=p.2):Ev f t p=Ev f t (p.1,m)+Ev f t (m,p.2):=by unfold Ev;grind
theorem tS (f t:Rat)(l:List QQ)(y:QQ):Ed f t (Stb.ins aAB l y)=Ed f t l+Ev f t y:=by
  induction l with
  |nil=>rw[Stb.ins,Cd,Ep];grind
  | cons x l ih=>
    rw[Stb.ins];split
    · rw[Cd,Cd];grind
    rw[Cd,Cd,ih];grind
theorem oZ (f t:Rat)(l:List QQ):Ed f t (Stb.stab aAB l)=Ed f t l:=by
  induction l using Stb.rev_rec with
  |nil=>rfl
  |snoc l y ih=>rw[Stb.stab_snoc,tS,ih,Jh,Cd,Ep];grind
theorem eO (f t:Rat)(l:List QQ):Ed f t (Ec l)=Ed f t l:=by unfold Ec;rw[oZ,iJ]
theorem pH (f t:Rat)(l:List QQ):∀(out:List QQ),(∀p,p∈l->p.1<p.2)->l.Pairwise (fun a b=>a.2<=b.1)->(∀p,p∈out->p.1<p.2/\∀q,q∈l->p.2<=q.1)->
  Ed f t (l.foldl El out)=Ed f t out+Ed f t l:=by
 induction l with
 |nil=>intro out _ _ _;rw[List.foldl_nil,Ep];grind
 |cons s l ih=>
  intro out h1 h2 h3;obtain⟨p1,p2⟩:=List.pairwise_cons.1 h2;have hs:=h1 s (dXX ..);have A1:Ed f t (El out s)=Ed f t out+Ev f t s/\∀p,p∈El out s->p.1<p.2/\∀q,q∈l->p.2<=q.1:=by
   have A0:∀p,p∈out->p.1<p.2/\∀q,q∈l->p.2<=q.1:=fun p hp=>⟨(h3 p hp).1,fun q hq=>(h3 p hp).2 q (cXX _ hq)⟩
   have A2:∀p,p∈out++[s]->p.1<p.2/\∀q,q∈l->p.2<=q.1:=fun p hp=>by
    rcases List.mem_append.1 hp with hp|hp
    ·exact A0 p hp
    rw[mXX]at hp;subst hp;exact⟨hs,p1⟩
   unfold El;split
   ·exact⟨by rw[Jh,Cd,Ep];grind,A2⟩
   rename_i e h0;have e0:=bD h0;split
   ·exact⟨by rw[Jh,Cd,Ep];grind,A2⟩
   rename_i h4;have k:=h3 e (by rw[e0];simp);have ke:=k.2 s (dXX ..);have kq:e.2=s.1:=by grind
   rw[if_pos (by grind)];generalize out.dropLast=o at*;subst e0;refine⟨?_,fun p hp=> ?_⟩
   ·have sp:=iK (f:=f) (t:=t) (p:=(e.1,s.2)) (m:=s.1) (by dsimp only;grind) (by dsimp only;grind)
    have e1:Ev f t (e.1,s.1)=Ev f t e:=by rw[<-kq]
    have e2:Ev f t (s.1,s.2)=Ev f t s:=rfl;dsimp only at sp
    rw[Jh,Jh,Cd,Cd,Ep];grind
   rcases List.mem_append.1 hp with hp|hp
   ·exact A0 p (List.mem_append.2 (Or.inl hp))
   rw[mXX]at hp;subst hp;exact⟨by dsimp only;grind,p1⟩
  obtain⟨a1,a2⟩:=A1;rw[List.foldl_cons,ih (El out s) (fun p hp=>h1 p (cXX _ hp)) p2 a2,a1,Cd];grind
def Qq (c d:QQ):Prop:=c.1<c.2->d.1<d.2->c.2<=d.1\/d.2<=c.1
theorem Qq.symm {c d:QQ}(h:Qq c d):Qq d c:=fun h1 h2=>(h h2 h1).symm
theorem iE (f t:Rat){l:List QQ}(h:l.Pairwise Qq):Ed f t (Fk l)=Ed f t l:=by
 have hs:Stb.Srt aAB (Ec l):=Stb.stab_srt (aEH fun p:QQ=>p.1) _;have hm:∀p,p∈Ec l↔p∈Hq l:=fun p=>Stb.mem_stab
 have hp:(Ec l).Pairwise Qq:=mH (fun _ _=>Qq.symm) _ (List.Pairwise.filter _ h);have A0:∀p,p∈Ec l->p.1<p.2:=fun p hp=>(Rh.1 ((hm p).1 hp)).2
 have hb:(Ec l).Pairwise fun a b=>a.2<=b.1:=List.Pairwise.imp_of_mem (fun {a b} ha hb2 hab=>by
  obtain⟨h1,h2⟩:=hab;unfold aAB at h1;rw[decide_eq_false_iff_not]at h1;have e1:=A0 a ha;have e2:=A0 b hb2;rcases h2 e1 e2 with h3|h3
  ·exact h3
  grind) (List.Pairwise.and hs hp)
 unfold Fk;rw[pH f t (Ec l) [] A0 hb (by simp),Ep,eO];grind
end
section
attribute [local go_sem ↓] Go.wp_at_zero Go.wp_at_succ
def Hc (n rule:Int):Bool:=(decide (rule=1)&&decide (n≠0))||(decide (rule=2)&&decide (n%2≠0))
end
section
def Gw:Int->List QI->List (QQ×Int)
  |s,a::b::t=>((a.1,b.1),s+a.2)::Gw (s+a.2) (b::t)
  |_,[_]=>[]
  |_,[]=>[]
def Tg (rule:Int)(l:List (QQ×Int)):List QQ:=(l.filter fun r=>Hc r.2 rule).map fun r=>r.1
def Ld (rule:Int)(ms:List QI):List QQ:=Fk (Tg rule (Gw 0 ms))
theorem iQ (n rule:Int):Hc (-n) rule=Hc n rule:=by
  unfold Hc;have h1:(-n≠0)=(n≠0):=by apply propext;omega
  have h2:((-n)%2≠0)=(n%2≠0):=by apply propext;omega
  simp only[h1,h2]
theorem kC (rule:Int)(l m:List (QQ×Int)):Tg rule (l++m)=Tg rule l++Tg rule m:=by unfold Tg;simp
theorem kA (rule:Int)(r:QQ×Int):Tg rule [r]=if Hc r.2 rule=true then[r.1]else[]:=by
  unfold Tg;by_cases h:Hc r.2 rule=true<;>simp[h]
theorem rW (rule:Int)(r:QQ×Int)(l:List (QQ×Int)):Tg rule (r::l)=Tg rule [r]++Tg rule l:=by rw[<-kC];rfl
end
section
attribute [local go_sem ↓] Go.wp_at_zero Go.wp_at_succ Aj Ai
end
section
theorem iB {P Q:Rat->Prop}{out:List QQ}{s:QQ}(h:∀p,p∈out->P p.1/\Q p.2)(hs:P s.1/\Q s.2):∀p,p∈El out s->P p.1/\Q p.2:=by
 have A0:∀p,p∈out++[s]->P p.1/\Q p.2:=fun p hp=>by
  rcases List.mem_append.1 hp with hp|hp
  ·exact h p hp
  rw[mXX]at hp;subst hp;exact hs
 intro p hp;unfold El at hp;split at hp
 ·exact A0 p hp
 rename_i l h0;have e0:=bD h0;split at hp
 ·exact A0 p hp
 split at hp
 ·generalize out.dropLast=o at*
  subst e0;rcases List.mem_append.1 hp with hp|hp
  ·exact h p (List.mem_append.2 (Or.inl hp))
  rw[mXX]at hp;subst hp;exact⟨(h l (by simp)).1,hs.2⟩
 exact h p hp
theorem pI {P Q:Rat->Prop}(l:List QQ):∀(out:List QQ),(∀p,p∈out->P p.1/\Q p.2)->(∀p,p∈l->P p.1/\Q p.2)->∀p,p∈l.foldl El out->P p.1/\Q p.2:=by
  induction l with
  |nil=>intro out h _;exact h
  |cons s l ih=>intro out h k;rw[List.foldl_cons];exact ih _ (iB h (k s (dXX ..))) fun p hp=>k p (cXX _ hp)
theorem eK {P Q:Rat->Prop}{l:List QQ}(h:∀p,p∈l->P p.1/\Q p.2):∀p,p∈Fk l->P p.1/\Q p.2:=by
  unfold Fk;refine pI _ [] (by simp) fun p hp=>h p ?_
  unfold Ec at hp;exact(Rh.1 (Stb.mem_stab.1 hp)).1
end
section
attribute [local go_sem ↓] Go.wp_at_zero Go.wp_at_succ Aj Ai
theorem aX (L:Nat)(hL:L<=60000)(w:World)(e f:Gu)(he:e.Ok L w)(hf:f.Ok L w):
  Calls prog 164 #[.agg e.cells.toArray,.agg f.cells.toArray] w fun x w'=>∃z:Int,x= .returned (iV z)/\(z<0↔oV e f=true)/\Aa w w':=by
 have RA:=zH he.1;have RB:=zH hf.1;have BA:=zH he.2.1;have BB:=zH hf.2.1;clear he hf;unfold Gu.cells;go_enter func164,ntmps164
 have H0:=zH (Hp.start w);go_upto_region 0 with fail;apply wl;apply Cn 163 [.bool e.a.n,.slice e.a.p e.a.l e.a.c,.bool e.a.m,.slice e.a.p2 e.a.l2 e.a.c2,iV e.up] H0.1;intro X1 w2 H3 _;apply Cn 163 [.bool f.a.n,.slice f.a.p f.a.l f.a.c,.bool f.a.m,.slice f.a.p2 f.a.l2 f.a.c2,iV f.up] H3.1;intro X6 w7 H8 _;apply zq (iV 0);go_upto_region 1 with fail;refine zy ?_;have A1:=zH (H8.1.step (Aa.refl w7).drew);refine Xo Ah zb (bs 13 1) 0 _ ?_;refine zg 1 (bs 13 3) X1 (0) (rc e.a) (H8.1.range (i:=0) rR 0 4) underlying33 zb ?_;refine Xo Ah zb (bs 13 7) 2 _ ?_;refine zg 3 (bs 13 15) X6 (0) (rc f.a) (H8.1.range (i:=1) rR 0 4) underlying33 zb ?_;refine aCX H8.1 zb (bs 13 495) 5 6 7 8 _ _ _ _ ?_;refine mC 4 (bs 13 511) (Gd (L:=60000) (RV.Is.nin (RA.1.dig A1.1.dig0) (Av BA.1 ω)) (RV.Is.nin (RB.1.dig A1.1.dig0) (Av BB.1 ω)) ω) ?_;rintro e B4 ⟨rfl,hx⟩;have B0:=zH (A1.1.step hx);have A5:=zH (zb.trans hx);clear hx;apply zm A5.1;refine mC 9 (bs 13 1023) (fK f.up e.up _) ?_;rintro e B3 ⟨rfl,hx⟩;have A9:=zH (B0.1.step hx);have A4:=zH (A5.1.trans hx);clear hx;apply zm A4.1;refine tQ (T:=3) (zs:=[iV (Df e.q f.q),iV (Ou f.up e.up)]) (n:=2) (i:=10) (listed':=(bs 13 2047)) rR kR rR (by go_simp) kR A9.1 (by simp[Aq]) ?_;intro A7 B2 hh hx A6;have A0:=hN hh;have A3:=zH (A4.1.trans hx);clear hh hx A6;refine⟨A3.1,?_⟩;try simp only[ζ]
 refine mC 11 (bs 13 4095) (aBH A7 0 2 (Df e.q f.q) (Ou f.up e.up) _ (A0.1.cell (i:=2) rR 0 rR) (A0.1.cell (i:=2) rR 1 rR)) ?_;rintro e B1 ⟨rfl,hx⟩;have A8:=zH (A0.1.step hx);have A2:=zH (A3.1.trans hx);clear hx;apply zm A2.1;refine zx 12 (bs 13 8191) (iV (aBI (Df e.q f.q) (Ou f.up e.up))) A2.1 ?_;refine wpAnyH_done kR ?_ _;go_wp2_with fail
 go_ret;exact⟨_,rfl,by show _↔Qn e.q e.up f.q f.up=true;rw[<-aBG,decide_eq_true_iff],A8.1.ext⟩
end
section
open Go.RowKit Go.Shelf
attribute [local go_sem] Oper.semAt_some
attribute [local go_sem ↓] Go.wp_at_zero Go.wp_at_succ Ef Ee Aj Ai
def aFN (L X3 Bo:Nat)(ry:RV)(y:Rat)(w W1:World)(pre:List Wt)(W:World):Prop:=
  ∃(A:Option Addr) (n c:Nat) (es:List Gu),Hp w W [.blk X3 33 (rc ry),.blk Bo 160 [.slice A n c],.row 163 5 (.slice A n c) n (List.flatMap Gu.cells es)]/\Af W1 W/\(∀k,Value.ownBlock (.slice A n c)=some k->W1.heap.size<=k)/\(∀e,e∈es->e.Ok (L+8) W)/\es.map Gu.vl=(pre.map Subtype.val).filterMap (Fv y)/\n=es.length/\n<=pre.length/\W1.heap.size<=W.heap.size
def aFO (u:Value)(X3 Bo Bx:Nat)(ry:RV)(W1:World)(x:Wt)(a':Act)(W:World):Prop:=
  ∃ Xa Xb,Ad W Xa 41 ([iV x.1.1.1,iV x.1.1.2]:List Value).toArray/\Ad W Xb 41 ([iV x.1.2.1,iV x.1.2.2]:List Value).toArray/\Xa≠Xb/\W1.heap.size<=Xa/\W1.heap.size<=Xb/\
    a'={tmps:=#[u,(rg ry),undef,.pointer (some ⟨X3,0,none⟩),.slice none 0 0,.pointer (some ⟨Bo,0,none⟩),.pointer (some ⟨Xa,0,none⟩),.pointer (some ⟨Xb,0,none⟩),undef,undef,undef,undef,u,.func (.func 93) #[] #[.pointer (some ⟨Bx,0,none⟩)],.agg #[iV x.1.1.1,iV x.1.1.2],.agg #[iV x.1.2.1,iV x.1.2.2],undef,undef,undef,undef,undef,undef,undef,undef,undef,undef,undef,undef,undef,undef,undef,undef,undef,undef,undef,undef,undef,undef,undef,undef,undef,undef,undef,undef,undef,undef,undef],defers:=[]}
theorem xT (L X3 Bo:Nat)(ry:RV)(y:Rat)(w W1:World)(hw:w.heap.size<=W1.heap.size):OwnFrom W1.heap.size (aFN L X3 Bo ry y w W1):=by
  rintro s W W' row ⟨A,n,c,es,h1,h2,h3,h4,h5,h6,h7,h8⟩ hg hr;have d:Af W W':=Af.kept hg (fun k hk=>(hr k hk).2);exact⟨A,n,c,es,h1.kept hg (fun k hk=>⟨Av hw (hr k hk).1,(hr k hk).2⟩),h2.trans d,h3,fun e he=>(h4 e he).dig d,h5,h6,h7,Av h8 hg.size⟩
theorem xU (u:Value)(X3 Bo Bx:Nat)(ry:RV)(W1:World)(x:Wt)(a':Act):OwnFrom W1.heap.size (fun(_:Unit) W=>aFO u X3 Bo Bx ry W1 x a' W):=by
  rintro _ W W' row ⟨Xa,Xb,h1,h2,h3⟩ hg hr;exact⟨Xa,Xb,h1.kept hg (fun k hk=>(hr k hk).2),h2.kept hg (fun k hk=>(hr k hk).2),h3⟩
theorem aBX {L:Nat}{w w':World}{a:RV}{q:Rat}(h:a.In L w q)(x:Aa w w'):a.In L w' q:=h.ext x
theorem oR (L:Nat)(u:Value)(rs:List Ac)(ry:RV)(y:Rat)(w:World)(hu:Cm w u rs)(hy:ry.In L w y)(h1L:1<=L)(hL:L<=2000)(hn:rs.length<=1048576)(hr:∀r,r∈rs->r.length<=1048576)(htot:Ga rs<20):
  Calls prog 149 #[u,(rg ry)] w fun e w'=>∃A n c es,e= .returned (.slice A n c)/\n=List.length es/\Be w' w.heap.size 163 5 (.slice A n c) n (List.flatMap Gu.cells es)/\
   (∀e,e∈es->e.Ok (L+8) w')/\es.map Gu.vl=Dp y rs/\Aa w w':=by
 obtain⟨qs,D5⟩:∃qs,qs=if En rs=true then rs else[]:=⟨_,rfl⟩
 have I0:En qs=true:=by
  rw[D5];split
  ·assumption
  rfl
 have N5:qs.length<=1048576:=by
  rw[D5];split
  ·exact hn
  simp
 have P8:=zH (show Ga qs<=Ga rs by rw[D5];split;exact Ck _;exact eXX _);have Q0:=zH (show Dp y rs=Stb.stab oU (Wf y qs)by rw[D5];rfl);have L3:=(((Hp.start w).alloc 33 (rc ry) (by simp[Aq])).alloc 160 [.slice none 0 0] (by simp[Aq])).addNil 163 5;have G8:Aa w ((w.alloc (.cells #[.bool ry.n,.slice ry.p ry.l ry.c,.bool ry.m,.slice ry.p2 ry.l2 ry.c2] 33)).alloc (.cells #[.slice none 0 0] 160)):=((Aa.refl w).alloc _).alloc _;have HC:=zH (Ru u rs _ (hu.ext G8) hn hr);have HY:=zH (hy.ext G8);clear hu hy;have M8:=zH L3;clear L3;have S8:=zH G8;clear G8;refine(callsIn_wide (n:=4)).1 ?_;refine callsIn_of_wp_marks func149 rfl trivial ?_ rfl;simp only[ntmps149,List.size_toArray,hXX,List.length_nil,Nat.reduceAdd,Nat.reduceSub,Array.replicate_succ,Array.replicate_zero,List.push_toArray,List.append_toArray,fZZ,jQQ];gi_wp2_with (refine⟨trivial,?_⟩;gi_at_call 56;refine(callsIn_wide.2 HC.1).mono ?_;rintro e W1 ⟨Bx,v,rfl,L7,S6,E5,hR,hx⟩)
 rw[<-D5]at hR;have M7:=zH (M8.1.step hx);have HR:=zH hR;have M6:=zH (aBX HY.1 hx);have N9:w.heap.size+1<Bx:=by simp at L7;omega
 obtain⟨X3,I7⟩:∃X3,X3=w.heap.size:=⟨_,rfl⟩;obtain⟨Bo,I9⟩:∃Bo,Bo=w.heap.size+1:=⟨_,rfl⟩;have H2:=zH (show Hp w W1 [.blk X3 33 (rc ry),.blk Bo 160 [.slice none 0 0],.row 163 5 (.slice none 0 0) 0 (List.flatMap Gu.cells [])]from by rw[I7,I9];have h:=M7.1;simpa using h);have O1:X3<W1.heap.size:=H2.1.lt (i:=0) (by rfl) rfl;have O2:Bo<W1.heap.size:=H2.1.lt (i:=1) (by rfl) rfl;have P7:=zH (show Gi (fun k=>¬(k=Bo\/W1.heap.size<=k)) W1 v qs from HR.1.imp (fun k h=>by have h1:=h.1;simp at h1;omega));rw[<-I9,<-I7];clear M7 HR M8 HY D5 hx hR L7;have I4:Bx≠Bo:=ω
 clear I7 I9 N9;have H1:=zH (show w.heap.size<=W1.heap.size from by have:=H2.1.ext.size;exact this);have M5:=zH (show Nm.rl y<=L from by have h:=M6.1.rl;omega);refine On ω (fun k=>k=Bo\/W1.heap.size<=k) Bx v qs rR E5 (fun hk=>hk.elim I4 (fun h=>ω)) P7.1 N5 I0 (Av (Fm _) (Hz I0)) (fun k h=> .inr h) (aFN L X3 Bo ry y w W1) (xT L X3 Bo ry y w W1 H1.1) ⟨none,0,0,[],H2.1,Af.refl _,by simp[Value.ownBlock],by simp,rfl,rfl,Ck _,Ck _⟩ (aFO u X3 Bo Bx ry W1) (xU u X3 Bo Bx ry W1) ?assign ?body ?done;case assign=>
  intro l pre x W K hi hK;obtain⟨A,n,c,es,hh,hd,A5,B3,B8,B4,C1,D4⟩:=hi;have B5:=zH D4;clear D4;have H0:=zH hh;have HK:=zH hK;have HF:=zH (And.intro A5 (And.intro B8 (And.intro B4 C1)));have B0:=zH B3;have HD:=zH hd;clear hh hK A5 B3 B8 B4 C1 hd;unfold Ip;simp only[zA,zB,zC];refine wpIn_seq ?_;refine Ab kR (fun⟨_,_,h⟩=>h) ?_;apply aA 41 [iV 0,iV 0] H0.1;intro J0 N1 Q8 hx A9;have M3:=zH (show W.heap.size<=J0 from Av (Fr.of_ext (G:=fun kz=>False) (Aa.refl W)).size A9);have R2:=zH (Af.of_ext hx);have P4:=zH (show Fr (fun kz=>False) W N1 from(Fr.of_ext (G:=fun kz=>False) (Aa.refl W)).trans (Fr.of_ext hx));clear hx A9;apply aS 3 [iV x.1.1.1,iV x.1.1.2] Q8.1;intro S3 Q7 hd ho;have R1:=zH (hd);have M4:=zH (P4.1.trans_new ho (fun j hj=> .inr (by injection hj with hj;rw[<-hj];exact M3.1)));clear hd ho;refine Ab kR (fun⟨_,_,h⟩=>h) ?_;apply aA 41 [iV 0,iV 0] Q7.1;intro O3 S2 Q6 hx A9;have M2:=zH (Av M4.1.size A9);have R0:=zH (Af.of_ext hx);have P3:=zH (M4.1.trans (Fr.of_ext hx));clear hx A9;apply aS 4 [iV x.1.2.1,iV x.1.2.2] Q6.1;intro S1 H3 hd ho;have Q9:=zH (hd);have J4:=zH (P3.1.trans_new ho (fun j hj=> .inr (by injection hj with hj;rw[<-hj];exact M2.1)));clear hd ho;have G3:=tD (tD (tD R2 R1) R0) Q9;refine HK.1 _ _ (KeepsFrom.of_fr J4.1 (fun _ h=>h.elim)) (J4.1.imp (fun _ h=>h.elim)) ⟨A,n,c,es,H3.1.take 3,HD.1.trans G3.1,HF.1.1,fun e he=>(B0.1 e he).dig G3.1,HF.1.2.1,HF.1.2.2.1,HF.1.2.2.2,Av B5.1 J4.1.size⟩ ⟨J0,O3,H3.1.blk (i:=3) rR,H3.1.blk (i:=4) rR,?_,Av B5.1 M3.1,Av B5.1 M2.1,rfl⟩;exact fun e=>H3.1.apart 3 4 _ _ (by rfl) (by rfl) (by decide) J0 (by rfl) (by rw[e];rfl)
 case body=>
  intro l pre x a' W hi O0 N7;obtain⟨A,n,c,es,hh,hd,A5,B3,B8,B4,C1,D4⟩:=hi;have B5:=zH D4;clear D4;obtain⟨Xa,Xb,I6,I5,L4,L6,L5,rfl⟩:=O0;obtain⟨⟨⟨ax,ay⟩,⟨bx,bY⟩⟩,C0⟩:=x;dsimp only at I6 I5⊢
  have A2:=zH C0;have HD:=zH hd;have A7:=zH A5;have B0:=zH B3;have F5:=zH B8;have D6:=zH B4;have E3:n<4096:=ω
  have K0:=zH C1;have H0:=zH (show Hp w W [.blk X3 33 (rc ry),.blk Bo 160 [.slice A n c],ro 163 5 A n c Gu.cells es,.blk Xa 41 [iV ax,iV ay],.blk Xb 41 [iV bx,iV bY]]from hh.addTyp2 I6 I5 L4 (Av H1.1 L6) (Av H1.1 L5) (by simp[Aq]) (by simp[Aq]) (by simp[De.typ]));have G9:=zH (M6.1.dig hd);have E2: -1048576<=ay/\ay<=1048576/\ -1048576<=bY/\bY<=1048576:=by have h1:=C0.1;have h2:=C0.2;simp only[Dh,hZZ,decide_eq_true_eq]at h1 h2;omega
  have A3:=zH E2;clear hh hd A5 B3 B8 B4 I6 I5 L4 E2 C1 L6 L5;refine wpIn_block ?_;refine wpIn_seq ?_;refine Ej (S:=fun x=>Aa W x) kR kR (fun⟨_,_,h⟩=>h) zb (fun _=> ?_);have Q5:=zH (H0.1.step (Aa.refl W).drew);have B2:=zH (Af.of_ext (w:=W) zb);have P2:=zH (show Fr (fun kz=>kz=Bo\/Value.ownBlock (.slice A n c)=some kz) W W.drew from(Fr.of_ext (G:=fun kz=>kz=Bo\/Value.ownBlock (.slice A n c)=some kz) (Aa.refl W)).trans (Fr.of_ext (Aa.refl W).drew));refine Xo Ah zb (bs 12 1) 0 _ ?_;refine Dt (g:=Xa) (o:=1) (v:= iV ay) (i:=1) (listed':=(bs 12 3)) rR kR kR kR (by intro _ _ _ h;exact h) rR (fun x hx=>Aa.get hx (show World.cell? W ⟨Xa,1,none⟩=some (iV ay)from Ae (H0.1.range (i:=3) rR 1 1))) (by intro x hq;go_simp<;>with_reducible rfl) zb kR ?_;refine Xn H0.1 zb (bs 12 43) 3 5 _ _ ?_;refine Dt (g:=Xb) (o:=1) (v:= iV bY) (i:=6) (listed':=(bs 12 107)) rR kR kR kR (by intro _ _ _ h;exact h) rR (fun x hx=>Aa.get hx (show World.cell? W ⟨Xb,1,none⟩=some (iV bY)from Ae (H0.1.range (i:=4) rR 1 1))) (by intro x hq;go_simp<;>with_reducible rfl) zb kR ?_;refine Xo H0.1 zb (bs 12 363) 8 _ ?_;refine mC 2 (bs 12 367) (Da ay _ (by have A4:=A3.1;omega) (by have A4:=A3.1;omega)) ?_;rintro e N0 ⟨c_,rfl,C2,hx⟩;have Q4:=zH (Q5.1.step hx);have B1:=zH (show Af W.drew N0 from Af.of_ext hx);have P1:=zH (P2.1.trans (Fr.of_ext hx));have M1:=zH (zb.trans hx);obtain⟨S5,rfl,A8⟩:=C2;have O8:=zH A8;have R6:=zH (Bu ay (by have A4:=A3.1;omega) (by have A4:=A3.1;omega));clear A8 hx;apply zm M1.1;have L0:=tD B2 B1;refine mC 4 (bs 12 383) (Gd (L:=60000) (RV.Is.nin O8.1 (Av R6.1 ω)) (RV.In.nin (RV.In.mono (G9.1.dig L0.1) ω)) ω) ?_;rintro e S0 ⟨rfl,hx⟩;have Q3:=zH (Q4.1.step hx);have B7:=zH (Af.of_ext hx);have P0:=zH (P1.1.trans (Fr.of_ext hx));have M0:=zH (M1.1.trans hx);clear hx;apply zm M0.1;refine mC 7 (bs 12 511) (Da bY _ (by have A4:=A3.1;omega) (by have A4:=A3.1;omega)) ?_;rintro e R9 ⟨c_,rfl,C2,hx⟩;have Q2:=zH (Q3.1.step hx);have B6:=zH (Af.of_ext hx);have O9:=zH (P0.1.trans (Fr.of_ext hx));have L9:=zH (M0.1.trans hx);obtain⟨S4,rfl,A8⟩:=C2;have O7:=zH A8;have R5:=zH (Bu bY (by have A4:=A3.1;omega) (by have A4:=A3.1;omega));clear A8 hx;apply zm L9.1;have K9:=tD (tD (tD B2 B1) B7) B6;refine mC 9 (bs 12 1023) (Gd (L:=60000) (RV.Is.nin O7.1 (Av R5.1 ω)) (RV.In.nin (RV.In.mono (G9.1.dig K9.1) ω)) ω) ?_;rintro e R8 ⟨rfl,hx⟩;have F8:=zH (Q2.1.step hx);have B9:=zH (Af.of_ext hx);have F0:=zH (O9.1.trans (Fr.of_ext hx));have L8:=zH (L9.1.trans hx);clear hx;apply zm L8.1;refine Xn Ah L8.1 (bs 12 4095) 10 11 (iV (Df (((ay):Int):Rat) y)) (iV (Df (((bY):Int):Rat) y)) ?_;refine wpAnyH_done kR ?_ _;rcases Cy ((((ay):Int):Rat)<y/\y<(((bY):Int):Rat))with CU|CU
  ·have F7:=zH (uT (a:=(ax,ay)) (b:=(bx,bY)) CU.1)
   have A6:=zH (jM (a:=ay) (b:=bY) (.inl CU.1));have E0:Df (((ay):Int):Rat) y= -1:=Tj CU.1.1;have D9:Df (((bY):Int):Rat) y=1:=Ti CU.1.2;rw[E0,D9];clear E0 D9;change Code.wpIn _ _ _ _ _ _ _;refine wpIn_seq ?_;refine wpIn_seq ?_;refine Ab kR (fun⟨_,_,h⟩=>h) ?_;refine Cc Ah (iV (-1)) _ ?_;apply zp (iV (-1)) (by exact lH (by have A4:=A3.1;omega));apply zp (.bool false) (by exact Nv (e:=(Al (by have A4:=A3.1;omega))));change Code.wpIn _ _ _ _ _ _ _;refine wpIn_cond_false rR ?_;refine wpIn_skip ?_;change Code.wpIn _ _ _ _ _ _ _;refine wpIn_seq ?_;refine Ab kR (fun⟨_,_,h⟩=>h) ?_;refine Dv F8.1 _ _ _ ?_;have K8:=tD (tD (tD (tD B2 B1) B7) B6) B9;refine zc (Tc L ax ay bx bY _ y _ (RV.In.nin (G9.1.dig K8.1)) h1L ω A2.1.1 A2.1.2 A6.1.1 A6.1.2.1 A6.1.2.2) ?_;rintro e R7 ⟨c_,rfl,C2,hx⟩;have Q1:=zH (F8.1.step hx);have M9:=zH (Af.of_ext hx);have F4:=zH (F0.1.trans (Fr.of_ext hx));obtain⟨A1,rfl,A8⟩:=C2;have O6:=zH A8;have R3:=zH (Md A2.1.1 A2.1.2 M5.1);clear A8 hx;refine zn ?_;refine Dv Ah _ _ (.bool true) ?_;refine aA 33 rz Q1.1 ?_;intro O5 N4 K7 hx A9;have J3:=zH (Av F4.1.size A9);have D3:=zH (Af.of_ext hx);have J8:=zH (F4.1.trans (Fr.of_ext hx));clear hx A9;apply aS 5 (rc A1) K7.1;intro D8 G0 hd ho;have D2:=zH (hd);have F3:=zH (J8.1.trans_new ho (fun j hj=> .inr (by injection hj with hj;rw[<-hj];exact J3.1)));clear hd ho;apply zq (.bool true);change Code.wpIn _ _ _ _ _ _ _;refine wpIn_seq ?_;refine Ab kR (fun⟨_,_,h⟩=>h) ?_;apply zq (.bool true);change Code.wpIn _ _ _ _ _ _ _;refine wpIn_cond_true rR ?_;have F6:=zH E3;refine Ab kR (fun⟨_,_,h⟩=>h) ?_;refine Fg G0.1 _ _ _ _ ?_;refine zp (w':=(D8.alloc (.cells ([.bool A1.n,.slice A1.p A1.l A1.c,.bool A1.m,.slice A1.p2 A1.l2 A1.c2,iV 1]:List Value).toArray 163))) (.slice (some ⟨D8.heap.size,0,none⟩) 1 1) (by go_simp) ?_;refine Oh rR _ _ _ rR uJ rR G0.1 (ix:=2) rR 1 1 [.bool A1.n,.slice A1.p A1.l A1.c,.bool A1.m,.slice A1.p2 A1.l2 A1.c2,iV 1] rR rfl (by simp[Value.oneCell']) (by simp[Aq]) dC (by unfold maxLen;exact(by have A4:=A3.1;have H8:=F6.1;omega)) (by have A4:=A3.1;have H8:=F6.1;omega) ?_;intro E7 E9 H7 hf hh hd hg;have G2:=zH hf;clear hf;rw[show List.flatMap Gu.cells es++[.bool A1.n,.slice A1.p A1.l A1.c,.bool A1.m,.slice A1.p2 A1.l2 A1.c2,iV 1]=_ from Ez Gu.cells _ (⟨A1,(Fe ax ay bx bY y),1⟩:Gu)]at hh;have K6:=hN hh;have D1:=zH (hd);have J7:=zH (show Fr (fun kz=>kz=Bo\/Value.ownBlock (.slice A n c)=some kz) W H7 from(F3.1.trans (Fr.of_ext (An.alloc _))).trans_new hg (fun j hj=> .inl (.inr hj)));clear hh hd hg;try simp only[ζ]
   apply aU 1 (.slice (some ⟨E7,0,none⟩) (n+1) E9) K6.1;intro H6 K5 hd ho;have D0:=zH (hd);have C4:=zH (J7.1.trans_new ho (fun j hj=> .inl (.inl (by injection hj with hj;exact hj.symm))));clear hd ho;have G6:=tD (tD (tD D3 D2) D1) D0;have C5:=zH (show Gu.Ok (L+8) H6 (⟨A1,(Fe ax ay bx bY y),1⟩:Gu)from⟨(O6.1.dig G6.1),R3.1,(show(-1:Int)<=1 by decide),(show(1:Int)<=1 by decide)⟩);exact⟨(KeepsFrom.of_fr C4.1 (fun k hk o ho=>hk.elim (fun e=>H0.1.cells (i:=1) (by rfl) (by rw[e];rfl) o ho) (fun e=>H0.1.cells (i:=2) (by rfl) (by exact e) o ho))),(C4.1.imp (fun k hk=>hk.imp id (fun e=>A7.1 k e))),_,_,_,_,K5.1.take 3,HD.1.trans (((((((((B2.1.trans B1.1).trans B7.1).trans B6.1).trans B9.1).trans M9.1).trans D3.1).trans D2.1).trans D1.1).trans D0.1),(fun k hk=>by (have I1:E7=k:=by simpa[Value.ownBlock]using hk);(subst I1);exact G2.1.elim (fun q=>A7.1 _ q) (fun q=>Av B5.1 (Av F3.1.size q))),(fun e he=>(List.mem_append.1 he).elim (fun he=>(B0.1 e he).dig (((((((((B2.1.trans B1.1).trans B7.1).trans B6.1).trans B9.1).trans M9.1).trans D3.1).trans D2.1).trans D1.1).trans D0.1)) (fun he=>by rw[List.mem_singleton.1 he];exact C5.1)),(by rw[fXX,F5.1,fXX,List.filterMap_append];simp[F7.1,Gu.vl]),(by rw[aXX,<-D6.1];rfl),(by have h:=K0.1;simp;omega),Av B5.1 C4.1.size⟩
  rcases Cy ((((bY):Int):Rat)<y/\y<(((ay):Int):Rat))with CD|CD
  ·have F7:=zH (jC (a:=(ax,ay)) (b:=(bx,bY)) CD.1)
   have A6:=zH (jM (a:=ay) (b:=bY) (.inr CD.1));have E0:Df (((ay):Int):Rat) y=1:=Ti CD.1.2;have D9:Df (((bY):Int):Rat) y= -1:=Tj CD.1.1;rw[E0,D9];clear E0 D9;change Code.wpIn _ _ _ _ _ _ _;refine wpIn_seq ?_;refine wpIn_seq ?_;refine Ab kR (fun⟨_,_,h⟩=>h) ?_;refine Cc Ah _ (iV (-1)) ?_;apply zp (iV (-1)) (by exact lH (by have A4:=A3.1;omega));apply zp (.bool false) (by exact Nv (e:=(Al (by have A4:=A3.1;omega))));change Code.wpIn _ _ _ _ _ _ _;refine wpIn_cond_false rR ?_;refine wpIn_skip ?_;change Code.wpIn _ _ _ _ _ _ _;refine wpIn_seq ?_;refine Ab kR (fun⟨_,_,h⟩=>h) ?_;refine Dv F8.1 _ _ _ ?_;have G5:=tD (tD (tD (tD B2 B1) B7) B6) B9;refine zc (Tc L ax ay bx bY _ y _ (RV.In.nin (G9.1.dig G5.1)) h1L ω A2.1.1 A2.1.2 A6.1.1 A6.1.2.1 A6.1.2.2) ?_;rintro e N3 ⟨c_,rfl,C2,hx⟩;have K4:=zH (F8.1.step hx);have G7:=zH (Af.of_ext hx);have F2:=zH (F0.1.trans (Fr.of_ext hx));obtain⟨A0,rfl,A8⟩:=C2;have J1:=zH A8;have L1:=zH (Md A2.1.1 A2.1.2 M5.1);clear A8 hx;refine zn ?_;refine Dv Ah _ _ (.bool true) ?_;refine aA 33 rz K4.1 ?_;intro O4 N2 K3 hx A9;have J2:=zH (Av F2.1.size A9);have C9:=zH (Af.of_ext hx);have J6:=zH (F2.1.trans (Fr.of_ext hx));clear hx A9;apply aS 5 (rc A0) K3.1;intro D7 F9 hd ho;have C8:=zH (hd);have F1:=zH (J6.1.trans_new ho (fun j hj=> .inr (by injection hj with hj;rw[<-hj];exact J2.1)));clear hd ho;apply zq (.bool true);change Code.wpIn _ _ _ _ _ _ _;refine wpIn_seq ?_;refine Ab kR (fun⟨_,_,h⟩=>h) ?_;apply zq (.bool true);change Code.wpIn _ _ _ _ _ _ _;refine wpIn_cond_true rR ?_;have F6:=zH E3;refine Ab kR (fun⟨_,_,h⟩=>h) ?_;refine Fg F9.1 _ _ (iV (-1)) _ ?_;refine zp (w':=(D7.alloc (.cells ([.bool A0.n,.slice A0.p A0.l A0.c,.bool A0.m,.slice A0.p2 A0.l2 A0.c2,iV (-1)]:List Value).toArray 163))) (.slice (some ⟨D7.heap.size,0,none⟩) 1 1) (by go_simp) ?_;refine Oh rR _ _ _ rR uJ rR F9.1 (ix:=2) rR 1 1 [.bool A0.n,.slice A0.p A0.l A0.c,.bool A0.m,.slice A0.p2 A0.l2 A0.c2,iV (-1)] rR rfl (by simp[Value.oneCell']) (by simp[Aq]) dC (by unfold maxLen;exact(by have A4:=A3.1;have H8:=F6.1;omega)) (by have A4:=A3.1;have H8:=F6.1;omega) ?_;intro E6 E8 H5 hf hh hd hg;have G1:=zH hf;clear hf;rw[show List.flatMap Gu.cells es++[.bool A0.n,.slice A0.p A0.l A0.c,.bool A0.m,.slice A0.p2 A0.l2 A0.c2,iV (-1)]=_ from Ez Gu.cells _ (⟨A0,(Fe ax ay bx bY y),-1⟩:Gu)]at hh;have K2:=hN hh;have C7:=zH (hd);have J5:=zH (show Fr (fun kz=>kz=Bo\/Value.ownBlock (.slice A n c)=some kz) W H5 from(F1.1.trans (Fr.of_ext (An.alloc _))).trans_new hg (fun j hj=> .inl (.inr hj)));clear hh hd hg;try simp only[ζ]
   apply aU 1 (.slice (some ⟨E6,0,none⟩) (n+1) E8) K2.1;intro H4 K1 hd ho;have C6:=zH (hd);have C3:=zH (J5.1.trans_new ho (fun j hj=> .inl (.inl (by injection hj with hj;exact hj.symm))));clear hd ho;have G4:=tD (tD (tD C9 C8) C7) C6;have C5:=zH (show Gu.Ok (L+8) H4 (⟨A0,(Fe ax ay bx bY y),-1⟩:Gu)from⟨(J1.1.dig G4.1),L1.1,(show(-1:Int)<= -1 by decide),(show(-1:Int)<=1 by decide)⟩);exact⟨(KeepsFrom.of_fr C3.1 (fun k hk o ho=>hk.elim (fun e=>H0.1.cells (i:=1) (by rfl) (by rw[e];rfl) o ho) (fun e=>H0.1.cells (i:=2) (by rfl) (by exact e) o ho))),(C3.1.imp (fun k hk=>hk.imp id (fun e=>A7.1 k e))),_,_,_,_,K1.1.take 3,HD.1.trans (((((((((B2.1.trans B1.1).trans B7.1).trans B6.1).trans B9.1).trans G7.1).trans C9.1).trans C8.1).trans C7.1).trans C6.1),(fun k hk=>by (have I1:E6=k:=by simpa[Value.ownBlock]using hk);(subst I1);exact G1.1.elim (fun q=>A7.1 _ q) (fun q=>Av B5.1 (Av F1.1.size q))),(fun e he=>(List.mem_append.1 he).elim (fun he=>(B0.1 e he).dig (((((((((B2.1.trans B1.1).trans B7.1).trans B6.1).trans B9.1).trans G7.1).trans C9.1).trans C8.1).trans C7.1).trans C6.1)) (fun he=>by rw[List.mem_singleton.1 he];exact C5.1)),(by rw[fXX,F5.1,fXX,List.filterMap_append];simp[F7.1,Gu.vl]),(by rw[aXX,<-D6.1];rfl),(by have h:=K0.1;simp;omega),Av B5.1 C3.1.size⟩
  have F7:=zH (uU (a:=(ax,ay)) (b:=(bx,bY)) CU.1 CD.1);have J9:=zH (jB CU.1 CD.1);change Code.wpIn _ _ _ _ _ _ _;refine wpIn_seq ?_;refine wpIn_seq ?_;refine Ab kR (fun⟨_,_,h⟩=>h) ?_;refine Cc Ah (iV (Df (((ay):Int):Rat) y)) (iV (Df (((bY):Int):Rat) y)) ?_;apply zp (iV (Df (((ay):Int):Rat) y*Df (((bY):Int):Rat) y)) (by exact Rr rR rR rR rfl (by have:=J9.1.1;omega) (by have:=J9.1.2;omega));apply zp (.bool true) (by exact Nv (e:=(Ar J9.1.1)));change Code.wpIn _ _ _ _ _ _ _;refine wpIn_cond_true rR ?_;refine wpIn_exit ?_;exact⟨(KeepsFrom.of_fr F0.1 (fun k hk o ho=>hk.elim (fun e=>H0.1.cells (i:=1) (by rfl) (by rw[e];rfl) o ho) (fun e=>H0.1.cells (i:=2) (by rfl) (by exact e) o ho))),(F0.1.imp (fun k hk=>hk.imp id (fun e=>A7.1 k e))),A,n,c,es,F8.1.take 3,HD.1.trans ((((B2.1.trans B1.1).trans B7.1).trans B6.1).trans B9.1),A7.1,(fun e he=>(B0.1 e he).dig ((((B2.1.trans B1.1).trans B7.1).trans B6.1).trans B9.1)),(by rw[F5.1,fXX,List.filterMap_append];simp[F7.1]),D6.1,(by have h:=K0.1;simp;omega),Av B5.1 F0.1.size⟩
 rintro D xs W hD H9 ⟨A,n,c,es,hh,hd,A5,B3,B8,B4,C1,D4⟩ hK;have cB:W.cell? ⟨Bo,0,none⟩=some (.slice A n c):=hh.cell (i:=1) (by rfl) 0 (by rfl);have E1:=hh.row (i:=2) (by rfl);have N6:es.length<20:=by
  have h4:=P8.1;have h1:xs.length=(Ba qs).length:=by rw[<-H9,dZZ]
  have h2:=Fm qs;have h3:=Hz I0;omega
 have P6:=zH (gO (L+8) (.slice A n c) es w.heap.size W (by rw[<-B4];exact E1) B3 (fun w e f he hf=>aX (L+8) ω w e f he hf) N6);have HH:=zH hh;have F5:=zH B8;have D6:=zH B4;have P9:=zH B3;have P5:=zH H9;have HD:=zH hK;clear E1 hh B8 B4 B3 H9 hK A5 C1 hd;gi_wp2
 refine⟨trivial,?_⟩;gi_at_call 163
 refine(callsIn_wide.2 P6.1).mono ?_;rintro e Ws ⟨rfl,L2,I3⟩;have HS:=zH (HH.1.turn (i:=2) (e:= .row 163 5 (.slice A n c) n (List.flatMap Gu.cells es)) (e':= .row 163 5 (.slice A n c) n (List.flatMap Gu.cells (Stb.stab oV es))) (by rfl) (fun k h=>h) I3 (by rw[<-D6.1]at L2;exact L2) (fun k hk=> .inl hk));have S7:Ws.cell? ⟨Bo,0,none⟩=some (.slice A n c):=HS.1.cell (i:=1) (by rfl) 0 (by rfl);gi_wp2
 have I8:Ws.heap[D]?=some (.deferred (some [])):=(I3.block D (Array.getElem?_eq_some_iff.1 HD.1).1 (fun e=>by
  have h1:=HH.1.cells (i:=2) (by rfl) (by exact e.symm) _ HD.1;cases h1)).trans HD.1
 refine⟨by simp,.inl ⟨_,_,rfl,run_takeDeferred I8,?_⟩⟩;have E4:=HS.1.kept (grownBy_putObj' Ws D (.deferred none)) (fun k hk=>by injection hk with hk;subst hk;exact⟨Av H1.1 hD,_,I8,rfl⟩);have N8:Af W _:=((HH.1.growDig (i:=2) (by rfl) I3).trans (Af.kept (grownBy_putObj' Ws D (.deferred none)) (fun k hk=>by injection hk with hk;subst hk;exact⟨_,I8,rfl⟩)));refine⟨_,results_tmp rfl _ _ _,A,n,c,Stb.stab oV es,rfl,by rw[Stb.stab_len];exact D6.1,E4.row (i:=2) rR,fun e he=>(P9.1 e ((Stb.mem_stab).1 he)).dig N8,?_,E4.ext⟩;rw[Q0.1,Pc Gu.vl (lt:=oV) (lt':=oU) (fun _ _=>rfl),F5.1,P5.1];rfl
end
section
attribute [local go_sem ↓] Go.wp_at_zero Go.wp_at_succ Aj Ai
theorem iI (y:Rat)(rs:List Ac):(Dp y rs).length<=Ga rs:=by
  unfold Dp;rw[Stb.stab_len];unfold Wf;refine Av (List.length_filterMap_le _ _) (Av (Fm _) ?_);split
  · exact Ck _
  exact eXX _
theorem Xu {α:Type}{l:List α}{k:Nat}{e:α}(h:l[k]?=some e):l.take (k+1)=l.take k++[e]:=by rw[List.take_add_one,h];rfl
end
section
def Vd (ms:List QI)(k:Nat):Int:=((ms.take k).map fun a=>a.2).sum
theorem nW {ms:List QI}{k:Nat}{a:QI}(h:ms[k]?=some a):Vd ms (k+1)=Vd ms k+a.2:=by
  unfold Vd;rw[Xu h,fXX,List.sum_append];simp
theorem dF:∀(ms:List QI) (s:Int) (k:Nat) (a b:QI),ms[k]?=some a->ms[k+1]?=some b->(Gw s ms)[k]?=some ((a.1,b.1),s+Vd ms (k+1))
 | [],s,k,a,b,h,_=>by simp at h
 | [x],s,0,a,b,_,h=>by simp at h
 | [x],s,k+1,a,b,h,_=>by simp at h
 |x::y::t,s,0,a,b,h1,h2=>by
  simp at h1 h2;subst h1 h2;simp[Gw,Vd]
 |x::y::t,s,k+1,a,b,h1,h2=>by
  have ih:=dF (y::t) (s+x.2) k a b (by simpa using h1) (by simpa using h2);show(Gw (s+x.2) (y::t))[k]?=_;rw[ih];have e:Vd (x::y::t) (k+1+1)=x.2+Vd (y::t) (k+1):=by unfold Vd;rw[List.take_succ_cons];simp
  rw[e];congr 2;omega
theorem Mc:∀(ms:List QI) (s:Int),(Gw s ms).length=ms.length-1
  | [],s=>rfl
  | [x],s=>rfl
  | x::y::t,s=>by
    have:=Mc (y::t) (s+x.2);simp[Gw,this]
theorem cW {rule:Int}{l:List (QQ×Int)}{k:Nat}{r:QQ×Int}(h:l[k]?=some r):Tg rule (l.take (k+1))=Tg rule (l.take k)++(if Hc r.2 rule=true then[r.1]else[]):=by rw[Xu h,kC,kA]
theorem wM (rule:Int)(l:List (QQ×Int)):(Tg rule l).length<=l.length:=by
  unfold Tg;rw[dZZ];exact List.length_filter_le _ _
theorem Dm.Ok.dig {L:Nat}{w w':World}{e:Dm}(h:e.Ok L w)(d:Af w w'):e.Ok L w':=⟨h.1.dig d,h.2.1.dig d,h.2.2⟩
theorem Be.base {w:World}{b b':Nat}{t:TypeId}{size:Nat}{v:Value}{n:Nat}{xs:List Value}(h:Be w b t size v n xs)(hb:b'<=b):Be w b' t size v n xs:=by
  obtain⟨h1,h2|⟨g,A0,rest,a,c,d⟩⟩:=h
  · exact⟨h1,.inl h2⟩
  exact⟨h1,.inr ⟨g,A0,rest,a,Av hb c,d⟩⟩
theorem Ma.base {L:Nat}{w:World}{b b':Nat}{v:Value}{es:List Dm}(h:Ma L w b v es)(hb:b'<=b):Ma L w b' v es:=⟨h.1.base hb,h.2⟩
end
section
theorem kE:∀{ms:List QI} {s:Int} {m:Rat},(∀a,a∈ms->m<=a.1)->∀r,r∈Gw s ms->m<=r.1.1
  | [],s,_,_,r,hr=>by rw[Gw]at hr;simp at hr
  | [a],s,_,_,r,hr=>by rw[Gw]at hr;simp at hr
  | a::b::t,s,m,h,r,hr=>by
    rw[Gw]at hr;rcases List.mem_cons.1 hr with rfl|hr
    · exact h a (dXX ..)
    exact kE (fun c hc=>h c (cXX _ hc)) r hr
theorem eU {α β:Type}(f:α->β){lt:α->α->Bool}{lt':β->β->Bool}{y:α}:∀{l:List α},(∀x,x∈l->lt y x=lt' (f y) (f x))->(Stb.ins lt l y).map f=Stb.ins lt' (l.map f) (f y)
  | [],_=>rfl
  | x::l,h=>by
    have ih:=eU f (lt:=lt) (lt':=lt') (y:=y) (l:=l) (fun z hz=>h z (by simp[hz]));have h1:=h x (by simp);rw[List.map_cons];unfold Stb.ins;rw[<-h1];by_cases c:lt y x=true
    · rw[if_pos c,if_pos c];rfl
    rw[if_neg c,if_neg c,List.map_cons,ih]
theorem mI {α β:Type}(f:α->β){lt:α->α->Bool}{lt':β->β->Bool}(l:List α):(∀x,x∈l->∀z,z∈l->lt x z=lt' (f x) (f z))->(Stb.stab lt l).map f=Stb.stab lt' (l.map f):=by
 refine Stb.rev_rec (motive:=fun l=>(∀x,x∈l->∀z,z∈l->lt x z=lt' (f x) (f z))->(Stb.stab lt l).map f=Stb.stab lt' (l.map f)) (fun _=>rfl) (fun l y ih h=> ?_) l;rw[Stb.stab_snoc,fXX,List.map_cons,List.map_nil,Stb.stab_snoc,<-ih (fun x hx z hz=>h x (by simp[hx]) z (by simp[hz]))];exact eU f (fun x hx=>h y (by simp) x (by simp[Stb.mem_stab.1 hx]))
def sA {α:Type}:Int->List (α×Int)->List ((α×α)×Int)
  |s,a::b::t=>((a.1,b.1),s+a.2)::sA (s+a.2) (b::t)
  |_,[_]=>[]
  |_,[]=>[]
theorem dE {α:Type}(f:α->Rat):∀(L:List (α×Int)) (s:Int),Gw s (L.map fun a=>(f a.1,a.2))=(sA s L).map fun r=>((f r.1.1,f r.1.2),r.2)
  | [],_=>rfl
  | [_],_=>rfl
  | a::b::t,s=>by
    have ih:=dE f (b::t) (s+a.2);show((f a.1,f b.1),s+a.2)::Gw (s+a.2) ((b::t).map fun a=>(f a.1,a.2))=_;rw[ih];rfl
theorem kB {α:Type}(f:α->Rat)(rule:Int)(L:List (α×Int)):Tg rule (Gw 0 (L.map fun a=>(f a.1,a.2)))=((sA 0 L).filter fun r=>Hc r.2 rule).map fun r=>(f r.1.1,f r.1.2):=by
  unfold Tg;rw[dE,List.filter_map,List.map_map];rfl
theorem Ut:∀{ms:List QI} {s:Int},ms.Pairwise (fun a b=>a.1<=b.1)->((Gw s ms).map fun r=>r.1).Pairwise Qq
  | [],_,_=>by simp[Gw]
  | [_],_,_=>by simp[Gw]
  | a::b::t,s,h=>by
    obtain⟨h1,h2⟩:=List.pairwise_cons.1 h;have ih:=Ut (ms:=b::t) (s:=s+a.2) h2;show(((a.1,b.1):QQ)::(Gw (s+a.2) (b::t)).map fun r=>r.1).Pairwise Qq;refine List.pairwise_cons.2 ⟨fun r hr _ _=> ?_,ih⟩;obtain⟨x,hx,rfl⟩:=List.mem_map.1 hr;exact .inl (kE (m:=b.1) (fun z hz=>by
      rcases List.mem_cons.1 hz with e|e
      · rw[e];exact Rat.le_refl
      exact(List.pairwise_cons.1 h2).1 z e) x hx)
theorem mY {ms:List QI}(rule:Int)(h:ms.Pairwise (fun a b=>a.1<=b.1)):(Tg rule (Gw 0 ms)).Pairwise Qq:=by
  unfold Tg;have h1:=Ut (s:=0) h;rw[List.pairwise_map]at h1⊢;exact h1.filter _
theorem Th {a b:Int×Int}{rs:List Ac}{z:Rat}(h:z∈Dx a b rs):(a.2:Rat)<=z/\z<=(b.2:Rat):=by
  unfold Dx at h;split at h
  · rename_i k
    have A0:(a.2:Rat)<(b.2:Rat):=by exact_mod_cast k.2.2.2
    rcases Ih.1 h with e|⟨_,e1,e2⟩
    · simp at e
      rcases e with rfl|rfl
      · exact⟨Rat.le_refl,Rat.le_of_lt A0⟩
      exact⟨Rat.le_of_lt A0,Rat.le_refl⟩
    exact⟨Rat.le_of_lt e1,Rat.le_of_lt e2⟩
  simp at h
theorem Ux (a b:Int×Int)(rs:List Ac):(Dx a b rs).Pairwise (· < ·):=by
  unfold Dx;split
  · rename_i k
    have A0:(a.2:Rat)<(b.2:Rat):=by exact_mod_cast k.2.2.2
    exact Mg (by simp[A0])
  simp
theorem wX {a b:Int×Int}{rs:List Ac}{z:Rat}(k:Kv a b rs)(h:z∈Lh a b rs)(h1:(a.2:Rat)<z)(h2:z<(b.2:Rat)):z∈Dx a b rs:=by
  unfold Dx;rw[if_pos k];exact Ih.2 (.inr ⟨h,h1,h2⟩)
theorem oW {a b:Int×Int}{rs:List Ac}{y p q:Rat}{i:Nat}(k:Kv a b rs)(hy:y∈Lh a b rs)(hp:(Dx a b rs)[i]?=some p)(hq:(Dx a b rs)[i+1]?=some q):¬(p<y/\y<q):=by
 rintro⟨h1,h2⟩;have bp:=Th (bZZ hp);have bq:=Th (bZZ hq);have hm:=wX k hy (by grind) (by grind);obtain⟨j,hj⟩:=List.mem_iff_getElem?.1 hm;have hs:=List.pairwise_iff_getElem.1 (Ux a b rs);obtain⟨li,ei⟩:=List.getElem?_eq_some_iff.1 hp;obtain⟨lq,eq⟩:=List.getElem?_eq_some_iff.1 hq;obtain⟨lj,ej⟩:=List.getElem?_eq_some_iff.1 hj;rcases Nat.lt_trichotomy j i with h|h|h
 ·have:=hs j i lj li h;rw[ej,ei]at this;grind
 ·subst h;rw[ej]at ei;rw[ei]at h1;exact absurd h1 (Rat.lt_irrefl)
 rcases Nat.lt_trichotomy j (i+1)with h'|h'|h'
 ·omega
 ·subst h';rw[ej]at eq;rw[eq]at h2;exact absurd h2 (Rat.lt_irrefl)
 have:=hs (i+1) j lq lj h';rw[ej,eq]at this;grind
end
section
theorem Gf (y:Rat)(rs:List Ac):Dp y rs=Stb.stab oU ((Dl rs).filterMap (Fv y)):=rfl
def aCK (e:Cx)(y:Rat):Rat:=Fe e.1.1 e.1.2 e.2.1 e.2.2 y
theorem yV (e:Cx)(y:Rat):aCK e y=aAS e.1 e.2*y+((e.1.1:Rat)-(e.1.2:Rat)*aAS e.1 e.2):=qY e.1 e.2 y
theorem Kx {rs:List Ac}{e:Cx}(h:e∈Ba rs):∃r,r∈rs/\e.1∈r/\e.2∈r:=by
  unfold Ba at h;obtain⟨r,hr,h⟩:=List.mem_flatMap.1 h;unfold Eh at h;obtain⟨i,_,h⟩:=List.mem_filterMap.1 h;unfold Ji at h;split at h
  · rename_i a b ha hb
    split at h
    · cases h
    injection h with h;subst h;exact⟨r,hr,bZZ ha,bZZ hb⟩
  cases h
section
variable {a b:Int×Int} {rs:List Ac} {p q:Rat} {i:Nat}
theorem gap (k:Kv a b rs)(hp:(Dx a b rs)[i]?=some p)(hq:(Dx a b rs)[i+1]?=some q){r:Rat}(h1:p<r)(h2:r<q):r∉Lh a b rs:=fun h=>oW k h hp hq ⟨h1,h2⟩
def Hg (rule:Int)(a b:Int×Int)(rs:List Ac)(y:Rat):Rat:=Ed (a.1:Rat) (b.1:Rat) (Ld rule (Dp y rs))
end
end
section
def Gq (rule:Int)(a b:Int×Int)(rs:List Ac):Rat:=if b.1<=a.1\/b.2<=a.2 then 0 else Cv (Hg rule a b rs) (Dx a b rs)
theorem dL {a b:Int×Int}{rs:List Ac}(k:Kv a b rs):aGA (a.2:Rat) (b.2:Rat) (Dx a b rs):=by
  refine⟨Ux a b rs,fun z hz=>Th hz,?_,?_⟩
  · unfold Dx;rw[if_pos k];exact Ih.2 (.inl (by simp))
  unfold Dx;rw[if_pos k];exact Ih.2 (.inl (by simp))
theorem Rx {W:Rat->Rat}(h:∀y,W y=0):∀l:List Rat,Cv W l=0
  | x::y::l=>by
    show W _*_+Cv W (y::l)=0;rw[h,Rx h (y::l)];grind
  | [x]=>rfl
  | []=>rfl
theorem vJ {rule:Int}{a b:Int×Int}{rs:List Ac}(h:a.2<b.2)(_:a.1<=b.1):Gq rule a b rs=Cv (Hg rule a b rs) (Dx a b rs):=by
  unfold Gq;by_cases c:b.1<=a.1
  · rw[if_pos (.inl c)]
    exact(Rx (W:=Hg rule a b rs) (fun y=>pA (by exact_mod_cast c) _) _).symm
  rw[if_neg ω]
theorem gJ {l:List Rat}{c:Rat}(hs:l.Pairwise (· < ·))(hb:∀z,z∈l->z<=c)(hc:c∈l):∃m,l=m++[c]:=by
  have A0:l≠ []:=fun e=>by rw[e]at hc;cases hc
  obtain⟨m,z,rfl⟩:∃m z,l=m++[z]:=⟨l.dropLast,l.getLast A0,(List.dropLast_concat_getLast A0).symm⟩;have h1:=List.pairwise_append.1 hs;rcases List.mem_append.1 hc with h|h
  · have h2:=h1.2.2 c h z (by simp)
    have h3:=hb z (by simp);grind
  have:c=z:=by simpa using h
  exact⟨m,by rw[this]⟩
theorem cR {l:List Rat}{c:Rat}(hs:l.Pairwise (· < ·))(hb:∀z,z∈l->c<=z)(hc:c∈l):∃m,l=c::m:=by
  cases l with
  |nil=>cases hc
  | cons z m=>
    rcases List.mem_cons.1 hc with h|h
    · exact⟨m,by rw[h]⟩
    have h2:=(List.pairwise_cons.1 hs).1 c h;have h3:=hb z (by simp);grind
theorem jR {rule:Int}{a b:Int×Int}{rs:List Ac}(h:a.1<=b.1)(y:Rat):Hg rule a b rs y<=(b.1:Rat)-(a.1:Rat):=aZ _ (Ln _).1 (by exact_mod_cast h)
theorem jQ {rule:Int}{a b:Int×Int}{rs:List Ac}(y:Rat):0<=Hg rule a b rs y:=xX _ _ _
theorem nN {a b:Int×Int}{rs:List Ac}(k:Kv a b rs):∃x l,Dx a b rs=x::l/\x=(a.2:Rat)/\(x::l).getLast?=some (b.2:Rat):=by
  have h:=dL k;obtain⟨m,hm⟩:=cR h.srt (fun z hz=>(h.bd z hz).1) h.lo;obtain⟨n,hn⟩:=gJ h.srt (fun z hz=>(h.bd z hz).2) h.hi;refine⟨_,m,hm,rfl,?_⟩;rw[<-hm,hn];simp
theorem lV {W:Rat->Rat}{c:Rat}:∀{l:List Rat},l.Pairwise (· < ·)->(∀y,(∀z,l.head?=some z->z<y)->(∀z,l.getLast?=some z->y<z)->W y=c)->Cv W l=Cv (fun _=>c) l
 | [],_,_=>rfl
 | [_],_,_=>rfl
 |x::y::l,hs,h=>by
  obtain⟨h1,h2⟩:=List.pairwise_cons.1 hs;have A0:=h1 y (by simp);have hl:∀z,(x::y::l).getLast?=some z->y<=z:=fun z hz=>by
   rw[List.getLast?_cons_cons]at hz;have hm:=List.mem_of_getLast? hz;rcases List.mem_cons.1 hm with e|e
   ·rw[e];exact Rat.le_refl
   exact Rat.le_of_lt ((List.pairwise_cons.1 h2).1 z e)
  have ih:=lV (W:=W) (c:=c) h2 (fun w a1 a2=>h w (fun z hz=>by
   have:x=z:=by simpa using hz
   subst this;have:=a1 y rfl;grind) (fun z hz=>a2 z (by rwa[List.getLast?_cons_cons]at hz)))
  have m:=aBN A0;have hm:=h ((x+y)/2) (fun z hz=>by
   have:x=z:=by simpa using hz
   subst this;exact m.1) (fun z hz=>by have:=hl z hz;grind)
  show W _*_+Cv W (y::l)=c*_+Cv (fun _=>c) (y::l);rw[ih,hm]
theorem Ia {rs:List Ac}{r:Ac}{p:Int×Int}(h:En rs=true)(hr:r∈rs)(hp:p∈r):Dj p:=by
  obtain⟨i,hi⟩:=List.mem_iff_getElem?.1 hr;obtain⟨k,hk⟩:=List.mem_iff_getElem?.1 hp;exact kM h hi hk
def Kd (D:Nat)(q:Rat):Prop:=∃z:Int,q*((D:Int):Rat)=(z:Rat)
theorem Kd.add {D:Nat}{q r:Rat}(h:Kd D q)(k:Kd D r):Kd D (q+r):=by
  obtain⟨a,ha⟩:=h;obtain⟨b,hb⟩:=k;exact⟨a+b,by rw[Rat.intCast_add,<-ha,<-hb];grind⟩
theorem Kd.sub {D:Nat}{q r:Rat}(h:Kd D q)(k:Kd D r):Kd D (q-r):=by
  obtain⟨a,ha⟩:=h;obtain⟨b,hb⟩:=k;exact⟨a-b,by rw[Rat.intCast_sub,<-ha,<-hb];grind⟩
theorem Kd.mul {D E:Nat}{q r:Rat}(h:Kd D q)(k:Kd E r):Kd (D*E) (q*r):=by
  obtain⟨a,ha⟩:=h;obtain⟨b,hb⟩:=k;exact⟨a*b,by rw[gQQ,Rat.intCast_mul,Rat.intCast_mul,<-ha,<-hb];grind⟩
theorem Kd.int (D:Nat)(z:Int):Kd D (z:Rat):=⟨z*D,by rw[Rat.intCast_mul]⟩
theorem Kd.up {D E:Nat}{q:Rat}(h:Kd D q)(k:D∣E):Kd E q:=by
  obtain⟨m,rfl⟩:=k;obtain⟨a,ha⟩:=h;exact⟨a*m,by rw[gQQ,Rat.intCast_mul,Rat.intCast_mul,<-ha];grind⟩
theorem Kd.den (q:Rat):Kd q.den q:=⟨q.num,by
  have e:q=(q.num:Rat)/(((q.den:Nat):Int):Rat):=by rw[<-Rat.divInt_eq_div];exact(Rat.num_divInt_den q).symm
  have h:(((q.den:Nat):Int):Rat)≠0:=by exact_mod_cast q.den_nz
  have k:=Rat.inv_mul_cancel _ h;rw[Rat.div_def]at e;generalize (((q.den:Nat):Int):Rat)=u at*;generalize (q.num:Rat)=v at*;rw[e];grind⟩
theorem Kd.half {D:Nat}{q r:Rat}(h:Kd D q)(k:Kd D r):Kd (2*D) ((q+r)/2):=by
  obtain⟨a,ha⟩:=h;obtain⟨b,hb⟩:=k;refine⟨a+b,?_⟩;rw[gQQ,Rat.intCast_mul,Rat.intCast_add,<-ha,<-hb,Rat.div_def];have e:(2:Rat)⁻¹*(((2:Nat):Int):Rat)=1:=by decide+kernel
  generalize (2:Rat)⁻¹=i at*;generalize (((2:Nat):Int):Rat)=u at*;grind
theorem Kd.rl {D M:Nat}{q:Rat}(hD:0<D)(h:Kd D q)(h1: -((M:Int):Rat)<=q)(h2:q<=((M:Int):Rat)):Nm.rl q<=max (Nm.nl (M*D)) (max (Nm.nl D) 1):=by
 obtain⟨a,ha⟩:=h;have hd:(0:Rat)<((D:Int):Rat):=by exact_mod_cast hD
 have e:q=Rat.divInt a D:=by
  rw[Rat.divInt_eq_div,<-ha,Rat.div_def,Rat.mul_assoc,Rat.mul_inv_cancel _ (by grind),Rat.mul_one]
 rw[e];refine Av (Nm.rl_divInt _ _) ?_;have k:a.natAbs<=M*D:=by
  have k1:(a:Rat)<=(((M*D:Nat):Int):Rat):=by
   rw[<-ha,gQQ,Rat.intCast_mul];exact Rat.mul_le_mul_of_nonneg_right h2 (by grind)
  have k2:(((-(M*D:Nat):Int)):Rat)<=(a:Rat):=by
   rw[<-ha,gQQ,Rat.intCast_neg,Rat.intCast_mul];have:=Rat.mul_le_mul_of_nonneg_right h1 (c:=((D:Int):Rat)) (by grind);grind
  have k3:a<=((M*D:Nat):Int):=by exact_mod_cast k1
  have k4: -((M*D:Nat):Int)<=a:=by exact_mod_cast k2
  omega
 have:=Nm.nl_mono k;have:Nm.nl (D:Int).natAbs=Nm.nl D:=by rw[nQQ]
 omega
def dn:List Rat->Nat
  | []=>1
  |x::l=>x.den*dn l
theorem iY:∀l:List Rat,0<dn l
  | []=>Nat.one_pos
  |x::l=>Nat.mul_pos x.den_pos (iY l)
theorem aAJ {q:Rat}:∀{l:List Rat},q∈l->Kd (dn l) q
  | x::l,h=>by
    rcases List.mem_cons.1 h with e|e
    · subst e;exact(Kd.den q).up ⟨dn l,rfl⟩
    exact(aAJ e).up ⟨x.den,lZZ _ _⟩
theorem aAI {c:Nat}:∀{l:List Rat},(∀x,x∈l->Nm.rl x<=c)->Nm.nl (dn l)<=c*l.length+1
  | [],_=>Av (Nm.nl_le (k:=1) (by decide)) (by simp)
  | x::l,h=>by
    have h1:=Nm.nl_mul x.den (dn l);have h2:=aAI (l:=l) fun z hz=>h z (cXX _ hz)
    have h3:Nm.nl x.den<=c:=Av (Nat.le_max_right _ _) (h x dXX);show Nm.nl (x.den*dn l)<=_;rw[hXX,hQQ];omega
def pX (e:Cx):Nat:=if e.2.2-e.1.2=0 then 1 else(e.2.2-e.1.2).natAbs
def Ze:List Cx->Nat
  | []=>1
  |e::l=>pX e*Ze l
theorem yX (e:Cx):0<pX e:=by unfold pX;split<;>omega
theorem bL:∀l:List Cx,0<Ze l
  | []=>Nat.one_pos
  |e::l=>Nat.mul_pos (yX e) (bL l)
theorem lQ {e:Cx}:∀{l:List Cx},e∈l->pX e∣Ze l
  | x::l,h=>by
    rcases List.mem_cons.1 h with e|e
    · subst e;exact⟨Ze l,rfl⟩
    obtain⟨m,hm⟩:=lQ e;exact⟨pX x*m,by show pX x*Ze l=_;rw[hm,Nat.mul_left_comm]⟩
theorem iW:∀{l:List Cx},(∀e,e∈l->Dj e.1/\Dj e.2)->Nm.nl (Ze l)<=l.length+1
  | [],_=>Nm.nl_le (by decide)
  | e::l,h=>by
    have h1:=Nm.nl_mul (pX e) (Ze l);have h2:=iW (l:=l) fun z hz=>h z (cXX _ hz)
    have h3:Nm.nl (pX e)<=1:=by
      obtain⟨a,b⟩:=h e dXX;have a2:=Bi a;have b2:=Bi b;refine Nm.nl_le ?_;unfold pX;split<;>omega
    show Nm.nl (pX e*Ze l)<=_;rw[hXX];omega
theorem rL (e:Cx):Kd (pX e) (aAS e.1 e.2):=by
 unfold aAS pX;split
 ·rename_i h;rw[h];exact⟨0,by rw[show((1:Int):Rat)/((0:Int):Rat)=0 from by decide+kernel];grind⟩
 rename_i h;have hz:(((e.2.2-e.1.2:Int)):Rat)≠0:=by exact_mod_cast h
 rcases Int.natAbs_eq (e.2.2-e.1.2)with k|k
 ·refine⟨e.2.1-e.1.1,?_⟩
  rw[<-k,Rat.div_def];have:=Rat.inv_mul_cancel _ hz;generalize (((e.2.2-e.1.2:Int)):Rat)=u at*
  grind
 refine⟨-(e.2.1-e.1.1),?_⟩;rw[show(((e.2.2-e.1.2).natAbs:Int))= -(e.2.2-e.1.2)from ω,Rat.div_def,Rat.intCast_neg,Rat.intCast_neg];have:=Rat.inv_mul_cancel _ hz;generalize (((e.2.2-e.1.2:Int)):Rat)=u at*
 grind
theorem aCJ {e:Cx}{F:Nat}{y:Rat}(h:Kd F y):Kd (pX e*F) (aCK e y):=by
  rw[yV];refine((rL e).mul h).add (Kd.sub (Kd.int _ _) ?_);have:=(Kd.int 1 e.1.2).mul (rL e);exact this.up ⟨F,by rw[Nat.one_mul]⟩
theorem oT {y:Rat}{rs:List Ac}{m:QI}(h:m∈Dp y rs):∃e,e∈Dl rs/\m.1=aCK e y:=by
  rw[Gf,Stb.mem_stab]at h;obtain⟨e,he,h⟩:=List.mem_filterMap.1 h;refine⟨e,he,?_⟩;unfold Fv at h;split at h
  · injection h with h;rw[<-h];rfl
  split at h
  · injection h with h;rw[<-h];rfl
  cases h
theorem dD {P:Rat->Prop}:∀{ms:List QI} {s:Int},(∀m,m∈ms->P m.1)->∀r,r∈Gw s ms->P r.1.1/\P r.1.2
  | [],_,_,_,h=>by simp[Gw]at h
  | [_],_,_,_,h=>by simp[Gw]at h
  | a::b::t,s,hp,r,h=>by
    rcases List.mem_cons.1 (show r∈((a.1,b.1),s+a.2)::Gw (s+a.2) (b::t)from h)with e|e
    · subst e;exact⟨hp a dXX,hp b (cXX _ dXX)⟩
    exact dD (fun m hm=>hp m (cXX _ hm)) r e
theorem Kr {P:Rat->Prop}{rule:Int}{ms:List QI}(h:∀m,m∈ms->P m.1):∀p,p∈Ld rule ms->P p.1/\P p.2:=by
  refine eK fun p hp=> ?_
  unfold Tg at hp;obtain⟨r,hr,rfl⟩:=List.mem_map.1 hp;exact dD h r (List.mem_filter.1 hr).1
theorem yA {D:Nat}{f t:Rat}{p:QQ}(hf:Kd D f)(ht:Kd D t)(h1:Kd D p.1)(h2:Kd D p.2):Kd D (Ev f t p):=by
  unfold Ev;have k1:Kd D (if p.1<f then f else p.1):=by split<;>assumption
  have k2:Kd D (if t<p.2 then t else p.2):=by split<;>assumption
  generalize (if p.1<f then f else p.1)=u at*;generalize (if t<p.2 then t else p.2)=v at*;split
  · exact k2.sub k1
  exact Kd.int D 0
theorem kX {D:Nat}{f t:Rat}(hf:Kd D f)(ht:Kd D t):∀{l:List QQ},(∀p,p∈l->Kd D p.1/\Kd D p.2)->Kd D (Ed f t l)
  | [],_=>by rw[Ep];exact Kd.int D 0
  | p::l,h=>by
    rw[Cd];exact(yA hf ht (h p dXX).1 (h p dXX).2).add (kX hf ht fun z hz=>h z (cXX _ hz))
theorem jS {rule:Int}{a b:Int×Int}{rs:List Ac}{F:Nat}{y:Rat}(h:Kd F y):Kd (Ze (Dl rs)*F) (Hg rule a b rs y):=by
  refine kX (Kd.int _ _) (Kd.int _ _) (Kr (P:=Kd (Ze (Dl rs)*F)) fun m hm=> ?_);obtain⟨e,he,hx⟩:=oT hm;rw[hx];exact(aCJ h).up (Nat.mul_dvd_mul_right (lQ he) F)
theorem iF (l:List QQ):(Fk l).length<=l.length:=by
  have h:=tZ (Ec l) (Ec l).length;rw[lXX]at h;refine Av h ?_;unfold Ec;rw[Stb.stab_len];exact List.length_filter_le _ _
theorem mM (rule:Int)(ms:List QI):(Ld rule ms).length<=ms.length:=by
  refine Av (iF _) (Av (wM _ _) ?_);rw[Mc];omega
theorem oQ (y:Rat)(rs:List Ac):(Dp y rs).length<=(Dl rs).length:=by
  rw[Gf,Stb.stab_len];exact List.length_filterMap_le _ _
theorem Rt (rs:List Ac):(Dl rs).length<=Ga rs:=by
  unfold Dl;split
  · exact Fm rs
  simp[Ba]
theorem dT {y:Rat}:∀{l:List Rat},(Kk l y).length<=l.length+1
  | []=>by simp[Kk]
  | x::l=>by
    have:=dT (y:=y) (l:=l);unfold Kk;split
    · simp;omega
    split<;>simp
theorem eE {lo hi:Rat}:∀{all l:List Rat},(Rb lo hi l all).length<=l.length+all.length
  | [],l=>by simp[Rb]
  | x::all,l=>by
    show(Rb lo hi (if lo<x/\x<hi then Kk l x else l) all).length<=_;have h1:=eE (lo:=lo) (hi:=hi) (all:=all) (l:=if lo<x/\x<hi then Kk l x else l);have h2:(if lo<x/\x<hi then Kk l x else l).length<=l.length+1:=by
      split
      · exact dT
      omega
    rw[hXX];omega
theorem fA {α β:Type}{f:α->List β}(h:∀x,(f x).length<=1):∀l:List α,(l.flatMap f).length<=l.length
  | []=>by simp
  | x::l=>by
    have:=h x;have:=fA h l;rw[List.flatMap_cons,aXX,hXX];omega
theorem cE (e:Cx)(x:Int):(Kg e x).length<=1:=by unfold Kg;split<;>simp
theorem rZ (o e:Cx):(Ks o e).length<=1:=by unfold Ks;split<;>simp
theorem dM (a b:Int×Int)(N:Nat):∀(l p:List Cx),p.length+l.length<=N->(Jm a b p l).length<=l.length*(N+2)
  | [],p,_=>by simp[Jm]
  | x::l,p,h=>by
    have h1:=dM a b N l (p++[x]) (by simp at h⊢;omega);have h2:=fA (f:=fun o=>Ks x o) (fun o=>rZ x o) p;have h3:=cE x a.1;have h4:=cE x b.1;show(Ea a b p x++Jm a b (p++[x]) l).length<=_;unfold Ea;simp only[aXX,hXX,kZZ,Nat.one_mul]at h⊢;omega
theorem dK:∀rs:List Ac,(Su rs).length=Ga rs
  | []=>rfl
  | r::rs=>by
    have:=dK rs;have e:Ga (r::rs)=r.length+Ga rs:=by
      have:=jV [r] rs;simpa[Ga]using this
    rw[e,<-this];simp[Su]
theorem sR {a b:Int×Int}{rs:List Ac}{N:Nat}(h:Ga rs<=N):(Dx a b rs).length<=2+N+N*(N+2):=by
  unfold Dx;split
  · rename_i k
    have h1:=eE (lo:=(a.2:Rat)) (hi:=(b.2:Rat)) (all:=Lh a b rs) (l:=[(a.2:Rat),(b.2:Rat)]);have h2:=dM a b N (Ba rs) [] (by have:=Fm rs;simp;omega);have h3:=dK rs;have h4:=iQQ (N+2) (Av (Fm rs) h);unfold Lh at h1⊢;simp only[aXX,hXX,List.length_nil]at h1;omega
  simp
theorem lU {W:Rat->Rat}{D F C M:Nat}(hW:∀y,Kd (2*D) y->Kd F (W y))(h0:∀y,0<=W y/\W y<=((C:Int):Rat)):∀{l:List Rat},(∀x,x∈l->Kd D x/\ -((M:Int):Rat)<=x/\x<=((M:Int):Rat))->l.Pairwise (· < ·)->Kd (F*D) (Cv W l)/\0<=Cv W l/\Cv W l<=(((l.length*(C*(2*M)):Nat):Int):Rat)
 | [],_,_=>⟨Kd.int _ 0,by simp[Cv],by simp[Cv]⟩
 | [x],_,_=>⟨Kd.int _ 0,by simp[Cv],by show(0:Rat)<=_;exact_mod_cast Int.natCast_nonneg _⟩
 |x::y::l,h,hs=>by
  obtain⟨k1,k2,k3⟩:=lU hW h0 (l:=y::l) (fun z hz=>h z (cXX _ hz)) (List.pairwise_cons.1 hs).2;obtain⟨x1,x2,x3⟩:=h x dXX;obtain⟨y1,y2,y3⟩:=h y (cXX _ dXX);have A0:x<y:=(List.pairwise_cons.1 hs).1 y dXX;obtain⟨w1,w2⟩:=h0 ((x+y)/2);have wk:=hW _ (x1.half y1);have hd:0<=y-x/\y-x<=(((2*M:Nat):Int):Rat):=by
   rw[gQQ,Rat.intCast_mul];have:(((2:Nat):Int):Rat)=2:=rfl;constructor<;>grind
  show Kd (F*D) (W ((x+y)/2)*(y-x)+Cv W (y::l))/\0<=W ((x+y)/2)*(y-x)+Cv W (y::l)/\W ((x+y)/2)*(y-x)+Cv W (y::l)<=_;refine⟨(wk.mul (y1.sub x1)).add k1,?_,?_⟩
  ·have:=Rat.mul_nonneg w1 hd.1
   grind
  have e1:W ((x+y)/2)*(y-x)<=((C:Int):Rat)*(((2*M:Nat):Int):Rat):=by
   have a1:=Rat.mul_le_mul_of_nonneg_right w2 hd.1;have a2:=Rat.mul_le_mul_of_nonneg_left hd.2 (show(0:Rat)<=((C:Int):Rat)from by exact_mod_cast Int.natCast_nonneg C);grind
  have e2:((((x::y::l).length*(C*(2*M)):Nat):Int):Rat)=((C:Int):Rat)*(((2*M:Nat):Int):Rat)+((((y::l).length*(C*(2*M)):Nat):Int):Rat):=by
   rw[<-Rat.intCast_mul,<-gQQ,<-Rat.intCast_add,<-Int.natCast_add];congr 2;rw[hXX (a:=x),Nat.succ_mul,Nat.add_comm]
  rw[e2];grind
def part (rule:Int)(a b:Int×Int)(rs:List Ac)(k:Nat):Rat:=Cv (Hg rule a b rs) ((Dx a b rs).take (k+1))
theorem oA (rule:Int)(a b:Int×Int)(rs:List Ac):part rule a b rs 0=0:=by
  unfold part;cases Dx a b rs with
  |nil=>rfl
  |cons x l=>rfl
theorem Zl (W:Rat->Rat):∀(l:List Rat) (k:Nat) (x y:Rat),l[k]?=some x->l[k+1]?=some y->Cv W (l.take (k+2))=Cv W (l.take (k+1))+W ((x+y)/2)*(y-x)
  | [],k,x,y,h,_=>by simp at h
  | [z],0,x,y,_,h=>by simp at h
  | [z],k+1,x,y,h,_=>by simp at h
  | a::b::l,0,x,y,h,h2=>by
    simp at h h2;subst h h2;show W ((a+b)/2)*(b-a)+Cv W [b]=Cv W [a]+_;show W ((a+b)/2)*(b-a)+0=0+_;grind
  | a::b::l,k+1,x,y,h,h2=>by
    have ih:=Zl W (b::l) k x y (by simpa using h) (by simpa using h2);show W ((a+b)/2)*(b-a)+Cv W (b::l.take (k+1))=W ((a+b)/2)*(b-a)+Cv W (b::l.take k)+_;rw[List.take_succ_cons,List.take_succ_cons]at ih;rw[ih];grind
theorem oB {rule:Int}{a b:Int×Int}{rs:List Ac}{k:Nat}{x y:Rat}(h:(Dx a b rs)[k]?=some x)(h2:(Dx a b rs)[k+1]?=some y):part rule a b rs (k+1)=part rule a b rs k+Hg rule a b rs ((x+y)/2)*(y-x):=Zl _ _ _ _ _ h h2
theorem tA {rule:Int}{a b:Int×Int}{rs:List Ac}{k:Nat}(h:(Dx a b rs).length<=k+1)(h1:a.1<b.1):part rule a b rs k=Gq rule a b rs:=by
  unfold part Gq;rw[cQQ h];split
  · rename_i c
    have:¬Kv a b rs:=fun k=>by have:=k.2.2.2;omega
    rw[show Dx a b rs=[]from if_neg this];rfl
  rfl
theorem xD {rule:Int}{a b:Int×Int}{rs:List Ac}(ha:Dj a)(hb:Dj b)(h1:a.1<=b.1)(ht:Ga rs<=24)(hh:∀x,x∈Dx a b rs->Nm.rl x<=24)(k:Nat):Nm.rl (part rule a b rs k)<=50000:=by
 have a2:=Bi ha;have b2:=Bi hb;by_cases c:Kv a b rs
 ·have hD:=aAI hh
  have hc:=sR (a:=a) (b:=b) ht;have hE:Nm.nl (Ze (Dl rs))<=25:=by
   refine Av (iW fun e he=> ?_) (by have:=Rt rs;omega);rw[Nh c.1]at he;obtain⟨r,hr,h3,h4⟩:=Kx he;exact⟨Ia c.1 hr h3,Ia c.1 hr h4⟩
  have hp:=lU (W:=Hg rule a b rs) (D:=dn (Dx a b rs)) (F:=Ze (Dl rs)*(2*dn (Dx a b rs))) (C:=2097152) (M:=1048576) (fun y hy=>jS hy)
   (fun y=>⟨jQ y,Rat.le_trans (jR h1 y) (by rw[<-Rat.intCast_sub];exact Rat.intCast_le_intCast.2 ω)⟩) (l:=(Dx a b rs).take (k+1))
   (fun x hx=>⟨aAJ (List.mem_of_mem_take hx),by
    have h5:=Th (List.mem_of_mem_take hx);have h6:(((-1048576:Int)):Rat)<=(a.2:Rat):=Rat.intCast_le_intCast.2 ω;have h7:(b.2:Rat)<=(((1048576:Nat):Int):Rat):=Rat.intCast_le_intCast.2 ω;exact⟨Rat.le_trans (by rw[<-Rat.intCast_neg];exact h6) h5.1,Rat.le_trans h5.2 h7⟩⟩)
   ((Ux a b rs).sublist (List.take_sublist _ _))
  have A0:0<Ze (Dl rs)*(2*dn (Dx a b rs))*dn (Dx a b rs):=Nat.mul_pos (Nat.mul_pos (bL _) (Nat.mul_pos (by decide) (iY _))) (iY _);have hr:=Kd.rl (M:=((Dx a b rs).take (k+1)).length*(2097152*(2*1048576))) A0 hp.1 (Rat.le_trans (by
   have:(0:Rat)<=(((((Dx a b rs).take (k+1)).length*(2097152*(2*1048576)):Nat):Int):Rat):=by exact_mod_cast Int.natCast_nonneg _
   grind) hp.2.1) hp.2.2
  refine Av hr ?_;have n1:=Nm.nl_mul (((Dx a b rs).take (k+1)).length*(2097152*(2*1048576))) (Ze (Dl rs)*(2*dn (Dx a b rs))*dn (Dx a b rs));have n2:=Nm.nl_mul (Ze (Dl rs)*(2*dn (Dx a b rs))) (dn (Dx a b rs));have n3:=Nm.nl_mul (Ze (Dl rs)) (2*dn (Dx a b rs));have n4:=Nm.nl_mul 2 (dn (Dx a b rs));have n5:Nm.nl 2<=1:=Nm.nl_le (by decide);have n6:Nm.nl (((Dx a b rs).take (k+1)).length*(2097152*(2*1048576)))<=2:=by
   refine Nm.nl_le ?_;have:((Dx a b rs).take (k+1)).length<=650:=by rw[eQQ];omega
   have:=iQQ (2097152*(2*1048576)) this;exact oQQ this (by decide)
  omega
 unfold part;rw[show Dx a b rs=[]from if_neg c];exact Av (show Nm.rl (0:Rat)<=1 from by decide+kernel) (by decide)
def uE (rule:Int)(rs:List Ac):Int:=if En rs=true then(if rule=1\/rule=2 then 0 else 2)else 12
def Gt (rule:Int)(a b:Int×Int)(rs:List Ac):Int:=if En rs=true then(if rule=1\/rule=2 then(if Dh a.1 a.2=true/\Dh b.1 b.2=true then 0 else 6)else 2)else 12
theorem Nd {rule:Int}{a b:Int×Int}{rs:List Ac}:Gt rule a b rs=0↔En rs=true/\(rule=1\/rule=2)/\Dh a.1 a.2=true/\Dh b.1 b.2=true:=by
  unfold Gt;by_cases h1:En rs=true<;>by_cases h2:rule=1\/rule=2<;>by_cases h3:Dh a.1 a.2=true/\Dh b.1 b.2=true<;>simp[h1,h2,h3]
def Mm (n:Int):Bool:=decide (n< -4096)||decide (4096<n)
def Bd (x y:Int):Int×Int:=if (Mm x||Mm y)=true then(1048577,0)else(x*256,y*256)
def Je (x y:Int):Int×Int:=if Dh (Bd x y).1 (Bd x y).2=true then Bd (x+1) (y+1)else Bd x y
theorem aAN {rule:Int}{a b:Int×Int}{rs:List Ac}{y:Rat}{c:Nat}(hok:En rs=true)(ha:Dj a)(hb:Dj b)(h1:a.1<=b.1)(ht:Ga rs<=24)(hy:Nm.rl y<=c):Nm.rl (Hg rule a b rs y)<=c+30:=by
 have a2:=Bi ha;have b2:=Bi hb;have hE:Nm.nl (Ze (Dl rs))<=25:=by
  refine Av (iW fun e he=> ?_) (by have:=Rt rs;omega);rw[Nh hok]at he;obtain⟨r,hr,h3,h4⟩:=Kx he;exact⟨Ia hok hr h3,Ia hok hr h4⟩
 have hd:Nm.nl y.den<=c:=Av (Nat.le_max_right _ _) hy;have k:=jS (rule:=rule) (a:=a) (b:=b) (rs:=rs) (Kd.den y);have A0:0<Ze (Dl rs)*y.den:=Nat.mul_pos (bL _) y.den_pos;have hr:=Kd.rl (M:=2097152) A0 k (Rat.le_trans (by decide+kernel) (jQ y)) (Rat.le_trans (jR h1 y) (by rw[<-Rat.intCast_sub];exact Rat.intCast_le_intCast.2 ω));refine Av hr ?_;have n1:=Nm.nl_mul 2097152 (Ze (Dl rs)*y.den);have n2:=Nm.nl_mul (Ze (Dl rs)) y.den;have n3:Nm.nl 2097152<=1:=Nm.nl_le (by decide);omega
theorem sK {p q:Rat}{c:Nat}(hp:Nm.rl p<=c)(hq:Nm.rl q<=c):Nm.rl ((p+q)/2)<=2*c+3:=by
  have h1:=Nm.rl_add p q;have h2:=Nm.rl_div (p+q) 2;have h3:Nm.rl (2:Rat)<=1:=by decide+kernel
  omega
theorem mK (rule:Int)(y:Rat){rs:List Ac}(h:Ga rs<=16):(Ld rule (Dp y rs)).length<=16:=by
  have h1:=mM rule (Dp y rs);have h2:=oQ y rs;have h3:=Rt rs;omega
theorem xW (rule:Int)(a b:Int×Int)(rs:List Ac)(y:Rat):Ed (((a.1:Int)):Rat) (((b.1:Int)):Rat) (Fk (Ld rule (Dp y rs)))=Hg rule a b rs y:=by
  unfold Hg Ld;rw[eJ]
end
section
attribute [local go_sem ↓] Go.wp_at_zero Go.wp_at_succ Aj Ai
theorem Vz (A:Option Addr)(cap:Nat)(rs:List Ac)(rule:Int)(k:Int)(w:World)(hu:Cm w (.slice A rs.length cap) rs)(hn:rs.length<=1048576)(hr:∀r,r∈rs->r.length<=1048576)(hk:uE rule rs=k):
  Calls prog 121 #[.slice A rs.length cap,iV rule] w fun e w'=>e= .returned (iV k)/\Aa w w':=by
 subst hk;have HU:=zH hu;have HN:=zH hn;have A0:=zH hr;clear hu hr;go_enter func121,ntmps121
 have H0:=zH (Hp.start w);go_upto_region 0 with fail;apply wl;apply zq (iV 0);rcases Cy (En rs=true)with HV|HV
 ·go_upto_region 1 with fail
  apply wl;refine Cs Ah _ ?_;refine zc (Cg _ rs _ (HU.1.ext H0.1.ext) HN.1 A0.1) ?_;rintro e w4 ⟨rfl,hx⟩;have H5:=zH (H0.1.step hx);clear hx;refine⟨.bool true,by rw[HV.1],?_⟩;try simp only[ζ]
  refine Cc Ah (.bool false) (.bool false) ?_;rcases Cy (rule=1)with H1|H1
  ·go_upto_region 3 with fail
   apply wl;apply zq (iV rule);apply zp (.bool false) (by exact Nq (e:=(Al (fun h_=>h_ H1.1))));refine Ly Ah (.bool false) _ _ (.bool false) (.bool false) ?_;go_upto_region 5 with fail;apply wl;apply zq (iV 0);go_wp2_with fail;go_ret;exact⟨by rw[show uE rule rs=0 from(if_pos HV.1).trans (if_pos (.inl H1.1))]<;>rfl,H5.1.ext⟩
  rcases Cy (rule=2)with H2|H2
  ·go_upto_region 3 with fail
   apply wl;apply zq (iV rule);apply zp (.bool true) (by exact Nq (e:=(Ar H1.1)));refine Cc Ah (.bool true) (iV rule) ?_;apply zp (.bool false) (by exact Nq (e:=(Al (fun h_=>h_ H2.1))));refine Cc Ah (.bool false) (.bool false) ?_;go_upto_region 5 with fail;apply wl;apply zq (iV 0);go_wp2_with fail;go_ret;exact⟨by rw[show uE rule rs=0 from(if_pos HV.1).trans (if_pos (.inr H2.1))]<;>rfl,H5.1.ext⟩
  go_upto_region 3 with fail;apply wl;apply zq (iV rule);apply zp (.bool true) (by exact Nq (e:=(Ar H1.1)));refine Cc Ah (.bool true) (iV rule) ?_;apply zp (.bool true) (by exact Nq (e:=(Ar H2.1)));refine Cc Ah (.bool true) (.bool true) ?_;go_upto_region 4 with fail;apply wl;apply zq (iV 2);go_wp2_with fail;go_ret;exact⟨by rw[show uE rule rs=2 from(if_pos HV.1).trans (if_neg (fun h_=>h_.elim H1.1 H2.1))]<;>rfl,H5.1.ext⟩
 go_upto_region 1 with fail;apply wl;refine Cs Ah _ ?_;refine zc (Cg _ rs _ (HU.1.ext H0.1.ext) HN.1 A0.1) ?_;rintro e A2 ⟨rfl,hx⟩;have A1:=zH (H0.1.step hx);clear hx;refine⟨.bool false,by rw[Bool.eq_false_iff.2 HV.1],?_⟩;try simp only[ζ]
 apply qV (.bool true);apply zq (.bool true);go_upto_region 2 with fail;apply wl;apply zq (iV 12);go_wp2_with fail;go_ret;exact⟨by rw[show uE rule rs=12 from if_neg HV.1]<;>rfl,A1.1.ext⟩
end
section
open Go.RowKit Go.Maps
attribute [local go_sem ↓] Go.wp_at_zero Go.wp_at_succ
theorem aCS {n:Int}(h: -9223372036854775808<=n/\n<=9223372036854775807):bits .and .i64 n (-1)=n:=by
  show IntKind.i64.wrap (((BitVec.ofInt 64 n&&& BitVec.ofInt 64 (-1)).toNat:Nat):Int)=n;rw[show BitVec.ofInt 64 (-1)=BitVec.allOnes 64 from by decide,BitVec.and_allOnes,IntKind.wrap_i64,BitVec.toNat_ofInt];omega
theorem aDP (n:Int):bits .and .i64 n 1=n%2:=by
  show IntKind.i64.wrap (((BitVec.ofInt 64 n&&& BitVec.ofInt 64 1).toNat:Nat):Int)=n%2;rw[BitVec.toNat_and,show(BitVec.ofInt 64 1).toNat=1 from by decide,Nat.and_one_is_mod,IntKind.wrap_i64,BitVec.toNat_ofInt];omega
theorem aDQ (n:Int):bits .and .i64 n 0=0:=by
  show IntKind.i64.wrap (((BitVec.ofInt 64 n&&& BitVec.ofInt 64 0).toNat:Nat):Int)=0;rw[show BitVec.ofInt 64 0=0#64 from by decide,BitVec.and_zero,IntKind.wrap_i64];decide
section
variable {H:Type} {P:Program} {w:World} {ops:Array Oper} {rest:List Oper} {op:Oper} {a:Act} {Q:Exit->Act->World->Prop}
theorem Ys (hw:Region.wanted op (yielded ops a.tmps)=true)(m x v:Operand)(t:TypeId)(hop:op.op= .insert t m x v)
  (k e:TypeId)(K:Keyed P k)(ht:P.underlying t=some (.map k e))(R:Value->Option (DataW H×List MemPlace))(b n:Nat)(D:DataW H)
  (hm:a.eval m= .map (some b))(hown:w.ownsMap P k R b n D)(hn:n<maxLen)(key val:Value)(kl:Lit)(hx:a.eval x=key)(hv:a.eval v=val)(hkey:keyOf P k key=some kl)
  (d:DataW H)(ps:List MemPlace)(hval:R val=some (d,ps))
  (h:∀w',w'.ownsMap P k R b (n+1) (D.put kl d)->w.grownBy w' (some b)->wpList P ops Q rest (a.put op.dst undef) w'):wpList P ops Q (op::rest) a w:=by
 obtain⟨w',A0,r1,r2⟩:=hown.update K ht hn hkey hval;refine Cj hw ?_;unfold Oper.wp execOp;simp only[hop];simp[hm,hx,hv,A0,Result.andThen];exact h _ r1 r2
theorem oJ (hw:Region.wanted op (yielded ops a.tmps)=true)(m x:Operand)(t:TypeId)(hop:op.op=Op.lookup t m x false)
  (k e:TypeId)(q:IntKind)(K:Keyed P k)(ht:P.underlying t=some (.map k e))(he:P.underlying e=some (.int q))(hz:(zeroValue e).run P w= .ok (.int q 0) w)(b n:Nat)(D:DataW H)
  (hm:a.eval m= .map (some b))(hown:w.ownsMap P k (plainElem P e) b n D)(key:Value)(kl:Lit)(hx:a.eval x=key)(hkey:keyOf P k key=some kl)
  (h:∀c:Int,D.atKey kl (.lit (.int q 0))= .lit (.int q c)->wpList P ops Q rest (a.put op.dst (.int q c)) w):wpList P ops Q (op::rest) a w:=by
 obtain⟨c,A0,A1,_⟩:=hown.lookup_int K ht he hz hkey;refine Cj hw ?_;unfold Oper.wp execOp;simp only[hop];simp[hm,hx,A0,Result.andThen];exact h c A1
end
def fQ:DataW Unit:=((DataW.map []).put (.int .i64 1) (.lit (.int .i64 (-1)))).put (.int .i64 2) (.lit (.int .i64 1))
theorem vA:fQ= .map [(.int .i64 1,.lit (.int .i64 (-1))),(.int .i64 2,.lit (.int .i64 1))]:=by
  unfold fQ DataW.put;simp[DataW.insert,Lit.sameKey,Lit.before]
theorem vB (r c:Int)(h:fQ.atKey (.int .i64 r) (.lit (.int .i64 0))= .lit (.int .i64 c)):c=if r=1 then-1 else if r=2 then 1 else 0:=by
 rw[vA]at h;unfold DataW.atKey at h;by_cases h1:r=1
 ·subst h1
  rw[if_pos rfl];have h2:(DataW.lit (.int .i64 (-1)):DataW Unit)= .lit (.int .i64 c):=h;injection h2 with h2
  injection h2 with _ h2
  exact h2.symm
 by_cases h2:r=2
 ·subst h2
  rw[if_neg h1,if_pos rfl];have h2:(DataW.lit (.int .i64 1):DataW Unit)= .lit (.int .i64 c):=h;injection h2 with h2
  injection h2 with _ h2
  exact h2.symm
 have h3:¬(1=r):=fun k=>h1 k.symm
 have h4:¬(2=r):=fun k=>h2 k.symm
 simp[Lit.sameKey,h3,h4]at h;simp[h1,h2,h]
theorem Zc (n rule:Int)(w:World)(hn: -9223372036854775808<=n/\n<=9223372036854775807)(hr: -9223372036854775808<=rule/\rule<=9223372036854775807):
  Calls prog 150 #[.int .i64 n,.int .i64 rule] w fun e w'=>e= .returned (.bool (Hc n rule))/\Aa w w':=by
 have K:Keyed prog 3:=int_keyed underlying3;have A1:∀z:Int,-9223372036854775808<=z/\z<=9223372036854775807->(Lit.int .i64 z).wf=true:=fun z h=>by
  have A2:IntKind.i64.min= -9223372036854775808:=rfl;have A3:IntKind.i64.max=9223372036854775807:=rfl;simp only[Lit.wf,hZZ,decide_eq_true_eq];omega
 have HK:=zH K;have HW:=zH A1;have HN:=zH hn;have A4:=zH hr;clear K A1 hn hr;go_enter func150,ntmps150
 go_upto_region 1 with fail;refine wp_region_lit ?_;refine zp (w':=w.alloc (.map #[] 0)) (.map (some w.heap.size)) (by have A5:= @run_makeMap prog;go_simp) ?_;refine Ys (H:=Unit) (by rfl) _ _ _ _ (by rfl) 3 3 HK.1 underlying180 (plainElem prog 3) w.heap.size 0 (.map []) (by rfl) (World.ownsMap_made w _ _ _) (by unfold maxLen;decide) (.int .i64 1) (.int .i64 (-1)) (.int .i64 1) (by rfl) (by rfl) (keyOf_int_mk underlying3 (HW.1 1 (by decide))) (.lit (.int .i64 (-1))) [] (plainElem_int underlying3 (HW.1 (-1) (by decide))) ?_;intro w1 o1 g1
 (try simp only[Act.put])
 refine Ys (H:=Unit) (by rfl) _ _ _ _ (by rfl) 3 3 HK.1 underlying180 (plainElem prog 3) w.heap.size 1 _ (by rfl) o1 (by unfold maxLen;decide) (.int .i64 2) (.int .i64 1) (.int .i64 2) (by rfl) (by rfl) (keyOf_int_mk underlying3 (HW.1 2 (by decide))) (.lit (.int .i64 1)) [] (plainElem_int underlying3 (HW.1 1 (by decide))) ?_;intro w2 o2 g2
 (try simp only[Act.put])
 have HX:=zH (show Aa w w2 from(((Aa.refl w).alloc (.map #[] 0)).grown g1 (fun k hk=>by injection hk with hk;omega)).grown g2 (fun k hk=>by injection hk with hk;omega));have HO:=zH (show w2.ownsMap prog 3 (plainElem prog 3) w.heap.size 2 fQ from o2);clear o1 g1 o2 g2;refine zp (w':=w2) (.map (some w.heap.size)) (by go_simp) ?_;refine zp (w':=w2) (.map (some w.heap.size)) (by go_simp) ?_;go_upto_region 2 with fail
 refine wp_region_lit ?_;refine zp (w':=w2) (.int .i64 n) (by go_simp) ?_;refine zp (w':=w2) (.map (some w.heap.size)) (by go_simp) ?_;refine zp (w':=w2) (.int .i64 rule) (by go_simp) ?_;refine oJ (H:=Unit) (by rfl) _ _ _ (by rfl) 3 3 .i64 HK.1 underlying180 underlying3 (Tryz.zeroValue3 _) w.heap.size 2 fQ (by rfl) HO.1 (.int .i64 rule) (.int .i64 rule) (by rfl) (keyOf_int_mk underlying3 (HW.1 rule A4.1)) ?_;intro c hc;have A0:=vB rule c hc;have hb:(bits .and .i64 n c != 0)=Hc n rule:=by
  unfold Hc;by_cases h1:rule=1
  ·subst h1
   rw[A0,if_pos rfl,aCS HN.1];by_cases h0:n=0<;>simp[h0]
  by_cases h2:rule=2
  ·subst h2
   rw[A0,if_neg h1,if_pos rfl,aDP];by_cases h0:n%2=0<;>simp[h0]
  rw[A0,if_neg h1,if_neg h2,aDQ];simp[h1,h2]
 have HB:=zH hb;clear hc A0 hb;try simp only[ζ]
 go_wp2_with fail;go_ret;exact⟨by rw[<-HB.1];rfl,HX.1⟩
end
section
attribute [local go_sem ↓] Go.wp_at_zero Go.wp_at_succ Aj Ai
theorem Yt (L:Nat)(u:Value)(ps:List QQ)(w:World)(hu:Ow L w u ps)(h1L:1<=L)(hL:L<=60000)(hn:ps.length<20):
  Calls prog 148 #[u] w fun e w'=>∃v es,e= .returned v/\Ma L w' w.heap.size v es/\es.map Dm.vl=Fk ps/\es.length<=ps.length/\Aa w w':=by
 obtain⟨A,cu,rfl,hA⟩:=hu;obtain⟨i0,hi,I1,I0,B8⟩:=info_parts aBT;have K1:=zH h1L;have HI:=zH (And.intro hi (And.intro I1 (And.intro I0 B8)));have HA:=zH (fun(w':World) (x:Aa w w') (k:Nat) (p:QQ) (hp:ps[k]?=some p)=>(show∃g D2,A=some ⟨g,D2,none⟩/\∃cs:List Value,w'.rangeAt g (D2+k*8) cs/\Nr L w' cs.toArray p.1 p.2 by
  obtain⟨g,D2,h1,h2⟩:=hA (by have:=(List.getElem?_eq_some_iff.1 hp).1;omega);obtain⟨cs,h3,h4⟩:=h2 k p hp;exact⟨g,D2,h1,cs,Bg h3 x,h4.ext x⟩))
 clear hi I1 I0 B8 hA;go_enter func148,ntmps148;go_wp2_with fail;go_loopg [3,12] ps.length (fun c v i wr=>∃(k:Nat) (es:List Dm) (v2:Value),k<=ps.length/\c=ps.length-k/\i= iV k/\v2=v/\Ma L wr w.heap.size v2 es/\es.map Dm.vl=Hq (ps.take k)/\es.length<=k/\Aa w wr)
 case atStart=>exact⟨0,[],_,eXX _,rfl,rfl,rfl,⟨Be.nil _ _ _ _,by simp⟩,rfl,Ck _,Aa.refl _⟩
 obtain⟨k,es,v,hk,rfl,rfl,rfl,I4,J2,K8,hx⟩:=hrel;have E0:=zH I4;have C4:=zH (And.intro J2 K8);have HX:=zH hx;clear I4 J2 hx;by_cases hlt:k<ps.length
 ·have H1:(k:Int)<(ps.length:Int):=ω
  obtain⟨p,hp⟩:∃p,ps[k]?=some p:=⟨_,aQQ hlt⟩;obtain⟨g,D2,rfl,cs,hr,G3⟩:=HA.1 wr HX.1 k p hp;have J8:=zH (gP hp);have J3:cs.length=8:=by have:=G3.size;simpa using this
  have D4:∀v,v∈cs->v.oneCell'=true:=by
   have h:=G3.one;rw[Array.all_eq_true_iff_forall_mem]at h;exact fun v hv=>h v (by simpa using hv)
  have HR:=zH hr;have G7:=zH G3;have D1:=zH J3;have B2:=zH hlt;have F9:=zH (fun X hX=>rK (X:=X) E0.1 hX);clear hr G3 hp hlt;go_upto_region 4 with fail
  refine wp_region_lit ?_;apply zq (.pointer (some ⟨g,D2+k*8,none⟩));refine Cj (by rfl) (wp_load_mid _ _ (by rfl) g (D2+k*8) (by rfl) cs _ HR.1 underlying159 (by rfl) (by rw[D1.1];kernel_rfl) ?_);try simp only[ζ]
  clear J3;refine zp (w':=wr.alloc (.cells z8 159)) (.pointer (some ⟨wr.heap.size,0,none⟩)) (by go_simp) ?_;refine pO (cs).toArray (Ad.new wr _ _) (by simp[D1.1]) (by rw[show((cs).toArray:Array Value).size=8 by simp[D1.1]];kernel_rfl) (all_oneCell_toArray D4) ?_
  (try simp only[Act.put])
  obtain⟨E3,E2⟩:=Tl wr 159 z8 (cs).toArray (by simp[D1.1]);generalize (wr.alloc (.cells z8 159)).setCells wr.heap.size 0 ((cs).toArray:Array Value).toList=w4 at*;have G0:=zH (F9.1 wr.heap.size (Ck _));generalize wr.heap.size=X4 at*;have B3:=zH E3;have C5:=zH E2;clear E3 E2;go_upto_region 5 with fail
  refine wp_region_lit ?_;apply zq (.pointer (some ⟨X4,0,none⟩));refine pP 0 4 C5.1 underlying33 (by simp[D1.1]) ?_;try simp only[ζ]
  apply zq (.pointer (some ⟨X4,4,none⟩));refine pP 4 4 C5.1 underlying33 (by simp[D1.1]) ?_;try simp only[ζ]
  obtain⟨z,hz⟩:∃z,z=Df p.1 p.2:=⟨_,rfl⟩;have B0:z<0↔p.1<p.2:=by rw[hz];exact rcmp_lt
  refine Gz (by rfl) (by go_simp) (eD hz (G7.1.ext B3.1).c0 (G7.1.ext B3.1).c1 ω) ?_;rintro e w5 ⟨rfl,hx⟩;have B6:=zH (show Aa w4 w5 from((Aa.refl w4)).trans hx);clear hx;refine⟨_,rfl,?_⟩;try simp only[ζ]
  clear hz;have C1:=zH ((G7.1.ext B3.1).ext B6.1);have K2:=zH (C5.1.ext B6.1);have D5:=zH ((HX.1.trans B3.1).trans B6.1);have F5:=zH ((E0.1.ext B3.1).ext B6.1);clear B3 B6 C5 G7 HR E0;by_cases hpq:p.1<p.2
  ·have B8:z<0:=B0.2 hpq
   clear B0;apply zq (.bool true);have A4:=J8.1;rw[if_pos hpq]at A4;have H8:=zH A4;clear A4;clear hpq B8;go_upto_region 6 with fail
   refine wp_region_held_drew (S:=fun x=>w5.grownBy x v.ownBlock) (by kernel_rfl) (Cu _ An.drew) (fun _=> ?_);refine zv 0 (bs 11 1) (Cu _ (Aa.refl w5).drew) ?_;refine mV 1 (bs 11 3) (Cu _ (Aa.refl w5).drew) ?_;refine mP 2 (bs 11 7) 0 4 (fun x hx=>K2.1.grown hx G0.1) underlying33 (by simp[D1.1]) (Cu _ (Aa.refl w5).drew) ?_;try simp only[ζ]
   refine mV 4 (bs 11 23) (Cu _ (Aa.refl w5).drew) ?_;refine mP 5 (bs 11 55) 4 4 (fun x hx=>K2.1.grown hx G0.1) underlying33 (by simp[D1.1]) (Cu _ (Aa.refl w5).drew) ?_;try simp only[ζ]
   refine mC 3 (bs 11 63) (tB (C1.1.ext An.drew).c0 ω) ?_;rintro e w6 ⟨c1,rfl,L0,hx⟩;have D8:=zH (show Aa w5 w6 from((Aa.refl w5).drew).trans hx);obtain⟨ra,rfl,I8⟩:=L0;have K0:=zH I8;clear I8;clear hx;refine⟨_,rfl,(Cu _ D8.1),?_⟩;try simp only[ζ]
   refine mC 6 (bs 11 127) (tB (C1.1.ext D8.1).c1 ω) ?_;rintro e w7 ⟨c2,rfl,K9,hx⟩;have A9:=zH (show Aa w5 w7 from(D8.1).trans hx);obtain⟨rb,rfl,I7⟩:=K9;have L5:=zH I7;have H5:=zH (K0.1.ext hx);clear I7 K0;clear hx;refine⟨_,rfl,(Cu _ A9.1),?_⟩;try simp only[ζ]
   refine zv 7 (bs 11 255) (Cu _ A9.1) ?_;have G2:=F5.1.ext A9.1;have E6:=(D5.1.trans A9.1).size;have K7:es.length<=20000:=by have:=C4.1.2;omega
   have J6:Dm.Ok L w7 ⟨ra,rb,p.1,p.2⟩:=⟨H5.1,L5.1,C1.1.c0.rl K1.1,C1.1.c1.rl K1.1⟩;have L6:=zH J6;clear J6;have A2:Aa w7 (w7.alloc (.cells #[.bool ra.n,.slice ra.p ra.l ra.c,.bool ra.m,.slice ra.p2 ra.l2 ra.c2,.bool rb.n,.slice rb.p rb.l rb.c,.bool rb.m,.slice rb.p2 rb.l2 rb.c2] 159)):=An.alloc _;refine mU 8 (bs 11 511) (v:= .slice (some ⟨w7.heap.size,0,none⟩) 1 1) (w':=(w7.alloc (.cells #[.bool ra.n,.slice ra.p ra.l ra.c,.bool ra.m,.slice ra.p2 ra.l2 ra.c2,.bool rb.n,.slice rb.p rb.l rb.c,.bool rb.m,.slice rb.p2 rb.l2 rb.c2] 159))) (Cu _ ((A9.1).alloc _)) ?_;try simp only[ζ]
   refine Vr (j:=9) (listed':=(bs 11 1023)) (by rfl) (by kernel_rfl) (by rfl) _ _ 134 (by rfl) w.heap.size 159 i0 _ 8 128 underlying134 HI.1.1 HI.1.2.1 HI.1.2.2.1 HI.1.2.2.2 rfl (by decide) Vi _ es.length (Dy es) (by rfl) (G2.ext A2).1 ⟨w7.heap.size,0,none⟩ 1 1 [.bool ra.n,.slice ra.p ra.l ra.c,.bool ra.m,.slice ra.p2 ra.l2 ra.c2,.bool rb.n,.slice rb.p rb.l rb.c,.bool rb.m,.slice rb.p2 rb.l2 rb.c2] (by rfl) rfl (Rf _ [.bool ra.n,.slice ra.p ra.l ra.c,.bool ra.m,.slice ra.p2 ra.l2 ra.c2,.bool rb.n,.slice rb.p rb.l rb.c,.bool rb.m,.slice rb.p2 rb.l2 rb.c2] _) (by simp[Value.oneCell']) (Dm.noU ⟨ra,rb,p.1,p.2⟩) (by decide) (by unfold maxLen;omega) ω (by have:=A2.size;omega) (by kernel_rfl) ?_;intro gx cx w8 hf h2 h3 h4;have D7:=zH ((G2.ext A2).snoc (e:=⟨ra,rb,p.1,p.2⟩) rfl (L6.1.ext A2) h2 h4);have G6:=zH (((D5.1.trans A9.1).trans A2).grown h3 (fun j hj=>G2.1.block j hj));have H2:w5.grownBy w8 v.ownBlock:=pK (A9.1.trans A2) h3;clear G2 E6 hf h2 h3 h4 A2;refine⟨H2,?_⟩;try simp only[ζ]
   refine zv 10 (bs 11 2047) H2 ?_;refine wpAnyH_done (by kernel_rfl) ?_ _;clear H2;go_wp2_with fail;go_roundg (ps.length-(k+1))
   case measure=>have:=B2.1;omega
   case rel=>exact⟨k+1,es++[⟨ra,rb,p.1,p.2⟩],_,B2.1,rfl,by go_num,rfl,D7.1,by rw[H8.1,fXX,C4.1.1];rfl,by have:=C4.1.2;simp;omega,G6.1⟩
  have B8:¬z<0:=fun h=>hpq (B0.1 h)
  clear B0;apply zq (.bool false);have A4:=J8.1;rw[if_neg hpq]at A4;have H8:=zH A4;clear A4 hpq B8;go_wp2_with fail
  go_roundg (ps.length-(k+1))
  case measure=>have:=B2.1;omega
  case rel=>exact⟨k+1,es,_,B2.1,rfl,by go_num,rfl,F5.1,by rw[H8.1];exact C4.1.1,by have:=C4.1.2;omega,D5.1⟩
 obtain rfl:k=ps.length:=ω;have M1:¬(ps.length:Int)<(ps.length:Int):=ω;have F4:=zH (gM L v es w.heap.size wr E0.1 hL (by have:=C4.1.2;omega));have E5:(Stb.stab aAC es).map Dm.vl=Ec ps:=by
  have h:=C4.1.1;rw[cQQ (Ck _)]at h;rw[Pc Dm.vl (lt:=aAC) (lt':=aAB) (fun _ _=>rfl),h];rfl
 have I5:(Stb.stab aAC es).length<=ps.length:=by rw[Stb.stab_len];exact C4.1.2
 have I3:∀j,v.ownBlock=some j->w.heap.size<=j:=E0.1.1.block;generalize Stb.stab aAC es=ss at*;go_upto_region 9 with(go_at_call 161;refine F4.1.mono ?_;rintro e ws ⟨rfl,C0,J0⟩)
 have J5:Aa w ws:=HX.1.grown J0 I3;obtain⟨As,cs,rfl⟩:=Ye C0.1;have B9:=zH C0;have L2:=zH J5;have F1:=zH E5;have L9:ss.length<=20000:=ω
 have D6:=zH B9.1.lt;have L4:=zH I5;clear C0 J5 E5 J0 F4 E0 C4 HX I5 I3;go_wp2_with fail
 go_loopg [6,37] ss.length (fun c v i wr=>∃(k:Nat) (os:List Dm) (v2:Value),k<=ss.length/\c=ss.length-k/\i= iV k/\v2=v/\Ma L wr w.heap.size v2 os/\os.map Dm.vl=((Ec ps).take k).foldl El []/\os.length<=k/\Ma L wr w.heap.size (.slice As ss.length cs) ss/\(∀j,v2.ownBlock=some j->ws.heap.size<=j)/\Aa w wr/\ws.heap.size<=wr.heap.size)
 case atStart=>exact⟨0,[],_,eXX _,rfl,rfl,rfl,⟨Be.nil _ _ _ _,by simp⟩,by simp,Ck _,B9.1,by intro j hj;simp[Value.ownBlock]at hj,L2.1,Ck _⟩
 clear B9;obtain⟨k,os,v,hk,rfl,rfl,rfl,G5,G4,H0,C0,D3,hx,G9⟩:=hrel;by_cases hlt:k<ss.length
 ·have H1:(k:Int)<(ss.length:Int):=ω
  obtain⟨e,he⟩:∃e,ss[k]?=some e:=⟨_,aQQ hlt⟩;have C8:=zH (show((Ec ps).take (k+1)).foldl El []=El (os.map Dm.vl) (e.p,e.q)by rw[G4,Vq (p:=(e.p,e.q)) (by rw[<-F1.1,kQQ,he];rfl)]);have A7:=zH (C0.2 e (bZZ he));obtain⟨gs,E7,rs,K3,I6⟩:∃gs E7 rs,As=some ⟨gs,0,none⟩/\Sw wr wr gs 159 Dm.cells rs ss/\E7=cs:=by
   rcases C0.form with⟨hv,hn⟩|⟨g,cap,rest,hv,_,hs,_⟩
   ·rw[hn]at hlt;simp at hlt
   injection hv with e1 _ _
   exact⟨g,cs,rest,e1,hs,rfl⟩
  subst K3;have J9:=zH (I6.1.read he Dm.len);have A8:=zH G5;have B9:=zH C0;have A5:=zH (And.intro D3 (And.intro G9 H0));have HX:=zH hx;have B2:=zH hlt;clear G5 G4 C0 D3 hx G9 H0 I6 he hlt;go_upto_region 12 with fail
  refine wp_region_lit ?_;apply zq (.pointer (some ⟨gs,k*8,none⟩));refine Cj (by rfl) (wp_load_mid _ _ (by rfl) gs (k*8) (by rfl) e.cells _ J9.1 underlying159 (by rfl) (by kernel_rfl) ?_);try simp only[ζ]
  refine zp (w':=wr.alloc (.cells z8 159)) (.pointer (some ⟨wr.heap.size,0,none⟩)) (by go_simp) ?_;refine pO (e.cells).toArray (Ad.new wr _ _) (by simp[Dm.len]) (by rw[show((e.cells).toArray:Array Value).size=8 by simp[Dm.len]];kernel_rfl) (all_oneCell_toArray e.one) ?_
  (try simp only[Act.put])
  obtain⟨E3,E2⟩:=Tl wr 159 z8 (e.cells).toArray (by simp[Dm.len]);generalize (wr.alloc (.cells z8 159)).setCells wr.heap.size 0 ((e.cells).toArray:Array Value).toList=w8 at*;generalize wr.heap.size=X8 at*;have C3:=zH E3;have D9:=zH E2;clear E3 E2;have G6:=zH (HX.1.trans C3.1);have F6:=zH (A8.1.ext C3.1);have F3:=zH (B9.1.ext C3.1);have D0:=zH (A7.1.ext C3.1);have H4:=zH (nZZ D9.1.lt);clear J9 A8 B9 A7 HX;skip
  have A8:=F6;have B9:=F3;have A7:=D0;have HX:=G6;have G1:=D9;clear F6 F3 D0 G6 D9;rcases wI os with rfl|⟨os,l,rfl⟩
  ·obtain⟨Ao,co,rfl⟩:=Ye A8.1.1
   go_upto_region 14 with fail;refine wp_region_held_drew (S:=fun x=>Aa w8 x) (by kernel_rfl) An.drew (fun _=> ?_);refine zv 0 (bs 14 1) (Aa.refl w8).drew ?_;refine zv 1 (bs 14 3) (Aa.refl w8).drew ?_;refine zv 2 (bs 14 7) (Aa.refl w8).drew ?_;refine zs 3 (bs 14 15) (Aa.refl w8).drew ?_;refine zs 4 (bs 14 31) (Aa.refl w8).drew ?_;refine zs 5 (bs 14 63) (Aa.refl w8).drew ?_;refine zs 6 (bs 14 127) (Aa.refl w8).drew ?_;refine zs 7 (bs 14 255) (Aa.refl w8).drew ?_;refine zs 8 (bs 14 511) (Aa.refl w8).drew ?_;refine zs 9 (bs 14 1023) (Aa.refl w8).drew ?_;refine zs 10 (bs 14 2047) (Aa.refl w8).drew ?_;refine zs 11 (bs 14 4095) (Aa.refl w8).drew ?_;refine zs 12 (bs 14 8191) (Aa.refl w8).drew ?_;refine zv 13 (bs 14 16383) (Aa.refl w8).drew ?_;refine wpAnyH_done (by kernel_rfl) ?_ _;have A1:=zH (C8.1.trans (oK _));have K5:([]:List Dm).length<=20000:=by simp
   have B4:=zH (show Aa w8 w8.drew from An.drew);have A3:=zH (A8.1.ext B4.1);have B1:=zH (B9.1.ext B4.1);have A6:=zH (A7.1.ext B4.1);have B7:=zH (G1.1.ext B4.1);have C7:=zH (HX.1.trans B4.1);have C6:=zH (Av H4.1 B4.1.size);go_upto_region 15 with fail
   refine wp_region_lit ?_;refine zp (w':=w8.drew) (.slice Ao 0 co) (by go_simp<;>with_reducible rfl) ?_;refine pL (cs:=#[.bool e.a.n,.slice e.a.p e.a.l e.a.c,.bool e.a.m,.slice e.a.p2 e.a.l2 e.a.c2,.bool e.b.n,.slice e.b.p e.b.l e.b.c,.bool e.b.m,.slice e.b.p2 e.b.l2 e.b.c2]) B7.1 underlying159 (by kernel_rfl) ?_;try simp only[ζ]
   have E6:=C7.1.size;have A2:Aa w8.drew (w8.drew.alloc (.cells #[.bool e.a.n,.slice e.a.p e.a.l e.a.c,.bool e.a.m,.slice e.a.p2 e.a.l2 e.a.c2,.bool e.b.n,.slice e.b.p e.b.l e.b.c,.bool e.b.m,.slice e.b.p2 e.b.l2 e.b.c2] 159)):=An.alloc _;refine zp (w':=(w8.drew.alloc (.cells #[.bool e.a.n,.slice e.a.p e.a.l e.a.c,.bool e.a.m,.slice e.a.p2 e.a.l2 e.a.c2,.bool e.b.n,.slice e.b.p e.b.l e.b.c,.bool e.b.m,.slice e.b.p2 e.b.l2 e.b.c2] 159))) (.slice (some ⟨w8.drew.heap.size,0,none⟩) 1 1) (by go_simp) ?_;refine Cj (by rfl) (Ew _ _ 134 (by rfl) w.heap.size 159 i0 _ 8 128 underlying134 HI.1.1 HI.1.2.1 HI.1.2.2.1 HI.1.2.2.2 rfl (by decide) Vi _ 0 (Dy ([]:List Dm)) (by rfl) (A3.1.ext A2).1 ⟨w8.drew.heap.size,0,none⟩ 1 1 e.cells (by rfl) rfl (Rf _ e.cells _) e.one e.noU (by decide) (by unfold maxLen;omega) ω (by have:=A2.size;omega) ?_);intro gx cx E4 hf h2 h3 h4;try simp only[ζ]
   have D7:=zH ((A3.1.ext A2).snoc (es:=([]:List Dm)) (e:=e) rfl (A6.1.ext A2) h2 h4);have F0:=zH ((C7.1.trans A2).grown h3 (fun j hj=>A3.1.1.block j hj));have B5:=zH ((B1.1.ext A2).grown h3 (fun j hj hj2=>by have h7:=A5.1.1 j hj2;have h8:=D6.1 j hj;omega) h4);have H7:=zH (show ws.heap.size<=gx from hf.elim (fun hf=>A5.1.1 gx hf) (fun hf=>Av (Av A5.1.2.1 C6.1) (Av A2.size hf)));have E9:=zH (show ws.heap.size<=E4.heap.size from Av (Av A5.1.2.1 C6.1) (Av A2.size h3.size));clear hf h2 h3 h4 A2 E6;refine zp (w':=E4) (.slice (some ⟨gx,0,none⟩) (0+1) cx) (by go_simp) ?_;go_wp2_with fail
   go_roundg (ss.length-(k+1))
   case measure=>have:=B2.1;omega
   case rel=>exact⟨k+1,([]:List Dm)++[e],_,B2.1,rfl,by go_num,rfl,D7.1,by rw[A1.1];simp[Dm.vl],by have:=A5.1.2.2;simp at this⊢<;>omega,B5.1,by intro j hj;simp[Value.ownBlock]at hj;rw[<-hj];exact H7.1,F0.1,E9.1⟩
  have K4:∃g6 c6,v= .slice (some ⟨g6,0,none⟩) (os.length+1) c6:=by
   rcases A8.1.form with⟨_,h⟩|⟨g6,c6,_,h,_⟩
   ·simp at h
   exact⟨g6,c6,by simpa using h⟩
  obtain⟨g6,c6,rfl⟩:=K4;obtain⟨m,hm⟩:∃m,os.length=m:=⟨_,rfl⟩;rw[hm]at A8 A5⊢;have HM:=zH hm;have M0:m<=20000:=by have h:=A5.1.2.2;rw[aXX,HM.1]at h;omega
  have L8:IntKind.i64.wrap (m:Int)=(m:Int):=by rw[IntKind.wrap_i64];omega
  have H6:=zH (A8.1.2 l (by simp));have J7:=zH (C8.1.trans (show El ((os++[l]).map Dm.vl) (e.p,e.q)=if l.q<e.p then os.map Dm.vl++[(l.p,l.q)]++[(e.p,e.q)]else if l.q<e.q then os.map Dm.vl++[(l.p,e.q)]else os.map Dm.vl++[(l.p,l.q)]by rw[fXX];exact oN _ _ _));have e1:((m+1:Nat):Int)-1=(m:Int):=ω
  have e2:(m:Int)+1-1=(m:Int):=ω;have e3:((m:Int)+1==0)=false:=by simp;omega
  have e4:(((m+1:Nat):Int)==0)=false:=by simp;omega
  have e5:(m:Int)<(m:Int)+1:=ω;have L1:=zH (A8.1.readEnd HM.1);clear hm;go_upto_region 14 with fail;have E8:=zH (A8.1.readEnd HM.1);have C9:=zH (A8.1.2 l (by simp));clear L1 H6;refine wp_region_held_drew (S:=fun x=>Aa w8 x) (by kernel_rfl) An.drew (fun _=> ?_);refine zv 0 (bs 14 1) (Aa.refl w8).drew ?_;refine zv 1 (bs 14 3) (Aa.refl w8).drew ?_;refine zv 2 (bs 14 7) (Aa.refl w8).drew ?_;refine zv 3 (bs 14 15) (Aa.refl w8).drew ?_;refine zv 4 (bs 14 31) (Aa.refl w8).drew ?_;refine zv 5 (bs 14 63) (Aa.refl w8).drew ?_;refine zv 6 (bs 14 127) (Aa.refl w8).drew ?_;refine mV 7 (bs 14 255) (Aa.refl w8).drew ?_;refine zr 8 (bs 14 511) g6 (m*8+4) (rc l.b) (fun x hx=>Bg E8.1 hx) underlying33 (Aa.refl w8).drew ?_;refine mV 9 (bs 14 1023) (Aa.refl w8).drew ?_;refine mP 10 (bs 14 2047) 0 4 (fun x hx=>G1.1.ext hx) underlying33 (by simp[Dm.len]) (Aa.refl w8).drew ?_;try simp only[ζ]
  obtain⟨z,hz⟩:∃z,z=Df l.q e.p:=⟨_,rfl⟩;have B0:z<0↔l.q<e.p:=by rw[hz];exact rcmp_lt
  refine mC 11 (bs 14 4095) (eD (L:=L) hz (Hn.ofb (C9.1.ext An.drew)) (A7.1.ext An.drew).ptIn.c0 ω) ?_;rintro e w9 ⟨rfl,hx⟩;have A0:=zH (show Aa w8 w9 from((Aa.refl w8).drew).trans hx);clear hx;refine⟨_,rfl,A0.1,?_⟩;try simp only[ζ]
  clear hz;by_cases c1:l.q<e.p
  ·have B8:z<0:=B0.2 c1
   clear B0;refine zv 12 (bs 14 8191) A0.1 ?_;refine zv 13 (bs 14 16383) A0.1 ?_;refine wpAnyH_done (by kernel_rfl) ?_ _;have A1:=zH (J7.1.trans (if_pos c1));clear c1;have A3:=zH (A8.1.ext A0.1);have B1:=zH (B9.1.ext A0.1);have A6:=zH (A7.1.ext A0.1);have B7:=zH (G1.1.ext A0.1);have C7:=zH (HX.1.trans A0.1);have C6:=zH (Av H4.1 A0.1.size);go_upto_region 15 with fail
   refine wp_region_lit ?_;apply zq (.slice (some ⟨g6,0,none⟩) (m+1) c6);refine pL (cs:=#[.bool e.a.n,.slice e.a.p e.a.l e.a.c,.bool e.a.m,.slice e.a.p2 e.a.l2 e.a.c2,.bool e.b.n,.slice e.b.p e.b.l e.b.c,.bool e.b.m,.slice e.b.p2 e.b.l2 e.b.c2]) B7.1 underlying159 (by kernel_rfl) ?_;try simp only[ζ]
   have E6:=C7.1.size;have A2:Aa w9 (w9.alloc (.cells #[.bool e.a.n,.slice e.a.p e.a.l e.a.c,.bool e.a.m,.slice e.a.p2 e.a.l2 e.a.c2,.bool e.b.n,.slice e.b.p e.b.l e.b.c,.bool e.b.m,.slice e.b.p2 e.b.l2 e.b.c2] 159)):=An.alloc _;refine zp (w':=(w9.alloc (.cells #[.bool e.a.n,.slice e.a.p e.a.l e.a.c,.bool e.a.m,.slice e.a.p2 e.a.l2 e.a.c2,.bool e.b.n,.slice e.b.p e.b.l e.b.c,.bool e.b.m,.slice e.b.p2 e.b.l2 e.b.c2] 159))) (.slice (some ⟨w9.heap.size,0,none⟩) 1 1) (by go_simp) ?_;refine Cj (by rfl) (Ew _ _ 134 (by rfl) w.heap.size 159 i0 _ 8 128 underlying134 HI.1.1 HI.1.2.1 HI.1.2.2.1 HI.1.2.2.2 rfl (by decide) Vi _ (m+1) (Dy (os++[l])) (by rfl) (by have h:=(A3.1.ext A2).1;rw[aXX,HM.1]at h;exact h) ⟨w9.heap.size,0,none⟩ 1 1 e.cells (by rfl) rfl (Rf _ e.cells _) e.one e.noU (by decide) (by unfold maxLen;omega) ω (by have:=A2.size;omega) ?_);intro gx cx E4 hf h2 h3 h4;try simp only[ζ]
   have D7:=zH ((A3.1.ext A2).snoc (es:=(os++[l])) (e:=e) (by rw[aXX,HM.1];rfl) (A6.1.ext A2) h2 h4);have F0:=zH ((C7.1.trans A2).grown h3 (fun j hj=>A3.1.1.block j hj));have B5:=zH ((B1.1.ext A2).grown h3 (fun j hj hj2=>by have h7:=A5.1.1 j hj2;have h8:=D6.1 j hj;omega) h4);have H7:=zH (show ws.heap.size<=gx from hf.elim (fun hf=>A5.1.1 gx hf) (fun hf=>Av (Av A5.1.2.1 C6.1) (Av A2.size hf)));have E9:=zH (show ws.heap.size<=E4.heap.size from Av (Av A5.1.2.1 C6.1) (Av A2.size h3.size));clear hf h2 h3 h4 A2 E6;refine zp (w':=E4) (.slice (some ⟨gx,0,none⟩) ((m+1)+1) cx) (by go_simp) ?_;go_wp2_with fail
   go_roundg (ss.length-(k+1))
   case measure=>have:=B2.1;omega
   case rel=>exact⟨k+1,(os++[l])++[e],_,B2.1,rfl,by go_num,rfl,D7.1,by rw[A1.1];simp[Dm.vl],by have:=A5.1.2.2;simp at this⊢<;>omega,B5.1,by intro j hj;simp[Value.ownBlock]at hj;rw[<-hj];exact H7.1,F0.1,E9.1⟩
  have B8:¬z<0:=fun h=>c1 (B0.1 h)
  clear B0;refine zv 12 (bs 14 8191) A0.1 ?_;refine zv 13 (bs 14 16383) A0.1 ?_;refine wpAnyH_done (by kernel_rfl) ?_ _;have F2:=zH (J7.1.trans (if_neg c1));clear c1;go_upto_region 16 with fail
  have H3:=zH (Bg E8.1 A0.1);have H9:=zH (G1.1.ext A0.1);have F7:=zH (C9.1.ext A0.1);have F8:=zH (A7.1.ext A0.1);refine wp_region_held_drew (S:=fun x=>Aa w9 x) (by kernel_rfl) An.drew (fun _=> ?_);refine zv 0 (bs 10 1) (Aa.refl w9).drew ?_;refine zv 1 (bs 10 3) (Aa.refl w9).drew ?_;refine zv 2 (bs 10 7) (Aa.refl w9).drew ?_;refine zv 3 (bs 10 15) (Aa.refl w9).drew ?_;refine mV 4 (bs 10 31) (Aa.refl w9).drew ?_;refine zr 5 (bs 10 63) g6 (m*8+4) (rc l.b) (fun x hx=>Bg H3.1 hx) underlying33 (Aa.refl w9).drew ?_;refine mV 6 (bs 10 127) (Aa.refl w9).drew ?_;refine mP 7 (bs 10 255) 4 4 (fun x hx=>H9.1.ext hx) underlying33 (by simp[Dm.len]) (Aa.refl w9).drew ?_;try simp only[ζ]
  obtain⟨z2,G8⟩:∃z,z=Df l.q e.q:=⟨_,rfl⟩;have B0:z2<0↔l.q<e.q:=by rw[G8];exact rcmp_lt
  refine mC 8 (bs 10 511) (eD (L:=L) G8 (Hn.ofb (F7.1.ext An.drew)) (F8.1.ext An.drew).ptIn.c1 ω) ?_;rintro e wb ⟨rfl,hx⟩;have C2:=zH (show Aa w9 wb from((Aa.refl w9).drew).trans hx);clear hx;refine⟨_,rfl,C2.1,?_⟩;try simp only[ζ]
  clear G8;have E1:=zH (A0.1.trans C2.1);have A3:=zH (A8.1.ext E1.1);have B1:=zH (B9.1.ext E1.1);have A6:=zH (A7.1.ext E1.1);have B7:=zH (G1.1.ext E1.1);have C7:=zH (HX.1.trans E1.1);have C6:=zH (Av H4.1 E1.1.size);by_cases c2:l.q<e.q
  ·have B8:z2<0:=B0.2 c2
   clear B0;refine zv 9 (bs 10 1023) C2.1 ?_;refine wpAnyH_done (by kernel_rfl) ?_ _;have A1:=zH (F2.1.trans (if_pos c2));clear c2;go_upto_region 17 with fail
   refine wp_region_lit ?_;apply qV (.slice (some ⟨g6,0,none⟩) (m+1) c6);apply zq (iV ((m:Int)+1));apply qV (iV m);apply zq (.pointer (some ⟨X8,4,none⟩));refine Cj (by rfl) (wp_load_mid _ _ (by rfl) X8 (4) (by rfl) (rc e.b) _ (show World.rangeAt wb X8 4 (rc e.b)from B7.1.part 4 4) underlying33 (by rfl) (by kernel_rfl) ?_);try simp only[ζ]
   apply qV (.pointer (some ⟨g6,m*8,none⟩));apply zq (.pointer (some ⟨g6,m*8+4,none⟩));obtain⟨t1,t2,t3⟩:=A3.1.turn HM.1 A6.1;obtain⟨M2,J4,I9⟩:=A3.1.rowNoU;refine Cj (by rfl) (wp_store_mid 33 _ _ (by rfl) g6 (m*8+4) (rc e.b).toArray (by rfl) (by rfl) t1 (by kernel_rfl) (all_oneCell_toArray (by simp[Value.oneCell'])) ?_)
   (try simp only[Act.put])
   have D7:=zH t2;have J1:w.heap.size<=g6:=A3.1.1.block g6 (by simp[Value.ownBlock]);have F0:=zH (t3.ext C7.1 J1);have B5:=zH (B1.1.grown (row:=some g6) t3 (fun j hj hj2=>by injection hj2 with hj2;have h7:=A5.1.1 j (by simp[Value.ownBlock,hj2]);have h8:=D6.1 j hj;omega) (fun r q h=>h.own J4 I9 t3));have E9:=zH (Av (Av A5.1.2.1 C6.1) t3.size);clear t1 t2 t3 J4 I9 J1;generalize World.setCells wb g6 (m*8+4) _=wn at*
   go_wp2_with fail;go_roundg (ss.length-(k+1))
   case measure=>have:=B2.1;omega
   case rel=>exact⟨k+1,os++[⟨l.a,e.b,l.p,e.q⟩],_,B2.1,rfl,by go_num,rfl,D7.1,by rw[A1.1];simp[Dm.vl],by have:=A5.1.2.2;simp at this⊢<;>omega,B5.1,A5.1.1,F0.1,E9.1⟩
  have B8:¬z2<0:=fun h=>c2 (B0.1 h)
  clear B0;refine zv 9 (bs 10 1023) C2.1 ?_;refine wpAnyH_done (by kernel_rfl) ?_ _;have A1:=zH (F2.1.trans (if_neg c2));clear c2;go_wp2_with fail
  go_roundg (ss.length-(k+1))
  case measure=>have:=B2.1;omega
  case rel=>exact⟨k+1,os++[l],_,B2.1,rfl,by go_num,rfl,(by have h:=A3.1;exact h),by rw[A1.1,fXX];rfl,by have:=A5.1.2.2;omega,B1.1,A5.1.1,C7.1,Av A5.1.2.1 C6.1⟩
 obtain rfl:k=ss.length:=ω;have K6:¬(ss.length:Int)<(ss.length:Int):=ω;have HR:=zH (show os.map Dm.vl=Fk ps by rw[G4,cQQ (by rw[<-F1.1,dZZ];exact Ck _)];rfl);have A8:=zH G5;have L3:=zH hx;have L7:=zH (show os.length<=ps.length by have:=L4.1;omega);clear G5 G4 H0 C0 D3 hx G9;go_wp2_with fail
 go_ret;exact⟨_,rfl,os,A8.1,HR.1,L7.1,L3.1⟩
end
end Go.Proofs.YtlipfipniibpoacGreat
