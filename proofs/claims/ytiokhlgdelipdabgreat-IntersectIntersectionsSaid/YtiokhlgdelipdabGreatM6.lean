/- Contracts that the claim stands on: XIntP to XRLn17. -/
import Derived.Deep.LoopGhost
import Derived.Deep.DeepCutAuto
import Derived.Test.YtiokhlgdelipdabGreatM5
set_option maxRecDepth 100000
set_option maxHeartbeats 4000000
namespace Go.Proofs.YtiokhlgdelipdabGreat
open Go.RowKit
def Bx (d u:Rat):Prop:=(0<=d->0<=u/\u<=d)/\(d<=0->d<=u/\u<=0)
theorem box_bx {p q:Int}{x:Rat}:(((min p q:Int):Rat)<=x/\x<=((max p q:Int):Rat))↔Bx ((q:Rat)-(p:Rat)) (x-(p:Rat)):=by
 unfold Bx;rcases Int.le_total p q with k|k
 ·rw[Int.min_eq_left k,Int.max_eq_right k]
  have k2:(p:Rat)<=(q:Rat):=by exact_mod_cast k
  constructor
  ·intro h;exact⟨fun _=>⟨by grind,by grind⟩,fun _=>⟨by grind,by grind⟩⟩
  intro h;have:=h.1 (by grind);exact⟨by grind,by grind⟩
 rw[Int.min_eq_right k,Int.max_eq_left k];have k2:(q:Rat)<=(p:Rat):=by exact_mod_cast k
 constructor
 ·intro h;exact⟨fun _=>⟨by grind,by grind⟩,fun _=>⟨by grind,by grind⟩⟩
 intro h;have:=h.2 (by grind);exact⟨by grind,by grind⟩
theorem nnq {k x:Rat}(hk:0<k)(h:0<=k*x):0<=x:=by
  by_cases q:x<0
  · have:=Rat.mul_pos hk (show 0< -x by grind)
    grind
  exact Rat.not_lt.1 q
theorem bx_of {d n s u:Rat}(hn:0<n)(h:n*u=d*s)(h0:0<=s)(h1:s<=n):Bx d u:=by
  constructor
  · intro hd
    have k1:=Rat.mul_nonneg hd h0;have k2:=Rat.mul_nonneg hd (show 0<=n-s by grind);exact⟨nnq hn (by grind),by have:=nnq (x:=d-u) hn (by grind);grind⟩
  intro hd;have k1:=Rat.mul_nonneg (show 0<= -d by grind) h0;have k2:=Rat.mul_nonneg (show 0<= -d by grind) (show 0<=n-s by grind);exact⟨by have:=nnq (x:=u-d) hn (by grind);grind,by have:=nnq (x:= -u) hn (by grind);grind⟩
theorem bx_dot {d u:Rat}(h:Bx d u):0<=d*u/\d*u<=d*d:=by
  rcases Rat.le_total (a:=0) (b:=d)with k|k
  · obtain⟨h1,h2⟩:=h.1 k
    have k1:=Rat.mul_nonneg k h1;have k2:=Rat.mul_nonneg k (show 0<=d-u by grind);exact⟨k1,by grind⟩
  obtain⟨h1,h2⟩:=h.2 k;have k1:=Rat.mul_nonneg (show 0<= -d by grind) (show 0<= -u by grind);have k2:=Rat.mul_nonneg (show 0<= -d by grind) (show 0<=u-d by grind);exact⟨by grind,by grind⟩
theorem sq_pos {d e:Rat}(h:d≠0\/e≠0):0<d*d+e*e:=by
 have s:∀x:Rat,0<=x*x:=by
  intro x;rcases Rat.le_total (a:=0) (b:=x)with k|k
  ·exact Rat.mul_nonneg k k
  have:=Rat.mul_nonneg (show 0<= -x by grind) (show 0<= -x by grind);grind
 have p:∀x:Rat,x≠0->0<x*x:=by
  intro x hx;rcases Rat.le_total (a:=0) (b:=x)with k|k
  ·have:0<x:=by grind
   exact Rat.mul_pos this this
  have:0< -x:=by grind
  have:=Rat.mul_pos this this;grind
 rcases h with h|h
 ·have:=p d h;have:=s e;grind
 have:=p e h;have:=s d;grind
theorem cast_ne {p q:Int}(h:p≠q):(q:Rat)-(p:Rat)≠0:=by
  intro e;apply h;have:(q:Rat)=(p:Rat):=by grind
  exact_mod_cast this.symm
theorem conC_on {e:EdE}{p:Rat×Rat}(h:e.a≠e.b):conC e p↔onC e.a e.b p.1 p.2:=by
 unfold conC onC;rw[box_bx,box_bx];simp only[Rat.intCast_sub,Rat.intCast_zero];have hne:(e.b.1:Rat)-(e.a.1:Rat)≠0\/(e.b.2:Rat)-(e.a.2:Rat)≠0:=by
  by_cases k:e.a.1=e.b.1
  ·exact .inr (cast_ne (fun k2=>h (Prod.ext k k2)))
  exact .inl (cast_ne k)
 have hN:=sq_pos hne;generalize (e.b.1:Rat)-(e.a.1:Rat)=d at*
 generalize (e.b.2:Rat)-(e.a.2:Rat)=f at*
 generalize p.1-(e.a.1:Rat)=u at*
 generalize p.2-(e.a.2:Rat)=v at*
 constructor
 ·rintro⟨h1,h2,h3⟩
  exact⟨by grind,bx_of (s:=d*u+f*v) hN (by grind) h2 h3,bx_of (s:=d*u+f*v) hN (by grind) h2 h3⟩
 rintro⟨h1,h2,h3⟩;have k1:=bx_dot h2;have k2:=bx_dot h3;exact⟨by grind,by grind,by grind⟩
def conR (a b:Int×Int)(p:Rat×Rat):Prop:=if a.2=b.2 then p.2=(a.2:Rat)/\((min a.1 b.1:Int):Rat)<=p.1/\p.1<=((max a.1 b.1:Int):Rat)else xatC a b p.2/\xatQ a b p.2=p.1
theorem conR_on {a b:Int×Int}{p:Rat×Rat}(ha:okP a)(hb:okP b)(h:a≠b):conR a b p↔onC a b p.1 p.2:=by
 unfold conR;by_cases k:a.2=b.2
 ·rw[if_pos k]
  have k1:a.1≠b.1:=fun e=>h (Prod.ext e k)
  have hd:=cast_ne k1;unfold onC;rw[<-k,Int.min_self,Int.max_self,Int.sub_self,Rat.intCast_zero,Rat.intCast_sub];generalize (b.1:Rat)-(a.1:Rat)=d at*
  constructor
  ·rintro⟨h1,h2,h3⟩
   exact⟨by grind,⟨h2,h3⟩,by grind,by grind⟩
  rintro⟨_,h2,h3,h4⟩;exact⟨by grind,h2⟩
 rw[if_neg k];have hf:=cast_ne k;constructor
 ·rintro⟨h1,h2⟩
  have hb2:=box_bx.1 h1.2.2.2;unfold xatQ at h2;rw[Rat.intCast_sub,Rat.intCast_sub,Rat.intCast_one]at h2;unfold onC;rw[box_bx,box_bx,Rat.intCast_sub,Rat.intCast_sub];have e:(p.1-(a.1:Rat))*((b.2:Rat)-(a.2:Rat))=(p.2-(a.2:Rat))*((b.1:Rat)-(a.1:Rat)):=by
   generalize (b.2:Rat)-(a.2:Rat)=f at*
   generalize (b.1:Rat)-(a.1:Rat)=d at*
   generalize p.2-(a.2:Rat)=v at*
   grind
  refine⟨e,?_,hb2⟩;have hN:=sq_pos (d:=(b.2:Rat)-(a.2:Rat)) (e:=0) (.inl hf);have kd:=bx_dot hb2;generalize (b.2:Rat)-(a.2:Rat)=f at*
  generalize (b.1:Rat)-(a.1:Rat)=d at*
  generalize p.2-(a.2:Rat)=v at*
  generalize p.1-(a.1:Rat)=u at*
  exact bx_of (s:=f*v) (n:=f*f) (by grind) (by grind) kd.1 kd.2
 rintro⟨h1,h2,h3⟩;refine⟨⟨ha,hb,k,h3⟩,?_⟩;unfold xatQ;rw[Rat.intCast_sub,Rat.intCast_sub,Rat.intCast_one];rw[Rat.intCast_sub,Rat.intCast_sub]at h1;generalize (b.2:Rat)-(a.2:Rat)=f at*
 generalize (b.1:Rat)-(a.1:Rat)=d at*
 generalize p.2-(a.2:Rat)=v at*
 generalize hu:p.1-(a.1:Rat)=u at*
 have:p.1=(a.1:Rat)+u:=by grind
 rw[this];grind
end Go.Proofs.YtiokhlgdelipdabGreat
namespace Go.Proofs.YtiokhlgdelipdabGreat
open Go.RowKit Go.Shelf
def edR (k:Nat)(es:List Edge)(n:Nat):List EdE:=es.mapIdx fun i e=>⟨e.1,e.2,k,i,n⟩
def allV (rs:List Ring):List EdE:=(rs.mapIdx fun k r=>edR k (edgesV [r]) (edgesV [r]).length).flatten
def edsV (rs:List Ring):List EdE:=if okR rs=true then allV rs else[]
theorem allV_take {rs:List Ring}{k:Nat}{r:Ring}(h:rs[k]?=some r):allV (rs.take (k+1))=allV (rs.take k)++edR k (edgesV [r]) (edgesV [r]).length:=by
  have hk:=(List.getElem?_eq_some_iff.1 h).1;unfold allV;rw[List.take_add_one,h];simp only[Option.toList_some];rw[List.mapIdx_append,List.flatten_append,List.length_take,Nat.min_eq_left (by omega)];simp
theorem edR_len (k:Nat)(es:List Edge)(n:Nat):(edR k es n).length=es.length:=by simp[edR]
theorem edR_snoc (k:Nat)(es:List Edge)(x:Edge):edR k (es++[x]) 0=edR k es 0++[⟨x.1,x.2,k,es.length,0⟩]:=by
  unfold edR;rw[List.mapIdx_append];simp
theorem edR_get {k:Nat}{es:List Edge}{n i:Nat}{e:Edge}(h:es[i]?=some e):(edR k es n)[i]?=some ⟨e.1,e.2,k,i,n⟩:=by
  unfold edR;rw[List.getElem?_mapIdx,h];rfl
def edP (k:Nat)(es:List Edge)(m j:Nat):List EdE:=(edR k es m).take j++(edR k es 0).drop j
theorem edP_zero (k:Nat)(es:List Edge)(m:Nat):edP k es m 0=edR k es 0:=by simp[edP]
theorem edP_all (k:Nat)(es:List Edge)(m:Nat):edP k es m es.length=edR k es m:=by
  unfold edP;rw[List.take_of_length_le (by rw[edR_len];omega),List.drop_of_length_le (by rw[edR_len];omega),List.append_nil]
theorem edP_get {k:Nat}{es:List Edge}{m j:Nat}{e:Edge}(h:es[j]?=some e)(e0:List EdE):(e0++edP k es m j)[e0.length+j]?=some ⟨e.1,e.2,k,j,0⟩:=by
  have hj:=(List.getElem?_eq_some_iff.1 h).1;rw[List.getElem?_append_right (by omega),Nat.add_sub_cancel_left];unfold edP;rw[List.getElem?_append_right (by rw[List.length_take,edR_len];omega),List.length_take,edR_len,Nat.min_eq_left (by omega),Nat.sub_self,List.getElem?_drop,Nat.add_zero];exact edR_get h
theorem edP_set {k:Nat}{es:List Edge}{m j:Nat}{e:Edge}(h:es[j]?=some e)(e0:List EdE):(e0++edP k es m j).set (e0.length+j) ⟨e.1,e.2,k,j,m⟩=e0++edP k es m (j+1):=by
 have hj:=(List.getElem?_eq_some_iff.1 h).1;have h1:=edR_get (k:=k) (n:=m) h;rw[List.set_append_right _ _ (by omega),Nat.add_sub_cancel_left];congr 1;unfold edP;rw[List.set_append_right _ _ (by rw[List.length_take,edR_len];omega),List.length_take,edR_len,Nat.min_eq_left (by omega),Nat.sub_self,List.take_add_one,h1,List.append_assoc];congr 1;have hd:(edR k es 0).drop j=(edR k es 0)[j]'(by rw[edR_len];exact hj)::(edR k es 0).drop (j+1):=List.drop_eq_getElem_cons (by rw[edR_len];exact hj);rw[hd];rfl
theorem RingsV.one {w:World}{g off cu:Nat}{rs:List Ring}{k:Nat}{r:Ring}(h:RingsV w (.slice (some ⟨g,off,none⟩) rs.length cu) rs)(hr:rs[k]?=some r)(c:Nat):RingsV w (.slice (some ⟨g,off+k*1,none⟩) 1 c) [r]:=by
 obtain⟨A,cu2,hv,hA⟩:=h;injection hv with e1 e2 e3
 subst e1;have hk:=(List.getElem?_eq_some_iff.1 hr).1;obtain⟨g2,off2,e4,hp⟩:=hA (by omega);injection e4 with e4
 injection e4 with e5 e6
 subst e5;subst e6;refine⟨_,c,rfl,fun _=>⟨g,off+k*1,rfl,fun i r2 hi=> ?_⟩⟩;have hi0:i=0:=by
  have:=(List.getElem?_eq_some_iff.1 hi).1;simp at this;exact this
 subst hi0;simp at hi;subst hi;simpa using hp k r hr
theorem ev_slice1 {P:Program}{ρ:Operand->Value}{o:Oper}{w:World}{g off n c k:Nat}{z z2:Int}{t e:TypeId}{x y y2:Operand}(ho:o.op= .slice t x (some y) (some y2) none)(ht:P.underlying t=some (.slice e))(hs:(P.info? e).map (·.size)=some 1)
  (hx:ρ x= .slice (some ⟨g,off,none⟩) n c)(hy:ρ y= .int .i64 z)(hy2:ρ y2= .int .i64 z2)(hz:z=(k:Int))(hz2:z2=(k:Int)+1)(hk:k<n)(hc:n<=c):(execOp ρ o).run P w= .ok (.value (.slice (some ⟨g,off+k*1,none⟩) 1 (c-k))) w:=by
 subst hz;subst hz2;have hel:P.elem t=e:=by simp[Program.elem,ht]
 have h1:P.underlying t=some (.slice (P.elem t)):=by rw[hel];exact ht
 unfold execOp;simp only[ho,hx,hy,hy2,Option.map_some,Option.map_none,Sem.run_bind,run_sliceAt_slice _ _ _ _ _ _ h1,run_slice_lh w t _ _ _ h1 .i64 .i64 (k:Int) ((k:Int)+1) (by omega) (by omega) (by omega:(k:Int)+1<=(c:Int)),hel];cases hq:P.info? e with
 |none=>simp[hq]at hs
 |some i=>
  have h2:i.size=1:=by simpa[hq]using hs
  have h3:((k:Int)+1).toNat=k+1:=by omega
  simp[sizeOf,typeInfo,hq,sliced,h2,h3,Int.toNat_natCast,show¬c=k by omega,Addr.add_lit]
theorem mv_stPart1 {α:Type}{f:α->List Value}{P:Program}{w0 w:World}{m:List Ent}{ix:Nat}{a:Act}{Q:Exit->Act->World->Prop}{rest:List Oper}{op:Oper}{ops:Array Oper}(hw:Region.wanted op (yielded ops a.tmps)=true)(ty:TypeId)(x y:Operand)(ho:op.op= .store ty x y)
  {g n cap size:Nat}{t:TypeId}{es:List α}(hH:Hp w0 w m)(hi:m[ix]?=some (.row t size (.slice (some ⟨g,0,none⟩) n cap) n (es.flatMap f)))(hc:∀x,(f x).length=size)(k:Nat)(e z:α)(hk:es[k]?=some e)(p:Nat)(v:Value)(hp:p+1<=size)
  (hf:f z=(f e).take p++[v]++(f e).drop (p+1))(o:Nat)(hko:o=k*size+p)(hx:a.eval x= .pointer (some ⟨g,o,none⟩))(hy:a.eval y=v)(hz:(P.info? ty).map (·.size)=some 1)(hcc:v.cells=#[v])(h1:v.oneCell'=true)(hn:NoUL [v])
  (h:∀w',Hp w0 w' (m.set ix (.row t size (.slice (some ⟨g,0,none⟩) n cap) n ((es.set k z).flatMap f)))->Dig w w'->Own g w w'->wpList P ops Q rest (a.put op.dst undef) w'):wpList P ops Q (op::rest) a w:=by
 subst hko;refine mv_stRow1 hw ty x y ho hH hi (k*size+p) v hx hy ?_ hz hcc h1 hn (fun w' h2 h3 h4=>h w' ?_ h3 h4)
 ·have hl:=(List.getElem?_eq_some_iff.1 hk).1
  rw[flat_length hc];calc k*size+p+1<=(k+1)*size:=by rw[Nat.add_mul];omega
   _<=es.length*size:=Nat.mul_le_mul_right _ hl
 have h5:=flat_part hc es k e z hk p [v] hp hf;simp only[List.length_singleton]at h5;rw[h5]at h2;exact h2
def MarksL (b:Nat)(ds:List Deferred)(W:World):Prop:=
  (∀d,d∈ds->∃D,d={target:= .collected D,args:=#[]}/\b<=D/\W.heap[D]?=some (.deferred (some [])))/\ds.Pairwise (fun x y=>x≠y)
theorem MarksL.nil (b:Nat)(W:World):MarksL b [] W:=⟨by simp,.nil⟩
theorem MarksL.fr {b:Nat}{ds:List Deferred}{G:Nat->Prop}{W W':World}(h:MarksL b ds W)(x:Fr G W W')(hG:∀k,G k->∀o:Obj,W.heap[k]?=some o->o.isCells=true):MarksL b ds W':=
  ⟨fun d hd=>by
    obtain⟨D,h1,h2,h3⟩:=h.1 d hd;exact⟨D,h1,h2,(x.block D (Array.getElem?_eq_some_iff.1 h3).1 (fun g=>by have:=hG D g _ h3;cases this)).trans h3⟩,h.2⟩
theorem MarksL.cons {b D:Nat}{ds:List Deferred}{W1 W:World}(h:MarksL b ds W)(h1:MarksL b ds W1)(hD:W1.heap.size<=D)(hb:b<=D)(hK:W.heap[D]?=some (.deferred (some []))):MarksL b ({target:= .collected D,args:=#[]}::ds) W:=
  ⟨fun d hd=>by
    rcases List.mem_cons.1 hd with rfl|hd
    · exact⟨D,rfl,hb,hK⟩
    · exact h.1 d hd,List.pairwise_cons.2 ⟨fun d hd e=>by
    obtain⟨D2,h2,_,h4⟩:=h1.1 d hd;rw[<-e]at h2;injection h2 with h2
    injection h2 with h2
    have:=(Array.getElem?_eq_some_iff.1 h4).1;omega,h.2⟩⟩
theorem leaves_marks {n:Nat}{P:Program}{fn:Func}{tmps:Array Value}{R:Ending->World->Prop}{b:Nat}(J:World->Prop)
    (hstep:∀W D,J W->b<=D->W.heap[D]?=some (.deferred (some []))->J (W.putObj D (.deferred none)))(hend:∀W,J W->LeavesInM Fence.wide n P fn tmps R [] .returning W):
    ∀(ds:List Deferred) (W:World),J W->MarksL b ds W->LeavesInM Fence.wide n P fn tmps R ds .returning W
  | [],W,hJ,_=>hend W hJ
  | d::ds,W,hJ,hM=>by
    obtain⟨D,rfl,hb,hK⟩:=hM.1 d (by simp);have hp:=List.pairwise_cons.1 hM.2;refine⟨by simp,.inl ⟨_,_,rfl,run_takeDeferred hK,?_⟩⟩;refine leaves_marks J hstep hend ds _ (hstep W D hJ hb hK) ⟨fun d hd=> ?_,hp.2⟩;obtain⟨D2,h1,h2,h3⟩:=hM.1 d (List.mem_cons_of_mem _ hd);refine⟨D2,h1,h2,((grownBy_putObj' W D (.deferred none)).block D2 (Array.getElem?_eq_some_iff.1 h3).1 (fun e=> ?_)).trans h3⟩;injection e with e
    subst e;exact hp.1 d hd (by rw[h1])
end Go.Proofs.YtiokhlgdelipdabGreat
namespace Go.Proofs.YtiokhlgdelipdabGreat
open Go.RowKit
attribute [local go_sem ↓] Go.wp_at_zero Go.wp_at_succ run_max_ii run_min_ii
theorem elEdge:ElT Tryz.prog 61 65 7 56:=ElT.of (z:= .agg #[.int .i64 0,.int .i64 0,.int .i64 0,.int .i64 0,.int .i64 0,.int .i64 0,.int .i64 0]) Tryz.underlying61 (by kernel_rfl) rfl (by simp[NoUL,Value.cells]) (by decide)
theorem okR_one {rs:List Ring}{k:Nat}{r:Ring}(h:okR rs=true)(hr:rs[k]?=some r):okR [r]=true:=by
  unfold okR at h⊢;rw[Bool.and_eq_true]at h⊢;have h1:=of_decide_eq_true h.1;have h2:=tot_succ hr;have h3:=tot_take rs (k+1);refine⟨decide_eq_true (by simp[tot];omega),?_⟩;simp only[List.all_cons,List.all_nil,Bool.and_true];exact List.all_eq_true.1 h.2 r (List.mem_of_getElem? hr)
theorem allV_len (rs:List Ring):∀k,k<=rs.length->(allV (rs.take k)).length<=tot (rs.take k)
  |0,_=>by simp[allV]
  | k+1,h=>by
    have hk:rs[k]?=some rs[k]:=List.getElem?_eq_getElem h;have h1:=edgesV_len [rs[k]];have h2:=allV_len rs k (by omega);rw[allV_take hk,tot_succ hk,List.length_append,edR_len];simp[tot]at h1;omega
def EdI (A:Option Addr)(cu:Nat)(rs:List Ring)(Bo:Nat)(w:World)(nn:Nat)(a:Act)(W:World):Prop:=
  ∃ (J:Nat->Value) (k:Nat) (ds:List Deferred) (A2:Option Addr) (n2 c2:Nat),nn=rs.length-k/\a={tmps:=#[.slice A rs.length cu,J 1,J 2,.pointer (some ⟨Bo,0,none⟩),J 4,J 5,J 6,J 7,J 8,J 9,J 10,J 11,J 12,.int .i64 (rs.length:Int),.int .i64 (k:Int),J 15,J 16,J 17,J 18,J 19,J 20,J 21,J 22,J 23,J 24,J 25,J 26,J 27,J 28,J 29,J 30,J 31,J 32,J 33,J 34,J 35,J 36,J 37,J 38,J 39,J 40,J 41,J 42,J 43,J 44,J 45,J 46,J 47,J 48,J 49,J 50,J 51,J 52,J 53,J 54],defers:=ds}/\k<=rs.length/\n2=(allV (rs.take k)).length/\
    Hp w W [.blk Bo 61 [.slice A2 n2 c2],.row 65 7 (.slice A2 n2 c2) (n2) (List.flatMap EdE.cells (allV (rs.take k)))]/\MarksL w.heap.size ds W
theorem edI_mk {A:Option Addr}{cu:Nat}{rs:List Ring}{Bo:Nat}{w W:World}{a:Act}(k:Nat)(ds:List Deferred)(A2:Option Addr)(n2 c2:Nat)(h3:k<=rs.length)(h4:n2=(allV (rs.take k)).length)
    (h5:Hp w W [.blk Bo 61 [.slice A2 n2 c2],.row 65 7 (.slice A2 n2 c2) (n2) (List.flatMap EdE.cells (allV (rs.take k)))])(h6:MarksL w.heap.size ds W)(h2:a={tmps:=#[.slice A rs.length cu,a.tmps.getD 1 undef,a.tmps.getD 2 undef,.pointer (some ⟨Bo,0,none⟩),a.tmps.getD 4 undef,a.tmps.getD 5 undef,a.tmps.getD 6 undef,a.tmps.getD 7 undef,a.tmps.getD 8 undef,a.tmps.getD 9 undef,a.tmps.getD 10 undef,a.tmps.getD 11 undef,a.tmps.getD 12 undef,.int .i64 (rs.length:Int),.int .i64 (k:Int),a.tmps.getD 15 undef,a.tmps.getD 16 undef,a.tmps.getD 17 undef,a.tmps.getD 18 undef,a.tmps.getD 19 undef,a.tmps.getD 20 undef,a.tmps.getD 21 undef,a.tmps.getD 22 undef,a.tmps.getD 23 undef,a.tmps.getD 24 undef,a.tmps.getD 25 undef,a.tmps.getD 26 undef,a.tmps.getD 27 undef,a.tmps.getD 28 undef,a.tmps.getD 29 undef,a.tmps.getD 30 undef,a.tmps.getD 31 undef,a.tmps.getD 32 undef,a.tmps.getD 33 undef,a.tmps.getD 34 undef,a.tmps.getD 35 undef,a.tmps.getD 36 undef,a.tmps.getD 37 undef,a.tmps.getD 38 undef,a.tmps.getD 39 undef,a.tmps.getD 40 undef,a.tmps.getD 41 undef,a.tmps.getD 42 undef,a.tmps.getD 43 undef,a.tmps.getD 44 undef,a.tmps.getD 45 undef,a.tmps.getD 46 undef,a.tmps.getD 47 undef,a.tmps.getD 48 undef,a.tmps.getD 49 undef,a.tmps.getD 50 undef,a.tmps.getD 51 undef,a.tmps.getD 52 undef,a.tmps.getD 53 undef,a.tmps.getD 54 undef],defers:=ds}):EdI A cu rs Bo w (rs.length-k) a W:=
  ⟨fun q=>a.tmps.getD q undef,k,ds,A2,n2,c2,rfl,h2,h3,h4,h5,h6⟩
def EdB (Bo X4 X5 k:Nat)(e0:List EdE)(A:Option Addr)(n0 c:Nat)(w W1:World)(pre:List OkE)(W:World):Prop:=
  ∃ (A2:Option Addr) (c2:Nat) (es:List EdE),Hp w W [.blk Bo 61 [.slice A2 (n0+pre.length) c2],.row 65 7 (.slice A2 (n0+pre.length) c2) (n0+pre.length) (List.flatMap EdE.cells (es)),.blk X4 3 [.int .i64 (k:Int)],.blk X5 3 [.int .i64 (n0:Int)]]/\(∀j,Value.ownBlock (.slice A2 (n0+pre.length) c2)=some j->Value.ownBlock (.slice A n0 c)=some j\/W1.heap.size<=j)/\es=e0++edR k (pre.map Subtype.val) 0/\W1.heap.size<=W.heap.size/\
    Fr (fun j=>j=Bo\/Value.ownBlock (.slice A n0 c)=some j\/W1.heap.size<=j) W1 W
theorem edB_own (Bo X4 X5 k:Nat)(e0:List EdE)(A:Option Addr)(n0 c:Nat)(w W1:World)(hw:w.heap.size<=W1.heap.size):OwnFrom W1.heap.size (EdB Bo X4 X5 k e0 A n0 c w W1):=by
  rintro s W W' row ⟨A2,c2,es,h1,h2,h3,h4,h5⟩ hg hr;exact⟨A2,c2,es,h1.keptQ hg (fun k hk=>⟨Nat.le_trans hw (hr k hk).1,(hr k hk).2⟩),h2,h3,Nat.le_trans h4 hg.size,Fr.trans_new h5 hg (fun j hj=> .inl (.inr (.inr (hr j hj).1)))⟩
def EdA (Bo X4 X5:Nat)(W1:World)(x:OkE)(a':Act)(W:World):Prop:=
  ∃(J:Nat->Value) (Xp Xq:Nat),Blk W Xp 41 ([.int .i64 x.1.1.1,.int .i64 x.1.1.2]:List Value).toArray/\Blk W Xq 41 ([.int .i64 x.1.2.1,.int .i64 x.1.2.2]:List Value).toArray/\Xp≠Xq/\W1.heap.size<=Xp/\W1.heap.size<=Xq/\a'={tmps:=#[J 0,J 1,J 2,.pointer (some ⟨Bo,0,none⟩),.pointer (some ⟨X4,0,none⟩),.pointer (some ⟨X5,0,none⟩),.pointer (some ⟨Xp,0,none⟩),.pointer (some ⟨Xq,0,none⟩),J 8,J 9,J 10,J 11,J 12,J 13,J 14,J 15,J 16,J 17,J 18,J 19,J 20,J 21,J 22,J 23,J 24,J 25,J 26,J 27,J 28,J 29,J 30,J 31,J 32,J 33,J 34,J 35,J 36,J 37,J 38,J 39,J 40,J 41,J 42,J 43,J 44,J 45,J 46,J 47,J 48,J 49,J 50,J 51,J 52,J 53,J 54],defers:=[]}
theorem edA_own (Bo X4 X5:Nat)(W1:World)(x:OkE)(a':Act):OwnFrom W1.heap.size (fun(_:Unit) W=>EdA Bo X4 X5 W1 x a' W):=by
  rintro _ W W' row ⟨J,Xp,Xq,h1,h2,h3⟩ hg hr;exact⟨J,Xp,Xq,h1.kept hg (fun k hk=>(hr k hk).2),h2.kept hg (fun k hk=>(hr k hk).2),h3⟩
theorem edA_mk {Bo X4 X5 Xp Xq:Nat}{W1 W:World}{x:OkE}{a':Act}(h1:Blk W Xp 41 ([.int .i64 x.1.1.1,.int .i64 x.1.1.2]:List Value).toArray)(h2:Blk W Xq 41 ([.int .i64 x.1.2.1,.int .i64 x.1.2.2]:List Value).toArray)(h3:Xp≠Xq)(h4:W1.heap.size<=Xp)(h5:W1.heap.size<=Xq)
    (h6:a'={tmps:=#[a'.tmps.getD 0 undef,a'.tmps.getD 1 undef,a'.tmps.getD 2 undef,.pointer (some ⟨Bo,0,none⟩),.pointer (some ⟨X4,0,none⟩),.pointer (some ⟨X5,0,none⟩),.pointer (some ⟨Xp,0,none⟩),.pointer (some ⟨Xq,0,none⟩),a'.tmps.getD 8 undef,a'.tmps.getD 9 undef,a'.tmps.getD 10 undef,a'.tmps.getD 11 undef,a'.tmps.getD 12 undef,a'.tmps.getD 13 undef,a'.tmps.getD 14 undef,a'.tmps.getD 15 undef,a'.tmps.getD 16 undef,a'.tmps.getD 17 undef,a'.tmps.getD 18 undef,a'.tmps.getD 19 undef,a'.tmps.getD 20 undef,a'.tmps.getD 21 undef,a'.tmps.getD 22 undef,a'.tmps.getD 23 undef,a'.tmps.getD 24 undef,a'.tmps.getD 25 undef,a'.tmps.getD 26 undef,a'.tmps.getD 27 undef,a'.tmps.getD 28 undef,a'.tmps.getD 29 undef,a'.tmps.getD 30 undef,a'.tmps.getD 31 undef,a'.tmps.getD 32 undef,a'.tmps.getD 33 undef,a'.tmps.getD 34 undef,a'.tmps.getD 35 undef,a'.tmps.getD 36 undef,a'.tmps.getD 37 undef,a'.tmps.getD 38 undef,a'.tmps.getD 39 undef,a'.tmps.getD 40 undef,a'.tmps.getD 41 undef,a'.tmps.getD 42 undef,a'.tmps.getD 43 undef,a'.tmps.getD 44 undef,a'.tmps.getD 45 undef,a'.tmps.getD 46 undef,a'.tmps.getD 47 undef,a'.tmps.getD 48 undef,a'.tmps.getD 49 undef,a'.tmps.getD 50 undef,a'.tmps.getD 51 undef,a'.tmps.getD 52 undef,a'.tmps.getD 53 undef,a'.tmps.getD 54 undef],defers:=[]}):EdA Bo X4 X5 W1 x a' W:=⟨fun q=>a'.tmps.getD q undef,Xp,Xq,h1,h2,h3,h4,h5,h6⟩
theorem iedges_any (A:Option Addr)(cu:Nat)(rs:List Ring)(w:World)(hu:RingsV w (.slice A rs.length cu) rs)(hc:rs.length<=cu)(hn:rs.length<=1048576)(hr:∀r,r∈rs->r.length<=1048576):
  Calls Tryz.prog 25 #[.slice A rs.length cu] w fun e w'=>∃v,e= .returned v/\RowN w' w.heap.size 65 7 v (edsV rs).length ((edsV rs).flatMap EdE.cells)/\Ext w w':=by
 have HU:=zH hu;have HN:=zH hn;have HR:=zH hr;have HC:=zH hc;clear hu hr;refine(callsIn_wide (n:=4)).1 ?_;refine callsIn_of_wp_marks Tryz.func25 rfl trivial ?_ rfl;simp only[Tryz.ntmps25,List.size_toArray,List.length_cons,List.length_nil,Nat.reduceAdd,Nat.reduceSub,Array.replicate_succ,Array.replicate_zero,List.push_toArray,List.append_toArray,List.nil_append,List.cons_append];refine wpIn_wide.2 ?_;refine Go.Code.wp_mono bodyPostQ.m ?_;have H0:=zH (Hp.start w);go_upto_region 0 with fail
 refine wl ?_;refine zI1 (Hp.start _) _ ?_;go_upto_region 1 with fail
 refine wl ?_;refine aA' 61 [.slice none 0 0] H0.out ?_;intro X2 w3 H4 _;rcases emH (okR rs=true)with HVQ|HVQ
 ·have HV:=HVQ
  go_upto_region 2 with fail
  refine wl ?_;refine zI1 (Hp.start _) _ ?_;refine zc (polyValid_any _ rs _ (HU.out.ext H4.out.ext) HN.out HR.out) ?_;rintro e w9 ⟨rfl,hx⟩;have H10:=zH (H4.out.step hx);clear hx;refine⟨.bool true,by rw[HV.out],?_⟩;try simp only[Act.put,zA,zB,zC]
  refine zq (.bool false) ?_;have H13:=zH (show Hp w w9 [.blk X2 61 [.slice none 0 0],ro 65 7 none 0 0 EdE.cells ([])]from H10.out.addNil 65 7);go_upto_region 4 with fail
  refine wl ?_;refine zI3 (Hp.start _) _ (.int .i64 ((rs.length:Nat):Int)) _ ?_;go_wp2_with fail
  refine wp_loop_ghost_k (EdI A cu rs X2 w) rs.length (edI_mk 0 [] none 0 0 (Nat.zero_le _) (by simp[allV]) H13.out (.nil _ _) rR) ?_;rintro gk a_ W ⟨J,k,ds,A2,n2,c2,rfl,rfl,hk_,hn2_,hh_,hm_⟩ JJ KK hJJ hKK;skip
  have HK:=zH hk_;have HN2:=zH hn2_;have HM:=zH hm_;have H1:=zH hh_;clear hk_ hn2_ hm_ hh_;rcases emH (k<rs.length)with HLT|HLT
  ·have hlt:=HLT.out
   obtain⟨r,hri_⟩:∃r,rs[k]?=some r:=⟨_,List.getElem?_eq_getElem hlt⟩;have HRI:=zH hri_;have hrl:r.length<=4096:=by have h_:=tot_succ hri_;have h2_:=tot_take rs (k+1);have h3_:=okR_tot HV.out;omega
   have hnb:n2+r.length<=4096:=by have h_:=tot_succ hri_;have h2_:=tot_take rs (k+1);have h3_:=okR_tot HV.out;have h4_:=allV_len rs k (by omega);rw[HN2.out];omega
   have HOK1:=zH (okR_one HV.out hri_);obtain⟨g,off,rfl⟩:∃g off,A=some ⟨g,off,none⟩:=by obtain⟨A_,cu_,hv_,hA_⟩:=HU.out;injection hv_ with e1_ e2_ e3_;subst e1_;obtain⟨g_,off_,e_,_⟩:=hA_ (by omega);exact⟨g_,off_,e_⟩
   have HU1:=zH (RingsV.one HU.out hri_ (cu-k));clear hri_;go_upto_region 5 with fail
   refine wl ?_;refine zp (.bool true) (by exact ezl (e:=(dec_t (by omega)))) ?_;go_upto_region 6 with fail
   refine wl ?_;refine zq (.int .i64 (k:Int)) ?_;refine aA 3 [.int .i64 0] H1.out ?_;intro X21 w22 H24 hx hge;have Q23:=zH (show W.heap.size<=X21 from Nat.le_trans (Fr.of_ext (G:=fun kz=>False) (Ext.refl W)).size hge);have K26:=zH (show Fr (fun kz=>False) W w22 from(Fr.of_ext (G:=fun kz=>False) (Ext.refl W)).trans (Fr.of_ext hx));clear hx hge;refine aU 2 (.int .i64 (k:Int)) H24.out ?_;intro w28 H29 hd ho;have K31:=zH (K26.out.trans_new ho (fun j hj=> .inr (by injection hj with hj;rw[<-hj];exact Q23.out)));clear hd ho;go_upto_region 7 with fail
   refine wl ?_;refine zI2 H29.out _ (.int .i64 (n2:Int)) ?_;refine aA 3 [.int .i64 0] H29.out ?_;intro X33 w34 H36 hx hge;have Q35:=zH (Nat.le_trans K31.out.size hge);have K38:=zH (K31.out.trans (Fr.of_ext hx));clear hx hge;refine aU 3 (.int .i64 (n2:Int)) H36.out ?_;intro w40 H41 hd ho;have K43:=zH (K38.out.trans_new ho (fun j hj=> .inr (by injection hj with hj;rw[<-hj];exact Q35.out)));clear hd ho;go_upto_region 8 with fail
   refine wl ?_;refine zI3 H41.out _ _ _ ?_;refine zp (.int .i64 ((k+1:Nat):Int)) (by exact ez1 (by omega)) ?_;refine zp (.slice (some ⟨g,off+k*1,none⟩) 1 (cu-k)) (by exact ev_slice1 rR Tryz.underlying22 kR rR rR rR rfl (by go_num) hlt HC.out) ?_;refine zc (edges_any _ [r] _ (HU1.out.ext H41.out.ext) (by simp) (by simp;omega)) ?_;rintro e w47 ⟨Bx,ve,rfl,hB1,hB2,hcell,hR,hx⟩;have HB1:=zH hB1;have HB2:=zH hB2;have HCL:=zH hcell;rw[if_pos HOK1.out]at hR;have HRG:=zH hR;clear hB1 hB2 hcell hR;have H48:=zH (H41.out.step hx);have K50:=zH (K43.out.trans (Fr.of_ext hx));clear hx;refine zn ?_;have hbo:=H41.out.lt (i:=0) (k:=X2) (by rfl) rfl;have hbr:=fun k_ (hk_:Value.ownBlock (.slice A2 n2 c2)=some k_)=>H41.out.lt (i:=1) (k:=k_) (by rfl) (by exact hk_)
   have HRF:=zH (show RingsO (fun k_=>¬(fun j=>j=X2\/Value.ownBlock (.slice A2 n2 c2)=some j\/w47.heap.size<=j) k_) w47 ve [r]from HRG.out.imp (fun k_ h hk=>by rcases hk with rfl|hk|hk;omega;have h2:=hbr k_ hk;omega;omega));have HWS:=zH (show w.heap.size<=w47.heap.size from H48.out.ext.size);have HM1:=zH (HM.out.fr K50.out (fun _ h=>h.elim));have hgb:¬(fun j=>j=X2\/Value.ownBlock (.slice A2 n2 c2)=some j\/w47.heap.size<=j) Bx:=fun hk=>by have h1:=HB1.out;have h9:=HB2.out;rcases hk with hk|hk|hk;omega;have h2:=hbr _ hk;omega;omega
   have HCG:=zH (show∀j,(fun j=>j=X2\/Value.ownBlock (.slice A2 n2 c2)=some j\/w47.heap.size<=j) j->∀o:Obj,w47.heap[j]?=some o->o.isCells=true from fun j hj o ho=>by rcases hj with rfl|hj|hj;exact H48.out.cells (i:=0) (by rfl) rfl o ho;exact H48.out.cells (i:=1) (by rfl) (by exact hj) o ho;have h_:=(Array.getElem?_eq_some_iff.1 ho).1;omega);go_wp2_with fail
   refine wpIn_wide.1 (edges_loop (n:=4) (by omega) (fun j=>j=X2\/Value.ownBlock (.slice A2 n2 c2)=some j\/w47.heap.size<=j) Bx ve [r] rR HCL.out hgb HRF.out (by simp) HOK1.out (fun k_ h_=> .inr (.inr h_)) (EdB X2 X21 X33 k (allV (rs.take k)) A2 n2 c2 w w47) (edB_own X2 X21 X33 k (allV (rs.take k)) A2 n2 c2 w w47 HWS.out) ⟨A2,c2,allV (rs.take k),H48.out,fun k_ hk_=> .inl hk_,by simp[edR],Nat.le_refl _,Fr.of_ext (Ext.refl _)⟩ (EdA X2 X21 X33 w47) (edA_own X2 X21 X33 w47) ?assign ?body ?done);case assign=>
    intro l pre x W2 K hi hK;obtain⟨A3,c3,es,hh,ho,he,hsz,hfr⟩:=hi;have H2:=zH hh;have HO3:=zH ho;have HES:=zH he;have HSZ:=zH hsz;have HF:=zH hfr;have HKF:=zH hK;clear hh ho he hsz hfr hK;unfold ptVal2;simp only[zA,zB,zC];refine wpIn_seq ?_;refine wpIn_region_plain kR (fun⟨_,_,h⟩=>h) ?_;refine aA 41 [.int .i64 0,.int .i64 0] H2.out ?_;intro X51 w52 H54 hx hge;have Q53:=zH (show W2.heap.size<=X51 from Nat.le_trans (Fr.of_ext (G:=fun kz=>False) (Ext.refl W2)).size hge);have K56:=zH (show Fr (fun kz=>False) W2 w52 from(Fr.of_ext (G:=fun kz=>False) (Ext.refl W2)).trans (Fr.of_ext hx));clear hx hge;refine aS 4 [.int .i64 x.1.1.1,.int .i64 x.1.1.2] H54.out ?_;intro w58 H59 hd ho;have K61:=zH (K56.out.trans_new ho (fun j hj=> .inr (by injection hj with hj;rw[<-hj];exact Q53.out)));clear hd ho;refine wpIn_region_plain kR (fun⟨_,_,h⟩=>h) ?_;refine aA 41 [.int .i64 0,.int .i64 0] H59.out ?_;intro X62 w63 H65 hx hge;have Q64:=zH (Nat.le_trans K61.out.size hge);have K67:=zH (K61.out.trans (Fr.of_ext hx));clear hx hge;refine aS 5 [.int .i64 x.1.2.1,.int .i64 x.1.2.2] H65.out ?_;intro w69 H70 hd ho;have K72:=zH (K67.out.trans_new ho (fun j hj=> .inr (by injection hj with hj;rw[<-hj];exact Q64.out)));clear hd ho;refine HKF.out _ _ (KeepsFrom.of_fr K72.out (fun _ h=>h.elim)) (K72.out.imp (fun _ h=>h.elim)) ⟨A3,c3,es,H70.out.take 4,HO3.out,HES.out,Nat.le_trans HSZ.out K72.out.size,HF.out.trans (K72.out.imp (fun _ h=>h.elim))⟩ (edA_mk (H70.out.blk (i:=4) rR) (H70.out.blk (i:=5) rR) ?_ (Nat.le_trans HSZ.out Q53.out) (Nat.le_trans HSZ.out Q64.out) rR);exact fun e=>H70.out.apart 4 5 _ _ (by rfl) (by rfl) (by decide) X51 (by rfl) (by rw[e];rfl)
   case body=>
    intro l pre x a' W2 hi hax hlen;obtain⟨A3,c3,es,hh,ho,he,hsz,hfr⟩:=hi;obtain⟨J2,Xp,Xq,hba,hbb,hne,hga,hgb2,rfl⟩:=hax;have HO3:=zH ho;have HES:=zH he;have HSZ:=zH hsz;have HF:=zH hfr;have H2:=zH (show Hp w W2 [.blk X2 61 [.slice A3 (n2+pre.length) c3],ro 65 7 A3 (n2+pre.length) c3 EdE.cells es,.blk X21 3 [.int .i64 (k:Int)],.blk X33 3 [.int .i64 (n2:Int)],.blk Xp 41 [.int .i64 x.1.1.1,.int .i64 x.1.1.2],.blk Xq 41 [.int .i64 x.1.2.1,.int .i64 x.1.2.2]]from hh.addTyp2 hba hbb hne (Nat.le_trans HWS.out hga) (Nat.le_trans HWS.out hgb2) (by simp[NoUL]) (by simp[NoUL]) (by simp only[List.forall_mem_cons,List.not_mem_nil,false_imp_iff,implies_true,and_true];exact⟨by simp[Ent.typ],by simp[Ent.typ],by simp[Ent.typ],by simp[Ent.typ]⟩));clear hh ho he hsz hfr hba hbb hne hga hgb2;have HFR0:=zH (show Fr (fun kz=>kz=X2\/Value.ownBlock (.slice A3 (n2+pre.length) c3)=some kz) W2 W2 from Fr.of_ext (Ext.refl W2));gi_upto_region 11 with fail
    refine wpIn_region_plain kR (fun⟨_,_,h⟩=>h) ?_;refine zI7 H2.out _ _ _ _ _ (.int .i64 ((n2+pre.length:Nat):Int)) _ ?_;refine zp (.int .i64 ((pre.length:Nat):Int)) (by exact ev_sub rR rR rR (by omega) (by omega) (by omega)) ?_;refine zI1 (Hp.start _) _ ?_;refine zp (w':=(W2.alloc (.cells ([.int .i64 x.1.1.1,.int .i64 x.1.1.2,.int .i64 x.1.2.1,.int .i64 x.1.2.2,.int .i64 (k:Int),.int .i64 ((pre.length:Nat):Int),.int .i64 0]:List Value).toArray 65))) (.slice (some ⟨W2.heap.size,0,none⟩) 1 1) (by go_simp) ?_;refine mv_app rR _ _ _ rR elEdge rR H2.out (ix:=1) rR 1 1 [.int .i64 x.1.1.1,.int .i64 x.1.1.2,.int .i64 x.1.2.1,.int .i64 x.1.2.2,.int .i64 (k:Int),.int .i64 ((pre.length:Nat):Int),.int .i64 0] rR rfl (by simp[Value.oneCell']) (by simp[NoUL]) dC (by unfold maxLen;exact(by omega)) (by omega) ?_;intro g77 cp78 w76 hf hh hd hg;have Fg77:=zH hf;clear hf;rw[show List.flatMap EdE.cells es++[.int .i64 x.1.1.1,.int .i64 x.1.1.2,.int .i64 x.1.2.1,.int .i64 x.1.2.2,.int .i64 (k:Int),.int .i64 ((pre.length:Nat):Int),.int .i64 0]=_ from flat_snoc EdE.cells _ ⟨x.1.1,x.1.2,k,pre.length,0⟩]at hh;have H79:=hN hh;have K81:=zH (show Fr (fun kz=>kz=X2\/Value.ownBlock (.slice A3 (n2+pre.length) c3)=some kz) W2 w76 from(HFR0.out.trans (Fr.of_ext ((Ext.refl _).alloc _))).trans_new hg (fun j hj=> .inl (.inr hj)));clear hh hd hg;try simp only[Act.put,zA,zB,zC]
    refine aU 0 (.slice (some ⟨g77,0,none⟩) (n2+pre.length+1) cp78) H79.out ?_;intro w82 H83 hd ho;have K85:=zH (K81.out.trans_new ho (fun j hj=> .inl (.inl (by injection hj with hj;exact hj.symm))));clear hd ho;refine wpList_nil ?_;gi_wp2
    have hkx:=K85.out;have hfx:Fr (fun j=>j=X2\/Value.ownBlock (.slice A2 n2 c2)=some j\/w47.heap.size<=j) W2 w82:=hkx.imp (fun k_ h_=>h_.elim .inl (fun h_=> .inr (HO3.out k_ h_)));exact⟨KeepsFrom.of_fr hkx (fun k_ hk_ o_ ho_=>hk_.elim (fun e_=>H2.out.cells (i:=0) (by rfl) (by rw[e_];rfl) o_ ho_) (fun e_=>H2.out.cells (i:=1) (by rfl) (by exact e_) o_ ho_)),hfx,some ⟨g77,0,none⟩,cp78,_,(by have h_:=H83.out.take 4;rw[show n2+pre.length+1=n2+(pre++[x]).length by simp;omega]at h_;exact h_),(fun k_ hk_=>by have e_:g77=k_:=(by simpa[Value.ownBlock]using hk_);subst e_;exact Fg77.out.elim (fun q=>HO3.out _ q) (fun q=> .inr (Nat.le_trans HSZ.out (Nat.le_trans HFR0.out.size q)))),(by rw[HES.out,List.map_append,List.map_cons,List.map_nil,edR_snoc,List.append_assoc,List.length_map]),Nat.le_trans HSZ.out hkx.size,HF.out.trans hfx⟩
   rintro D xs W2 hD hxs ⟨A3,c3,es,hh,ho,he,hsz,hfr⟩ hK;have HM2:=zH (MarksL.cons (HM1.out.fr hfr HCG.out) HM1.out hD (Nat.le_trans HWS.out hD) hK);obtain⟨m,hm_⟩:∃m,m=xs.length:=⟨_,rfl⟩;have hme:m=(edgesV [r]).length:=by rw[hm_,<-hxs,List.length_map]
   have hmr:m<=r.length:=by rw[hme];have h_:=edgesV_len [r];simp[tot]at h_;exact h_
   have hes:es=allV (rs.take k)++edP k (edgesV [r]) m 0:=by rw[edP_zero,he,hxs]
   rw[<-hm_]at hh;subst hes;have HME:=zH hme;have H2:=zH hh;have HCC:=zH (fun(k_:Nat) (hk_:Value.ownBlock (.slice A3 (n2+m) c3)=some k_)=>hh.cells (i:=1) (by rfl) (by exact hk_));clear hh ho he hsz hfr hK hxs hm_ hme;go_upto_region 12 with fail
   refine wl ?_;refine zI2 H2.out _ (.int .i64 (n2:Int)) ?_;go_wp2_with fail
   go_loopg [8] (m) (fun cq v87 wr=>∃(j:Nat),cq=m-j/\v87= .int .i64 ((n2+j:Nat):Int)/\(j<=m)/\(Fr (fun kz=>Value.ownBlock (.slice A3 (n2+m) c3)=some kz) W2 wr)/\Hp w wr [.blk X2 61 [.slice A3 (n2+m) c3],.row 65 7 (.slice A3 (n2+m) c3) (n2+m) (List.flatMap EdE.cells (allV (rs.take k)++edP k (edgesV [r]) m j)),.blk X21 3 [.int .i64 (k:Int)],.blk X33 3 [.int .i64 (n2:Int)]]/\Dig W2 wr)
   case atStart=>exact⟨0,rfl,rfl,Nat.zero_le _,Fr.of_ext (Ext.refl _),H2.out,Dig.refl _⟩
   obtain⟨j,rfl,rfl,q_HJM,q_HFR,hh_,hd_⟩:=hrel;generalize wr=w88 at*
   have HJM:=zH q_HJM;clear q_HJM;have HFR:=zH q_HFR;clear q_HFR;have H90:=zH hh_;have D90:=zH hd_;clear hh_ hd_ H2;rcases emH (j<m)with HJT|HJT
   ·have hjt:=HJT.out
    obtain⟨ed,hed_⟩:∃ed,(edgesV [r])[j]?=some ed:=⟨_,List.getElem?_eq_getElem (by rw[<-HME.out];exact hjt)⟩;have HE:=zH (show(allV (rs.take k)++edP k (edgesV [r]) m j)[n2+j]?=some ⟨ed.1,ed.2,k,j,0⟩from by rw[HN2.out];exact edP_get hed_ _);have HSE:=zH (show(allV (rs.take k)++edP k (edgesV [r]) m j).set (n2+j) ⟨ed.1,ed.2,k,j,m⟩=allV (rs.take k)++edP k (edgesV [r]) m (j+1)from by rw[HN2.out];exact edP_set hed_ _);clear hed_;obtain⟨ge,hge_⟩:=RowN.form (H90.out.row (i:=1) (by rfl)) |>.elim (fun A_ h_=>h_.elim (fun c_ h2_=>(show∃ge,A3=some ⟨ge,0,none⟩from by obtain⟨e_,h3_⟩:=h2_;injection e_ with e1_ e2_ e3_;subst e1_;exact h3_ (by omega))));subst hge_;go_upto_region 13 with fail
    refine wl ?_;refine zI3 H90.out (.int .i64 ((n2+j:Nat):Int)) _ (.int .i64 ((n2+m:Nat):Int)) ?_;refine zp (.bool true) (by exact ezl (e:=(dec_t (by omega)))) ?_;go_upto_region 15 with fail
    refine wl ?_;refine zI5 H90.out _ (.int .i64 ((n2+j:Nat):Int)) _ (.int .i64 ((n2+m:Nat):Int)) _ ?_;refine zp (.int .i64 (m:Int)) (by exact ev_sub rR rR rR (by omega) (by omega) (by omega)) ?_;refine zp (.pointer (some ⟨ge,(n2+j)*7,none⟩)) (by exact ezi (k:=n2+j) Tryz.underlying61 (l:=(show n2+j<n2+m by omega)) (f:=(Nat.zero_add _).symm)) ?_;refine zq (.pointer (some ⟨ge,(n2+j)*7+6,none⟩)) ?_;refine mv_stPart1 (f:=EdE.cells) rR _ _ _ rR H90.out (ix:=1) rR EdE.len (n2+j) (⟨ed.1,ed.2,k,j,0⟩:EdE) (⟨ed.1,ed.2,k,j,m⟩:EdE) HE.out 6 (.int .i64 (m:Int)) dC rR ((n2+j)*7+6) rR rR rR kR (by simp[Value.cells]) (by simp[Value.oneCell']) (by simp[NoUL]) ?_;intro w101 hh hd ho;have H102:=hN hh;have D102:=zH (hd);have K104:=zH (HFR.out.trans_new ho (fun j hj=> .inl hj));clear hh hd ho
    (try simp only[Act.put])
    have HSS:=zH (show Hp w w101 [.blk X2 61 [.slice (some ⟨ge,0,none⟩) (n2+m) c3],.row 65 7 (.slice (some ⟨ge,0,none⟩) (n2+m) c3) (n2+m) (List.flatMap EdE.cells (allV (rs.take k)++edP k (edgesV [r]) m (j+1))),.blk X21 3 [.int .i64 (k:Int)],.blk X33 3 [.int .i64 (n2:Int)]]from by have h_:=H102.out;rw[HSE.out]at h_;exact h_);go_upto_region 14 with fail
    refine wl ?_;refine zq (.int .i64 ((n2+j:Nat):Int)) ?_;refine zp (.int .i64 ((n2+j+1:Nat):Int)) (by exact ez1 (by omega)) ?_;refine zq (.int .i64 ((n2+j+1:Nat):Int)) ?_;have DD108:=tD D90 D102;go_wp2_with fail
    go_roundg (m-(j+1))
    case measure=>exact(by omega)
    case rel=>exact⟨j+1,rfl,(by go_num),hjt,K104.out,HSS.out,DD108.out⟩
   have hjt:=HJT.out;have hjm:=HJM.out;obtain rfl:j=m:=by omega
   go_upto_region 13 with fail
   refine wl ?_;refine zI3 H90.out (.int .i64 ((n2+j:Nat):Int)) _ (.int .i64 ((n2+j:Nat):Int)) ?_;refine zp (.bool false) (by exact ezl (e:=(dec_f (by omega)))) ?_;go_upto_region 16 with fail
   refine wl ?_;refine zp (.int .i64 ((k+1:Nat):Int)) (by exact ez1 (by omega)) ?_;refine zq (.int .i64 ((k+1:Nat):Int)) ?_;have HSS:=zH (show Hp w w88 [.blk X2 61 [.slice A3 (n2+j) c3],.row 65 7 (.slice A3 (n2+j) c3) (n2+j) (List.flatMap EdE.cells (allV (rs.take (k+1))))]from by rw[allV_take HRI.out,<-edP_all,<-HME.out];exact H90.out.take 2);have hme2:=HME.out;go_wp2_with fail
   exact Handed.intro (rs.length-(k+1)) (by omega) (hJJ _ _ _ (edI_mk (k+1) _ A3 (n2+j) c3 hlt (by rw[allV_take HRI.out,List.length_append,edR_len,<-hme2,<-HN2.out]) HSS.out (HM2.out.fr HFR.out (fun k_ hk_ o_ ho_=>HCC.out k_ hk_ o_ ho_)) (by rfl)))
  have hlt:=HLT.out;have hkk:=HK.out;obtain rfl:k=rs.length:=by omega
  go_upto_region 5 with fail
  refine wl ?_;refine zp (.bool false) (by exact ezl (e:=(dec_f (Int.lt_irrefl _)))) ?_;go_upto_region 17 with fail
  refine wl ?_;refine zI2 H1.out _ _ ?_;go_wp2_with fail
  refine leaves_marks (b:=w.heap.size) (fun W_=>Hp w W_ [.blk X2 61 [.slice A2 n2 c2],.row 65 7 (.slice A2 n2 c2) (n2) (List.flatMap EdE.cells (allV (rs.take rs.length)))]) (fun W_ D_ hJ_ hb_ hK_=>hJ_.keptQ (grownBy_putObj' W_ D_ (.deferred none)) (fun k_ hk_=>by injection hk_ with hk_;subst hk_;exact⟨hb_,_,hK_,rfl⟩)) (fun W_ hJ_=> ?_) ds _ H1.out HM.out;refine⟨_,results_tmp rfl _ _ _,_,rfl,?_,hJ_.ext⟩;have h_:=hJ_.row (i:=1) (by rfl);have hn2:=HN2.out;rw[List.take_length]at h_ hn2;subst hn2;rw[show edsV rs=allV rs from if_pos HV.out];exact h_
 have HV:=zH (Bool.eq_false_iff.2 HVQ.out);go_upto_region 2 with fail
 refine wl ?_;refine zI1 (Hp.start _) _ ?_;refine zc (polyValid_any _ rs _ (HU.out.ext H4.out.ext) HN.out HR.out) ?_;rintro e w117 ⟨rfl,hx⟩;have H118:=zH (H4.out.step hx);clear hx;refine⟨.bool false,by rw[HV.out],?_⟩;try simp only[Act.put,zA,zB,zC]
 refine zq (.bool true) ?_;go_upto_region 3 with fail
 refine wl ?_;refine zI1 (Hp.start _) _ ?_;go_wp2_with fail
 exact⟨_,results_tmp rfl _ _ _,_,rfl,by rw[show edsV rs=[]from if_neg HVQ.out];exact RowN.nil _ _ _ _,H118.out.ext⟩
theorem allV_mem {rs:List Ring}{e:EdE}(h:e∈allV rs):∃(k:Nat) (r:Ring) (i:Nat) (x:Edge),rs[k]?=some r/\(edgesV [r])[i]?=some x/\e=⟨x.1,x.2,k,i,(edgesV [r]).length⟩:=by
 obtain⟨l,hl,he⟩:=List.mem_flatten.1 h;obtain⟨k,hk⟩:=List.mem_iff_getElem?.1 hl;rw[List.getElem?_mapIdx]at hk;cases hr:rs[k]?with
 |none=>simp[hr]at hk
 |some r=>
  simp only[hr,Option.map_some,Option.some.injEq]at hk;subst hk;obtain⟨i,hi⟩:=List.mem_iff_getElem?.1 he;unfold edR at hi;rw[List.getElem?_mapIdx]at hi;cases hx:(edgesV [r])[i]?with
  |none=>simp[hx]at hi
  |some x=>
   simp only[hx,Option.map_some,Option.some.injEq]at hi;exact⟨k,r,i,x,hr,hx,hi.symm⟩
theorem allV_bd {rs:List Ring}(h:okR rs=true)(hn:rs.length<=1048576):∀e,e∈allV rs->e.Bd:=by
  intro e he;obtain⟨k,r,i,x,hk,hi,rfl⟩:=allV_mem he;have h1:=edges_ok (okR_one h hk) x (List.mem_of_getElem? hi);have h2:=(List.getElem?_eq_some_iff.1 hi).1;have h3:=(List.getElem?_eq_some_iff.1 hk).1;have h4:=edgesV_len [r];have h5:=okR_tot (okR_one h hk);exact⟨h1.1,h1.2,by show k<=1048576;omega,h2,by show(edgesV [r]).length<=4096;omega⟩
theorem edsV_bd {rs:List Ring}(hn:rs.length<=1048576):∀e,e∈edsV rs->e.Bd:=by
  unfold edsV;split
  · rename_i h;exact allV_bd h hn
  intro e he;cases he
theorem edsV_len (rs:List Ring):(edsV rs).length<=4096:=by
  unfold edsV;split
  · rename_i h
    have h1:=allV_len rs rs.length (Nat.le_refl _);have h2:=okR_tot h;rw[List.take_length]at h1;omega
  simp
def simP (x y:EdE):Bool:=if adjB x y=true then decide (segN x.a x.b y.a y.b=1)else(djB x y||decide (segN x.a x.b y.a y.b=0))
theorem SegRet.any {a b c d:Int×Int}{w w':World}{e:Ending}(h:SegRet a b c d w e w'):∃r s:RV,e= .returned (.tuple #[.agg #[.bool r.n,.slice r.p r.l r.c,.bool r.m,.slice r.p2 r.l2 r.c2],.agg #[.bool s.n,.slice s.p s.l s.c,.bool s.m,.slice s.p2 s.l2 s.c2],.int .i64 (segN a b c d)])/\Ext w w':=by
  obtain⟨⟨r,s,h0,h1,_,_⟩|⟨_,h1⟩,hx⟩:=h
  · exact⟨r,s,by rw[h1,h0],hx⟩
  exact⟨⟨false,none,0,0,false,none,0,0⟩,⟨false,none,0,0,false,none,0,0⟩,h1,hx⟩
def simRow (es:List EdE)(k:Nat):Bool:=match es[k]?with|some y=>(es.take k).all (fun x=>simP x y)|none=>true
def simAll (es:List EdE):Bool:=(List.range es.length).all (simRow es)
def simB (rs:List Ring):Bool:=okR rs&&simAll (edsV rs)
theorem simAll_bad {es:List EdE}{k i:Nat}{x y:EdE}(hk:es[k]?=some y)(hi:es[i]?=some x)(h:i<k)(hp:simP x y=false):simAll es=false:=by
  rw[Bool.eq_false_iff];intro hs;have h1:=List.all_eq_true.1 hs k (List.mem_range.2 (List.getElem?_eq_some_iff.1 hk).1);unfold simRow at h1;rw[hk]at h1;have h2:=List.all_eq_true.1 h1 x (List.mem_iff_getElem?.2 ⟨i,by rw[List.getElem?_take,if_pos h,hi]⟩);rw[hp]at h2;cases h2
theorem take_all {α:Type}{es:List α}{i:Nat}{x:α}{p:α->Bool}(hi:es[i]?=some x)(h:(es.take i).all p=true)(hx:p x=true):(es.take (i+1)).all p=true:=by
  rw[List.take_add_one,hi];simp only[Option.toList_some,List.all_append,h,List.all_cons,hx,List.all_nil,Bool.and_self]
theorem range_all {p:Nat->Bool}{k:Nat}(h:(List.range k).all p=true)(hx:p k=true):(List.range (k+1)).all p=true:=by
  rw[List.range_succ];simp only[List.all_append,h,List.all_cons,hx,List.all_nil,Bool.and_self]
theorem isSimple_any (A:Option Addr)(cu:Nat)(rs:List Ring)(w:World)(hu:RingsV w (.slice A rs.length cu) rs)(hc:rs.length<=cu)(hn:rs.length<=1048576)(hr:∀r,r∈rs->r.length<=1048576):
  Calls Tryz.prog 15 #[.slice A rs.length cu] w fun e w'=>e= .returned (.bool (simB rs))/\Ext w w':=by
 have HU:=zH hu;have HN:=zH hn;have HR:=zH hr;have HC:=zH hc;have hel:=edsV_len rs;clear hu hr hc hn;go_enter Tryz.func15,Tryz.ntmps15
 have H0:=zH (Hp.start w);go_upto_region 0 with fail
 refine wl ?_;refine zq (.bool false) ?_;rcases emH (okR rs=true)with HVQ|HVQ
 ·have HV:=HVQ
  go_upto_region 1 with fail
  refine wl ?_;refine zI1 (Hp.start _) _ ?_;refine zc (polyValid_any _ rs _ (HU.out.ext H0.out.ext) HN.out HR.out) ?_;rintro e w4 ⟨rfl,hx⟩;have H5:=zH (H0.out.step hx);clear hx;refine⟨.bool true,by rw[HV.out],?_⟩;try simp only[Act.put,zA,zB,zC]
  refine zq (.bool false) ?_;go_upto_region 3 with fail
  refine wl ?_;refine zI1 (Hp.start _) _ ?_;refine zc (iedges_any A cu rs _ (HU.out.ext H5.out.ext) HC.out HN.out HR.out) ?_;rintro e w9 ⟨v_,rfl,hrow_,hx⟩;obtain⟨Ae,ce,rfl,hfe_⟩:=hrow_.form;have HFE:=zH hfe_;clear hfe_;have H10:=zH (show Hp w w9 [ro 65 7 Ae ((edsV rs).length) ce EdE.cells (edsV rs)]from H5.out.addRow hx hrow_);clear hrow_ hx;refine zn ?_;refine zI1 (Hp.start _) _ ?_;go_upto_region 4 with fail
  refine wl ?_;refine zI3 (Hp.start _) _ (.int .i64 (((edsV rs).length:Nat):Int)) _ ?_;go_wp2_with fail
  go_loopg [17] ((edsV rs).length) (fun cq v16 wr=>∃(k:Nat),cq=((edsV rs).length)-k/\v16= .int .i64 (k:Int)/\(k<=(edsV rs).length)/\((List.range k).all (simRow (edsV rs))=true)/\Hp w wr [.row 65 7 (.slice Ae ((edsV rs).length) ce) ((edsV rs).length) (List.flatMap EdE.cells (edsV rs))]/\Dig w9 wr)
  case atStart=>exact⟨0,rfl,rfl,Nat.zero_le _,rfl,H10.out,Dig.refl _⟩
  obtain⟨k,rfl,rfl,q_HKN,q_HALL,hh_,hd_⟩:=hrel;generalize wr=w17 at*
  have HKN:=zH q_HKN;clear q_HKN;have HALL:=zH q_HALL;clear q_HALL;have H19:=zH hh_;have D19:=zH hd_;clear hh_ hd_ H10;rcases emH (k<(edsV rs).length)with HLT|HLT
  ·have hlt:=HLT.out
   go_upto_region 5 with fail
   refine wl ?_;refine zp (.bool true) (by exact ezl (e:=(dec_t (by omega)))) ?_;go_upto_region 6 with fail
   refine wl ?_;refine zI2 (Hp.start _) (.int .i64 (k:Int)) (.int .i64 (k:Int)) ?_;go_upto_region 7 with fail
   refine wl ?_;refine zI2 (Hp.start _) (.int .i64 (k:Int)) _ ?_;go_wp2_with fail
   go_loopg [21] (k) (fun cq v26 wr=>∃(i:Nat),cq=k-i/\v26= .int .i64 (i:Int)/\(i<=k)/\(∀ey:EdE,(edsV rs)[k]?=some ey->((edsV rs).take i).all (fun x=>simP x ey)=true)/\((List.range k).all (simRow (edsV rs))=true)/\Hp w wr [.row 65 7 (.slice Ae ((edsV rs).length) ce) ((edsV rs).length) (List.flatMap EdE.cells (edsV rs))]/\Dig w17 wr)
   case atStart=>exact⟨0,rfl,rfl,Nat.zero_le _,(fun _ _=>by simp),HALL.out,H19.out,Dig.refl _⟩
   obtain⟨i,rfl,rfl,q_HKI,q_HROW,q_HALL,hh_,hd_⟩:=hrel;generalize wr=w27 at*
   have HKI:=zH q_HKI;clear q_HKI;have HROW:=zH q_HROW;clear q_HROW;have HALL:=zH q_HALL;clear q_HALL;have H29:=zH hh_;have D29:=zH hd_;clear hh_ hd_ H19;rcases emH (i<k)with HIK|HIK
   ·have HIK2:=HIK
    have hik:=HIK2.out;obtain⟨ge,rfl⟩:=HFE.out (by omega);obtain⟨ex,hex_⟩:∃x,(edsV rs)[i]?=some x:=⟨_,List.getElem?_eq_getElem (by omega)⟩;obtain⟨ey,hey_⟩:∃x,(edsV rs)[k]?=some x:=⟨_,List.getElem?_eq_getElem (by omega)⟩;have HEX:=zH hex_;have HEY:=zH hey_;have HBX:=zH (edsV_bd HN.out ex (List.mem_of_getElem? hex_));have HBY:=zH (edsV_bd HN.out ey (List.mem_of_getElem? hey_));clear hex_ hey_;go_upto_region 8 with fail
    refine wl ?_;refine zp (.bool true) (by exact ezl (e:=(dec_t (by omega)))) ?_;go_upto_region 9 with fail
    refine wl ?_;refine zI2 (Hp.start _) (.int .i64 (i:Int)) (.int .i64 (i:Int)) ?_;go_upto_region 10 with fail
    refine wl ?_;refine zq (.int .i64 0) ?_;rcases emH (adjB ex ey=true)with HAD|HAD
    ·go_upto_region 11 with fail
     refine zy ?_;have H36:=zH (H29.out.step (Ext.refl w27).drew);have D36:=zH (Dig.of_ext (w:=w27) zb);refine zJ2 (Hp.start _) zb (bs 9 3) 0 1 _ (.int .i64 (i:Int)) ?_;refine zo 2 (bs 9 7) (v:= .pointer (some ⟨ge,i*7,none⟩)) zb ?_ (hv:=by intro w hSw;exact ezi (k:=i) Tryz.underlying61 (l:=(show i<(edsV rs).length by omega)) (f:=(Nat.zero_add _).symm));refine zg 3 (bs 9 15) ge (i*7) [.int .i64 ex.a.1,.int .i64 ex.a.2,.int .i64 ex.b.1,.int .i64 ex.b.2,.int .i64 ((ex.r:Nat):Int),.int .i64 ((ex.i:Nat):Int),.int .i64 ((ex.n:Nat):Int)] (H29.out.elem (f:=EdE.cells) (i:=0) rR EdE.len HEX.out) Tryz.underlying65 zb ?_;refine zJ2 (Hp.start _) zb (bs 9 63) 4 5 _ (.int .i64 (k:Int)) ?_;refine zo 6 (bs 9 127) (v:= .pointer (some ⟨ge,k*7,none⟩)) zb ?_ (hv:=by intro w hSw;exact ezi (k:=k) Tryz.underlying61 (l:=(show k<(edsV rs).length by omega)) (f:=(Nat.zero_add _).symm));refine zg 7 (bs 9 255) ge (k*7) [.int .i64 ey.a.1,.int .i64 ey.a.2,.int .i64 ey.b.1,.int .i64 ey.b.2,.int .i64 ((ey.r:Nat):Int),.int .i64 ((ey.i:Nat):Int),.int .i64 ((ey.n:Nat):Int)] (H29.out.elem (f:=EdE.cells) (i:=0) rR EdE.len HEY.out) Tryz.underlying65 zb ?_;refine mC 8 (bs 9 511) (adjacent_any ex ey _ HBX.out HBY.out) ?_;rintro e w44 ⟨rfl,hx⟩;have H45:=zH (H36.out.step hx);have D45:=zH (show Dig w27.drew w44 from Dig.of_ext hx);have S47:=zH (zb.trans hx);clear hx;refine⟨.bool true,by rw[HAD.out],S47.out,?_⟩;try simp only[Act.put,zA,zB,zC]
     refine wpAnyH_done kR ?_ _;go_upto_region 12 with fail
     refine wl ?_;refine zq (.int .i64 1) ?_;go_upto_region 13 with fail
     refine zy ?_;have H49:=zH (H45.out.step (Ext.refl w44).drew);have D49:=zH (Dig.of_ext (w:=w44) zb);refine zx 0 (bs 13 1) (.int .i64 1) zb ?_;refine zu 1 (bs 13 3) (v:= .bool false) zb ?_ (hv:=by intro w hSw;exact ezq (e:=(dec_f (by omega))));refine zJ8 (Hp.start _) zb (bs 13 1023) 2 3 4 5 6 7 8 9 (.bool false) _ _ _ _ _ _ _ ?_;refine zJ3 (Hp.start _) zb (bs 13 8191) 10 11 12 _ _ (.bool false) ?_;refine wpAnyH_done kR ?_ _;go_upto_region 14 with fail
     refine wp_region_held_drew (S:=fun x=>Ext w44.drew x) kR zb (fun _=> ?_);have H55:=zH (H49.out.step (Ext.refl w44.drew).drew);have D55:=zH (show Dig w44.drew w44.drew.drew from Dig.of_ext (Ext.refl w44.drew).drew);refine zJ2 (Hp.start _) zb (bs 30 3) 0 1 _ (.int .i64 (i:Int)) ?_;refine zu 2 (bs 30 7) (v:= .pointer (some ⟨ge,i*7,none⟩)) zb ?_ (hv:=by intro w hSw;exact ezi (k:=i) Tryz.underlying61 (l:=(show i<(edsV rs).length by omega)) (f:=(Nat.zero_add _).symm));refine zJ1 (Hp.start _) zb (bs 30 15) 3 _ ?_;refine zg 4 (bs 30 31) ge (i*7) [.int .i64 ex.a.1,.int .i64 ex.a.2] (range_part (H49.out.elem (f:=EdE.cells) (i:=0) rR EdE.len HEX.out) 0 2) Tryz.underlying41 zb ?_;refine zJ2 (Hp.start _) zb (bs 30 127) 5 6 _ (.int .i64 (i:Int)) ?_;refine zu 7 (bs 30 255) (v:= .pointer (some ⟨ge,i*7,none⟩)) zb ?_ (hv:=by intro w hSw;exact ezi (k:=i) Tryz.underlying61 (l:=(show i<(edsV rs).length by omega)) (f:=(Nat.zero_add _).symm));refine mX 8 (bs 30 511) (.pointer (some ⟨ge,i*7+2,none⟩)) zb ?_;refine zg 9 (bs 30 1023) ge (i*7+2) [.int .i64 ex.b.1,.int .i64 ex.b.2] (range_part (H49.out.elem (f:=EdE.cells) (i:=0) rR EdE.len HEX.out) 2 2) Tryz.underlying41 zb ?_;refine zJ2 (Hp.start _) zb (bs 30 4095) 10 11 _ (.int .i64 (k:Int)) ?_;refine zu 12 (bs 30 8191) (v:= .pointer (some ⟨ge,k*7,none⟩)) zb ?_ (hv:=by intro w hSw;exact ezi (k:=k) Tryz.underlying61 (l:=(show k<(edsV rs).length by omega)) (f:=(Nat.zero_add _).symm));refine zJ1 (Hp.start _) zb (bs 30 16383) 13 _ ?_;refine zg 14 (bs 30 32767) ge (k*7) [.int .i64 ey.a.1,.int .i64 ey.a.2] (range_part (H49.out.elem (f:=EdE.cells) (i:=0) rR EdE.len HEY.out) 0 2) Tryz.underlying41 zb ?_;refine zJ2 (Hp.start _) zb (bs 30 131071) 15 16 _ (.int .i64 (k:Int)) ?_;refine zu 17 (bs 30 262143) (v:= .pointer (some ⟨ge,k*7,none⟩)) zb ?_ (hv:=by intro w hSw;exact ezi (k:=k) Tryz.underlying61 (l:=(show k<(edsV rs).length by omega)) (f:=(Nat.zero_add _).symm));refine mX 18 (bs 30 524287) (.pointer (some ⟨ge,k*7+2,none⟩)) zb ?_;refine zg 19 (bs 30 1048575) ge (k*7+2) [.int .i64 ey.b.1,.int .i64 ey.b.2] (range_part (H49.out.elem (f:=EdE.cells) (i:=0) rR EdE.len HEY.out) 2 2) Tryz.underlying41 zb ?_;refine FN.go2 (j1:=⟨25,some 7,36,[.bool false,.slice none 0 0,.bool false,.slice none 0 0]⟩) (j2:=⟨26,some 8,36,[.bool false,.slice none 0 0,.bool false,.slice none 0 0]⟩) (b:=w44.drew) ?_ zb;refine gN 20 (bs 30 2097151) (fk (fk trivial)) zb.size (fun xq hxq=>((segments_any ex.a ex.b ey.a ey.b _ HBX.out.1 HBX.out.2.1 HBY.out.1 HBY.out.2.1).mono (fun _ _ h_=>h_.any))) (by rintro x_ e x2_ ⟨r74,s74,rfl,hx⟩;exact hx) ?_;rintro xq e w73 hxq ⟨r74,s74,rfl,hx⟩;replace hx:=hxq.trans hx;clear hxq;have H75:=zH (H55.out.step hx);have D75:=zH (show Dig w44.drew.drew w73 from Dig.of_ext hx);have S77:=zH (zb.trans hx);clear hx;refine⟨_,rfl,?_⟩;try simp only[Act.put,zA,zB,zC]
     refine gT 21 (bs 30 4194303) _ ?_;refine gT 22 (bs 30 8388607) _ ?_;refine gT 23 (bs 30 16777215) _ ?_;refine gT 24 (bs 30 33554431) (.int .i64 (segN ex.a ex.b ey.a ey.b)) ?_;refine gE2 (bs 30 134217727) (fk (fk trivial)) S77.out.size H49.out H75.out ?_;intro X82 X83 w84 hx hh hg0 hg1 hs;have H85:=hN hh;have D85:=zH (Dig.of_ext hx);have S87:=zH (show Ext w44.drew w84 from hs);have G88:=zH (show w44.drew.heap.size<=X82 from hg0);have G89:=zH (show w44.drew.heap.size<=X83 from hg1);clear hh hx hs hg0 hg1;try simp only[Act.put,zA,zB,zC]
     refine bS 1 27 (bs 30 268435455) (rc r74) H85.out S87.out G88.out ?_;intro w90 H91 D91 S93;refine bS 2 28 (bs 30 536870911) (rc s74) H91.out S93.out G89.out ?_;intro w94 H95 D95 S97;refine zx 29 (bs 30 1073741823) (.int .i64 (segN ex.a ex.b ey.a ey.b)) S97.out ?_;refine wpAnyH_done kR ?_ _;rcases emH (segN ex.a ex.b ey.a ey.b=1)with HSG|HSG
     ·go_upto_region 15 with fail
      refine wl ?_;refine zI2 (Hp.start _) (.int .i64 (segN ex.a ex.b ey.a ey.b)) _ ?_;refine zp (.bool false) (by exact ezn (e:=(dec_f (fun h_=>h_ HSG.out)))) ?_;go_upto_region 17 with fail
      refine wl ?_;refine zp (.int .i64 ((i+1:Nat):Int)) (by exact ez1 (by omega)) ?_;refine zq (.int .i64 ((i+1:Nat):Int)) ?_;have DD105:=tD (tD (tD (tD (tD (tD (tD (tD D29 D36) D45) D49) D55) D75) D85) D91) D95;go_wp2_with fail
      go_roundg (k-(i+1))
      case measure=>exact(by omega)
      case rel=>exact⟨i+1,rfl,(by go_num),hik,(fun ey_ hey2_=>by obtain rfl:ey_=ey:=Option.some.inj (hey2_.symm.trans HEY.out);exact take_all HEX.out (HROW.out _ hey2_) (by unfold simP;rw[if_pos HAD.out];exact decide_eq_true HSG.out)),HALL.out,H95.out.take 1,DD105.out⟩
     go_upto_region 15 with fail
     refine wl ?_;refine zI2 (Hp.start _) (.int .i64 (segN ex.a ex.b ey.a ey.b)) _ ?_;refine zp (.bool true) (by exact ezn (e:=(dec_t HSG.out))) ?_;go_upto_region 16 with fail
     refine wl ?_;refine zq (.bool false) ?_;go_wp2_with fail
     go_ret
     exact⟨by rw[show simB rs=false from by unfold simB;rw[simAll_bad HEY.out HEX.out hik (by unfold simP;rw[if_pos HAD.out];exact decide_eq_false HSG.out),Bool.and_false]];rfl,H95.out.ext⟩
    have HADF:=zH (Bool.eq_false_iff.2 HAD.out);go_upto_region 11 with fail
    refine zy ?_;have H110:=zH (H29.out.step (Ext.refl w27).drew);have D110:=zH (Dig.of_ext (w:=w27) zb);refine zJ2 (Hp.start _) zb (bs 9 3) 0 1 _ (.int .i64 (i:Int)) ?_;refine zo 2 (bs 9 7) (v:= .pointer (some ⟨ge,i*7,none⟩)) zb ?_ (hv:=by intro w hSw;exact ezi (k:=i) Tryz.underlying61 (l:=(show i<(edsV rs).length by omega)) (f:=(Nat.zero_add _).symm));refine zg 3 (bs 9 15) ge (i*7) [.int .i64 ex.a.1,.int .i64 ex.a.2,.int .i64 ex.b.1,.int .i64 ex.b.2,.int .i64 ((ex.r:Nat):Int),.int .i64 ((ex.i:Nat):Int),.int .i64 ((ex.n:Nat):Int)] (H29.out.elem (f:=EdE.cells) (i:=0) rR EdE.len HEX.out) Tryz.underlying65 zb ?_;refine zJ2 (Hp.start _) zb (bs 9 63) 4 5 _ (.int .i64 (k:Int)) ?_;refine zo 6 (bs 9 127) (v:= .pointer (some ⟨ge,k*7,none⟩)) zb ?_ (hv:=by intro w hSw;exact ezi (k:=k) Tryz.underlying61 (l:=(show k<(edsV rs).length by omega)) (f:=(Nat.zero_add _).symm));refine zg 7 (bs 9 255) ge (k*7) [.int .i64 ey.a.1,.int .i64 ey.a.2,.int .i64 ey.b.1,.int .i64 ey.b.2,.int .i64 ((ey.r:Nat):Int),.int .i64 ((ey.i:Nat):Int),.int .i64 ((ey.n:Nat):Int)] (H29.out.elem (f:=EdE.cells) (i:=0) rR EdE.len HEY.out) Tryz.underlying65 zb ?_;refine mC 8 (bs 9 511) (adjacent_any ex ey _ HBX.out HBY.out) ?_;rintro e w118 ⟨rfl,hx⟩;have H119:=zH (H110.out.step hx);have D119:=zH (show Dig w27.drew w118 from Dig.of_ext hx);have S121:=zH (zb.trans hx);clear hx;refine⟨.bool false,by rw[HADF.out],S121.out,?_⟩;try simp only[Act.put,zA,zB,zC]
    refine wpAnyH_done kR ?_ _;rcases emH (djB ex ey=true)with HDJ|HDJ
    ·go_upto_region 13 with fail
     refine zy ?_;have H123:=zH (H119.out.step (Ext.refl w118).drew);have D123:=zH (Dig.of_ext (w:=w118) zb);refine zx 0 (bs 13 1) (.int .i64 0) zb ?_;refine zu 1 (bs 13 3) (v:= .bool true) zb ?_ (hv:=by intro w hSw;exact ezq (e:=(dec_t (by omega))));refine zJ3 (Hp.start _) zb (bs 13 31) 2 3 4 (.bool true) _ (.int .i64 (i:Int)) ?_;refine zo 5 (bs 13 63) (v:= .pointer (some ⟨ge,i*7,none⟩)) zb ?_ (hv:=by intro w hSw;exact ezi (k:=i) Tryz.underlying61 (l:=(show i<(edsV rs).length by omega)) (f:=(Nat.zero_add _).symm));refine zg 6 (bs 13 127) ge (i*7) [.int .i64 ex.a.1,.int .i64 ex.a.2,.int .i64 ex.b.1,.int .i64 ex.b.2,.int .i64 ((ex.r:Nat):Int),.int .i64 ((ex.i:Nat):Int),.int .i64 ((ex.n:Nat):Int)] (H119.out.elem (f:=EdE.cells) (i:=0) rR EdE.len HEX.out) Tryz.underlying65 zb ?_;refine zJ2 (Hp.start _) zb (bs 13 511) 7 8 _ (.int .i64 (k:Int)) ?_;refine zo 9 (bs 13 1023) (v:= .pointer (some ⟨ge,k*7,none⟩)) zb ?_ (hv:=by intro w hSw;exact ezi (k:=k) Tryz.underlying61 (l:=(show k<(edsV rs).length by omega)) (f:=(Nat.zero_add _).symm));refine zg 10 (bs 13 2047) ge (k*7) [.int .i64 ey.a.1,.int .i64 ey.a.2,.int .i64 ey.b.1,.int .i64 ey.b.2,.int .i64 ((ey.r:Nat):Int),.int .i64 ((ey.i:Nat):Int),.int .i64 ((ey.n:Nat):Int)] (H119.out.elem (f:=EdE.cells) (i:=0) rR EdE.len HEY.out) Tryz.underlying65 zb ?_;refine mC 11 (bs 13 4095) (disjoint_any ex ey _) ?_;rintro e w134 ⟨rfl,hx⟩;have H135:=zH (H123.out.step hx);have D135:=zH (show Dig w118.drew w134 from Dig.of_ext hx);have S137:=zH (zb.trans hx);clear hx;refine⟨.bool true,by rw[HDJ.out],S137.out,?_⟩;try simp only[Act.put,zA,zB,zC]
     refine zx 12 (bs 13 8191) (.bool true) S137.out ?_;refine wpAnyH_done kR ?_ _;go_upto_region 17 with fail
     refine wl ?_;refine zp (.int .i64 ((i+1:Nat):Int)) (by exact ez1 (by omega)) ?_;refine zq (.int .i64 ((i+1:Nat):Int)) ?_;have DD141:=tD (tD (tD (tD D29 D110) D119) D123) D135;go_wp2_with fail
     go_roundg (k-(i+1))
     case measure=>exact(by omega)
     case rel=>exact⟨i+1,rfl,(by go_num),hik,(fun ey_ hey2_=>by obtain rfl:ey_=ey:=Option.some.inj (hey2_.symm.trans HEY.out);exact take_all HEX.out (HROW.out _ hey2_) (by unfold simP;rw[if_neg HAD.out,HDJ.out,Bool.true_or])),HALL.out,H135.out,DD141.out⟩
    have HDJF:=zH (Bool.eq_false_iff.2 HDJ.out);go_upto_region 13 with fail
    refine zy ?_;have H142:=zH (H119.out.step (Ext.refl w118).drew);have D142:=zH (Dig.of_ext (w:=w118) zb);refine zx 0 (bs 13 1) (.int .i64 0) zb ?_;refine zu 1 (bs 13 3) (v:= .bool true) zb ?_ (hv:=by intro w hSw;exact ezq (e:=(dec_t (by omega))));refine zJ3 (Hp.start _) zb (bs 13 31) 2 3 4 (.bool true) _ (.int .i64 (i:Int)) ?_;refine zo 5 (bs 13 63) (v:= .pointer (some ⟨ge,i*7,none⟩)) zb ?_ (hv:=by intro w hSw;exact ezi (k:=i) Tryz.underlying61 (l:=(show i<(edsV rs).length by omega)) (f:=(Nat.zero_add _).symm));refine zg 6 (bs 13 127) ge (i*7) [.int .i64 ex.a.1,.int .i64 ex.a.2,.int .i64 ex.b.1,.int .i64 ex.b.2,.int .i64 ((ex.r:Nat):Int),.int .i64 ((ex.i:Nat):Int),.int .i64 ((ex.n:Nat):Int)] (H119.out.elem (f:=EdE.cells) (i:=0) rR EdE.len HEX.out) Tryz.underlying65 zb ?_;refine zJ2 (Hp.start _) zb (bs 13 511) 7 8 _ (.int .i64 (k:Int)) ?_;refine zo 9 (bs 13 1023) (v:= .pointer (some ⟨ge,k*7,none⟩)) zb ?_ (hv:=by intro w hSw;exact ezi (k:=k) Tryz.underlying61 (l:=(show k<(edsV rs).length by omega)) (f:=(Nat.zero_add _).symm));refine zg 10 (bs 13 2047) ge (k*7) [.int .i64 ey.a.1,.int .i64 ey.a.2,.int .i64 ey.b.1,.int .i64 ey.b.2,.int .i64 ((ey.r:Nat):Int),.int .i64 ((ey.i:Nat):Int),.int .i64 ((ey.n:Nat):Int)] (H119.out.elem (f:=EdE.cells) (i:=0) rR EdE.len HEY.out) Tryz.underlying65 zb ?_;refine mC 11 (bs 13 4095) (disjoint_any ex ey _) ?_;rintro e w153 ⟨rfl,hx⟩;have H154:=zH (H142.out.step hx);have D154:=zH (show Dig w118.drew w153 from Dig.of_ext hx);have S156:=zH (zb.trans hx);clear hx;refine⟨.bool false,by rw[HDJF.out],S156.out,?_⟩;try simp only[Act.put,zA,zB,zC]
    refine zx 12 (bs 13 8191) (.bool false) S156.out ?_;refine wpAnyH_done kR ?_ _;go_upto_region 14 with fail
    refine zy ?_;have H158:=zH (H154.out.step (Ext.refl w153).drew);have D158:=zH (Dig.of_ext (w:=w153) zb);refine zJ2 (Hp.start _) zb (bs 30 3) 0 1 _ (.int .i64 (i:Int)) ?_;refine zu 2 (bs 30 7) (v:= .pointer (some ⟨ge,i*7,none⟩)) zb ?_ (hv:=by intro w hSw;exact ezi (k:=i) Tryz.underlying61 (l:=(show i<(edsV rs).length by omega)) (f:=(Nat.zero_add _).symm));refine zJ1 (Hp.start _) zb (bs 30 15) 3 _ ?_;refine zg 4 (bs 30 31) ge (i*7) [.int .i64 ex.a.1,.int .i64 ex.a.2] (range_part (H154.out.elem (f:=EdE.cells) (i:=0) rR EdE.len HEX.out) 0 2) Tryz.underlying41 zb ?_;refine zJ2 (Hp.start _) zb (bs 30 127) 5 6 _ (.int .i64 (i:Int)) ?_;refine zu 7 (bs 30 255) (v:= .pointer (some ⟨ge,i*7,none⟩)) zb ?_ (hv:=by intro w hSw;exact ezi (k:=i) Tryz.underlying61 (l:=(show i<(edsV rs).length by omega)) (f:=(Nat.zero_add _).symm));refine mX 8 (bs 30 511) (.pointer (some ⟨ge,i*7+2,none⟩)) zb ?_;refine zg 9 (bs 30 1023) ge (i*7+2) [.int .i64 ex.b.1,.int .i64 ex.b.2] (range_part (H154.out.elem (f:=EdE.cells) (i:=0) rR EdE.len HEX.out) 2 2) Tryz.underlying41 zb ?_;refine zJ2 (Hp.start _) zb (bs 30 4095) 10 11 _ (.int .i64 (k:Int)) ?_;refine zu 12 (bs 30 8191) (v:= .pointer (some ⟨ge,k*7,none⟩)) zb ?_ (hv:=by intro w hSw;exact ezi (k:=k) Tryz.underlying61 (l:=(show k<(edsV rs).length by omega)) (f:=(Nat.zero_add _).symm));refine zJ1 (Hp.start _) zb (bs 30 16383) 13 _ ?_;refine zg 14 (bs 30 32767) ge (k*7) [.int .i64 ey.a.1,.int .i64 ey.a.2] (range_part (H154.out.elem (f:=EdE.cells) (i:=0) rR EdE.len HEY.out) 0 2) Tryz.underlying41 zb ?_;refine zJ2 (Hp.start _) zb (bs 30 131071) 15 16 _ (.int .i64 (k:Int)) ?_;refine zu 17 (bs 30 262143) (v:= .pointer (some ⟨ge,k*7,none⟩)) zb ?_ (hv:=by intro w hSw;exact ezi (k:=k) Tryz.underlying61 (l:=(show k<(edsV rs).length by omega)) (f:=(Nat.zero_add _).symm));refine mX 18 (bs 30 524287) (.pointer (some ⟨ge,k*7+2,none⟩)) zb ?_;refine zg 19 (bs 30 1048575) ge (k*7+2) [.int .i64 ey.b.1,.int .i64 ey.b.2] (range_part (H154.out.elem (f:=EdE.cells) (i:=0) rR EdE.len HEY.out) 2 2) Tryz.underlying41 zb ?_;refine FN.go2 (j1:=⟨25,some 7,36,[.bool false,.slice none 0 0,.bool false,.slice none 0 0]⟩) (j2:=⟨26,some 8,36,[.bool false,.slice none 0 0,.bool false,.slice none 0 0]⟩) (b:=w153) ?_ zb;refine gN 20 (bs 30 2097151) (fk (fk trivial)) zb.size (fun xq hxq=>((segments_any ex.a ex.b ey.a ey.b _ HBX.out.1 HBX.out.2.1 HBY.out.1 HBY.out.2.1).mono (fun _ _ h_=>h_.any))) (by rintro x_ e x2_ ⟨r177,s177,rfl,hx⟩;exact hx) ?_;rintro xq e w176 hxq ⟨r177,s177,rfl,hx⟩;replace hx:=hxq.trans hx;clear hxq;have H178:=zH (H158.out.step hx);have D178:=zH (show Dig w153.drew w176 from Dig.of_ext hx);have S180:=zH (zb.trans hx);clear hx;refine⟨_,rfl,?_⟩;try simp only[Act.put,zA,zB,zC]
    refine gT 21 (bs 30 4194303) _ ?_;refine gT 22 (bs 30 8388607) _ ?_;refine gT 23 (bs 30 16777215) _ ?_;refine gT 24 (bs 30 33554431) (.int .i64 (segN ex.a ex.b ey.a ey.b)) ?_;refine gE2 (bs 30 134217727) (fk (fk trivial)) S180.out.size H154.out H178.out ?_;intro X185 X186 w187 hx hh hg0 hg1 hs;have H188:=hN hh;have D188:=zH (Dig.of_ext hx);have S190:=zH (show Ext w153 w187 from hs);have G191:=zH (show w153.heap.size<=X185 from hg0);have G192:=zH (show w153.heap.size<=X186 from hg1);clear hh hx hs hg0 hg1;try simp only[Act.put,zA,zB,zC]
    refine bS 1 27 (bs 30 268435455) (rc r177) H188.out S190.out G191.out ?_;intro w193 H194 D194 S196;refine bS 2 28 (bs 30 536870911) (rc s177) H194.out S196.out G192.out ?_;intro w197 H198 D198 S200;refine zx 29 (bs 30 1073741823) (.int .i64 (segN ex.a ex.b ey.a ey.b)) S200.out ?_;refine wpAnyH_done kR ?_ _;rcases emH (segN ex.a ex.b ey.a ey.b=0)with HSG|HSG
    ·go_upto_region 15 with fail
     refine wl ?_;refine zI2 (Hp.start _) (.int .i64 (segN ex.a ex.b ey.a ey.b)) _ ?_;refine zp (.bool false) (by exact ezn (e:=(dec_f (fun h_=>h_ HSG.out)))) ?_;go_upto_region 17 with fail
     refine wl ?_;refine zp (.int .i64 ((i+1:Nat):Int)) (by exact ez1 (by omega)) ?_;refine zq (.int .i64 ((i+1:Nat):Int)) ?_;have DD208:=tD (tD (tD (tD (tD (tD (tD (tD (tD D29 D110) D119) D142) D154) D158) D178) D188) D194) D198;go_wp2_with fail
     go_roundg (k-(i+1))
     case measure=>exact(by omega)
     case rel=>exact⟨i+1,rfl,(by go_num),hik,(fun ey_ hey2_=>by obtain rfl:ey_=ey:=Option.some.inj (hey2_.symm.trans HEY.out);exact take_all HEX.out (HROW.out _ hey2_) (by unfold simP;rw[if_neg HAD.out,HDJF.out,Bool.false_or];exact decide_eq_true HSG.out)),HALL.out,H198.out.take 1,DD208.out⟩
    go_upto_region 15 with fail
    refine wl ?_;refine zI2 (Hp.start _) (.int .i64 (segN ex.a ex.b ey.a ey.b)) _ ?_;refine zp (.bool true) (by exact ezn (e:=(dec_t HSG.out))) ?_;go_upto_region 16 with fail
    refine wl ?_;refine zq (.bool false) ?_;go_wp2_with fail
    go_ret
    exact⟨by rw[show simB rs=false from by unfold simB;rw[simAll_bad HEY.out HEX.out hik (by unfold simP;rw[if_neg HAD.out,HDJF.out,Bool.false_or];exact decide_eq_false HSG.out),Bool.and_false]];rfl,H198.out.ext⟩
   have hik:=HIK.out;have hki:=HKI.out;obtain rfl:i=k:=by omega
   go_upto_region 8 with fail
   refine wl ?_;refine zp (.bool false) (by exact ezl (e:=(dec_f (Int.lt_irrefl _)))) ?_;go_upto_region 18 with fail
   refine wl ?_;refine zp (.int .i64 ((i+1:Nat):Int)) (by exact ez1 (by omega)) ?_;refine zq (.int .i64 ((i+1:Nat):Int)) ?_;have DD216:=tD D19 D29;go_wp2_with fail
   go_roundg ((edsV rs).length-(i+1))
   case measure=>exact(by omega)
   case rel=>exact⟨i+1,rfl,(by go_num),hlt,(range_all HALL.out (by unfold simRow;rw[List.getElem?_eq_getElem hlt];exact HROW.out _ (List.getElem?_eq_getElem hlt))),H29.out,DD216.out⟩
  have hlt:=HLT.out;have hkn:=HKN.out;obtain rfl:k=(edsV rs).length:=by omega
  go_upto_region 5 with fail
  refine wl ?_;refine zp (.bool false) (by exact ezl (e:=(dec_f (Int.lt_irrefl _)))) ?_;go_upto_region 19 with fail
  refine wl ?_;refine zq (.bool true) ?_;go_wp2_with fail
  go_ret
  exact⟨by rw[show simB rs=true from by unfold simB;rw[HV.out,show simAll (edsV rs)=true from HALL.out];rfl];rfl,H19.out.ext⟩
 have HV:=zH (Bool.eq_false_iff.2 HVQ.out);go_upto_region 1 with fail
 refine wl ?_;refine zI1 (Hp.start _) _ ?_;refine zc (polyValid_any _ rs _ (HU.out.ext H0.out.ext) HN.out HR.out) ?_;rintro e w220 ⟨rfl,hx⟩;have H221:=zH (H0.out.step hx);clear hx;refine⟨.bool false,by rw[HV.out],?_⟩;try simp only[Act.put,zA,zB,zC]
 refine zq (.bool true) ?_;go_upto_region 2 with fail
 refine wl ?_;refine zq (.bool false) ?_;go_wp2_with fail
 go_ret
 exact⟨by rw[show simB rs=false from by unfold simB;rw[HV.out];rfl];rfl,H221.out.ext⟩
theorem cptR2_any (L:Nat)(hL:L<=60000)(v:Value)(es:List R2E)(base:Nat)(w:World)(h:RowN w base 37 8 v es.length (es.flatMap R2E.cells))(hbase:base<=w.heap.size)(hok:∀e,e∈es->e.Ok L w)(hn:es.length<=100000000):
  Calls Tryz.prog 30 #[v,.func (.func 31) #[] #[]] w fun x w'=>∃v',x= .returned v'/\RowN w' base 37 8 v' (compactV (fun x y:R2E=>decide (x.vl=y.vl)) es).length ((compactV (fun x y:R2E=>decide (x.vl=y.vl)) es).flatMap R2E.cells)/\w.grownBy w' v.ownBlock/\Dig w w'/\v'.ownBlock=v.ownBlock:=by
 obtain⟨w0,hx0,rfl⟩:=trunc w base hbase;have HOK:=zH hok;clear hok;rcases h.2 with⟨rfl,h0⟩|⟨g,cap,rest,rfl,hb,hg,hc1,hc2,hc3,hc4⟩
 ·have he:es=[]:=List.eq_nil_of_length_eq_zero h0
  subst he;go_enter Tryz.func30,Tryz.ntmps30
  go_wp2_with fail
  go_ret
  exact⟨_,rfl,h,World.grownBy.refl _ _,Dig.refl _,rfl⟩
 have H0:=zH (Hp.one hx0 h);have HCN:=zH hc1;clear h hx0 hb hg hc2 hc3 hc4;have HFR:=zH (show Fr (fun kz=>Value.ownBlock (.slice (some ⟨g,0,none⟩) es.length cap)=some kz) w w from Fr.of_ext (Ext.refl w));go_enter Tryz.func30,Tryz.ntmps30
 go_upto_region 0 with fail
 refine wl ?_;refine zI1 (Hp.start _) _ ?_;rcases emH (es.length<2)with HS|HS
 ·go_upto_region 1 with fail
  refine wl ?_;refine zI2 (Hp.start _) _ (.int .i64 ((es.length:Nat):Int)) ?_;refine zp (.bool true) (by exact ezl (e:=(dec_t (by have ob0:=HS.out;omega)))) ?_;go_upto_region 2 with fail
  refine wl ?_;refine zI2 (Hp.start _) _ _ ?_;have hcv:compactV (fun x y:R2E=>decide (x.vl=y.vl)) es=es:=by have hs:=HS.out;match es,hs with| [],_=>rfl| [x],_=>rfl|x::y::l,hs=>exact absurd hs (by simp)
  go_wp2_with fail
  go_ret
  exact⟨_,rfl,by rw[hcv];exact H0.out.row (i:=0) (by rfl),World.grownBy.refl _ _,Dig.refl _,rfl⟩
 go_upto_region 1 with fail
 refine wl ?_;refine zI2 (Hp.start _) _ (.int .i64 ((es.length:Nat):Int)) ?_;refine zp (.bool false) (by exact ezl (e:=(dec_f (by have ob0:=HS.out;omega)))) ?_;go_upto_region 3 with fail
 refine wl ?_;refine zq (.int .i64 1) ?_;go_wp2_with fail
 go_loopg [5] (es.length) (fun cq v166 wr=>∃(j:Nat),cq=es.length-j/\v166= .int .i64 ((j+1:Nat):Int)/\(j+1<=es.length)/\(compactV (fun x y:R2E=>decide (x.vl=y.vl)) (es.take (j+1))=es.take (j+1))/\(Fr (fun kz=>Value.ownBlock (.slice (some ⟨g,0,none⟩) es.length cap)=some kz) w wr)/\Hp w0 wr [.row 37 8 (.slice (some ⟨g,0,none⟩) es.length cap) (es.length) (List.flatMap R2E.cells es)]/\Dig w wr)
 case atStart=>exact⟨0,rfl,rfl,(by have h_:=HS.out;omega),(by have hs:=HS.out;match es,hs with| [],hs=>exact absurd hs (by decide)|x::l,_=>rfl),HFR.out,H0.out,Dig.refl _⟩
 obtain⟨j,rfl,rfl,q_HK,q_HCV,q_HFR,hh_,hd_⟩:=hrel;generalize wr=w167 at*
 have HK:=zH q_HK;clear q_HK;have HCV:=zH q_HCV;clear q_HCV;have HFR:=zH q_HFR;clear q_HFR;have H169:=zH hh_;have D169:=zH hd_;clear hh_ hd_;rcases emH (j+1<es.length)with HLT|HLT
 ·go_upto_region 4 with fail
  refine wl ?_;refine zI3 (Hp.start _) (.int .i64 ((j+1:Nat):Int)) _ (.int .i64 ((es.length:Nat):Int)) ?_;refine zp (.bool true) (by exact ezl (e:=(dec_t (by have ob0:=HK.out;have ob1:=HLT.out;omega)))) ?_;obtain⟨e,he⟩:∃e,es[j+1]?=some e:=⟨_,List.getElem?_eq_getElem HLT.out⟩;obtain⟨f,hf⟩:∃f,es[j]?=some f:=⟨_,List.getElem?_eq_getElem (by have h_:=HLT.out;omega)⟩;have HQe:=zH he;have ho_:=HOK.out e (List.mem_of_getElem? he);have HAe:=zH ho_.1;have HZe:=zH ho_.2.1;have BAe:=zH ho_.2.2.1;have BZe:=zH ho_.2.2.2;clear he ho_;have HQf:=zH hf;have ho_:=HOK.out f (List.mem_of_getElem? hf);have HAf:=zH ho_.1;have HZf:=zH ho_.2.1;have BAf:=zH ho_.2.2.1;have BZf:=zH ho_.2.2.2;clear hf ho_;have HST:=zH (compact_step (eqv:=(fun x y:R2E=>decide (x.vl=y.vl))) HQe.out HQf.out);rcases emH (e.vl=f.vl)with HEQ|HEQ
  ·go_upto_region 6 with fail
   refine zy ?_;have H176:=zH (H169.out.step (Ext.refl w167).drew);have D176:=zH (Dig.of_ext (w:=w167) zb);have K178:=zH (HFR.out.trans (Fr.of_ext (Ext.refl w167).drew));refine zJ3 (Hp.start _) zb (bs 11 7) 0 1 2 _ _ (.int .i64 ((j+1:Nat):Int)) ?_;refine zo 3 (bs 11 15) (v:= .pointer (some ⟨g,(j+1)*8,none⟩)) zb ?_ (hv:=by intro w hSw;exact ezi (k:=j+1) Tryz.underlying27 (l:=(by have h_:=HLT.out;omega)) (f:=(Nat.zero_add _).symm));refine zg 4 (bs 11 31) g ((j+1)*8) [.bool e.a.n,.slice e.a.p e.a.l e.a.c,.bool e.a.m,.slice e.a.p2 e.a.l2 e.a.c2,.bool e.b.n,.slice e.b.p e.b.l e.b.c,.bool e.b.m,.slice e.b.p2 e.b.l2 e.b.c2] (H169.out.elem (f:=R2E.cells) (i:=0) rR R2E.len HQe.out) Tryz.underlying37 zb ?_;refine zJ2 (Hp.start _) zb (bs 11 127) 5 6 _ (.int .i64 ((j+1:Nat):Int)) ?_;refine zu 7 (bs 11 255) (v:= .int .i64 (j:Int)) zb ?_ (hv:=by intro w hSw;exact ez2 (by have ob0:=HK.out;have ob1:=HLT.out;omega));refine zo 8 (bs 11 511) (v:= .pointer (some ⟨g,j*8,none⟩)) zb ?_ (hv:=by intro w hSw;exact ezi (k:=j) Tryz.underlying27 (l:=(by have h_:=HLT.out;omega)) (f:=(Nat.zero_add _).symm));refine zg 9 (bs 11 1023) g (j*8) [.bool f.a.n,.slice f.a.p f.a.l f.a.c,.bool f.a.m,.slice f.a.p2 f.a.l2 f.a.c2,.bool f.b.n,.slice f.b.p f.b.l f.b.c,.bool f.b.m,.slice f.b.p2 f.b.l2 f.b.c2] (H169.out.elem (f:=R2E.cells) (i:=0) rR R2E.len HQf.out) Tryz.underlying37 zb ?_;have DD188:=tD D169 D176;refine mC 10 (bs 11 2047) (intEq_any L hL _ e f ⟨(HAe.out.dig DD188.out),(HZe.out.dig DD188.out),BAe.out,BZe.out⟩ ⟨(HAf.out.dig DD188.out),(HZf.out.dig DD188.out),BAf.out,BZf.out⟩) ?_;rintro e w187 ⟨rfl,hx⟩;have H189:=zH (H176.out.step hx);have D189:=zH (show Dig w167.drew w187 from Dig.of_ext hx);have K191:=zH (K178.out.trans (Fr.of_ext hx));have S192:=zH (zb.trans hx);clear hx;refine⟨.bool true,by rw[decide_eq_true HEQ.out],S192.out,?_⟩;try simp only[Act.put,zA,zB,zC]
   refine wpAnyH_done kR ?_ _;obtain⟨d,hd⟩:∃d,es.length=j+1+d:=⟨es.length-(j+1),by have h_:=HLT.out;omega⟩;obtain⟨c2,hc2⟩:∃c2,cap=j+1+c2:=⟨cap-(j+1),by have h_:=HLT.out;have h2_:=HCN.out;omega⟩;have HD:=zH hd;have HC2:=zH hc2;clear hd hc2;go_upto_region 7 with fail
   refine wl ?_;refine zI2 (Hp.start _) _ (.int .i64 ((j+1:Nat):Int)) ?_;refine zp (.slice (some ⟨g,(j+1)*8,none⟩) d c2) (by exact ev_drop rR Tryz.underlying27 kR rR rR (by first|rfl|omega) HD.out (by have ob0:=HK.out;have ob1:=HLT.out;have ob2:=HD.out;have ob3:=HC2.out;have ob4:=HCN.out;omega) HC2.out (by have ob0:=HK.out;have ob1:=HLT.out;have ob2:=HD.out;have ob3:=HC2.out;have ob4:=HCN.out;omega)) ?_;refine zq (.slice (some ⟨g,(j+1)*8,none⟩) d c2) ?_;go_upto_region 8 with fail
   refine wl ?_;refine zq (.int .i64 1) ?_;go_wp2_with fail
   go_loopg [5,7] (d) (fun cq v198 v199 wr=>∃(i:Nat) (k:Nat) (ds:List R2E),cq=d-i/\v198= .int .i64 (k:Int)/\v199= .int .i64 ((i+1:Nat):Int)/\(i+1<=d)/\(k<j+1+(i+1))/\(ds.length=es.length)/\(ds.take k=compactV (fun x y:R2E=>decide (x.vl=y.vl)) (es.take (j+1+(i+1))))/\(ds.drop (j+1+i)=es.drop (j+1+i))/\(Fr (fun kz=>Value.ownBlock (.slice (some ⟨g,0,none⟩) es.length cap)=some kz) w wr)/\Hp w0 wr [.row 37 8 (.slice (some ⟨g,0,none⟩) es.length cap) (es.length) (List.flatMap R2E.cells ds)]/\Dig w187 wr)
   case atStart=>exact⟨0,j+1,es,rfl,rfl,rfl,(by have h_:=HLT.out;have h2_:=HD.out;omega),(by omega),rfl,(by rw[show j+1+(0+1)=j+1+1 by omega,HST.out,if_pos (decide_eq_true HEQ.out),List.append_nil];exact HCV.out.symm),rfl,K191.out,H189.out,Dig.refl _⟩
   obtain⟨i,k,ds,rfl,rfl,rfl,q_HI,q_HKI,q_HDL,q_HD2,q_HD3,q_HFR,hh_,hd_⟩:=hrel;generalize wr=w200 at*
   have HI:=zH q_HI;clear q_HI;have HKI:=zH q_HKI;clear q_HKI;have HDL:=zH q_HDL;clear q_HDL;have HD2:=zH q_HD2;clear q_HD2;have HD3:=zH q_HD3;clear q_HD3;have HFR:=zH q_HFR;clear q_HFR;have H202:=zH hh_;have D202:=zH hd_;clear hh_ hd_ H189;rcases emH (i+1<d)with HLT2|HLT2
   ·go_upto_region 9 with fail
    refine wl ?_;refine zI3 (Hp.start _) (.int .i64 ((i+1:Nat):Int)) (.slice (some ⟨g,(j+1)*8,none⟩) d c2) (.int .i64 (d:Int)) ?_;refine zp (.bool true) (by exact ezl (e:=(dec_t (by have ob0:=HI.out;have ob1:=HKI.out;have ob2:=HD.out;have ob3:=HC2.out;have ob4:=HCN.out;have ob5:=HDL.out;have ob6:=HLT2.out;omega)))) ?_;obtain⟨e2,he2⟩:∃e2,es[j+1+i+1]?=some e2:=⟨_,List.getElem?_eq_getElem (by have h_:=HLT2.out;have h2_:=HD.out;omega)⟩;obtain⟨f2,hf2⟩:∃f2,es[j+1+i]?=some f2:=⟨_,List.getElem?_eq_getElem (by have h_:=HLT2.out;have h2_:=HD.out;omega)⟩;have HQe2:=zH he2;have ho_:=HOK.out e2 (List.mem_of_getElem? he2);have HAe2:=zH ho_.1;have HZe2:=zH ho_.2.1;have BAe2:=zH ho_.2.2.1;have BZe2:=zH ho_.2.2.2;clear he2 ho_;have HQf2:=zH hf2;have ho_:=HOK.out f2 (List.mem_of_getElem? hf2);have HAf2:=zH ho_.1;have HZf2:=zH ho_.2.1;have BAf2:=zH ho_.2.2.1;have BZf2:=zH ho_.2.2.2;clear hf2 ho_;have HRe2:=zH (show ds[j+1+(i+1)]?=some e2 from(get_of_drop HD3.out (by omega)).trans HQe2.out);have HRf2:=zH (show ds[j+1+i]?=some f2 from(get_of_drop HD3.out (by omega)).trans HQf2.out);have HST2:=zH (compact_step (eqv:=(fun x y:R2E=>decide (x.vl=y.vl))) HQe2.out HQf2.out);rcases emH (e2.vl=f2.vl)with HEQ2|HEQ2
    ·go_upto_region 11 with fail
     refine zy ?_;have H209:=zH (H202.out.step (Ext.refl w200).drew);have D209:=zH (Dig.of_ext (w:=w200) zb);have K211:=zH (HFR.out.trans (Fr.of_ext (Ext.refl w200).drew));refine zJ3 (Hp.start _) zb (bs 12 7) 0 1 2 _ (.slice (some ⟨g,(j+1)*8,none⟩) d c2) (.int .i64 ((i+1:Nat):Int)) ?_;refine zo 3 (bs 12 15) (v:= .pointer (some ⟨g,(j+1)*8+(i+1)*8,none⟩)) zb ?_ (hv:=by intro w hSw;exact ezi (k:=i+1) Tryz.underlying27 (l:=(by have h_:=HLT2.out;omega)) (f:=rfl));refine zg 4 (bs 12 31) g ((j+1)*8+(i+1)*8) [.bool e2.a.n,.slice e2.a.p e2.a.l e2.a.c,.bool e2.a.m,.slice e2.a.p2 e2.a.l2 e2.a.c2,.bool e2.b.n,.slice e2.b.p e2.b.l e2.b.c,.bool e2.b.m,.slice e2.b.p2 e2.b.l2 e2.b.c2] (elem_off (H202.out.elem (f:=R2E.cells) (i:=0) rR R2E.len HRe2.out)) Tryz.underlying37 zb ?_;refine zJ2 (Hp.start _) zb (bs 12 127) 5 6 (.slice (some ⟨g,(j+1)*8,none⟩) d c2) (.int .i64 ((i+1:Nat):Int)) ?_;refine zu 7 (bs 12 255) (v:= .int .i64 (i:Int)) zb ?_ (hv:=by intro w hSw;exact ez2 (by have ob0:=HI.out;have ob1:=HKI.out;have ob2:=HD.out;have ob3:=HC2.out;have ob4:=HCN.out;have ob5:=HDL.out;have ob6:=HLT2.out;omega));refine zo 8 (bs 12 511) (v:= .pointer (some ⟨g,(j+1)*8+i*8,none⟩)) zb ?_ (hv:=by intro w hSw;exact ezi (k:=i) Tryz.underlying27 (l:=(by have h_:=HLT2.out;omega)) (f:=rfl));refine zg 9 (bs 12 1023) g ((j+1)*8+i*8) [.bool f2.a.n,.slice f2.a.p f2.a.l f2.a.c,.bool f2.a.m,.slice f2.a.p2 f2.a.l2 f2.a.c2,.bool f2.b.n,.slice f2.b.p f2.b.l f2.b.c,.bool f2.b.m,.slice f2.b.p2 f2.b.l2 f2.b.c2] (elem_off (H202.out.elem (f:=R2E.cells) (i:=0) rR R2E.len HRf2.out)) Tryz.underlying37 zb ?_;have DD221:=tD (tD (tD DD188 D189) D202) D209;refine mC 10 (bs 12 2047) (intEq_any L hL _ e2 f2 ⟨(HAe2.out.dig DD221.out),(HZe2.out.dig DD221.out),BAe2.out,BZe2.out⟩ ⟨(HAf2.out.dig DD221.out),(HZf2.out.dig DD221.out),BAf2.out,BZf2.out⟩) ?_;rintro e w220 ⟨rfl,hx⟩;have H222:=zH (H209.out.step hx);have D222:=zH (show Dig w200.drew w220 from Dig.of_ext hx);have K224:=zH (K211.out.trans (Fr.of_ext hx));have S225:=zH (zb.trans hx);clear hx;refine⟨.bool true,by rw[decide_eq_true HEQ2.out],S225.out,?_⟩;try simp only[Act.put,zA,zB,zC]
     refine zx 11 (bs 12 4095) (.bool false) S225.out ?_;refine wpAnyH_done kR ?_ _;go_upto_region 10 with fail
     refine wl ?_;refine zq (.int .i64 ((i+1:Nat):Int)) ?_;refine zp (.int .i64 ((i+2:Nat):Int)) (by exact ez1 (by have ob0:=HI.out;have ob1:=HKI.out;have ob2:=HD.out;have ob3:=HC2.out;have ob4:=HCN.out;have ob5:=HDL.out;have ob6:=HLT2.out;omega)) ?_;refine zq (.int .i64 ((i+2:Nat):Int)) ?_;have DD230:=tD (tD D202 D209) D222;go_wp2_with fail
     go_roundg (d-(i+1))
     case measure=>exact(by have ob0:=HI.out;have ob1:=HKI.out;have ob2:=HD.out;have ob3:=HC2.out;have ob4:=HCN.out;have ob5:=HDL.out;have ob6:=HLT2.out;have ob8:=(show i<d from by have h_:=HLT2.out;omega);omega)
     case rel=>exact⟨i+1,k,ds,rfl,rfl,(by go_num),HLT2.out,(by have h_:=HKI.out;omega),HDL.out,(by rw[show j+1+(i+1+1)=j+1+i+1+1 by omega,HST2.out,if_pos (decide_eq_true HEQ2.out),List.append_nil];exact HD2.out),(by rw[show j+1+(i+1)=(j+1+i)+1 by omega,<-List.drop_drop,HD3.out,List.drop_drop]),K224.out,H222.out,DD230.out⟩
    go_upto_region 11 with fail
    refine zy ?_;have H231:=zH (H202.out.step (Ext.refl w200).drew);have D231:=zH (Dig.of_ext (w:=w200) zb);have K233:=zH (HFR.out.trans (Fr.of_ext (Ext.refl w200).drew));refine zJ3 (Hp.start _) zb (bs 12 7) 0 1 2 _ (.slice (some ⟨g,(j+1)*8,none⟩) d c2) (.int .i64 ((i+1:Nat):Int)) ?_;refine zo 3 (bs 12 15) (v:= .pointer (some ⟨g,(j+1)*8+(i+1)*8,none⟩)) zb ?_ (hv:=by intro w hSw;exact ezi (k:=i+1) Tryz.underlying27 (l:=(by have h_:=HLT2.out;omega)) (f:=rfl));refine zg 4 (bs 12 31) g ((j+1)*8+(i+1)*8) [.bool e2.a.n,.slice e2.a.p e2.a.l e2.a.c,.bool e2.a.m,.slice e2.a.p2 e2.a.l2 e2.a.c2,.bool e2.b.n,.slice e2.b.p e2.b.l e2.b.c,.bool e2.b.m,.slice e2.b.p2 e2.b.l2 e2.b.c2] (elem_off (H202.out.elem (f:=R2E.cells) (i:=0) rR R2E.len HRe2.out)) Tryz.underlying37 zb ?_;refine zJ2 (Hp.start _) zb (bs 12 127) 5 6 (.slice (some ⟨g,(j+1)*8,none⟩) d c2) (.int .i64 ((i+1:Nat):Int)) ?_;refine zu 7 (bs 12 255) (v:= .int .i64 (i:Int)) zb ?_ (hv:=by intro w hSw;exact ez2 (by have ob0:=HI.out;have ob1:=HKI.out;have ob2:=HD.out;have ob3:=HC2.out;have ob4:=HCN.out;have ob5:=HDL.out;have ob6:=HLT2.out;omega));refine zo 8 (bs 12 511) (v:= .pointer (some ⟨g,(j+1)*8+i*8,none⟩)) zb ?_ (hv:=by intro w hSw;exact ezi (k:=i) Tryz.underlying27 (l:=(by have h_:=HLT2.out;omega)) (f:=rfl));refine zg 9 (bs 12 1023) g ((j+1)*8+i*8) [.bool f2.a.n,.slice f2.a.p f2.a.l f2.a.c,.bool f2.a.m,.slice f2.a.p2 f2.a.l2 f2.a.c2,.bool f2.b.n,.slice f2.b.p f2.b.l f2.b.c,.bool f2.b.m,.slice f2.b.p2 f2.b.l2 f2.b.c2] (elem_off (H202.out.elem (f:=R2E.cells) (i:=0) rR R2E.len HRf2.out)) Tryz.underlying37 zb ?_;have DD243:=tD (tD (tD DD188 D189) D202) D231;refine mC 10 (bs 12 2047) (intEq_any L hL _ e2 f2 ⟨(HAe2.out.dig DD243.out),(HZe2.out.dig DD243.out),BAe2.out,BZe2.out⟩ ⟨(HAf2.out.dig DD243.out),(HZf2.out.dig DD243.out),BAf2.out,BZf2.out⟩) ?_;rintro e w242 ⟨rfl,hx⟩;have H244:=zH (H231.out.step hx);have D244:=zH (show Dig w200.drew w242 from Dig.of_ext hx);have K246:=zH (K233.out.trans (Fr.of_ext hx));have S247:=zH (zb.trans hx);clear hx;refine⟨.bool false,by rw[decide_eq_false HEQ2.out],S247.out,?_⟩;try simp only[Act.put,zA,zB,zC]
    refine zx 11 (bs 12 4095) (.bool true) S247.out ?_;refine wpAnyH_done kR ?_ _;go_upto_region 12 with fail
    refine wl ?_;refine zI4 (Hp.start _) _ (.int .i64 (k:Int)) (.slice (some ⟨g,(j+1)*8,none⟩) d c2) (.int .i64 ((i+1:Nat):Int)) ?_;refine zp (.pointer (some ⟨g,(j+1)*8+(i+1)*8,none⟩)) (by exact ezi (k:=i+1) Tryz.underlying27 (l:=(by have h_:=HLT2.out;omega)) (f:=rfl)) ?_;refine zd g ((j+1)*8+(i+1)*8) [.bool e2.a.n,.slice e2.a.p e2.a.l e2.a.c,.bool e2.a.m,.slice e2.a.p2 e2.a.l2 e2.a.c2,.bool e2.b.n,.slice e2.b.p e2.b.l e2.b.c,.bool e2.b.m,.slice e2.b.p2 e2.b.l2 e2.b.c2] (elem_off (H244.out.elem (f:=R2E.cells) (i:=0) rR R2E.len HRe2.out)) Tryz.underlying37 ?_;refine zp (.pointer (some ⟨g,k*8,none⟩)) (by exact ezi (k:=k) Tryz.underlying27 (l:=(by have h_:=HKI.out;have h1_:=HLT2.out;have h2_:=HD.out;omega)) (f:=(Nat.zero_add _).symm)) ?_;refine mv_stElem (f:=R2E.cells) rR _ _ _ rR H244.out (ix:=0) rR R2E.len k e2 (by have h_:=HKI.out;have h1_:=HLT2.out;have h2_:=HD.out;have h3_:=HDL.out;omega) [.bool e2.a.n,.slice e2.a.p e2.a.l e2.a.c,.bool e2.a.m,.slice e2.a.p2 e2.a.l2 e2.a.c2,.bool e2.b.n,.slice e2.b.p e2.b.l e2.b.c,.bool e2.b.m,.slice e2.b.p2 e2.b.l2 e2.b.c2] rR (k*8) rR rR rR kR (by simp[Value.oneCell']) (by simp[NoUL]) ?_;intro w256 hh hd ho;have H257:=hN hh;have D257:=zH (hd);have K259:=zH (K246.out.trans_new ho (fun j hj=> .inl hj));clear hh hd ho
    (try simp only[Act.put])
    go_upto_region 13 with fail
    refine wl ?_;refine zq (.int .i64 (k:Int)) ?_;refine zp (.int .i64 ((k+1:Nat):Int)) (by exact ez1 (by have ob0:=HI.out;have ob1:=HKI.out;have ob2:=HD.out;have ob3:=HC2.out;have ob4:=HCN.out;have ob5:=HDL.out;have ob6:=HLT2.out;omega)) ?_;refine zq (.int .i64 ((k+1:Nat):Int)) ?_;go_upto_region 10 with fail
    refine wl ?_;refine zq (.int .i64 ((i+1:Nat):Int)) ?_;refine zp (.int .i64 ((i+2:Nat):Int)) (by exact ez1 (by have ob0:=HI.out;have ob1:=HKI.out;have ob2:=HD.out;have ob3:=HC2.out;have ob4:=HCN.out;have ob5:=HDL.out;have ob6:=HLT2.out;omega)) ?_;refine zq (.int .i64 ((i+2:Nat):Int)) ?_;have DD266:=tD (tD (tD D202 D231) D244) D257;go_wp2_with fail
    go_roundg (d-(i+1))
    case measure=>exact(by have ob0:=HI.out;have ob1:=HKI.out;have ob2:=HD.out;have ob3:=HC2.out;have ob4:=HCN.out;have ob5:=HDL.out;have ob6:=HLT2.out;have ob8:=(show i<d from by have h_:=HLT2.out;omega);omega)
    case rel=>exact⟨i+1,k+1,(ds.set k e2),rfl,(by go_num),(by go_num),HLT2.out,(by have h_:=HKI.out;omega),(by rw[List.length_set];exact HDL.out),(by rw[show j+1+(i+1+1)=j+1+i+1+1 by omega,HST2.out,if_neg (by rw[decide_eq_false HEQ2.out];decide),take_set_snoc (by have h_:=HKI.out;have h1_:=HLT2.out;have h2_:=HD.out;have h3_:=HDL.out;omega)];exact congrArg (· ++[e2]) HD2.out),(by rw[List.drop_set_of_lt (by have h_:=HKI.out;omega),show j+1+(i+1)=(j+1+i)+1 by omega,<-List.drop_drop,HD3.out,List.drop_drop]),K259.out,H257.out,DD266.out⟩
   go_upto_region 9 with fail
   refine wl ?_;refine zI3 (Hp.start _) (.int .i64 ((i+1:Nat):Int)) (.slice (some ⟨g,(j+1)*8,none⟩) d c2) (.int .i64 (d:Int)) ?_;refine zp (.bool false) (by exact ezl (e:=(dec_f (by have ob0:=HI.out;have ob1:=HKI.out;have ob2:=HD.out;have ob3:=HC2.out;have ob4:=HCN.out;have ob5:=HDL.out;have ob6:=HLT2.out;omega)))) ?_;have hid_:i+1=d:=by have h_:=HLT2.out;have h2_:=HI.out;omega
   have HTK:=zH (show ds.take k=compactV (fun x y:R2E=>decide (x.vl=y.vl)) es from by rw[HD2.out,show j+1+(i+1)=es.length by rw[HD.out];omega,List.take_of_length_le (Nat.le_refl _)]);obtain⟨d3,hd3⟩:∃d3,es.length=k+d3:=⟨es.length-k,by have h_:=HKI.out;have h2_:=HD.out;omega⟩;obtain⟨c3,hc3⟩:∃c3,cap=k+c3:=⟨cap-k,by have h_:=HKI.out;have h2_:=HD.out;have h3_:=HCN.out;omega⟩;have HD4:=zH hd3;have HC3:=zH hc3;have hd0:0<d3:=by have h_:=HKI.out;have h2_:=HD.out;omega
   have HD0:=zH hd0;clear hd3 hc3 hid_ hd0;go_upto_region 14 with fail
   refine wl ?_;refine zI2 (Hp.start _) _ (.int .i64 (k:Int)) ?_;refine zp (.slice (some ⟨g,k*8,none⟩) d3 c3) (by exact ev_drop rR Tryz.underlying27 kR rR rR (by first|rfl|omega) HD4.out HD0.out HC3.out (by have ob0:=HI.out;have ob1:=HKI.out;have ob2:=HD.out;have ob3:=HC2.out;have ob4:=HCN.out;have ob5:=HDL.out;have ob6:=HLT2.out;have ob7:=HD4.out;have ob8:=HC3.out;have ob9:=HD0.out;omega)) ?_;refine mv_clear (f:=R2E.cells) rR _ 27 rR H202.out (ix:=0) rR R2E.len HDL.out k c3 (by have h_:=HD4.out;have h2_:=HD0.out;omega) (by rw[show es.length-k=d3 by have h_:=HD4.out;omega];rfl) Tryz.underlying27 (.agg z8) Tryz.zeroValue37 rfl (by simp[Value.cells,Value.oneCell']) (by simp[Value.cells,NoUL]) dC ?_;intro w274 hh hd ho;have H275:=hN hh;have D275:=zH (hd);have K277:=zH (HFR.out.trans_new ho (fun j hj=> .inl hj));clear hh hd ho;try simp only[Act.put,zA,zB,zC]
   go_upto_region 15 with fail
   refine wl ?_;refine zI2 (Hp.start _) _ (.int .i64 (k:Int)) ?_;refine zp (.slice (some ⟨g,0,none⟩) k cap) (by exact ev_head (size:=8) rR Tryz.underlying27 kR rR rR (by first|rfl|omega) (by have h_:=HD4.out;omega) HCN.out (by have h_:=HC3.out;have h2_:=HD4.out;have h3_:=HCN.out;have h4_:=HD0.out;omega)) ?_;refine zI1 (Hp.start _) _ ?_;have HRW:=zH (H275.out.row (i:=0) (by rfl));have hlen:(ds.take k).length=k:=by rw[List.length_take,HDL.out,HD4.out];omega
   rw[HTK.out]at hlen HRW;go_wp2_with fail
   go_ret
   exact⟨_,rfl,by rw[hlen];exact HRW.out,K277.out.grownBy,((((D169.out.trans D176.out).trans D189.out).trans D202.out).trans D275.out),rfl⟩
  go_upto_region 6 with fail
  refine zy ?_;have H282:=zH (H169.out.step (Ext.refl w167).drew);have D282:=zH (Dig.of_ext (w:=w167) zb);have K284:=zH (HFR.out.trans (Fr.of_ext (Ext.refl w167).drew));refine zJ3 (Hp.start _) zb (bs 11 7) 0 1 2 _ _ (.int .i64 ((j+1:Nat):Int)) ?_;refine zo 3 (bs 11 15) (v:= .pointer (some ⟨g,(j+1)*8,none⟩)) zb ?_ (hv:=by intro w hSw;exact ezi (k:=j+1) Tryz.underlying27 (l:=(by have h_:=HLT.out;omega)) (f:=(Nat.zero_add _).symm));refine zg 4 (bs 11 31) g ((j+1)*8) [.bool e.a.n,.slice e.a.p e.a.l e.a.c,.bool e.a.m,.slice e.a.p2 e.a.l2 e.a.c2,.bool e.b.n,.slice e.b.p e.b.l e.b.c,.bool e.b.m,.slice e.b.p2 e.b.l2 e.b.c2] (H169.out.elem (f:=R2E.cells) (i:=0) rR R2E.len HQe.out) Tryz.underlying37 zb ?_;refine zJ2 (Hp.start _) zb (bs 11 127) 5 6 _ (.int .i64 ((j+1:Nat):Int)) ?_;refine zu 7 (bs 11 255) (v:= .int .i64 (j:Int)) zb ?_ (hv:=by intro w hSw;exact ez2 (by have ob0:=HK.out;have ob1:=HLT.out;omega));refine zo 8 (bs 11 511) (v:= .pointer (some ⟨g,j*8,none⟩)) zb ?_ (hv:=by intro w hSw;exact ezi (k:=j) Tryz.underlying27 (l:=(by have h_:=HLT.out;omega)) (f:=(Nat.zero_add _).symm));refine zg 9 (bs 11 1023) g (j*8) [.bool f.a.n,.slice f.a.p f.a.l f.a.c,.bool f.a.m,.slice f.a.p2 f.a.l2 f.a.c2,.bool f.b.n,.slice f.b.p f.b.l f.b.c,.bool f.b.m,.slice f.b.p2 f.b.l2 f.b.c2] (H169.out.elem (f:=R2E.cells) (i:=0) rR R2E.len HQf.out) Tryz.underlying37 zb ?_;have DD294:=tD D169 D282;refine mC 10 (bs 11 2047) (intEq_any L hL _ e f ⟨(HAe.out.dig DD294.out),(HZe.out.dig DD294.out),BAe.out,BZe.out⟩ ⟨(HAf.out.dig DD294.out),(HZf.out.dig DD294.out),BAf.out,BZf.out⟩) ?_;rintro e w293 ⟨rfl,hx⟩;have H295:=zH (H282.out.step hx);have D295:=zH (show Dig w167.drew w293 from Dig.of_ext hx);have K297:=zH (K284.out.trans (Fr.of_ext hx));have S298:=zH (zb.trans hx);clear hx;refine⟨.bool false,by rw[decide_eq_false HEQ.out],S298.out,?_⟩;try simp only[Act.put,zA,zB,zC]
  refine wpAnyH_done kR ?_ _;go_upto_region 5 with fail
  refine wl ?_;refine zq (.int .i64 ((j+1:Nat):Int)) ?_;refine zp (.int .i64 ((j+2:Nat):Int)) (by exact ez1 (by have ob0:=HK.out;have ob1:=HLT.out;omega)) ?_;refine zq (.int .i64 ((j+2:Nat):Int)) ?_;have DD302:=tD DD294 D295;go_wp2_with fail
  go_roundg (es.length-(j+1))
  case measure=>exact(by have ob0:=HK.out;have ob1:=HLT.out;have ob3:=(show j<es.length from by have h_:=HLT.out;omega);omega)
  case rel=>exact⟨j+1,rfl,(by go_num),HLT.out,(by rw[HST.out,if_neg (by rw[decide_eq_false HEQ.out];decide),HCV.out,List.take_add_one (i:=j+1),HQe.out];rfl),K297.out,H295.out,DD302.out⟩
 go_upto_region 4 with fail
 refine wl ?_;refine zI3 (Hp.start _) (.int .i64 ((j+1:Nat):Int)) _ (.int .i64 ((es.length:Nat):Int)) ?_;refine zp (.bool false) (by exact ezl (e:=(dec_f (by have ob0:=HK.out;have ob1:=HLT.out;omega)))) ?_;go_upto_region 16 with fail
 refine wl ?_;refine zI2 (Hp.start _) _ _ ?_;have hcv:compactV (fun x y:R2E=>decide (x.vl=y.vl)) es=es:=by have h_:=HCV.out;rwa[show j+1=es.length by have h2_:=HLT.out;have h3_:=HK.out;omega,List.take_of_length_le (Nat.le_refl _)]at h_
 go_wp2_with fail
 go_ret
 exact⟨_,rfl,by rw[hcv];exact H169.out.row (i:=0) (by rfl),HFR.out.grownBy,D169.out,rfl⟩
end Go.Proofs.YtiokhlgdelipdabGreat
namespace Go.Proofs.YtiokhlgdelipdabGreat
open Go.RowKit
attribute [local go_sem ↓] Go.wp_at_zero Go.wp_at_succ run_max_ii run_min_ii
open Go.RowKit
theorem elRR:ElT Tryz.prog 27 37 8 128:=ElT.of (z:= .agg z8) Tryz.underlying27 (by kernel_rfl) rfl (by simp[NoUL,Value.cells]) (by decide)
theorem elInts:ElT Tryz.prog 28 38 1 24:=ElT.of (z:= .slice none 0 0) Tryz.underlying28 (by kernel_rfl) rfl (by simp[NoUL,Value.cells]) (by decide)
def crP (x y:EdE):List (Rat×Rat):=if adjB x y=true\/djB x y=true then[]else if segN x.a x.b y.a y.b=1 then[(segX x.a x.b y.a y.b,segY x.a x.b y.a y.b)]else[]
def crRow (es:List EdE)(k:Nat):List (Rat×Rat):=match es[k]?with|some y=>(es.take k).flatMap (fun x=>crP x y)|none=>[]
def crAll (es:List EdE):List (Rat×Rat):=(List.range es.length).flatMap (crRow es)
def onAt (es:List EdE)(p:Rat×Rat)(i:Nat):Bool:=match es[i]?with|some e=>decide (conC e p)|none=>false
def onV (es:List EdE)(p:Rat×Rat):List Nat:=(List.range es.length).filter (onAt es p)
theorem onV_succ {es:List EdE}{p:Rat×Rat}{i:Nat}{e:EdE}(h:es[i]?=some e):(List.range (i+1)).filter (onAt es p)=(List.range i).filter (onAt es p)++(if conC e p then[i]else[]):=by
  rw[List.range_succ,List.filter_append];congr 1;by_cases hc:conC e p
  · rw[if_pos hc];simp[onAt,h,hc]
  rw[if_neg hc];simp[onAt,h,hc]
theorem crTake_succ {es:List EdE}{i:Nat}{x y:EdE}(h:es[i]?=some x):(es.take (i+1)).flatMap (fun x=>crP x y)=(es.take i).flatMap (fun x=>crP x y)++crP x y:=by
  rw[List.take_add_one,h,List.flatMap_append];simp
theorem crRange_succ {es:List EdE}{k:Nat}{y:EdE}(h:es[k]?=some y):(List.range (k+1)).flatMap (crRow es)=(List.range k).flatMap (crRow es)++(es.take k).flatMap (fun x=>crP x y):=by
  rw[List.range_succ,List.flatMap_append];simp[crRow,h]
def iC (i:Nat):List Value:=[.int .i64 (i:Int)]
theorem iC_len (i:Nat):(iC i).length=1:=rfl
structure OnE where
  A:Option Addr
  c:Nat
  l:List Nat
def OnE.cells (o:OnE):List Value:=[.slice o.A o.l.length o.c]
theorem OnE.len (o:OnE):o.cells.length=1:=rfl
def OnE.Ok (b:Nat)(w:World)(o:OnE):Prop:=RowN w b 3 1 (.slice o.A o.l.length o.c) o.l.length (o.l.flatMap iC)
theorem OnE.Ok.fr {b:Nat}{w0 W W':World}{m:List Ent}{ix n:Nat}{v:Value}{xs:List Value}{o:OnE}(h:o.Ok b W)(H:Hp w0 W m)(hi:m[ix]?=some (.row 38 1 v n xs))(x:Fr (fun k=>v.ownBlock=some k) W W'):o.Ok b W':=by
  obtain⟨h1,h2|⟨g,cap,rest,h3,h4,h5,h6⟩⟩:=h
  · exact⟨h1,.inl h2⟩
  refine⟨h1,.inr ⟨g,cap,rest,h3,h4,?_,h6⟩⟩;have h7:Blk W g 3 _:=h5;refine(x.block g h7.lt (fun hk=> ?_)).trans h7;have h8:=H.typ hi h7 (by exact hk);exact absurd (show(38:TypeId)=3 from h8) (by decide)
theorem OnE.Ok.ext {b:Nat}{W W':World}{o:OnE}(h:o.Ok b W)(x:Ext W W'):o.Ok b W':=RowN.ext h x
theorem RowN.low {w:World}{b b':Nat}{t:TypeId}{size:Nat}{v:Value}{n:Nat}{xs:List Value}(h:RowN w b t size v n xs)(hb:b'<=b):RowN w b' t size v n xs:=by
  obtain⟨h1,h2|⟨g,cap,rest,h3,h4,h5⟩⟩:=h
  · exact⟨h1,.inl h2⟩
  exact⟨h1,.inr ⟨g,cap,rest,h3,Nat.le_trans hb h4,h5⟩⟩
theorem cmp2_tr {a b c:Rat×Rat}(h1:¬cmp2 b a<0)(h2:cmp2 b c<0):cmp2 a c<0:=by
  rw[cmp2_lt]at h1 h2⊢;obtain⟨a1,a2⟩:=a;obtain⟨b1,b2⟩:=b;obtain⟨c1,c2⟩:=c;simp only at h1 h2⊢;grind
theorem cmp2_st {x y:Rat×Rat}(h1:¬cmp2 x y<0)(h2:x≠y):cmp2 y x<0:=by
  rw[cmp2_lt]at h1⊢;obtain⟨a1,a2⟩:=x;obtain⟨b1,b2⟩:=y;have h3:¬(a1=b1/\a2=b2):=fun h=>h2 (Prod.ext h.1 h.2)
  simp only at h1⊢;grind
def le2 (x y:R2E):Prop:=¬cmp2 y.vl x.vl<0
def lt2 (x y:R2E):Prop:=cmp2 x.vl y.vl<0
theorem sorted2 {es1:List R2E}(hs:es1.Pairwise le2):(compactV (fun x y:R2E=>decide (x.vl=y.vl)) es1).Pairwise lt2:=
  compactV_sorted (α:=R2E) (eqv:=fun x y:R2E=>decide (x.vl=y.vl)) (le:=le2) (lt:=lt2)
    (fun a b c h1 h2=>by unfold le2 at h1;unfold lt2 at h2⊢;exact cmp2_tr h1 h2)
    (fun x y h1 h2=>by unfold le2 at h1;unfold lt2;exact cmp2_st h1 (of_decide_eq_false h2))
    (fun x y h1 z h2=>by unfold lt2 at h2⊢;have h3:=of_decide_eq_true h1;rw[<-h3];exact h2) hs
theorem sort_cpt {es es1:List R2E}(hp:es1.Perm es)(hs:es1.Pairwise (fun x y=>¬cmp2 y.vl x.vl<0)):
  ((compactV (fun x y:R2E=>decide (x.vl=y.vl)) es1).map R2E.vl).Pairwise (fun x y=>cmp2 x y<0)/\(∀q,q∈(compactV (fun x y:R2E=>decide (x.vl=y.vl)) es1).map R2E.vl↔q∈es.map R2E.vl)/\(∀e,e∈compactV (fun x y:R2E=>decide (x.vl=y.vl)) es1->e∈es):=by
 have hst:=sorted2 hs;refine⟨by rw[List.pairwise_map];exact hst,fun q=>⟨fun hx=> ?_,fun hx=> ?_⟩,fun e he=>hp.mem_iff.1 (compactV_sub _ he)⟩
 ·obtain⟨e,he,rfl⟩:=List.mem_map.1 hx
  exact List.mem_map_of_mem (hp.mem_iff.1 (compactV_sub _ he))
 obtain⟨e,he,rfl⟩:=List.mem_map.1 hx;obtain⟨f,hf,h2⟩:=compactV_mem (eqv:=(fun x y:R2E=>decide (x.vl=y.vl))) (key:=R2E.vl) (fun x y h=>of_decide_eq_true h) (hp.mem_iff.2 he);exact List.mem_map.2 ⟨f,hf,h2⟩
def IsxRet (rs:List Ring)(w:World)(e:Ending)(w':World):Prop:=
  ∃ (v1 v2:Value) (ps:List R2E) (os:List OnE),e= .returned (.tuple #[v1,v2])/\RowN w' w.heap.size 37 8 v1 ps.length (ps.flatMap R2E.cells)/\(ps.map R2E.vl).Pairwise (fun x y=>cmp2 x y<0)/\(∀q,q∈ps.map R2E.vl↔q∈crAll (edsV rs))/\(∀e,e∈ps->e.Ok 24 w')/\
    RowN w' w.heap.size 38 1 v2 os.length (os.flatMap OnE.cells)/\os.map OnE.l=ps.map (fun e=>onV (edsV rs) e.vl)/\(∀o,o∈os->o.Ok w.heap.size w')/\Ext w w'
theorem take_map_succ {α β:Type}{l:List α}{k:Nat}{x:α}{f:α->β}(h:l[k]?=some x):(l.take (k+1)).map f=(l.take k).map f++[f x]:=by
  rw[List.take_add_one,h];simp
theorem intersections_any (A:Option Addr)(cu:Nat)(rs:List Ring)(w:World)(hu:RingsV w (.slice A rs.length cu) rs)(hc:rs.length<=cu)(hn:rs.length<=1048576)(hr:∀r,r∈rs->r.length<=1048576):
  Calls Tryz.prog 9 #[.slice A rs.length cu] w (IsxRet rs w):=by
 have HU:=zH hu;have HN:=zH hn;have HR:=zH hr;have HC:=zH hc;have hel:=edsV_len rs;clear hu hr hc hn;go_enter Tryz.func9,Tryz.ntmps9
 have H0:=zH (Hp.start w);go_upto_region 0 with fail
 refine wl ?_;refine zI2 (Hp.start _) _ _ ?_;go_upto_region 1 with fail
 refine wl ?_;refine zI1 (Hp.start _) _ ?_;refine zc (iedges_any A cu rs _ (HU.out.ext H0.out.ext) HC.out HN.out HR.out) ?_;rintro e w4 ⟨v_,rfl,hrow_,hx⟩;obtain⟨Ae,ce,rfl,hfe_⟩:=hrow_.form;have HFE:=zH hfe_;clear hfe_;have H5:=zH (show Hp w w4 [ro 65 7 Ae ((edsV rs).length) ce EdE.cells (edsV rs)]from H0.out.addRow hx hrow_);clear hrow_ hx;refine zn ?_;refine zI1 (Hp.start _) _ ?_;go_upto_region 2 with fail
 refine wl ?_;refine zI1 (Hp.start _) _ ?_;have H9:=zH (show Hp w w4 [ro 65 7 Ae ((edsV rs).length) ce EdE.cells (edsV rs),ro 37 8 none 0 0 R2E.cells ([])]from H5.out.addNil 37 8);go_upto_region 3 with fail
 refine wl ?_;refine zI3 (Hp.start _) _ (.int .i64 (((edsV rs).length:Nat):Int)) _ ?_;go_wp2_with fail
 go_loopg [5,21] ((edsV rs).length) (fun cq v13 v14 wr=>∃(k:Nat) (A1:Option Addr) (m:Nat) (c1:Nat) (es:List R2E),cq=((edsV rs).length)-k/\v13= .slice A1 m c1/\v14= .int .i64 (k:Int)/\(k<=(edsV rs).length)/\(m=es.length/\m<=4096*k)/\(es.map R2E.vl=(List.range k).flatMap (crRow (edsV rs)))/\(∀e,e∈es->e.Ok 24 wr)/\Hp w wr [.row 65 7 (.slice Ae ((edsV rs).length) ce) ((edsV rs).length) (List.flatMap EdE.cells (edsV rs)),.row 37 8 (.slice A1 m c1) (m) (List.flatMap R2E.cells es)]/\Dig w4 wr)
 case atStart=>exact⟨0,none,0,0,[],rfl,rfl,rfl,Nat.zero_le _,⟨rfl,Nat.zero_le _⟩,rfl,(fun e_ he_=>by cases he_),H9.out,Dig.refl _⟩
 obtain⟨k,A1,m,c1,es,rfl,rfl,rfl,q_HKN,q_HM,q_HES,q_HOE,hh_,hd_⟩:=hrel;generalize wr=w15 at*
 have HKN:=zH q_HKN;clear q_HKN;have HM:=zH q_HM;clear q_HM;have HES:=zH q_HES;clear q_HES;have HOE:=zH q_HOE;clear q_HOE;have H17:=zH hh_;have D17:=zH hd_;clear hh_ hd_ H9;rcases emH (k<(edsV rs).length)with HLT|HLT
 ·have hlt:=HLT.out
  go_upto_region 4 with fail
  refine wl ?_;refine zp (.bool true) (by exact ezl (e:=(dec_t (by have ob0:=HM.out;omega)))) ?_;go_upto_region 5 with fail
  refine wl ?_;refine zI2 (Hp.start _) (.int .i64 (k:Int)) (.int .i64 (k:Int)) ?_;go_upto_region 6 with fail
  refine wl ?_;refine zI2 (Hp.start _) (.int .i64 (k:Int)) _ ?_;go_wp2_with fail
  go_loopg [5,25] (k) (fun cq v24 v25 wr=>∃(i:Nat) (A2:Option Addr) (m2:Nat) (c2:Nat) (es2:List R2E),cq=k-i/\v24= .slice A2 m2 c2/\v25= .int .i64 (i:Int)/\(i<=k)/\(m2=es2.length/\m2<=4096*k+i)/\(∀ey:EdE,(edsV rs)[k]?=some ey->es2.map R2E.vl=(List.range k).flatMap (crRow (edsV rs))++((edsV rs).take i).flatMap (fun x=>crP x ey))/\(∀e,e∈es2->e.Ok 24 wr)/\Hp w wr [.row 65 7 (.slice Ae ((edsV rs).length) ce) ((edsV rs).length) (List.flatMap EdE.cells (edsV rs)),.row 37 8 (.slice A2 m2 c2) (m2) (List.flatMap R2E.cells es2)]/\Dig w15 wr)
  case atStart=>exact⟨0,A1,m,c1,es,rfl,rfl,rfl,Nat.zero_le _,⟨HM.out.1,HM.out.2⟩,(fun _ _=>by rw[HES.out];simp),(fun g_ hg_=>(HOE.out g_ hg_)),H17.out,Dig.refl _⟩
  obtain⟨i,A2,m2,c2,es2,rfl,rfl,rfl,q_HKI,q_HM2,q_HES2,q_HOE2,hh_,hd_⟩:=hrel;generalize wr=w26 at*
  have HKI:=zH q_HKI;clear q_HKI;have HM2:=zH q_HM2;clear q_HM2;have HES2:=zH q_HES2;clear q_HES2;have HOE2:=zH q_HOE2;clear q_HOE2;have H28:=zH hh_;have D28:=zH hd_;clear hh_ hd_ H17;rcases emH (i<k)with HIK|HIK
  ·have HIK2:=HIK
   have hik:=HIK2.out;obtain⟨ge,rfl⟩:=HFE.out (by omega);obtain⟨ex,hex_⟩:∃x,(edsV rs)[i]?=some x:=⟨_,List.getElem?_eq_getElem (by omega)⟩;obtain⟨ey,hey_⟩:∃x,(edsV rs)[k]?=some x:=⟨_,List.getElem?_eq_getElem (by omega)⟩;have HEX:=zH hex_;have HEY:=zH hey_;have HBX:=zH (edsV_bd HN.out ex (List.mem_of_getElem? hex_));have HBY:=zH (edsV_bd HN.out ey (List.mem_of_getElem? hey_));clear hex_ hey_;go_upto_region 7 with fail
   refine wl ?_;refine zp (.bool true) (by exact ezl (e:=(dec_t (by have ob0:=HM.out;have ob1:=HM2.out;omega)))) ?_;go_upto_region 8 with fail
   refine wl ?_;refine zI2 (Hp.start _) (.int .i64 (i:Int)) (.int .i64 (i:Int)) ?_;rcases emH (adjB ex ey=true)with HAD|HAD
   ·go_upto_region 9 with fail
    refine zy ?_;have H34:=zH (H28.out.step (Ext.refl w26).drew);have D34:=zH (Dig.of_ext (w:=w26) zb);refine zJ2 (Hp.start _) zb (bs 20 3) 0 1 _ (.int .i64 (i:Int)) ?_;refine zo 2 (bs 20 7) (v:= .pointer (some ⟨ge,i*7,none⟩)) zb ?_ (hv:=by intro w hSw;exact ezi (k:=i) Tryz.underlying61 (l:=(show i<(edsV rs).length by omega)) (f:=(Nat.zero_add _).symm));refine zg 3 (bs 20 15) ge (i*7) [.int .i64 ex.a.1,.int .i64 ex.a.2,.int .i64 ex.b.1,.int .i64 ex.b.2,.int .i64 ((ex.r:Nat):Int),.int .i64 ((ex.i:Nat):Int),.int .i64 ((ex.n:Nat):Int)] (H28.out.elem (f:=EdE.cells) (i:=0) rR EdE.len HEX.out) Tryz.underlying65 zb ?_;refine zJ2 (Hp.start _) zb (bs 20 63) 4 5 _ (.int .i64 (k:Int)) ?_;refine zo 6 (bs 20 127) (v:= .pointer (some ⟨ge,k*7,none⟩)) zb ?_ (hv:=by intro w hSw;exact ezi (k:=k) Tryz.underlying61 (l:=(show k<(edsV rs).length by omega)) (f:=(Nat.zero_add _).symm));refine zg 7 (bs 20 255) ge (k*7) [.int .i64 ey.a.1,.int .i64 ey.a.2,.int .i64 ey.b.1,.int .i64 ey.b.2,.int .i64 ((ey.r:Nat):Int),.int .i64 ((ey.i:Nat):Int),.int .i64 ((ey.n:Nat):Int)] (H28.out.elem (f:=EdE.cells) (i:=0) rR EdE.len HEY.out) Tryz.underlying65 zb ?_;refine mC 8 (bs 20 511) (adjacent_any ex ey _ HBX.out HBY.out) ?_;rintro e w42 ⟨rfl,hx⟩;have H43:=zH (H34.out.step hx);have D43:=zH (show Dig w26.drew w42 from Dig.of_ext hx);have S45:=zH (zb.trans hx);clear hx;refine⟨.bool true,by rw[HAD.out],S45.out,?_⟩;try simp only[Act.put,zA,zB,zC]
    refine zJ8 (Hp.start _) S45.out (bs 20 131071) 9 10 11 12 13 14 15 16 (.bool true) _ _ _ _ _ _ _ ?_;refine zJ3 (Hp.start _) S45.out (bs 20 1048575) 17 18 19 _ _ (.bool true) ?_;refine wpAnyH_done kR ?_ _;go_upto_region 13 with fail
    refine wl ?_;refine zp (.int .i64 ((i+1:Nat):Int)) (by exact ez1 (by have ob0:=HM.out;have ob1:=HM2.out;omega)) ?_;refine zq (.int .i64 ((i+1:Nat):Int)) ?_;have DD50:=tD D34 D43;have DD51:=tD (tD D28 D34) D43;go_wp2_with fail
    go_roundg (k-(i+1))
    case measure=>exact(by have ob0:=HM.out;have ob1:=HM2.out;omega)
    case rel=>exact⟨i+1,A2,m2,c2,es2,rfl,rfl,(by go_num),hik,⟨HM2.out.1,by have h_:=HM2.out.2;omega⟩,(fun ey_ hey2_=>by obtain rfl:ey=ey_:=Option.some.inj (HEY.out.symm.trans hey2_);rw[HES2.out _ hey2_,crTake_succ HEX.out,show crP ex ey=[]from if_pos (.inl HAD.out),List.append_nil]),(fun g_ hg_=>(HOE2.out g_ hg_).dig DD50.out),H43.out,DD51.out⟩
   have HADF:=zH (Bool.eq_false_iff.2 HAD.out);rcases emH (djB ex ey=true)with HDJ|HDJ
   ·go_upto_region 9 with fail
    refine zy ?_;have H53:=zH (H28.out.step (Ext.refl w26).drew);have D53:=zH (Dig.of_ext (w:=w26) zb);refine zJ2 (Hp.start _) zb (bs 20 3) 0 1 _ (.int .i64 (i:Int)) ?_;refine zo 2 (bs 20 7) (v:= .pointer (some ⟨ge,i*7,none⟩)) zb ?_ (hv:=by intro w hSw;exact ezi (k:=i) Tryz.underlying61 (l:=(show i<(edsV rs).length by omega)) (f:=(Nat.zero_add _).symm));refine zg 3 (bs 20 15) ge (i*7) [.int .i64 ex.a.1,.int .i64 ex.a.2,.int .i64 ex.b.1,.int .i64 ex.b.2,.int .i64 ((ex.r:Nat):Int),.int .i64 ((ex.i:Nat):Int),.int .i64 ((ex.n:Nat):Int)] (H28.out.elem (f:=EdE.cells) (i:=0) rR EdE.len HEX.out) Tryz.underlying65 zb ?_;refine zJ2 (Hp.start _) zb (bs 20 63) 4 5 _ (.int .i64 (k:Int)) ?_;refine zo 6 (bs 20 127) (v:= .pointer (some ⟨ge,k*7,none⟩)) zb ?_ (hv:=by intro w hSw;exact ezi (k:=k) Tryz.underlying61 (l:=(show k<(edsV rs).length by omega)) (f:=(Nat.zero_add _).symm));refine zg 7 (bs 20 255) ge (k*7) [.int .i64 ey.a.1,.int .i64 ey.a.2,.int .i64 ey.b.1,.int .i64 ey.b.2,.int .i64 ((ey.r:Nat):Int),.int .i64 ((ey.i:Nat):Int),.int .i64 ((ey.n:Nat):Int)] (H28.out.elem (f:=EdE.cells) (i:=0) rR EdE.len HEY.out) Tryz.underlying65 zb ?_;refine mC 8 (bs 20 511) (adjacent_any ex ey _ HBX.out HBY.out) ?_;rintro e w61 ⟨rfl,hx⟩;have H62:=zH (H53.out.step hx);have D62:=zH (show Dig w26.drew w61 from Dig.of_ext hx);have S64:=zH (zb.trans hx);clear hx;refine⟨.bool false,by rw[HADF.out],S64.out,?_⟩;try simp only[Act.put,zA,zB,zC]
    refine zJ3 (Hp.start _) S64.out (bs 20 4095) 9 10 11 (.bool false) _ (.int .i64 (i:Int)) ?_;refine zo 12 (bs 20 8191) (v:= .pointer (some ⟨ge,i*7,none⟩)) S64.out ?_ (hv:=by intro w hSw;exact ezi (k:=i) Tryz.underlying61 (l:=(show i<(edsV rs).length by omega)) (f:=(Nat.zero_add _).symm));refine zg 13 (bs 20 16383) ge (i*7) [.int .i64 ex.a.1,.int .i64 ex.a.2,.int .i64 ex.b.1,.int .i64 ex.b.2,.int .i64 ((ex.r:Nat):Int),.int .i64 ((ex.i:Nat):Int),.int .i64 ((ex.n:Nat):Int)] (H28.out.elem (f:=EdE.cells) (i:=0) rR EdE.len HEX.out) Tryz.underlying65 S64.out ?_;refine zJ2 (Hp.start _) S64.out (bs 20 65535) 14 15 _ (.int .i64 (k:Int)) ?_;refine zo 16 (bs 20 131071) (v:= .pointer (some ⟨ge,k*7,none⟩)) S64.out ?_ (hv:=by intro w hSw;exact ezi (k:=k) Tryz.underlying61 (l:=(show k<(edsV rs).length by omega)) (f:=(Nat.zero_add _).symm));refine zg 17 (bs 20 262143) ge (k*7) [.int .i64 ey.a.1,.int .i64 ey.a.2,.int .i64 ey.b.1,.int .i64 ey.b.2,.int .i64 ((ey.r:Nat):Int),.int .i64 ((ey.i:Nat):Int),.int .i64 ((ey.n:Nat):Int)] (H28.out.elem (f:=EdE.cells) (i:=0) rR EdE.len HEY.out) Tryz.underlying65 S64.out ?_;refine mC 18 (bs 20 524287) (disjoint_any ex ey _) ?_;rintro e w72 ⟨rfl,hx⟩;have H73:=zH (H62.out.step hx);have D73:=zH (Dig.of_ext hx);have S75:=zH (S64.out.trans hx);clear hx;refine⟨.bool true,by rw[HDJ.out],S75.out,?_⟩;try simp only[Act.put,zA,zB,zC]
    refine zx 19 (bs 20 1048575) (.bool true) S75.out ?_;refine wpAnyH_done kR ?_ _;go_upto_region 13 with fail
    refine wl ?_;refine zp (.int .i64 ((i+1:Nat):Int)) (by exact ez1 (by have ob0:=HM.out;have ob1:=HM2.out;omega)) ?_;refine zq (.int .i64 ((i+1:Nat):Int)) ?_;have DD79:=tD (tD D53 D62) D73;have DD80:=tD (tD (tD D28 D53) D62) D73;go_wp2_with fail
    go_roundg (k-(i+1))
    case measure=>exact(by have ob0:=HM.out;have ob1:=HM2.out;omega)
    case rel=>exact⟨i+1,A2,m2,c2,es2,rfl,rfl,(by go_num),hik,⟨HM2.out.1,by have h_:=HM2.out.2;omega⟩,(fun ey_ hey2_=>by obtain rfl:ey=ey_:=Option.some.inj (HEY.out.symm.trans hey2_);rw[HES2.out _ hey2_,crTake_succ HEX.out,show crP ex ey=[]from if_pos (.inr HDJ.out),List.append_nil]),(fun g_ hg_=>(HOE2.out g_ hg_).dig DD79.out),H73.out,DD80.out⟩
   have HDJF:=zH (Bool.eq_false_iff.2 HDJ.out);have HNO:=zH (show¬(adjB ex ey=true\/djB ex ey=true)from fun h_=>h_.elim HAD.out HDJ.out);go_upto_region 9 with fail
   refine zy ?_;have H81:=zH (H28.out.step (Ext.refl w26).drew);have D81:=zH (Dig.of_ext (w:=w26) zb);refine zJ2 (Hp.start _) zb (bs 20 3) 0 1 _ (.int .i64 (i:Int)) ?_;refine zo 2 (bs 20 7) (v:= .pointer (some ⟨ge,i*7,none⟩)) zb ?_ (hv:=by intro w hSw;exact ezi (k:=i) Tryz.underlying61 (l:=(show i<(edsV rs).length by omega)) (f:=(Nat.zero_add _).symm));refine zg 3 (bs 20 15) ge (i*7) [.int .i64 ex.a.1,.int .i64 ex.a.2,.int .i64 ex.b.1,.int .i64 ex.b.2,.int .i64 ((ex.r:Nat):Int),.int .i64 ((ex.i:Nat):Int),.int .i64 ((ex.n:Nat):Int)] (H28.out.elem (f:=EdE.cells) (i:=0) rR EdE.len HEX.out) Tryz.underlying65 zb ?_;refine zJ2 (Hp.start _) zb (bs 20 63) 4 5 _ (.int .i64 (k:Int)) ?_;refine zo 6 (bs 20 127) (v:= .pointer (some ⟨ge,k*7,none⟩)) zb ?_ (hv:=by intro w hSw;exact ezi (k:=k) Tryz.underlying61 (l:=(show k<(edsV rs).length by omega)) (f:=(Nat.zero_add _).symm));refine zg 7 (bs 20 255) ge (k*7) [.int .i64 ey.a.1,.int .i64 ey.a.2,.int .i64 ey.b.1,.int .i64 ey.b.2,.int .i64 ((ey.r:Nat):Int),.int .i64 ((ey.i:Nat):Int),.int .i64 ((ey.n:Nat):Int)] (H28.out.elem (f:=EdE.cells) (i:=0) rR EdE.len HEY.out) Tryz.underlying65 zb ?_;refine mC 8 (bs 20 511) (adjacent_any ex ey _ HBX.out HBY.out) ?_;rintro e w89 ⟨rfl,hx⟩;have H90:=zH (H81.out.step hx);have D90:=zH (show Dig w26.drew w89 from Dig.of_ext hx);have S92:=zH (zb.trans hx);clear hx;refine⟨.bool false,by rw[HADF.out],S92.out,?_⟩;try simp only[Act.put,zA,zB,zC]
   refine zJ3 (Hp.start _) S92.out (bs 20 4095) 9 10 11 (.bool false) _ (.int .i64 (i:Int)) ?_;refine zo 12 (bs 20 8191) (v:= .pointer (some ⟨ge,i*7,none⟩)) S92.out ?_ (hv:=by intro w hSw;exact ezi (k:=i) Tryz.underlying61 (l:=(show i<(edsV rs).length by omega)) (f:=(Nat.zero_add _).symm));refine zg 13 (bs 20 16383) ge (i*7) [.int .i64 ex.a.1,.int .i64 ex.a.2,.int .i64 ex.b.1,.int .i64 ex.b.2,.int .i64 ((ex.r:Nat):Int),.int .i64 ((ex.i:Nat):Int),.int .i64 ((ex.n:Nat):Int)] (H28.out.elem (f:=EdE.cells) (i:=0) rR EdE.len HEX.out) Tryz.underlying65 S92.out ?_;refine zJ2 (Hp.start _) S92.out (bs 20 65535) 14 15 _ (.int .i64 (k:Int)) ?_;refine zo 16 (bs 20 131071) (v:= .pointer (some ⟨ge,k*7,none⟩)) S92.out ?_ (hv:=by intro w hSw;exact ezi (k:=k) Tryz.underlying61 (l:=(show k<(edsV rs).length by omega)) (f:=(Nat.zero_add _).symm));refine zg 17 (bs 20 262143) ge (k*7) [.int .i64 ey.a.1,.int .i64 ey.a.2,.int .i64 ey.b.1,.int .i64 ey.b.2,.int .i64 ((ey.r:Nat):Int),.int .i64 ((ey.i:Nat):Int),.int .i64 ((ey.n:Nat):Int)] (H28.out.elem (f:=EdE.cells) (i:=0) rR EdE.len HEY.out) Tryz.underlying65 S92.out ?_;refine mC 18 (bs 20 524287) (disjoint_any ex ey _) ?_;rintro e w100 ⟨rfl,hx⟩;have H101:=zH (H90.out.step hx);have D101:=zH (Dig.of_ext hx);have S103:=zH (S92.out.trans hx);clear hx;refine⟨.bool false,by rw[HDJF.out],S103.out,?_⟩;try simp only[Act.put,zA,zB,zC]
   refine zx 19 (bs 20 1048575) (.bool false) S103.out ?_;refine wpAnyH_done kR ?_ _;rcases emH (segN ex.a ex.b ey.a ey.b=1)with HSG|HSG
   ·go_upto_region 10 with fail
    refine zy ?_;have H106:=zH (H101.out.step (Ext.refl w100).drew);have D106:=zH (Dig.of_ext (w:=w100) zb);refine zJ2 (Hp.start _) zb (bs 30 3) 0 1 _ (.int .i64 (i:Int)) ?_;refine zu 2 (bs 30 7) (v:= .pointer (some ⟨ge,i*7,none⟩)) zb ?_ (hv:=by intro w hSw;exact ezi (k:=i) Tryz.underlying61 (l:=(show i<(edsV rs).length by omega)) (f:=(Nat.zero_add _).symm));refine zJ1 (Hp.start _) zb (bs 30 15) 3 _ ?_;refine zg 4 (bs 30 31) ge (i*7) [.int .i64 ex.a.1,.int .i64 ex.a.2] (range_part (H101.out.elem (f:=EdE.cells) (i:=0) rR EdE.len HEX.out) 0 2) Tryz.underlying41 zb ?_;refine zJ2 (Hp.start _) zb (bs 30 127) 5 6 _ (.int .i64 (i:Int)) ?_;refine zu 7 (bs 30 255) (v:= .pointer (some ⟨ge,i*7,none⟩)) zb ?_ (hv:=by intro w hSw;exact ezi (k:=i) Tryz.underlying61 (l:=(show i<(edsV rs).length by omega)) (f:=(Nat.zero_add _).symm));refine mX 8 (bs 30 511) (.pointer (some ⟨ge,i*7+2,none⟩)) zb ?_;refine zg 9 (bs 30 1023) ge (i*7+2) [.int .i64 ex.b.1,.int .i64 ex.b.2] (range_part (H101.out.elem (f:=EdE.cells) (i:=0) rR EdE.len HEX.out) 2 2) Tryz.underlying41 zb ?_;refine zJ2 (Hp.start _) zb (bs 30 4095) 10 11 _ (.int .i64 (k:Int)) ?_;refine zu 12 (bs 30 8191) (v:= .pointer (some ⟨ge,k*7,none⟩)) zb ?_ (hv:=by intro w hSw;exact ezi (k:=k) Tryz.underlying61 (l:=(show k<(edsV rs).length by omega)) (f:=(Nat.zero_add _).symm));refine zJ1 (Hp.start _) zb (bs 30 16383) 13 _ ?_;refine zg 14 (bs 30 32767) ge (k*7) [.int .i64 ey.a.1,.int .i64 ey.a.2] (range_part (H101.out.elem (f:=EdE.cells) (i:=0) rR EdE.len HEY.out) 0 2) Tryz.underlying41 zb ?_;refine zJ2 (Hp.start _) zb (bs 30 131071) 15 16 _ (.int .i64 (k:Int)) ?_;refine zu 17 (bs 30 262143) (v:= .pointer (some ⟨ge,k*7,none⟩)) zb ?_ (hv:=by intro w hSw;exact ezi (k:=k) Tryz.underlying61 (l:=(show k<(edsV rs).length by omega)) (f:=(Nat.zero_add _).symm));refine mX 18 (bs 30 524287) (.pointer (some ⟨ge,k*7+2,none⟩)) zb ?_;refine zg 19 (bs 30 1048575) ge (k*7+2) [.int .i64 ey.b.1,.int .i64 ey.b.2] (range_part (H101.out.elem (f:=EdE.cells) (i:=0) rR EdE.len HEY.out) 2 2) Tryz.underlying41 zb ?_;refine FN.go2 (j1:=⟨25,some 8,36,[.bool false,.slice none 0 0,.bool false,.slice none 0 0]⟩) (j2:=⟨26,some 9,36,[.bool false,.slice none 0 0,.bool false,.slice none 0 0]⟩) (b:=w100) ?_ zb;refine gN 20 (bs 30 2097151) (fk (fk trivial)) zb.size (fun xq hxq=>((segments_any ex.a ex.b ey.a ey.b _ HBX.out.1 HBX.out.2.1 HBY.out.1 HBY.out.2.1).mono (fun _ _ h_=>SegRet.yes h_ HSG.out))) (by rintro x_ e x2_ ⟨r125,s125,rfl,hr_,hs_,hx⟩;exact hx) ?_;rintro xq e w124 hxq ⟨r125,s125,rfl,hr_,hs_,hx⟩;replace hx:=hxq.trans hx;clear hxq;have H126:=zH (H106.out.step hx);have D126:=zH (show Dig w100.drew w124 from Dig.of_ext hx);have S128:=zH (zb.trans hx);have R125:=zH hr_;have S125:=zH hs_;have B125:=zH (rl_segXY HBX.out.1 HBX.out.2.1 HBY.out.1 HBY.out.2.1).1;have C125:=zH (rl_segXY HBX.out.1 HBX.out.2.1 HBY.out.1 HBY.out.2.1).2;clear hr_ hs_ hx;refine⟨_,rfl,?_⟩;try simp only[Act.put,zA,zB,zC]
    refine gT 21 (bs 30 4194303) _ ?_;refine gT 22 (bs 30 8388607) _ ?_;refine gT 23 (bs 30 16777215) _ ?_;refine gT 24 (bs 30 33554431) (.int .i64 1) ?_;refine gE2 (bs 30 134217727) (fk (fk trivial)) S128.out.size H101.out H126.out ?_;intro X133 X134 w135 hx hh hg0 hg1 hs;have H136:=hN hh;have D136:=zH (Dig.of_ext hx);have S138:=zH (show Ext w100 w135 from hs);have G139:=zH (show w100.heap.size<=X133 from hg0);have G140:=zH (show w100.heap.size<=X134 from hg1);clear hh hx hs hg0 hg1;try simp only[Act.put,zA,zB,zC]
    refine bS 2 27 (bs 30 268435455) (rc r125) H136.out S138.out G139.out ?_;intro w141 H142 D142 S144;refine bS 3 28 (bs 30 536870911) (rc s125) H142.out S144.out G140.out ?_;intro w145 H146 D146 S148;refine zx 29 (bs 30 1073741823) (.int .i64 1) S148.out ?_;refine wpAnyH_done kR ?_ _;go_upto_region 11 with fail
    refine wl ?_;refine zq (.int .i64 1) ?_;refine zp (.bool true) (by exact ezq (e:=(dec_t rfl))) ?_;go_upto_region 12 with fail
    refine wl ?_;refine zI4 H146.out _ _ _ _ ?_;refine zp (w':=(w145.alloc (.cells ([.bool r125.n,.slice r125.p r125.l r125.c,.bool r125.m,.slice r125.p2 r125.l2 r125.c2,.bool s125.n,.slice s125.p s125.l s125.c,.bool s125.m,.slice s125.p2 s125.l2 s125.c2]:List Value).toArray 37))) (.slice (some ⟨w145.heap.size,0,none⟩) 1 1) (by go_simp) ?_;refine mv_app rR _ _ _ rR elRR rR H146.out (ix:=1) rR 1 1 [.bool r125.n,.slice r125.p r125.l r125.c,.bool r125.m,.slice r125.p2 r125.l2 r125.c2,.bool s125.n,.slice s125.p s125.l s125.c,.bool s125.m,.slice s125.p2 s125.l2 s125.c2] rR rfl (by simp[Value.oneCell']) (by simp[NoUL]) dC (by unfold maxLen;exact(by have ob0:=HM.out;have ob1:=HM2.out;omega)) (by have ob0:=HM.out;have ob1:=HM2.out;omega) ?_;intro g155 cp156 w154 hf hh hd hg;have Fg155:=zH hf;clear hf;rw[show List.flatMap R2E.cells es2++[.bool r125.n,.slice r125.p r125.l r125.c,.bool r125.m,.slice r125.p2 r125.l2 r125.c2,.bool s125.n,.slice s125.p s125.l s125.c,.bool s125.m,.slice s125.p2 s125.l2 s125.c2]=_ from flat_snoc R2E.cells _ (⟨r125,s125,(segX ex.a ex.b ey.a ey.b),(segY ex.a ex.b ey.a ey.b)⟩:R2E)]at hh;have H157:=hN hh;have D157:=zH (hd);clear hh hd hg;try simp only[Act.put,zA,zB,zC]
    refine zq (.slice (some ⟨g155,0,none⟩) (m2+1) cp156) ?_;have DD160:=tD (tD (tD (tD (tD (tD (tD (tD D81 D90) D101) D106) D126) D136) D142) D146) D157;have DD161:=tD (tD (tD D136 D142) D146) D157;go_upto_region 13 with fail
    refine wl ?_;refine zp (.int .i64 ((i+1:Nat):Int)) (by exact ez1 (by have ob0:=HM.out;have ob1:=HM2.out;omega)) ?_;refine zq (.int .i64 ((i+1:Nat):Int)) ?_;have DD164:=tD (tD (tD (tD (tD (tD (tD (tD (tD D28 D81) D90) D101) D106) D126) D136) D142) D146) D157;go_wp2_with fail
    go_roundg (k-(i+1))
    case measure=>exact(by have ob0:=HM.out;have ob1:=HM2.out;omega)
    case rel=>exact⟨i+1,some ⟨g155,0,none⟩,(m2+1),cp156,es2++[(⟨r125,s125,(segX ex.a ex.b ey.a ey.b),(segY ex.a ex.b ey.a ey.b)⟩:R2E)],rfl,rfl,(by go_num),hik,⟨by rw[HM2.out.1];simp,by have h_:=HM2.out.2;omega⟩,(fun ey_ hey2_=>by obtain rfl:ey=ey_:=Option.some.inj (HEY.out.symm.trans hey2_);rw[List.map_append,HES2.out _ hey2_,crTake_succ HEX.out,show crP ex ey=[(segX ex.a ex.b ey.a ey.b,segY ex.a ex.b ey.a ey.b)]from(if_neg HNO.out).trans (if_pos HSG.out),List.append_assoc];rfl),(fun g_ hg_=>(List.mem_append.1 hg_).elim (fun h_=>(HOE2.out g_ h_).dig DD160.out) (fun h_=>by rw[List.mem_singleton.1 h_];exact⟨(R125.out.dig DD161.out),(S125.out.dig DD161.out),Nat.le_trans B125.out (by decide),Nat.le_trans C125.out (by decide)⟩)),H157.out.take 2,DD164.out⟩
   go_upto_region 10 with fail
   refine zy ?_;have H165:=zH (H101.out.step (Ext.refl w100).drew);have D165:=zH (Dig.of_ext (w:=w100) zb);refine zJ2 (Hp.start _) zb (bs 30 3) 0 1 _ (.int .i64 (i:Int)) ?_;refine zu 2 (bs 30 7) (v:= .pointer (some ⟨ge,i*7,none⟩)) zb ?_ (hv:=by intro w hSw;exact ezi (k:=i) Tryz.underlying61 (l:=(show i<(edsV rs).length by omega)) (f:=(Nat.zero_add _).symm));refine zJ1 (Hp.start _) zb (bs 30 15) 3 _ ?_;refine zg 4 (bs 30 31) ge (i*7) [.int .i64 ex.a.1,.int .i64 ex.a.2] (range_part (H101.out.elem (f:=EdE.cells) (i:=0) rR EdE.len HEX.out) 0 2) Tryz.underlying41 zb ?_;refine zJ2 (Hp.start _) zb (bs 30 127) 5 6 _ (.int .i64 (i:Int)) ?_;refine zu 7 (bs 30 255) (v:= .pointer (some ⟨ge,i*7,none⟩)) zb ?_ (hv:=by intro w hSw;exact ezi (k:=i) Tryz.underlying61 (l:=(show i<(edsV rs).length by omega)) (f:=(Nat.zero_add _).symm));refine mX 8 (bs 30 511) (.pointer (some ⟨ge,i*7+2,none⟩)) zb ?_;refine zg 9 (bs 30 1023) ge (i*7+2) [.int .i64 ex.b.1,.int .i64 ex.b.2] (range_part (H101.out.elem (f:=EdE.cells) (i:=0) rR EdE.len HEX.out) 2 2) Tryz.underlying41 zb ?_;refine zJ2 (Hp.start _) zb (bs 30 4095) 10 11 _ (.int .i64 (k:Int)) ?_;refine zu 12 (bs 30 8191) (v:= .pointer (some ⟨ge,k*7,none⟩)) zb ?_ (hv:=by intro w hSw;exact ezi (k:=k) Tryz.underlying61 (l:=(show k<(edsV rs).length by omega)) (f:=(Nat.zero_add _).symm));refine zJ1 (Hp.start _) zb (bs 30 16383) 13 _ ?_;refine zg 14 (bs 30 32767) ge (k*7) [.int .i64 ey.a.1,.int .i64 ey.a.2] (range_part (H101.out.elem (f:=EdE.cells) (i:=0) rR EdE.len HEY.out) 0 2) Tryz.underlying41 zb ?_;refine zJ2 (Hp.start _) zb (bs 30 131071) 15 16 _ (.int .i64 (k:Int)) ?_;refine zu 17 (bs 30 262143) (v:= .pointer (some ⟨ge,k*7,none⟩)) zb ?_ (hv:=by intro w hSw;exact ezi (k:=k) Tryz.underlying61 (l:=(show k<(edsV rs).length by omega)) (f:=(Nat.zero_add _).symm));refine mX 18 (bs 30 524287) (.pointer (some ⟨ge,k*7+2,none⟩)) zb ?_;refine zg 19 (bs 30 1048575) ge (k*7+2) [.int .i64 ey.b.1,.int .i64 ey.b.2] (range_part (H101.out.elem (f:=EdE.cells) (i:=0) rR EdE.len HEY.out) 2 2) Tryz.underlying41 zb ?_;refine FN.go2 (j1:=⟨25,some 8,36,[.bool false,.slice none 0 0,.bool false,.slice none 0 0]⟩) (j2:=⟨26,some 9,36,[.bool false,.slice none 0 0,.bool false,.slice none 0 0]⟩) (b:=w100) ?_ zb;refine gN 20 (bs 30 2097151) (fk (fk trivial)) zb.size (fun xq hxq=>((segments_any ex.a ex.b ey.a ey.b _ HBX.out.1 HBX.out.2.1 HBY.out.1 HBY.out.2.1).mono (fun _ _ h_=>SegRet.no h_ HSG.out))) (by rintro x_ e x2_ ⟨rfl,hx⟩;exact hx) ?_;rintro xq e w183 hxq ⟨rfl,hx⟩;replace hx:=hxq.trans hx;clear hxq;have H184:=zH (H165.out.step hx);have D184:=zH (show Dig w100.drew w183 from Dig.of_ext hx);have S186:=zH (zb.trans hx);clear hx;refine⟨_,rfl,?_⟩;try simp only[Act.put,zA,zB,zC]
   refine gT 21 (bs 30 4194303) _ ?_;refine gT 22 (bs 30 8388607) _ ?_;refine gT 23 (bs 30 16777215) _ ?_;refine gT 24 (bs 30 33554431) (.int .i64 (segN ex.a ex.b ey.a ey.b)) ?_;refine gE2 (bs 30 134217727) (fk (fk trivial)) S186.out.size H101.out H184.out ?_;intro X191 X192 w193 hx hh hg0 hg1 hs;have H194:=hN hh;have D194:=zH (Dig.of_ext hx);have S196:=zH (show Ext w100 w193 from hs);have G197:=zH (show w100.heap.size<=X191 from hg0);have G198:=zH (show w100.heap.size<=X192 from hg1);clear hh hx hs hg0 hg1;try simp only[Act.put,zA,zB,zC]
   refine bS 2 27 (bs 30 268435455) rz H194.out S196.out G197.out ?_;intro w199 H200 D200 S202;refine bS 3 28 (bs 30 536870911) rz H200.out S202.out G198.out ?_;intro w203 H204 D204 S206;refine zx 29 (bs 30 1073741823) (.int .i64 (segN ex.a ex.b ey.a ey.b)) S206.out ?_;refine wpAnyH_done kR ?_ _;go_upto_region 11 with fail
   refine wl ?_;refine zq (.int .i64 (segN ex.a ex.b ey.a ey.b)) ?_;refine zp (.bool false) (by exact ezq (e:=(dec_f HSG.out))) ?_;go_upto_region 13 with fail
   refine wl ?_;refine zp (.int .i64 ((i+1:Nat):Int)) (by exact ez1 (by have ob0:=HM.out;have ob1:=HM2.out;omega)) ?_;refine zq (.int .i64 ((i+1:Nat):Int)) ?_;have DD212:=tD (tD (tD (tD (tD (tD (tD D81 D90) D101) D165) D184) D194) D200) D204;have DD213:=tD (tD (tD (tD (tD (tD (tD (tD D28 D81) D90) D101) D165) D184) D194) D200) D204;go_wp2_with fail
   go_roundg (k-(i+1))
   case measure=>exact(by have ob0:=HM.out;have ob1:=HM2.out;omega)
   case rel=>exact⟨i+1,A2,m2,c2,es2,rfl,rfl,(by go_num),hik,⟨HM2.out.1,by have h_:=HM2.out.2;omega⟩,(fun ey_ hey2_=>by obtain rfl:ey=ey_:=Option.some.inj (HEY.out.symm.trans hey2_);rw[HES2.out _ hey2_,crTake_succ HEX.out,show crP ex ey=[]from(if_neg HNO.out).trans (if_neg HSG.out),List.append_nil]),(fun g_ hg_=>(HOE2.out g_ hg_).dig DD212.out),H204.out.take 2,DD213.out⟩
  have hik:=HIK.out;have hki:=HKI.out;obtain rfl:i=k:=by omega
  go_upto_region 7 with fail
  refine wl ?_;refine zp (.bool false) (by exact ezl (e:=(dec_f (Int.lt_irrefl _)))) ?_;go_upto_region 14 with fail
  refine wl ?_;refine zp (.int .i64 ((i+1:Nat):Int)) (by exact ez1 (by have ob0:=HM.out;omega)) ?_;refine zq (.int .i64 ((i+1:Nat):Int)) ?_;have DD217:=tD D17 D28;go_wp2_with fail
  go_roundg ((edsV rs).length-(i+1))
  case measure=>exact(by have ob0:=HM.out;omega)
  case rel=>exact⟨i+1,A2,m2,c2,es2,rfl,rfl,(by go_num),hlt,⟨HM2.out.1,by have h_:=HM2.out.2;omega⟩,(by rw[HES2.out _ (List.getElem?_eq_getElem hlt),crRange_succ (List.getElem?_eq_getElem hlt)]),(fun g_ hg_=>(HOE2.out g_ hg_)),H28.out,DD217.out⟩
 have hlt:=HLT.out;have hkn:=HKN.out;obtain rfl:k=(edsV rs).length:=by omega
 go_upto_region 4 with fail
 refine wl ?_;refine zp (.bool false) (by exact ezl (e:=(dec_f (Int.lt_irrefl _)))) ?_;have hmm:m<=16777216:=by have h_:=HM.out.2;omega
 go_upto_region 15 with fail
 refine wl ?_;refine zI1 (Hp.start _) _ ?_;refine zc (sortR2_any 24 dC (fun w_ e_ f_ h1_ h2_=>compare2_any 24 dC w_ e_ f_ h1_ h2_) (.slice A1 m c1) es _ _ (by have h_:=H17.out.row (i:=1) rR;rw[HM.out.1]at h_⊢;exact h_) (fun g_ hg_=>(HOE.out g_ hg_)) (by have h_:=HM.out.1;omega)) ?_;rintro e w220 ⟨rfl,es1,hp_,hs_,hr_,hg_,hd_⟩;have HPS:=zH (And.intro hp_ hs_);rw[hp_.length_eq,<-HM.out.1]at hr_;have H221:=zH (show Hp w w220 [ro 65 7 Ae ((edsV rs).length) ce EdE.cells (edsV rs),ro 37 8 A1 m c1 R2E.cells es1]from H17.out.turn (i:=1) (e:= .row 37 8 (.slice A1 m c1) (m) (List.flatMap R2E.cells es)) (e':= .row 37 8 (.slice A1 m c1) (m) (List.flatMap R2E.cells es1)) (by rfl) (fun k h=>h) hg_ hr_ (fun k hk=> .inl hk));have HOS1:=zH (show∀e,e∈es1->e.Ok 24 w220 from fun e he=>((HOE.out e (hp_.mem_iff.1 he))).dig hd_);have HL1:=zH (show es1.length=m from hp_.length_eq.trans HM.out.1.symm);clear hp_ hs_ hr_ hg_ hd_;have hx:=True.intro;clear hx;refine zn ?_;go_upto_region 16 with fail
 refine wl ?_;refine zI1 (Hp.start _) _ ?_;refine zc (cptR2_any 24 dC (.slice A1 m c1) es1 _ _ (by have h_:=H221.out.row (i:=1) rR;exact(congrArg (fun n_=>RowN _ _ 37 8 (.slice A1 m c1) n_ (List.flatMap R2E.cells es1)) HL1.out).mpr h_) H221.out.ext.size HOS1.out (by have h_:=HL1.out;omega)) ?_;rintro e w224 ⟨v_,rfl,hr_,hg_,hd_,ho_⟩;obtain⟨ps,hps_⟩:∃ps,ps=compactV (fun x y:R2E=>decide (x.vl=y.vl)) es1:=⟨_,rfl⟩;rw[<-hps_]at hr_;obtain⟨A3,c3,rfl,hf_⟩:=hr_.form;have HF3:=zH hf_;have HPS2:=zH (sort_cpt HPS.out.1 HPS.out.2);rw[<-hps_]at HPS2;have HOP:=zH (show∀e,e∈ps->e.Ok 24 w224 from fun e he=>(HOS1.out e (compactV_sub _ (by rw[<-hps_];exact he))).dig hd_);have hpl:ps.length<=16777216:=by have h_:=compactV_le (fun x y:R2E=>decide (x.vl=y.vl)) es1;rw[<-hps_,HL1.out]at h_;omega
 have H225:=zH (show Hp w w224 [ro 65 7 Ae ((edsV rs).length) ce EdE.cells (edsV rs),ro 37 8 A3 ps.length c3 R2E.cells ps]from H221.out.turn (i:=1) (e:= .row 37 8 (.slice A1 m c1) (m) (List.flatMap R2E.cells es1)) (e':= .row 37 8 (.slice A3 ps.length c3) (ps.length) (List.flatMap R2E.cells ps)) (by rfl) (fun k h=>h) hg_ hr_ (fun k hk=> .inl (by have h_:Value.ownBlock (.slice A3 ps.length c3)=some k:=hk;rw[ho_]at h_;exact h_)));clear hr_ hg_ hd_ ho_ hf_ hps_;have hx:=True.intro;clear hx;refine zn ?_;refine zI1 (Hp.start _) _ ?_;go_upto_region 17 with fail
 refine wl ?_;refine zI1 (Hp.start _) _ ?_;have H229:=zH (show Hp w w224 [ro 65 7 Ae ((edsV rs).length) ce EdE.cells (edsV rs),ro 37 8 A3 ps.length c3 R2E.cells ps,ro 38 1 none 0 0 OnE.cells ([])]from H225.out.addNil 38 1);go_upto_region 18 with fail
 refine wl ?_;refine zI3 (Hp.start _) _ (.int .i64 ((ps.length:Nat):Int)) _ ?_;go_wp2_with fail
 go_loopg [11,89] (ps.length) (fun cq v233 v234 wr=>∃(k:Nat) (A4:Option Addr) (c4:Nat) (os:List OnE),cq=ps.length-k/\v233= .slice A4 k c4/\v234= .int .i64 (k:Int)/\(k<=ps.length)/\(os.map OnE.l=(ps.take k).map (fun e=>onV (edsV rs) e.vl))/\(os.length=k)/\(∀o,o∈os->o.Ok w.heap.size wr)/\Hp w wr [.row 65 7 (.slice Ae ((edsV rs).length) ce) ((edsV rs).length) (List.flatMap EdE.cells (edsV rs)),.row 37 8 (.slice A3 ps.length c3) (ps.length) (List.flatMap R2E.cells ps),.row 38 1 (.slice A4 k c4) (k) (List.flatMap OnE.cells os)]/\Dig w224 wr)
 case atStart=>exact⟨0,none,0,[],rfl,rfl,rfl,Nat.zero_le _,rfl,rfl,(fun o_ ho_=>by cases ho_),H229.out,Dig.refl _⟩
 obtain⟨k,A4,c4,os,rfl,rfl,rfl,q_HKP,q_HOS,q_HOL,q_HOK4,hh_,hd_⟩:=hrel;generalize wr=w235 at*
 have HKP:=zH q_HKP;clear q_HKP;have HOS:=zH q_HOS;clear q_HOS;have HOL:=zH q_HOL;clear q_HOL;have HOK4:=zH q_HOK4;clear q_HOK4;have H237:=zH hh_;have D237:=zH hd_;clear hh_ hd_ H229;rcases emH (k<ps.length)with HLT|HLT
 ·have hlt:=HLT.out
  obtain⟨pe,hpe_⟩:∃x,ps[k]?=some x:=⟨_,List.getElem?_eq_getElem hlt⟩;have HPE:=zH hpe_;have HOE_:=zH (HOP.out pe (List.mem_of_getElem? hpe_));clear hpe_;obtain⟨gp,rfl⟩:=HF3.out (by omega);go_upto_region 19 with fail
  refine wl ?_;refine zp (.bool true) (by exact ezl (e:=(dec_t (by omega)))) ?_;have HB:=H237;have HEP:=zH (H237.out.elem (f:=R2E.cells) (i:=1) (by rfl) R2E.len HPE.out);have HK0:=zH (Hp.start w235);have OKP:=zH (HOE_.out.dig D237.out);have RPa:=zH OKP.out.1;have RPb:=zH OKP.out.2.1;have BRPa:=zH OKP.out.2.2.1;have BRPb:=zH OKP.out.2.2.2;go_upto_region 20 with fail
  refine wl ?_;refine zp (.pointer (some ⟨gp,k*8,none⟩)) (by exact ezi (k:=k) Tryz.underlying27 (l:=hlt) (f:=(Nat.zero_add _).symm)) ?_;refine zd gp (k*8) [.bool pe.a.n,.slice pe.a.p pe.a.l pe.a.c,.bool pe.a.m,.slice pe.a.p2 pe.a.l2 pe.a.c2,.bool pe.b.n,.slice pe.b.p pe.b.l pe.b.c,.bool pe.b.m,.slice pe.b.p2 pe.b.l2 pe.b.c2] (range_ext HEP.out HK0.out.ext) Tryz.underlying37 ?_;refine aA' 37 [.bool false,.slice none 0 0,.bool false,.slice none 0 0,.bool false,.slice none 0 0,.bool false,.slice none 0 0] HK0.out ?_;intro X242 w243 H244 D244;refine aS' 0 [.bool pe.a.n,.slice pe.a.p pe.a.l pe.a.c,.bool pe.a.m,.slice pe.a.p2 pe.a.l2 pe.a.c2,.bool pe.b.n,.slice pe.b.p pe.b.l pe.b.c,.bool pe.b.m,.slice pe.b.p2 pe.b.l2 pe.b.c2] H244.out ?_;intro w247 H248 D248;go_upto_region 21 with fail
  refine wl ?_;refine zI1 (Hp.start _) _ ?_;have H251:=zH (show Hp w235 w247 [.blk X242 37 [.bool pe.a.n,.slice pe.a.p pe.a.l pe.a.c,.bool pe.a.m,.slice pe.a.p2 pe.a.l2 pe.a.c2,.bool pe.b.n,.slice pe.b.p pe.b.l pe.b.c,.bool pe.b.m,.slice pe.b.p2 pe.b.l2 pe.b.c2],ro 3 1 none 0 0 iC ([])]from H248.out.addNil 3 1);go_upto_region 22 with fail
  refine wl ?_;refine zI3 (Hp.start _) _ (.int .i64 (((edsV rs).length:Nat):Int)) _ ?_;go_wp2_with fail
  go_loopg [14,95] ((edsV rs).length) (fun cq v255 v256 wr=>∃(i:Nat) (A5:Option Addr) (n5:Nat) (c5:Nat) (is:List Nat),cq=((edsV rs).length)-i/\v255= .slice A5 n5 c5/\v256= .int .i64 (i:Int)/\(i<=(edsV rs).length)/\(n5=is.length/\n5<=i)/\(is=(List.range i).filter (onAt (edsV rs) pe.vl))/\Hp w235 wr [.blk X242 37 [.bool pe.a.n,.slice pe.a.p pe.a.l pe.a.c,.bool pe.a.m,.slice pe.a.p2 pe.a.l2 pe.a.c2,.bool pe.b.n,.slice pe.b.p pe.b.l pe.b.c,.bool pe.b.m,.slice pe.b.p2 pe.b.l2 pe.b.c2],.row 3 1 (.slice A5 n5 c5) (n5) (List.flatMap iC is)]/\Dig w247 wr)
  case atStart=>exact⟨0,none,0,0,[],rfl,rfl,rfl,Nat.zero_le _,⟨rfl,Nat.zero_le _⟩,rfl,H251.out,Dig.refl _⟩
  obtain⟨i,A5,n5,c5,is,rfl,rfl,rfl,q_HIN,q_HI5,q_HIS,hh_,hd_⟩:=hrel;generalize wr=w257 at*
  have HIN:=zH q_HIN;clear q_HIN;have HI5:=zH q_HI5;clear q_HI5;have HIS:=zH q_HIS;clear q_HIS;have H259:=zH hh_;have D259:=zH hd_;clear hh_ hd_ H251;rcases emH (i<(edsV rs).length)with HIU|HIU
  ·have hiu:=HIU.out
   obtain⟨ge,rfl⟩:=HFE.out (by omega);obtain⟨ex,hex_⟩:∃x,(edsV rs)[i]?=some x:=⟨_,List.getElem?_eq_getElem hiu⟩;have HEX:=zH hex_;have HBX:=zH (edsV_bd HN.out ex (List.mem_of_getElem? hex_));have HEL:=zH (HB.out.elem (f:=EdE.cells) (i:=0) (by rfl) EdE.len hex_);clear hex_;go_upto_region 23 with fail
   refine wl ?_;refine zp (.bool true) (by exact ezl (e:=(dec_t (by have ob0:=HI5.out;omega)))) ?_;go_upto_region 24 with fail
   refine wl ?_;refine zq (.int .i64 (i:Int)) ?_;refine zp (.pointer (some ⟨ge,i*7,none⟩)) (by exact ezi (k:=i) Tryz.underlying61 (l:=hiu) (f:=(Nat.zero_add _).symm)) ?_;refine zd ge (i*7) [.int .i64 ex.a.1,.int .i64 ex.a.2,.int .i64 ex.b.1,.int .i64 ex.b.2,.int .i64 ((ex.r:Nat):Int),.int .i64 ((ex.i:Nat):Int),.int .i64 ((ex.n:Nat):Int)] (range_ext HEL.out H259.out.ext) Tryz.underlying65 ?_;refine aA' 65 [.int .i64 0,.int .i64 0,.int .i64 0,.int .i64 0,.int .i64 0,.int .i64 0,.int .i64 0] H259.out ?_;intro X264 w265 H266 D266;refine zq (.int .i64 (i:Int)) ?_;refine aS' 2 [.int .i64 ex.a.1,.int .i64 ex.a.2,.int .i64 ex.b.1,.int .i64 ex.b.2,.int .i64 ((ex.r:Nat):Int),.int .i64 ((ex.i:Nat):Int),.int .i64 ((ex.n:Nat):Int)] H266.out ?_;intro w270 H271 D271;rcases emH (conC ex pe.vl)with HCN|HCN
   ·go_upto_region 25 with fail
    refine wl ?_;refine zI2 H271.out _ _ ?_;have DD275:=tD (tD (tD (tD D244 D248) D259) D266) D271;refine zc (contains17_any 24 dC ex pe _ HBX.out (OKP.out.dig DD275.out)) ?_;rintro e w274 ⟨rfl,hx⟩;have H276:=zH (H271.out.step hx);have D276:=zH (Dig.of_ext hx);clear hx;refine⟨.bool true,by rw[decide_eq_true HCN.out],?_⟩;try simp only[Act.put,zA,zB,zC]
    go_upto_region 26 with fail
    refine wl ?_;refine zI2 (Hp.start _) _ (.int .i64 (i:Int)) ?_;refine zp (w':=(w274.alloc (.cells ([.int .i64 (i:Int)]:List Value).toArray 3))) (.slice (some ⟨w274.heap.size,0,none⟩) 1 1) (by go_simp) ?_;refine mv_app rR _ _ _ rR elInt rR H276.out (ix:=1) rR 1 1 [.int .i64 (i:Int)] rR rfl (by simp[Value.oneCell']) (by simp[NoUL]) dC (by unfold maxLen;exact(by have ob0:=HI5.out;omega)) (by have ob0:=HI5.out;omega) ?_;intro g281 cp282 w280 hf hh hd hg;have Fg281:=zH hf;clear hf;rw[show List.flatMap iC is++[.int .i64 (i:Int)]=_ from flat_snoc iC _ i]at hh;have H283:=hN hh;have D283:=zH (hd);clear hh hd hg;try simp only[Act.put,zA,zB,zC]
    refine zq (.slice (some ⟨g281,0,none⟩) (n5+1) cp282) ?_;go_upto_region 27 with fail
    refine wl ?_;refine zp (.int .i64 ((i+1:Nat):Int)) (by exact ez1 (by have ob0:=HI5.out;omega)) ?_;refine zq (.int .i64 ((i+1:Nat):Int)) ?_;have DD288:=tD (tD (tD (tD D259 D266) D271) D276) D283;go_wp2_with fail
    go_roundg ((edsV rs).length-(i+1))
    case measure=>exact(by have ob0:=HI5.out;omega)
    case rel=>exact⟨i+1,some ⟨g281,0,none⟩,(n5+1),cp282,is++[i],rfl,rfl,(by go_num),hiu,⟨by rw[HI5.out.1];simp,by have h_:=HI5.out.2;omega⟩,(by rw[HIS.out,onV_succ HEX.out,if_pos HCN.out]),H283.out.take 2,DD288.out⟩
   go_upto_region 25 with fail
   refine wl ?_;refine zI2 H271.out _ _ ?_;have DD290:=tD (tD (tD (tD D244 D248) D259) D266) D271;refine zc (contains17_any 24 dC ex pe _ HBX.out (OKP.out.dig DD290.out)) ?_;rintro e w289 ⟨rfl,hx⟩;have H291:=zH (H271.out.step hx);have D291:=zH (Dig.of_ext hx);clear hx;refine⟨.bool false,by rw[decide_eq_false HCN.out],?_⟩;try simp only[Act.put,zA,zB,zC]
   go_upto_region 27 with fail
   refine wl ?_;refine zp (.int .i64 ((i+1:Nat):Int)) (by exact ez1 (by have ob0:=HI5.out;omega)) ?_;refine zq (.int .i64 ((i+1:Nat):Int)) ?_;have DD295:=tD (tD (tD D259 D266) D271) D291;go_wp2_with fail
   go_roundg ((edsV rs).length-(i+1))
   case measure=>exact(by have ob0:=HI5.out;omega)
   case rel=>exact⟨i+1,A5,n5,c5,is,rfl,rfl,(by go_num),hiu,⟨HI5.out.1,by have h_:=HI5.out.2;omega⟩,(by rw[HIS.out,onV_succ HEX.out,if_neg HCN.out,List.append_nil]),H291.out.take 2,DD295.out⟩
  have hiu:=HIU.out;have hiN:=HIN.out;obtain rfl:i=(edsV rs).length:=by omega
  go_upto_region 23 with fail
  refine wl ?_;refine zp (.bool false) (by exact ezl (e:=(dec_f (Int.lt_irrefl _)))) ?_;have hn5:=HI5.out.1;subst hn5;have HRI:=zH (show(⟨A5,c5,is⟩:OnE).Ok w.heap.size w257 from(H259.out.row (i:=1) (by rfl)).low HB.out.ext.size);have HXX:=zH (HB.out.step H259.out.ext);have HFZ:=zH (fun o_ ho_=>(HOK4.out o_ ho_).ext H259.out.ext);have HDX:=zH (Dig.of_ext H259.out.ext);go_upto_region 28 with fail
  refine wl ?_;refine zI2 (Hp.start _) _ _ ?_;refine zp (w':=(w257.alloc (.cells ([.slice A5 is.length c5]:List Value).toArray 38))) (.slice (some ⟨w257.heap.size,0,none⟩) 1 1) (by go_simp) ?_;refine mv_app rR _ _ _ rR elInts rR HXX.out (ix:=2) rR 1 1 [.slice A5 is.length c5] rR rfl (by simp[Value.oneCell']) (by simp[NoUL]) dC (by unfold maxLen;exact(by omega)) (by omega) ?_;intro g301 cp302 w300 hf hh hd hg;have Fg301:=zH hf;clear hf;rw[show List.flatMap OnE.cells os++[.slice A5 is.length c5]=_ from flat_snoc OnE.cells _ (⟨A5,c5,is⟩:OnE)]at hh;have H303:=hN hh;have D303:=zH (hd);have K305:=zH (show Fr (fun kz=>Value.ownBlock (.slice A4 k c4)=some kz) w257 w300 from((Fr.of_ext (G:=fun kz=>Value.ownBlock (.slice A4 k c4)=some kz) (Ext.refl w257)).trans (Fr.of_ext ((Ext.refl _).alloc _))).trans_new hg (fun j hj=> .inl hj));clear hh hd hg;try simp only[Act.put,zA,zB,zC]
  refine zq (.slice (some ⟨g301,0,none⟩) (k+1) cp302) ?_;go_upto_region 29 with fail
  refine wl ?_;refine zp (.int .i64 ((k+1:Nat):Int)) (by exact ez1 (by omega)) ?_;refine zq (.int .i64 ((k+1:Nat):Int)) ?_;go_wp2_with fail
  go_roundg (ps.length-(k+1))
  case measure=>exact(by omega)
  case rel=>exact⟨k+1,some ⟨g301,0,none⟩,cp302,os++[(⟨A5,c5,is⟩:OnE)],rfl,rfl,(by go_num),hlt,(by rw[List.map_append,HOS.out,take_map_succ HPE.out];rw[show is=onV (edsV rs) pe.vl from HIS.out];rfl),(by rw[List.length_append,HOL.out];rfl),(fun o_ ho_=>(List.mem_append.1 ho_).elim (fun h_=>(HFZ.out o_ h_).fr HXX.out (ix:=2) (by rfl) K305.out) (fun h_=>by rw[List.mem_singleton.1 h_];exact HRI.out.fr HXX.out (ix:=2) (by rfl) K305.out)),H303.out,((D237.out).trans (HDX.out.trans D303.out))⟩
 have hlt:=HLT.out;have hkp:=HKP.out;obtain rfl:k=ps.length:=by omega
 go_upto_region 19 with fail
 refine wl ?_;refine zp (.bool false) (by exact ezl (e:=(dec_f (Int.lt_irrefl _)))) ?_;go_upto_region 30 with fail
 refine wl ?_;refine zI4 (Hp.start _) _ _ _ _ ?_;have hol:=HOL.out;go_wp2_with fail
 go_ret2
 exact⟨_,_,ps,os,rfl,H237.out.row (i:=1) (by rfl),HPS2.out.1,fun q_=>(HPS2.out.2.1 q_).trans (by rw[HES.out];exact Iff.rfl),(fun g_ hg_=>(HOP.out g_ hg_).dig D237.out),(by have h_:=H237.out.row (i:=2) (by rfl);rw[<-hol]at h_⊢;exact h_),(by rw[HOS.out,List.take_length]),HOK4.out,H237.out.ext⟩
end Go.Proofs.YtiokhlgdelipdabGreat
namespace Go.Proofs.YtiokhlgdelipdabGreat
open Go.RowKit
theorem line_mid {a b c d:Int×Int}(h0:cr (dv a b) (dv c d)=0)(h:¬offL a b c d)(k:¬lessB (shH a b c d) (shL a b c d)=true):onI a b (shL a b c d):=by
 obtain⟨l1,l2,l3⟩:=shL_or a b c d;obtain⟨u1,u2,u3⟩:=shH_or a b c d;have k:=leL_iff.2 k;refine mid_on ?_ l1 (leL_trans k u1);by_cases q:a=b
 ·subst q;unfold cr dv;simp
 have hl:lineV a b c d=dv a b:=if_neg (fun k=>q (dv_zero.1 k));have hc:cr (dv a b) (dv a c)=0:=by
  rcases Int.lt_trichotomy (cr (dv a b) (dv a c)) 0 with k|k|k
  ·exact absurd (.inl (by rw[hl];omega)) h
  ·exact k
  exact absurd (.inl (by rw[hl];omega)) h
 have hd:cr (dv a b) (dv a d)=0:=by
  have:cr (dv a b) (dv a d)=cr (dv a b) (dv a c)+cr (dv a b) (dv c d):=by unfold cr dv;grind
  omega
 have ha:cr (dv a b) (dv a a)=0:=by unfold cr dv;simp
 have hb:cr (dv a b) (dv a b)=0:=by unfold cr;grind
 rcases l3 with k|k<;>rw[k]
 ·rcases endL_or a b with⟨_,e1,_⟩|⟨_,e1,_⟩<;>rw[e1]<;>assumption
 rcases endL_or c d with⟨_,e1,_⟩|⟨_,e1,_⟩<;>rw[e1]<;>assumption
theorem seg_meet {a b c d:Int×Int}(h:segN a b c d≠0):∃x y:Rat,onC a b x y/\onC c d x y:=by
 by_cases h1:segN a b c d=1
 ·exact⟨_,_,seg_on h1,seg_on2 h1⟩
 by_cases h0:cr (dv a b) (dv c d)=0
 ·rw[segN_l h0]at h
  by_cases k:offL a b c d
  ·rw[if_pos k]at h;exact absurd rfl h
  rw[if_neg k]at h;have hk:¬lessB (shH a b c d) (shL a b c d)=true:=by
   intro e;unfold sharedV at h;rw[if_pos e]at h;exact h rfl
  refine⟨_,_,onI_onC (line_mid h0 k hk),?_⟩;rw[<-shL_swap];exact onI_onC (line_mid (by rw[cr_neg,h0];rfl) (fun e=>k ((offL_swap h0).1 e)) (by rw[shL_swap,shH_swap];exact hk))
 rw[segN_p h0]at h h1;by_cases k:inU (segT a b c d)/\inU (segS a b c d)
 ·rw[if_pos k]at h1;exact absurd rfl h1
 rw[if_neg k]at h;exact absurd rfl h
theorem dj_seg {x y:EdE}(h:djB x y=true):segN x.a x.b y.a y.b=0:=by
 rcases Int.lt_trichotomy (segN x.a x.b y.a y.b) 0 with k|k|k
 ·have:=seg_bd x.a x.b y.a y.b;omega
 ·exact k
 exfalso;obtain⟨p,q,⟨_,⟨a1,a2⟩,a3,a4⟩,_,⟨b1,b2⟩,b3,b4⟩:=seg_meet (a:=x.a) (b:=x.b) (c:=y.a) (d:=y.b) (by omega);have key:∀{m n:Int} {z:Rat},z<=(m:Rat)->(n:Rat)<=z->¬m<n:=by
  intro m n z h1 h2 h3;have h4:(m:Rat)<(n:Rat):=by exact_mod_cast h3
  exact absurd (Rat.le_trans h2 h1) (Rat.not_le.2 h4)
 unfold djB at h;simp only[Bool.or_eq_true,decide_eq_true_eq]at h;rcases h with h|h|h|h
 ·exact key a2 b1 h
 ·exact key b2 a1 h
 ·exact key a4 b3 h
 exact key b4 a3 h
def allQ:Nat->List Ring->List EdE
  |_,[]=>[]
  |q,r::rs=>edR q (edgesV [r]) (edgesV [r]).length++allQ (q+1) rs
theorem allQ_eq:∀(rs:List Ring) (q:Nat),(rs.mapIdx fun k r=>edR (q+k) (edgesV [r]) (edgesV [r]).length).flatten=allQ q rs
  | [],q=>rfl
  | r::rs,q=>by
    rw[List.mapIdx_cons,List.flatten_cons,Nat.add_zero];unfold allQ;rw[<-allQ_eq rs (q+1)];congr 3;funext i x;rw[show q+(i+1)=q+1+i by omega]
theorem allV_eq (rs:List Ring):allV rs=allQ 0 rs:=by
  rw[<-allQ_eq rs 0];unfold allV;congr 2;funext i x;rw[Nat.zero_add]
theorem edR_mem {q n:Nat}{es:List Edge}{i:Nat}{x:EdE}(h:(edR q es n)[i]?=some x):x.r=q/\x.i=i/\x.n=n/\es[i]?=some (x.a,x.b):=by
  unfold edR at h;rw[List.getElem?_mapIdx]at h;cases he:es[i]?with
  |none=>rw[he]at h;simp at h
  | some e=>
    rw[he]at h;simp at h;subst h;exact⟨rfl,rfl,rfl,rfl⟩
theorem allQ_r:∀{rs:List Ring} {q i:Nat} {x:EdE},(allQ q rs)[i]?=some x->q<=x.r
  | [],q,i,x,h=>by simp[allQ]at h
  | r::rs,q,i,x,h=>by
    unfold allQ at h;by_cases hi:i<(edR q (edgesV [r]) (edgesV [r]).length).length
    · rw[List.getElem?_append_left hi]at h
      rw[(edR_mem h).1];exact Nat.le_refl _
    rw[List.getElem?_append_right (by omega)]at h;have:=allQ_r h;omega
def adjF:List Ring->Nat->Nat->Nat->Bool
  | [],_,_,_=>false
  |r::rs,f,i,k=>if f<=i/\i<f+(edgesV [r]).length/\f<=k/\k<f+(edgesV [r]).length then decide (i≠k)&&(decide ((i-f+1)%(edgesV [r]).length=k-f)||decide ((k-f+1)%(edgesV [r]).length=i-f))else adjF rs (f+(edgesV [r]).length) i k
theorem adjF_off:∀{rs:List Ring} {f i k:Nat},i<f\/k<f->adjF rs f i k=false
  | [],f,i,k,_=>rfl
  | r::rs,f,i,k,h=>by
    unfold adjF;rw[if_neg (by omega)];exact adjF_off (by omega)
theorem adjF_ok:∀{rs:List Ring} {q f i k:Nat} {x y:EdE},(allQ q rs)[i]?=some x->(allQ q rs)[k]?=some y->i≠k->adjF rs f (f+i) (f+k)=adjB x y
  | [],q,f,i,k,x,y,hx,_,_=>by simp[allQ]at hx
  | r::rs,q,f,i,k,x,y,hx,hy,hne=>by
    unfold allQ at hx hy;have hl:(edR q (edgesV [r]) (edgesV [r]).length).length=(edgesV [r]).length:=edR_len _ _ _;unfold adjF;by_cases hi:i<(edgesV [r]).length<;>by_cases hk:k<(edgesV [r]).length
    · rw[List.getElem?_append_left (by omega)]at hx hy
      obtain⟨a1,a2,a3,_⟩:=edR_mem hx;obtain⟨b1,b2,b3,_⟩:=edR_mem hy;rw[if_pos (by omega)];unfold adjB;rw[a1,a2,a3,b1,b2,b3,show f+i-f=i by omega,show f+k-f=k by omega,decide_eq_true (show f+i≠f+k by omega)];simp
    · rw[List.getElem?_append_left (by omega)]at hx
      rw[List.getElem?_append_right (by omega)]at hy;rw[if_neg (by omega),adjF_off (by omega)];have h1:=(edR_mem hx).1;have h2:=allQ_r hy;unfold adjB;rw[decide_eq_false (show¬x.r=y.r by omega)];rfl
    · rw[List.getElem?_append_right (by omega)]at hx
      rw[List.getElem?_append_left (by omega)]at hy;rw[if_neg (by omega),adjF_off (by omega)];have h1:=(edR_mem hy).1;have h2:=allQ_r hx;unfold adjB;rw[decide_eq_false (show¬x.r=y.r by omega)];rfl
    rw[List.getElem?_append_right (by omega),hl]at hx hy;rw[if_neg (by omega)];have ih:=adjF_ok (f:=f+(edgesV [r]).length) hx hy (by omega);rw[show f+(edgesV [r]).length+(i-(edgesV [r]).length)=f+i by omega,show f+(edgesV [r]).length+(k-(edgesV [r]).length)=f+k by omega]at ih;exact ih
theorem adjB_swap (x y:EdE):adjB x y=adjB y x:=by
  unfold adjB;rw[show decide (x.r=y.r)=decide (y.r=x.r)from decide_eq_decide.2 ⟨Eq.symm,Eq.symm⟩,Bool.or_comm]
theorem edges_allQ:∀(rs:List Ring) (q:Nat),(allQ q rs).map (fun e=>(e.a,e.b))=edgesV rs
  | [],q=>rfl
  | r::rs,q=>by
    unfold allQ;rw[List.map_append,edges_allQ rs (q+1)];have h:(edR q (edgesV [r]) (edgesV [r]).length).map (fun e=>(e.a,e.b))=edgesV [r]:=by
      unfold edR;apply List.ext_getElem?;intro i;rw[List.getElem?_map,List.getElem?_mapIdx];cases (edgesV [r])[i]?<;>rfl
    rw[h];unfold edgesV;simp
theorem edges_eds (rs:List Ring):(edsV rs).map (fun e=>(e.a,e.b))=edgesOf rs:=by
  unfold edsV edgesOf;split
  · rw[allV_eq];exact edges_allQ rs 0
  rfl
theorem cmp2_tot {p q:Rat×Rat}(h:¬cmp2 p q<0)(k:¬cmp2 q p<0):p=q:=by
  rw[cmp2_lt]at h k;have h1:=not_or.1 h;have k1:=not_or.1 k;have e:p.2=q.2:=by grind
  exact Prod.ext (by grind) e
theorem cmp2_irr (p:Rat×Rat):¬cmp2 p p<0:=by
  rw[cmp2_lt];grind
theorem cmp2_trans {p q r:Rat×Rat}(h:cmp2 p q<0)(k:cmp2 q r<0):cmp2 p r<0:=by
  rw[cmp2_lt]at*;grind
def putP:List (Rat×Rat)->Rat×Rat->List (Rat×Rat)
  | [],y=>[y]
  |x::l,y=>if cmp2 x y<0 then x::putP l y else if cmp2 y x<0 then y::x::l else x::l
theorem putP_mem {y z:Rat×Rat}:∀{l:List (Rat×Rat)},z∈putP l y↔z=y\/z∈l
  | []=>by simp[putP]
  | x::l=>by
    unfold putP;split
    · rw[List.mem_cons,putP_mem,List.mem_cons]
      constructor
      · rintro(h|h|h)
        · exact .inr (.inl h)
        · exact .inl h
        exact .inr (.inr h)
      rintro(h|h|h)
      · exact .inr (.inl h)
      · exact .inl h
      exact .inr (.inr h)
    split
    · simp
    rename_i h k;have e:=cmp2_tot h k;subst e;simp
theorem putP_srt {y:Rat×Rat}:∀{l:List (Rat×Rat)},l.Pairwise (fun a b=>cmp2 a b<0)->(putP l y).Pairwise (fun a b=>cmp2 a b<0)
  | [],_=>by simp[putP]
  | x::l,h=>by
    obtain⟨h1,h2⟩:=List.pairwise_cons.1 h;unfold putP;split
    · rename_i hx
      refine List.pairwise_cons.2 ⟨fun z hz=> ?_,putP_srt h2⟩;rcases putP_mem.1 hz with e|e
      · rw[e];exact hx
      exact h1 z e
    split
    · rename_i hx hy
      refine List.pairwise_cons.2 ⟨fun z hz=> ?_,h⟩;rcases List.mem_cons.1 hz with e|e
      · rw[e];exact hy
      exact cmp2_trans hy (h1 z e)
    exact h
theorem putP_at {y:Rat×Rat}:∀{l:List (Rat×Rat)} {k:Nat},(∀i x,i<k->l[i]?=some x->cmp2 x y<0)->(∀x,l[k]?=some x->¬cmp2 x y<0)->k<=l.length->
  ((∀x,l[k]?=some x->cmp2 y x<0)->putP l y=l.take k++y::l.drop k)/\(∀x,l[k]?=some x->¬cmp2 y x<0->putP l y=l)
 | [],k,_,_,hk=>by
  have:k=0:=by simpa using hk
  subst this;simp[putP]
 |x::l,0,_,h2,_=>by
  unfold putP;rw[if_neg (h2 x rfl)];constructor
  ·intro h;rw[if_pos (h x rfl)];simp
  intro z hz hn;have e:x=z:=by simpa using hz
  subst e;rw[if_neg hn]
 |x::l,k+1,h1,h2,hk=>by
  unfold putP;rw[if_pos (h1 0 x (by omega) rfl)];have ih:=putP_at (l:=l) (k:=k) (y:=y) (fun i z hi hz=>h1 (i+1) z (by omega) (by simpa using hz)) (fun z hz=>h2 z (by simpa using hz)) (by simpa using hk);constructor
  ·intro h
   rw[ih.1 (fun z hz=>h z (by simpa using hz))];simp
  intro z hz hn;rw[ih.2 z (by simpa using hz) hn]
def putAll (cs:List (Rat×Rat)):List (Rat×Rat):=cs.foldl putP []
theorem putAll_snoc {cs:List (Rat×Rat)}{c:Rat×Rat}:putAll (cs++[c])=putP (putAll cs) c:=by unfold putAll;rw[List.foldl_append];rfl
theorem fold_mem {z:Rat×Rat}:∀{cs l:List (Rat×Rat)},z∈cs.foldl putP l↔z∈l\/z∈cs
  | [],l=>by simp
  | c::cs,l=>by
    rw[List.foldl_cons,fold_mem,putP_mem,List.mem_cons];constructor
    · rintro((h|h)|h)
      · exact .inr (.inl h)
      · exact .inl h
      exact .inr (.inr h)
    rintro(h|h|h)
    · exact .inl (.inr h)
    · exact .inl (.inl h)
    exact .inr h
theorem fold_srt:∀{cs l:List (Rat×Rat)},l.Pairwise (fun a b=>cmp2 a b<0)->(cs.foldl putP l).Pairwise (fun a b=>cmp2 a b<0)
  | [],l,h=>h
  |c::cs,l,h=>by rw[List.foldl_cons];exact fold_srt (putP_srt h)
def cand1 (rs:List Ring)(es:List Edge)(i k:Nat):List (Rat×Rat):=
  match es[i]?,es[k]?with
  |some x,some y=>if segN x.1 x.2 y.1 y.2=1/\adjF rs 0 i k=false then[(segX x.1 x.2 y.1 y.2,segY x.1 x.2 y.1 y.2)]else[]
  |_,_=>[]
def candR (rs:List Ring)(es:List Edge)(i k:Nat):List (Rat×Rat):=(List.range k).flatMap (cand1 rs es i)
def candA (rs:List Ring)(es:List Edge)(n:Nat):List (Rat×Rat):=(List.range n).flatMap (fun i=>candR rs es i i)
theorem candR_succ (rs:List Ring)(es:List Edge)(i k:Nat):candR rs es i (k+1)=candR rs es i k++cand1 rs es i k:=by
  unfold candR;rw[List.range_succ,List.flatMap_append];simp
theorem candA_succ (rs:List Ring)(es:List Edge)(n:Nat):candA rs es (n+1)=candA rs es n++candR rs es n n:=by
  unfold candA;rw[List.range_succ,List.flatMap_append];simp
theorem cand_mem {rs:List Ring}{es:List Edge}{n:Nat}{z:Rat×Rat}:z∈candA rs es n↔∃i k,i<n/\k<i/\z∈cand1 rs es i k:=by
  unfold candA candR;simp only[List.mem_flatMap,List.mem_range];constructor
  · rintro⟨i,hi,k,hk,h⟩;exact⟨i,k,hi,hk,h⟩
  rintro⟨i,k,hi,hk,h⟩;exact⟨i,hi,k,hk,h⟩
theorem crAll_mem {es:List EdE}{z:Rat×Rat}:z∈crAll es↔∃(i k:Nat) (y x:EdE),es[i]?=some y/\es[k]?=some x/\k<i/\z∈crP x y:=by
 unfold crAll;rw[List.mem_flatMap];constructor
 ·rintro⟨i,hi,h⟩
  unfold crRow at h;cases hy:es[i]?with
  |none=>rw[hy]at h;simp at h
  |some y=>
   rw[hy]at h;obtain⟨x,hx,hz⟩:=List.mem_flatMap.1 h;obtain⟨k,hk,rfl⟩:=List.mem_take_iff_getElem.1 hx;exact⟨i,k,y,_,hy,List.getElem?_eq_getElem (by omega),by omega,hz⟩
 rintro⟨i,k,y,x,hy,hx,hk,hz⟩;refine⟨i,List.mem_range.2 (List.getElem?_eq_some_iff.1 hy).1,?_⟩;unfold crRow;rw[hy];exact List.mem_flatMap.2 ⟨x,List.mem_take_iff_getElem.2 ⟨k,by have:=(List.getElem?_eq_some_iff.1 hx).1;omega,(List.getElem?_eq_some_iff.1 hx).2⟩,hz⟩
theorem crP_iff {x y:EdE}{z:Rat×Rat}:z∈crP x y↔adjB x y=false/\segN x.a x.b y.a y.b=1/\z=(segX x.a x.b y.a y.b,segY x.a x.b y.a y.b):=by
  unfold crP;by_cases h:adjB x y=true\/djB x y=true
  · rw[if_pos h]
    constructor
    · intro k;simp at k
    rintro⟨h1,h2,_⟩;rcases h with h|h
    · rw[h1]at h;cases h
    rw[dj_seg h]at h2;cases h2
  rw[if_neg h];have h1:adjB x y=false:=Bool.eq_false_iff.2 (fun e=>h (.inl e));by_cases k:segN x.a x.b y.a y.b=1
  · rw[if_pos k];simp[h1,k]
  rw[if_neg k];simp[k]
theorem cand_cr {rs:List Ring}(hok:okR rs=true){z:Rat×Rat}:z∈candA rs (edgesOf rs) (edgesOf rs).length↔z∈crAll (edsV rs):=by
 have e:edsV rs=allQ 0 rs:=by unfold edsV;rw[if_pos hok,allV_eq]
 rw[cand_mem,crAll_mem,<-edges_eds];constructor
 ·rintro⟨i,k,hi,hk,h⟩
  unfold cand1 at h;rw[List.length_map]at hi;obtain⟨y,hy⟩:∃y,(edsV rs)[i]?=some y:=⟨_,List.getElem?_eq_getElem hi⟩;obtain⟨x,hx⟩:∃x,(edsV rs)[k]?=some x:=⟨_,List.getElem?_eq_getElem (by omega)⟩;simp only[List.getElem?_map,hx,hy,Option.map_some]at h;by_cases c:segN y.a y.b x.a x.b=1/\adjF rs 0 i k=false
  ·rw[if_pos c,List.mem_singleton]at h
   refine⟨i,k,y,x,hy,hx,hk,crP_iff.2 ⟨?_,by rw[segN_swap];exact c.1,by rw[h,segX_swap,segY_swap]⟩⟩;have ha:=adjF_ok (rs:=rs) (q:=0) (f:=0) (by rw[<-e];exact hy) (by rw[<-e];exact hx) (by omega);rw[Nat.zero_add,Nat.zero_add,c.2,adjB_swap]at ha;exact ha.symm
  rw[if_neg c]at h;simp at h
 rintro⟨i,k,y,x,hy,hx,hk,h⟩;obtain⟨h1,h2,h3⟩:=crP_iff.1 h;refine⟨i,k,by rw[List.length_map];exact(List.getElem?_eq_some_iff.1 hy).1,hk,?_⟩;unfold cand1;simp only[List.getElem?_map,hx,hy,Option.map_some];have ha:=adjF_ok (rs:=rs) (q:=0) (f:=0) (by rw[<-e];exact hy) (by rw[<-e];exact hx) (by omega);rw[Nat.zero_add,Nat.zero_add,adjB_swap,h1]at ha;rw[if_pos ⟨by rw[segN_swap];exact h2,ha⟩,List.mem_singleton,h3,segX_swap,segY_swap]
theorem int_same {rs:List Ring}{l:List (Rat×Rat)}(hok:okR rs=true)(h:l.Pairwise (fun x y=>cmp2 x y<0))(hm:∀q,q∈l↔q∈crAll (edsV rs)):l=putAll (candA rs (edgesOf rs) (edgesOf rs).length):=by
  refine strict_unique (lt:=fun x y=>cmp2 x y<0) cmp2_irr (fun a b c=>cmp2_trans) h (fold_srt (by simp)) (fun z=> ?_);rw[hm,<-cand_cr hok];unfold putAll;rw[fold_mem];simp
theorem edge_ne {rs:List Ring}{e:Edge}(h:e∈edgesV rs):e.1≠e.2:=by
  unfold edgesV at h;obtain⟨r,_,h⟩:=List.mem_flatMap.1 h;unfold ringEn at h;obtain⟨i,_,h⟩:=List.mem_filterMap.1 h;unfold edgeAt at h;split at h
  · split at h
    · cases h
    injection h with h;subst h;assumption
  cases h
theorem onAt_ref {rs:List Ring}{p:Rat×Rat}{i:Nat}{x:Edge}(hx:(edgesOf rs)[i]?=some x)(h1:okP x.1)(h2:okP x.2):onAt (edsV rs) p i=true↔conR x.1 x.2 p:=by
 have hm:=List.mem_of_getElem? hx;have hne:x.1≠x.2:=by
  unfold edgesOf at hm;split at hm
  ·exact edge_ne hm
  simp[edgesV]at hm
 rw[<-edges_eds,List.getElem?_map]at hx;unfold onAt;cases hy:(edsV rs)[i]?with
 |none=>rw[hy]at hx;simp at hx
 |some y=>
  rw[hy]at hx;have e:(y.a,y.b)=x:=by simpa using hx
  subst e;rw[conR_on h1 h2 hne];simp only[decide_eq_true_eq];exact conC_on hne
end Go.Proofs.YtiokhlgdelipdabGreat
namespace Go.Proofs.YtiokhlgdelipdabGreat
end Go.Proofs.YtiokhlgdelipdabGreat
namespace Go.Proofs.YtiokhlgdelipdabGreat
open Go.RowKit
section
variable {P:Program} {ρ:Operand->Value} {o:Oper} {w:World} {g n c k size:Nat} {z:Int} {t e:TypeId} {x y:Operand}
theorem ev_take17 (ho:o.op= .slice t x none (some y) none)(ht:P.underlying t=some (.slice e))(hs:(P.info? e).map (·.size)=some size)(hx:ρ x= .slice (some ⟨g,0,none⟩) n c)(hy:ρ y= .int .i64 z)(hz:z=(k:Int))(hk:k<=c):
  (execOp ρ o).run P w= .ok (.value (.slice (some ⟨g,0,none⟩) k c)) w:=by
 subst hz;have hel:P.elem t=e:=by simp[Program.elem,ht]
 have h1:P.underlying t=some (.slice (P.elem t)):=by rw[hel];exact ht
 unfold execOp;simp only[ho,hx,hy,Option.map_some,Option.map_none,Sem.run_bind,run_sliceAt_slice _ _ _ _ _ _ h1,run_slice_h w t _ _ _ h1 .i64 (k:Int) (by omega) (by omega:(k:Int)<=(c:Int)),hel];cases hq:P.info? e with
 |none=>simp[hq]at hs
 |some i=>
  have h2:i.size=size:=by simpa[hq]using hs
  simp[sizeOf,typeInfo,hq,h2,sliced,Addr.add]
def dropA17 (g c k size:Nat):Option Addr:=if c=k then some ⟨g,0,none⟩else some ⟨g,k*size,none⟩
theorem ev_drop17 (ho:o.op= .slice t x (some y) none none)(ht:P.underlying t=some (.slice e))(hs:(P.info? e).map (·.size)=some size)(hx:ρ x= .slice (some ⟨g,0,none⟩) n c)(hy:ρ y= .int .i64 z)(hz:z=(k:Int))(hk:k<=n):
  (execOp ρ o).run P w= .ok (.value (.slice (dropA17 g c k size) (n-k) (c-k))) w:=by
 subst hz;have hel:P.elem t=e:=by simp[Program.elem,ht]
 have h1:P.underlying t=some (.slice (P.elem t)):=by rw[hel];exact ht
 unfold execOp;simp only[ho,hx,hy,Option.map_some,Option.map_none,Sem.run_bind,run_sliceAt_slice _ _ _ _ _ _ h1,run_slice_l w t _ _ _ h1 .i64 (k:Int) (by omega) (by omega:(k:Int)<=(n:Int)),hel];cases hq:P.info? e with
 |none=>simp[hq]at hs
 |some i=>
  have h2:i.size=size:=by simpa[hq]using hs
  by_cases q:c=k
  ·simp[sizeOf,typeInfo,hq,h2,sliced,dropA17,q]
  have q2:(⟨g,0,none⟩:Addr).add (k*size)=⟨g,k*size,none⟩:=by unfold Addr.add;split<;>simp_all
  simp[sizeOf,typeInfo,hq,h2,sliced,dropA17,q,q2]
end
section
variable {w:World} {b g n c:Nat} {T:TypeId} {es:List R1E}
theorem add_c (g o j:Nat):(⟨g,o,none⟩:Addr).add j=⟨g,o+j,none⟩:=by unfold Addr.add;split<;>simp_all
end
theorem edgO_len (rs:List Ring):(edgesOf rs).length<=4096:=by
  unfold edgesOf;refine Nat.le_trans (edgesV_len _) ?_;split
  · rename_i h;exact okR_tot h
  decide
theorem edgO_ok (rs:List Ring):∀e,e∈edgesOf rs->okP e.1/\okP e.2:=by
  unfold edgesOf;split
  · rename_i h;exact fun e he=>edges_ok h e he
  intro e he;simp[edgesV]at he
section
variable {w0 w w':World} {m:List Ent}
end
end Go.Proofs.YtiokhlgdelipdabGreat
namespace Go.Proofs.YtiokhlgdelipdabGreat
open Go.RowKit
attribute [local go_sem ↓] Go.wp_at_zero Go.wp_at_succ run_max_ii run_min_ii
theorem clamp8_any (n lo hi:Int)(w:World)(h1:lo<=n)(h2:n<=hi):Calls Tryz.prog 113 #[.int .i64 n,.int .i64 lo,.int .i64 hi] w fun e w'=>e= .returned (.int .i64 n)/\Ext w w':=by
 go_enter Tryz.func113,Tryz.ntmps113
 have H0:=zH (Hp.start w);go_upto_region 0 with fail
 refine wl ?_;refine zq (.int .i64 0) ?_;go_upto_region 1 with fail
 refine wl ?_;refine qV (.int .i64 n) ?_;refine zq (.int .i64 lo) ?_;refine zp (.bool false) (by exact ezl (e:=(dec_f (by omega)))) ?_;go_upto_region 3 with fail
 refine wl ?_;refine qV (.int .i64 n) ?_;refine zq (.int .i64 hi) ?_;refine zp (.bool false) (by exact ezg (e:=(dec_f (by omega)))) ?_;go_upto_region 5 with fail
 refine wl ?_;refine qV (.int .i64 n) ?_;refine zq (.int .i64 n) ?_;go_wp2_with fail
 go_ret
 exact⟨rfl,H0.out.ext⟩
theorem hold11_any (p:Int×Int)(w:World)(h:okP p):Calls Tryz.prog 71 #[.agg #[.int .i64 p.1,.int .i64 p.2]] w fun e w'=>e= .returned (.agg #[.int .i64 p.1,.int .i64 p.2])/\Ext w w':=by
 have op:=okP_out h;go_enter Tryz.func71,Tryz.ntmps71
 have H0:=zH (Hp.start w);go_upto_region 0 with fail
 refine wl ?_;refine aA' 41 [.int .i64 p.1,.int .i64 p.2] H0.out ?_;intro X10 w11 H12 _;refine aA' 41 [.int .i64 0,.int .i64 0] H12.out ?_;intro X15 w16 H17 _;go_upto_region 1 with fail
 refine wp_region_held_drew (S:=fun x=>Fr (fun kz=>kz=X15) w16 x) kR (Fr.of_ext zb) (fun _=> ?_);have H20:=zH (H17.out.step (Ext.refl w16).drew);refine zx 0 (bs 8 1) (.pointer (some ⟨X10,0,none⟩)) (Fr.of_ext zb) ?_;refine md_ld1 (g:=X10) (o:=0) (v:= .int .i64 p.1) (i:=1) (listed':=(bs 8 3)) rR kR kR kR (by intro _ _ _ h;exact h) rR (fun x hx=>Fr.cell hx (show World.cell? w16 ⟨X10,0,none⟩=some (.int .i64 p.1)from cell_of_range (H17.out.range (i:=0) rR 0 1)) (H17.out.offBlk (i:=0) (j:=1) rR rR dC rR)) (by intro x hq;go_simp<;>with_reducible rfl) (Fr.of_ext zb) kR ?_;try simp only[Act.put,zA,zB,zC]
 refine zx 3 (bs 8 11) (.pointer (some ⟨X10,1,none⟩)) (Fr.of_ext zb) ?_;refine md_ld1 (g:=X10) (o:=1) (v:= .int .i64 p.2) (i:=4) (listed':=(bs 8 27)) rR kR kR kR (by intro _ _ _ h;exact h) rR (fun x hx=>Fr.cell hx (show World.cell? w16 ⟨X10,1,none⟩=some (.int .i64 p.2)from cell_of_range (H17.out.range (i:=0) rR 1 1)) (H17.out.offBlk (i:=0) (j:=1) rR rR dC rR)) (by intro x hq;go_simp<;>with_reducible rfl) (Fr.of_ext zb) kR ?_;try simp only[Act.put,zA,zB,zC]
 refine mC 2 (bs 8 31) (clamp8_any p.1 (-1048576) 1048576 _ (by omega) (by omega)) ?_;rintro e w24 ⟨rfl,hx⟩;have H25:=zH (H20.out.step hx);have S28:=zH (show Fr (fun kz=>kz=X15) w16 w24 from(Fr.of_ext zb).trans (Fr.of_ext hx));clear hx;refine zm S28.out ?_;refine mC 5 (bs 8 63) (clamp8_any p.2 (-1048576) 1048576 _ (by omega) (by omega)) ?_;rintro e w29 ⟨rfl,hx⟩;have H30:=zH (H25.out.step hx);have S33:=zH (S28.out.trans (Fr.of_ext hx));clear hx;refine zm S33.out ?_;refine zx 6 (bs 8 127) (.agg #[.int .i64 p.1,.int .i64 p.2]) S33.out ?_;refine md_st (i:=7) (listed':=(bs 8 255)) rR kR rR kR _ _ _ rR H30.out (ix:=1) rR 0 [.int .i64 p.1,.int .i64 p.2] rR rR (by simp) kR (by simp[Value.oneCell']) (by simp[NoUL]) ?_;intro w35 hh hd ho;have H36:=hN hh;have S38:=zH (Fr.trans_new S33.out ho (fun j hj=> .inl (by simpa using hj.symm)));clear hh hd ho;refine⟨S38.out,?_⟩
 (try simp only[Act.put])
 refine wpAnyH_done kR ?_ _;go_wp2_with fail
 refine bodyPost_ret (v:= .agg #[.int .i64 p.1,.int .i64 p.2]) ?_ rfl ⟨rfl,H36.out.ext⟩;exact results_cell1 rfl rfl ((H36.out.blk (i:=1) rR).loadVar rfl rfl rR)
theorem sub11_any (p q:Int×Int)(w:World)(hp:okP p)(hq:okP q):
  Calls Tryz.prog 36 #[.agg #[.int .i64 p.1,.int .i64 p.2],.agg #[.int .i64 q.1,.int .i64 q.2]] w fun e w'=>e= .returned (.agg #[.int .i64 (dv q p).1,.int .i64 (dv q p).2])/\Ext w w':=by
 have op:=okP_out hp;have oq:=okP_out hq;go_enter Tryz.func36,Tryz.ntmps36
 have H0:=zH (Hp.start w);go_upto_region 0 with fail
 refine wl ?_;refine aA' 41 [.int .i64 p.1,.int .i64 p.2] H0.out ?_;intro X39 w40 H41 _;refine aA' 41 [.int .i64 q.1,.int .i64 q.2] H41.out ?_;intro X44 w45 H46 _;refine aA' 41 [.int .i64 0,.int .i64 0] H46.out ?_;intro X49 w50 H51 _;go_upto_region 1 with fail
 refine zy ?_;have H54:=zH (H51.out.step (Ext.refl w50).drew);refine zJ2 H51.out zb (bs 8 5) 0 2 _ _ ?_;refine FN.go2 (j1:=⟨4,some 5,41,[.int .i64 0,.int .i64 0]⟩) (j2:=⟨5,some 6,41,[.int .i64 0,.int .i64 0]⟩) (b:=w50) ?_ zb;refine gN 1 (bs 8 7) (fk (fk trivial)) zb.size (fun xq hxq=>hold11_any p _ hp) (by rintro x_ e x2_ ⟨rfl,hx⟩;exact hx) ?_;rintro xq e w56 hxq ⟨rfl,hx⟩;replace hx:=hxq.trans hx;clear hxq;have H57:=zH (H54.out.step hx);have S59:=zH (zb.trans hx);clear hx;refine⟨_,rfl,?_⟩;try simp only[Act.put,zA,zB,zC]
 refine gN 3 (bs 8 15) (fk (fk trivial)) S59.out.size (fun xq hxq=>hold11_any q _ hq) (by rintro x_ e x2_ ⟨rfl,hx⟩;exact hx) ?_;rintro xq e w60 hxq ⟨rfl,hx⟩;replace hx:=hxq.trans hx;clear hxq;have H61:=zH (H57.out.step hx);have S63:=zH (S59.out.trans hx);clear hx;refine⟨_,rfl,?_⟩;try simp only[Act.put,zA,zB,zC]
 refine gE2 (bs 8 63) (fk (fk trivial)) S63.out.size H51.out H61.out ?_;intro X64 X65 w66 hx hh hg0 hg1 hs;have H67:=hN hh;have S69:=zH (show Ext w50 w66 from hs);have G70:=zH (show w50.heap.size<=X64 from hg0);have G71:=zH (show w50.heap.size<=X65 from hg1);clear hh hx hs hg0 hg1;try simp only[Act.put,zA,zB,zC]
 refine bS 3 6 (bs 8 127) [.int .i64 p.1,.int .i64 p.2] H67.out S69.out G70.out ?_;intro w72 H73 _ S75;refine bS 4 7 (bs 8 255) [.int .i64 q.1,.int .i64 q.2] H73.out S75.out G71.out ?_;intro w76 H77 _ S79;refine wpAnyH_done kR ?_ _;go_upto_region 2 with fail
 refine wl ?_;refine zI4 H77.out _ _ _ _ ?_;refine zp (.int .i64 (p.1-q.1)) (by exact ez2 (by omega)) ?_;refine zI4 H77.out _ _ _ _ ?_;refine zp (.int .i64 (p.2-q.2)) (by exact ez2 (by omega)) ?_;refine zq (.agg #[.int .i64 (p.1-q.1),.int .i64 (p.2-q.2)]) ?_;refine aS' 2 [.int .i64 (p.1-q.1),.int .i64 (p.2-q.2)] H77.out ?_;intro w87 H88 _;go_wp2_with fail
 refine bodyPost_ret (v:= .agg #[.int .i64 (dv q p).1,.int .i64 (dv q p).2]) ?_ rfl ⟨rfl,H88.out.ext⟩;exact results_cell1 rfl rfl ((H88.out.blk (i:=2) rR).loadVar rfl rfl rR)
theorem less11_any (p q:Int×Int)(w:World)(hp:okP p)(hq:okP q):
  Calls Tryz.prog 114 #[.agg #[.int .i64 p.1,.int .i64 p.2],.agg #[.int .i64 q.1,.int .i64 q.2]] w fun e w'=>e= .returned (.bool (lessB p q))/\Ext w w':=by
 have op:=okP_out hp;have oq:=okP_out hq;go_enter Tryz.func114,Tryz.ntmps114
 have H0:=zH (Hp.start w);go_upto_region 0 with fail
 refine wl ?_;refine aA' 41 [.int .i64 p.1,.int .i64 p.2] H0.out ?_;intro X90 w91 H92 _;refine aA' 41 [.int .i64 q.1,.int .i64 q.2] H92.out ?_;intro X95 w96 H97 _;refine zq (.bool false) ?_;go_upto_region 1 with fail
 refine zy ?_;have H101:=zH (H97.out.step (Ext.refl w96).drew);refine zJ2 H97.out zb (bs 8 5) 0 2 _ _ ?_;refine FN.go2 (j1:=⟨4,some 5,41,[.int .i64 0,.int .i64 0]⟩) (j2:=⟨5,some 6,41,[.int .i64 0,.int .i64 0]⟩) (b:=w96) ?_ zb;refine gN 1 (bs 8 7) (fk (fk trivial)) zb.size (fun xq hxq=>hold11_any p _ hp) (by rintro x_ e x2_ ⟨rfl,hx⟩;exact hx) ?_;rintro xq e w103 hxq ⟨rfl,hx⟩;replace hx:=hxq.trans hx;clear hxq;have H104:=zH (H101.out.step hx);have S106:=zH (zb.trans hx);clear hx;refine⟨_,rfl,?_⟩;try simp only[Act.put,zA,zB,zC]
 refine gN 3 (bs 8 15) (fk (fk trivial)) S106.out.size (fun xq hxq=>hold11_any q _ hq) (by rintro x_ e x2_ ⟨rfl,hx⟩;exact hx) ?_;rintro xq e w107 hxq ⟨rfl,hx⟩;replace hx:=hxq.trans hx;clear hxq;have H108:=zH (H104.out.step hx);have S110:=zH (S106.out.trans hx);clear hx;refine⟨_,rfl,?_⟩;try simp only[Act.put,zA,zB,zC]
 refine gE2 (bs 8 63) (fk (fk trivial)) S110.out.size H97.out H108.out ?_;intro X111 X112 w113 hx hh hg0 hg1 hs;have H114:=hN hh;have S116:=zH (show Ext w96 w113 from hs);have G117:=zH (show w96.heap.size<=X111 from hg0);have G118:=zH (show w96.heap.size<=X112 from hg1);clear hh hx hs hg0 hg1;try simp only[Act.put,zA,zB,zC]
 refine bS 2 6 (bs 8 127) [.int .i64 p.1,.int .i64 p.2] H114.out S116.out G117.out ?_;intro w119 H120 _ S122;refine bS 3 7 (bs 8 255) [.int .i64 q.1,.int .i64 q.2] H120.out S122.out G118.out ?_;intro w123 H124 _ S126;refine wpAnyH_done kR ?_ _;rcases emH (p.2<q.2)with C1|C1
 ·go_upto_region 2 with fail
  refine wl ?_;refine zI4 H124.out _ _ _ _ ?_;refine zp (.bool true) (by exact ezl (e:=(dec_t C1.out))) ?_;refine zI8 (Hp.start _) (.bool true) _ _ _ _ _ _ _ ?_;refine zI7 (Hp.start _) _ _ _ _ _ (.bool true) (.bool true) ?_;go_wp2_with fail
  go_ret
  exact⟨by rw[show lessB p q=true from by unfold lessB;simp[C1.out]];rfl,H124.out.ext⟩
 rcases emH (p.2=q.2)with C2|C2
 ·rcases emH (p.1<q.1)with C3|C3
  ·go_upto_region 2 with fail
   refine wl ?_;refine zI4 H124.out _ _ _ _ ?_;refine zp (.bool false) (by exact ezl (e:=(dec_f C1.out))) ?_;refine zI5 H124.out (.bool false) _ _ _ _ ?_;refine zp (.bool true) (by exact ezq (e:=(dec_t C2.out))) ?_;refine zI5 H124.out (.bool true) _ _ _ _ ?_;refine zp (.bool true) (by exact ezl (e:=(dec_t C3.out))) ?_;refine zI3 (Hp.start _) (.bool true) (.bool true) (.bool true) ?_;go_wp2_with fail
   go_ret
   exact⟨by rw[show lessB p q=true from by unfold lessB;simp[C2.out,C3.out]];rfl,H124.out.ext⟩
  go_upto_region 2 with fail
  refine wl ?_;refine zI4 H124.out _ _ _ _ ?_;refine zp (.bool false) (by exact ezl (e:=(dec_f C1.out))) ?_;refine zI5 H124.out (.bool false) _ _ _ _ ?_;refine zp (.bool true) (by exact ezq (e:=(dec_t C2.out))) ?_;refine zI5 H124.out (.bool true) _ _ _ _ ?_;refine zp (.bool false) (by exact ezl (e:=(dec_f C3.out))) ?_;refine zI3 (Hp.start _) (.bool false) (.bool false) (.bool false) ?_;go_wp2_with fail
  go_ret
  exact⟨by rw[show lessB p q=false from by unfold lessB;simp[C2.out,C3.out]];rfl,H124.out.ext⟩
 go_upto_region 2 with fail
 refine wl ?_;refine zI4 H124.out _ _ _ _ ?_;refine zp (.bool false) (by exact ezl (e:=(dec_f C1.out))) ?_;refine zI5 H124.out (.bool false) _ _ _ _ ?_;refine zp (.bool false) (by exact ezq (e:=(dec_f C2.out))) ?_;refine zI8 (Hp.start _) (.bool false) _ _ _ _ _ (.bool false) (.bool false) ?_;refine zq (.bool false) ?_;go_wp2_with fail
 go_ret
 exact⟨by rw[show lessB p q=false from by unfold lessB;simp[C1.out,C2.out]];rfl,H124.out.ext⟩
theorem wedge11_any (u v:Int×Int)(w:World)(hu:(-2097152<=u.1/\u.1<=2097152)/\(-2097152<=u.2/\u.2<=2097152))(hv:(-2097152<=v.1/\v.1<=2097152)/\(-2097152<=v.2/\v.2<=2097152)):
  Calls Tryz.prog 73 #[.agg #[.int .i64 u.1,.int .i64 u.2],.agg #[.int .i64 v.1,.int .i64 v.2]] w fun e w'=>e= .returned (.int .i64 (cr u v))/\Ext w w':=by
 have m1:=mul_bd hu.1 hv.2;have m2:=mul_bd hu.2 hv.1;go_enter Tryz.func73,Tryz.ntmps73
 have H0:=zH (Hp.start w);go_upto_region 0 with fail
 refine wl ?_;refine aA' 41 [.int .i64 u.1,.int .i64 u.2] H0.out ?_;intro X175 w176 H177 _;refine aA' 41 [.int .i64 v.1,.int .i64 v.2] H177.out ?_;intro X180 w181 H182 _;refine zq (.int .i64 0) ?_;go_upto_region 1 with fail
 refine wl ?_;refine zI4 H182.out _ _ _ _ ?_;refine zp (.int .i64 (u.1*v.2)) (by exact ez3 (by omega)) ?_;refine zI4 H182.out _ _ _ _ ?_;refine zp (.int .i64 (u.2*v.1)) (by exact ez3 (by omega)) ?_;refine zp (.int .i64 ((u.1*v.2)-(u.2*v.1))) (by exact ez2 (by omega)) ?_;refine zq (.int .i64 ((u.1*v.2)-(u.2*v.1))) ?_;go_wp2_with fail
 go_ret
 exact⟨rfl,H182.out.ext⟩
def LineRet (q:(Int×Int)×Int)(w:World)(e:Ending)(w':World):Prop:=
  ((∃r s:RV,q.2=1/\e= .returned (.tuple #[.agg #[.bool r.n,.slice r.p r.l r.c,.bool r.m,.slice r.p2 r.l2 r.c2],.agg #[.bool s.n,.slice s.p s.l s.c,.bool s.m,.slice s.p2 s.l2 s.c2],.int .i64 1])/\r.Is w' (((q.1.1:Int)):Rat)/\s.Is w' (((q.1.2:Int)):Rat))\/
    (q.2≠1/\e= .returned (.tuple #[.agg z4,.agg z4,.int .i64 q.2])))/\Ext w w'
theorem LineRet.yes {q:(Int×Int)×Int}{w w':World}{e:Ending}(h:LineRet q w e w')(hc:q.2=1):∃r s:RV,e= .returned (.tuple #[.agg #[.bool r.n,.slice r.p r.l r.c,.bool r.m,.slice r.p2 r.l2 r.c2],.agg #[.bool s.n,.slice s.p s.l s.c,.bool s.m,.slice s.p2 s.l2 s.c2],.int .i64 1])/\r.Is w' (((q.1.1:Int)):Rat)/\s.Is w' (((q.1.2:Int)):Rat)/\Ext w w':=by
  obtain⟨⟨r,s,_,h1,h2,h3⟩|⟨h1,_⟩,hx⟩:=h
  · exact⟨r,s,h1,h2,h3,hx⟩
  exact absurd hc h1
theorem LineRet.no {q:(Int×Int)×Int}{w w':World}{e:Ending}(h:LineRet q w e w')(hc:¬q.2=1):e= .returned (.tuple #[.agg z4,.agg z4,.int .i64 q.2])/\Ext w w':=by
  obtain⟨⟨r,s,h0,h1,h2,h3⟩|⟨_,h1⟩,hx⟩:=h
  · exact absurd h0 hc
  exact⟨h1,hx⟩
theorem one17_any (p:Int×Int)(w:World)(h:okP p):Calls Tryz.prog 115 #[.agg #[.int .i64 p.1,.int .i64 p.2]] w fun e w'=>∃r s:RV,e= .returned (.tuple #[.agg #[.bool r.n,.slice r.p r.l r.c,.bool r.m,.slice r.p2 r.l2 r.c2],.agg #[.bool s.n,.slice s.p s.l s.c,.bool s.m,.slice s.p2 s.l2 s.c2],.int .i64 1])/\r.Is w' (((p.1:Int)):Rat)/\s.Is w' (((p.2:Int)):Rat)/\Ext w w':=by
 have op:=okP_out h;go_enter Tryz.func115,Tryz.ntmps115
 have H0:=zH (Hp.start w);go_upto_region 0 with fail
 refine wl ?_;refine aA' 41 [.int .i64 p.1,.int .i64 p.2] H0.out ?_;intro X1 w2 H3 _;refine aA' 36 rz H3.out ?_;intro X6 w7 H8 _;refine aA' 36 rz H8.out ?_;intro X11 w12 H13 _;refine zq (.int .i64 0) ?_;go_upto_region 1 with fail
 refine wp_region_held_drew (S:=fun x=>Fr (fun kz=>kz=X6\/kz=X11) w12 x) kR (Fr.of_ext zb) (fun _=> ?_);have H17:=zH (H13.out.step (Ext.refl w12).drew);refine zx 0 (bs 9 1) (.pointer (some ⟨X1,0,none⟩)) (Fr.of_ext zb) ?_;refine md_ld1 (g:=X1) (o:=0) (v:= .int .i64 p.1) (i:=1) (listed':=(bs 9 3)) rR kR kR kR (by intro _ _ _ h;exact h) rR (fun x hx=>Fr.cell hx (show World.cell? w12 ⟨X1,0,none⟩=some (.int .i64 p.1)from cell_of_range (H13.out.range (i:=0) rR 0 1)) (fun hk=>hk.elim (H13.out.offBlk (i:=0) (j:=1) rR rR dC rR) (H13.out.offBlk (i:=0) (j:=2) rR rR dC rR))) (by intro x hq;go_simp<;>with_reducible rfl) (Fr.of_ext zb) kR ?_;try simp only[Act.put,zA,zB,zC]
 refine zx 3 (bs 9 11) (.pointer (some ⟨X1,1,none⟩)) (Fr.of_ext zb) ?_;refine md_ld1 (g:=X1) (o:=1) (v:= .int .i64 p.2) (i:=4) (listed':=(bs 9 27)) rR kR kR kR (by intro _ _ _ h;exact h) rR (fun x hx=>Fr.cell hx (show World.cell? w12 ⟨X1,1,none⟩=some (.int .i64 p.2)from cell_of_range (H13.out.range (i:=0) rR 1 1)) (fun hk=>hk.elim (H13.out.offBlk (i:=0) (j:=1) rR rR dC rR) (H13.out.offBlk (i:=0) (j:=2) rR rR dC rR))) (by intro x hq;go_simp<;>with_reducible rfl) (Fr.of_ext zb) kR ?_;try simp only[Act.put,zA,zB,zC]
 refine mC 2 (bs 9 31) (q03From p.1 _ (by omega) (by omega)) ?_;rintro e w21 ⟨c_,rfl,hc_,hx⟩;have H23:=zH (H17.out.step hx);have S26:=zH (show Fr (fun kz=>kz=X6\/kz=X11) w12 w21 from(Fr.of_ext zb).trans (Fr.of_ext hx));obtain⟨r22,rfl,hr_⟩:=hc_;have R22:=zH hr_;clear hr_ hx;refine zm S26.out ?_;refine mC 5 (bs 9 63) (q03From p.2 _ (by omega) (by omega)) ?_;rintro e w27 ⟨c_,rfl,hc_,hx⟩;have H29:=zH (H23.out.step hx);have D29:=zH (Dig.of_ext hx);have S32:=zH (S26.out.trans (Fr.of_ext hx));obtain⟨r28,rfl,hr_⟩:=hc_;have R28:=zH hr_;clear hr_ hx;refine zm S32.out ?_;refine md_st (i:=6) (listed':=(bs 9 127)) rR kR rR kR _ _ _ rR H29.out (ix:=1) rR 0 [.bool r22.n,.slice r22.p r22.l r22.c,.bool r22.m,.slice r22.p2 r22.l2 r22.c2] rR rR (by simp) kR (by simp[Value.oneCell']) (by simp[NoUL]) ?_;intro w33 hh hd ho;have H34:=hN hh;have D34:=zH (hd);have S36:=zH (Fr.trans_new S32.out ho (fun j hj=> .inl (.inl (by injection hj with hj;exact hj.symm))));clear hh hd ho;refine⟨S36.out,?_⟩
 (try simp only[Act.put])
 refine md_st (i:=7) (listed':=(bs 9 255)) rR kR rR kR _ _ _ rR H34.out (ix:=2) rR 0 [.bool r28.n,.slice r28.p r28.l r28.c,.bool r28.m,.slice r28.p2 r28.l2 r28.c2] rR rR (by simp) kR (by simp[Value.oneCell']) (by simp[NoUL]) ?_;intro w37 hh hd ho;have H38:=hN hh;have D38:=zH (hd);have S40:=zH (Fr.trans_new S36.out ho (fun j hj=> .inl (.inr (by injection hj with hj;exact hj.symm))));clear hh hd ho;refine⟨S40.out,?_⟩
 (try simp only[Act.put])
 refine zx 8 (bs 9 511) (.int .i64 1) S40.out ?_;refine wpAnyH_done kR ?_ _;have DD42:=tD (tD D29 D34) D38;have DD43:=tD D34 D38;go_wp2_with fail
 refine bodyPost_ret (v:= .tuple #[.agg #[.bool r22.n,.slice r22.p r22.l r22.c,.bool r22.m,.slice r22.p2 r22.l2 r22.c2],.agg #[.bool r28.n,.slice r28.p r28.l r28.c,.bool r28.m,.slice r28.p2 r28.l2 r28.c2],.int .i64 1]) ?_ rfl ⟨_,_,rfl,(R22.out.dig DD42.out),(R28.out.dig DD43.out),H38.out.ext⟩;exact results_c1c1t1 rfl rfl rfl ((H38.out.blk (i:=1) rR).loadVar rfl rfl rR) ((H38.out.blk (i:=2) rR).loadVar rfl rfl rR) rfl
theorem ralong17_any (a b c d:Int×Int)(w:World)(ha:okP a)(hb:okP b)(hc:okP c)(hd:okP d):
  Calls Tryz.prog 74 #[.agg #[.int .i64 a.1,.int .i64 a.2],.agg #[.int .i64 b.1,.int .i64 b.2],.agg #[.int .i64 c.1,.int .i64 c.2],.agg #[.int .i64 d.1,.int .i64 d.2]] w (LineRet (sharedV a b c d) w):=by
 go_enter Tryz.func74,Tryz.ntmps74
 have H0:=zH (Hp.start w);go_upto_region 0 with fail
 refine wl ?_;refine aA' 41 [.int .i64 a.1,.int .i64 a.2] H0.out ?_;intro X44 w45 H46 _;refine aA' 41 [.int .i64 b.1,.int .i64 b.2] H46.out ?_;intro X49 w50 H51 _;refine aA' 41 [.int .i64 c.1,.int .i64 c.2] H51.out ?_;intro X54 w55 H56 _;refine aA' 41 [.int .i64 d.1,.int .i64 d.2] H56.out ?_;intro X59 w60 H61 _;refine aA' 36 rz H61.out ?_;intro X64 w65 H66 _;refine aA' 36 rz H66.out ?_;intro X69 w70 H71 _;refine zq (.int .i64 0) ?_;go_upto_region 1 with fail
 refine wl ?_;refine zI2 H71.out _ _ ?_;refine aC H71.out (less11_any b a _ hb ha) ?_;intro w75 H76 _;go_upto_if 15 with fail
 go_cut [] (fun wx=>Hp w wx [.blk X44 41 [.int .i64 ((endL a b).1),.int .i64 ((endL a b).2)],.blk X49 41 [.int .i64 ((endH a b).1),.int .i64 ((endH a b).2)],.blk X54 41 [.int .i64 c.1,.int .i64 c.2],.blk X59 41 [.int .i64 d.1,.int .i64 d.2],.blk X64 36 [.bool false,.slice none 0 0,.bool false,.slice none 0 0],.blk X69 36 [.bool false,.slice none 0 0,.bool false,.slice none 0 0]]/\Dig w75 wx)
 case first=>
  by_cases cj:lessB b a=true
  ·rw[cj]
   go_upto_region 2 with fail
   refine wl ?_;refine zI2 H76.out _ _ ?_;refine aS' 0 [.int .i64 b.1,.int .i64 b.2] H76.out ?_;intro w78 H79 D79;refine aS' 1 [.int .i64 a.1,.int .i64 a.2] H79.out ?_;intro w81 H82 D82;have DD84:=tD D79 D82;go_wp2_with fail
   go_meet
   exact⟨(by rw[show endL a b=b from(if_pos cj),show endH a b=a from(if_pos cj)];exact H82.out),DD84.out⟩
  rw[Bool.eq_false_iff.2 cj];go_wp2_with fail
  go_meet
  exact⟨(by rw[show endL a b=a from(if_neg cj),show endH a b=b from(if_neg cj)];exact H76.out),(Dig.refl _)⟩
 obtain⟨hh_,hd_⟩:=hcut;generalize wc=w85 at*
 have H87:=zH hh_;have D87:=zH hd_;clear hh_ hd_;go_upto_region 3 with fail
 refine wl ?_;refine zd X59 (0) [.int .i64 d.1,.int .i64 d.2] (H87.out.range (i:=3) rR 0 2) Tryz.underlying41 ?_;refine zd X54 (0) [.int .i64 c.1,.int .i64 c.2] (H87.out.range (i:=2) rR 0 2) Tryz.underlying41 ?_;refine aC H87.out (less11_any d c _ hd hc) ?_;intro w88 H89 _;go_upto_if 20 with fail
 go_cut [] (fun wx=>Hp w wx [.blk X44 41 [.int .i64 ((endL a b).1),.int .i64 ((endL a b).2)],.blk X49 41 [.int .i64 ((endH a b).1),.int .i64 ((endH a b).2)],.blk X54 41 [.int .i64 ((endL c d).1),.int .i64 ((endL c d).2)],.blk X59 41 [.int .i64 ((endH c d).1),.int .i64 ((endH c d).2)],.blk X64 36 [.bool false,.slice none 0 0,.bool false,.slice none 0 0],.blk X69 36 [.bool false,.slice none 0 0,.bool false,.slice none 0 0]]/\Dig w88 wx)
 case first=>
  by_cases cj:lessB d c=true
  ·rw[cj]
   go_upto_region 4 with fail
   refine wl ?_;refine zd X59 (0) [.int .i64 d.1,.int .i64 d.2] (H89.out.range (i:=3) rR 0 2) Tryz.underlying41 ?_;refine zd X54 (0) [.int .i64 c.1,.int .i64 c.2] (H89.out.range (i:=2) rR 0 2) Tryz.underlying41 ?_;refine aS' 2 [.int .i64 d.1,.int .i64 d.2] H89.out ?_;intro w91 H92 D92;refine aS' 3 [.int .i64 c.1,.int .i64 c.2] H92.out ?_;intro w94 H95 D95;have DD97:=tD D92 D95;go_wp2_with fail
   go_meet
   exact⟨(by rw[show endL c d=d from(if_pos cj),show endH c d=c from(if_pos cj)];exact H95.out),DD97.out⟩
  rw[Bool.eq_false_iff.2 cj];go_wp2_with fail
  go_meet
  exact⟨(by rw[show endL c d=c from(if_neg cj),show endH c d=d from(if_neg cj)];exact H89.out),(Dig.refl _)⟩
 obtain⟨hh_,hd_⟩:=hcut;generalize wc=w98 at*
 have H100:=zH hh_;have D100:=zH hd_;clear hh_ hd_;go_upto_region 5 with fail
 refine zy ?_;have H101:=zH (H100.out.step (Ext.refl w98).drew);refine zg 0 (bs 6 1) X44 (0) [.int .i64 ((endL a b).1),.int .i64 ((endL a b).2)] (H100.out.range (i:=0) rR 0 2) Tryz.underlying41 zb ?_;refine zg 1 (bs 6 3) X49 (0) [.int .i64 ((endH a b).1),.int .i64 ((endH a b).2)] (H100.out.range (i:=1) rR 0 2) Tryz.underlying41 zb ?_;refine md_alloc2 (i:=2) (j:=3) (T:=41) (U:=41) (zs:=[.int .i64 0,.int .i64 0]) (us:=[.int .i64 0,.int .i64 0]) (li:=(bs 6 7)) (lj:=(bs 6 11)) (lij:=(bs 6 15)) rR rR kR kR kR kR kR kR kR rR rR dC (by intro r_ x_;go_simp) (by intro r_ x_;go_simp) (fun x y h1 h2=>h1.trans h2) zb H101.out (by simp[NoUL]) (by simp[NoUL]) ?_;intro X103 Y104 w105 hh hx hg1 hg2 hs;have H106:=hN hh;have S108:=zH (show Ext w98 w105 from hs);have G109:=zH (Nat.le_trans zb.size hg1);have G110:=zH (Nat.le_trans zb.size hg2);clear hh hx hg1 hg2 hs;try simp only[Act.put,zA,zB,zC]
 refine bS 6 4 (bs 6 31) [.int .i64 ((endL a b).1),.int .i64 ((endL a b).2)] H106.out S108.out G109.out ?_;intro w111 H112 _ S114;refine bS 7 5 (bs 6 63) [.int .i64 ((endH a b).1),.int .i64 ((endH a b).2)] H112.out S114.out G110.out ?_;intro w115 H116 _ S118;refine wpAnyH_done kR ?_ _;go_upto_region 6 with fail
 refine wl ?_;refine zI2 H116.out _ _ ?_;refine aC H116.out (less11_any (endL a b) (endL c d) _ (okL ha hb) (okL hc hd)) ?_;intro w119 H120 _;go_upto_if 27 with fail
 go_cut [] (fun wx=>Hp w wx [.blk X44 41 [.int .i64 ((endL a b).1),.int .i64 ((endL a b).2)],.blk X49 41 [.int .i64 ((endH a b).1),.int .i64 ((endH a b).2)],.blk X54 41 [.int .i64 ((endL c d).1),.int .i64 ((endL c d).2)],.blk X59 41 [.int .i64 ((endH c d).1),.int .i64 ((endH c d).2)],.blk X64 36 [.bool false,.slice none 0 0,.bool false,.slice none 0 0],.blk X69 36 [.bool false,.slice none 0 0,.bool false,.slice none 0 0],.blk X103 41 [.int .i64 ((shL a b c d).1),.int .i64 ((shL a b c d).2)],.blk Y104 41 [.int .i64 ((endH a b).1),.int .i64 ((endH a b).2)]]/\Dig w119 wx)
 case first=>
  by_cases cj:lessB (endL a b) (endL c d)=true
  ·rw[cj]
   go_upto_region 7 with fail
   refine wl ?_;refine zI1 H120.out _ ?_;refine aS' 6 [.int .i64 ((endL c d).1),.int .i64 ((endL c d).2)] H120.out ?_;intro w122 H123 D123;go_wp2_with fail
   go_meet
   exact⟨(by rw[show shL a b c d=endL c d from(if_pos cj)];exact H123.out),D123.out⟩
  rw[Bool.eq_false_iff.2 cj];go_wp2_with fail
  go_meet
  exact⟨(by rw[show shL a b c d=endL a b from(if_neg cj)];exact H120.out),(Dig.refl _)⟩
 obtain⟨hh_,hd_⟩:=hcut;generalize wc=w125 at*
 have H127:=zH hh_;have D127:=zH hd_;clear hh_ hd_;go_upto_region 8 with fail
 refine wl ?_;refine zd X59 (0) [.int .i64 ((endH c d).1),.int .i64 ((endH c d).2)] (H127.out.range (i:=3) rR 0 2) Tryz.underlying41 ?_;refine zd X49 (0) [.int .i64 ((endH a b).1),.int .i64 ((endH a b).2)] (H127.out.range (i:=1) rR 0 2) Tryz.underlying41 ?_;refine aC H127.out (less11_any (endH c d) (endH a b) _ (okH hc hd) (okH ha hb)) ?_;intro w128 H129 _;go_upto_if 31 with fail
 go_cut [] (fun wx=>Hp w wx [.blk X44 41 [.int .i64 ((endL a b).1),.int .i64 ((endL a b).2)],.blk X49 41 [.int .i64 ((endH a b).1),.int .i64 ((endH a b).2)],.blk X54 41 [.int .i64 ((endL c d).1),.int .i64 ((endL c d).2)],.blk X59 41 [.int .i64 ((endH c d).1),.int .i64 ((endH c d).2)],.blk X64 36 [.bool false,.slice none 0 0,.bool false,.slice none 0 0],.blk X69 36 [.bool false,.slice none 0 0,.bool false,.slice none 0 0],.blk X103 41 [.int .i64 ((shL a b c d).1),.int .i64 ((shL a b c d).2)],.blk Y104 41 [.int .i64 ((shH a b c d).1),.int .i64 ((shH a b c d).2)]]/\Dig w128 wx)
 case first=>
  by_cases cj:lessB (endH c d) (endH a b)=true
  ·rw[cj]
   go_upto_region 9 with fail
   refine wl ?_;refine zd X59 (0) [.int .i64 ((endH c d).1),.int .i64 ((endH c d).2)] (H129.out.range (i:=3) rR 0 2) Tryz.underlying41 ?_;refine aS' 7 [.int .i64 ((endH c d).1),.int .i64 ((endH c d).2)] H129.out ?_;intro w131 H132 D132;go_wp2_with fail
   go_meet
   exact⟨(by rw[show shH a b c d=endH c d from(if_pos cj)];exact H132.out),D132.out⟩
  rw[Bool.eq_false_iff.2 cj];go_wp2_with fail
  go_meet
  exact⟨(by rw[show shH a b c d=endH a b from(if_neg cj)];exact H129.out),(Dig.refl _)⟩
 obtain⟨hh_,hd_⟩:=hcut;generalize wc=w134 at*
 have H136:=zH hh_;have D136:=zH hd_;clear hh_ hd_;have HL:=zH (show shL a b c d=shL a b c d from rfl);have HH:=zH (show shH a b c d=shH a b c d from rfl);rcases emH (lessB (shH a b c d) (shL a b c d)=true)with C5|C5
 ·go_upto_region 10 with fail
  refine wl ?_;refine zd Y104 (0) [.int .i64 ((shH a b c d).1),.int .i64 ((shH a b c d).2)] (H136.out.range (i:=7) rR 0 2) Tryz.underlying41 ?_;refine zd X103 (0) [.int .i64 ((shL a b c d).1),.int .i64 ((shL a b c d).2)] (H136.out.range (i:=6) rR 0 2) Tryz.underlying41 ?_;refine zc (less11_any (shH a b c d) (shL a b c d) _ (okSH ha hb hc hd) (okSL ha hb hc hd)) ?_;rintro e w138 ⟨rfl,hx⟩;have H139:=zH (H136.out.step hx);clear hx;refine⟨.bool true,by rw[C5.out],?_⟩;try simp only[Act.put,zA,zB,zC]
  go_upto_region 11 with fail
  refine wl ?_;refine zI2 (Hp.start _) _ _ ?_;refine aS' 4 rz H139.out ?_;intro w143 H144 _;refine aS' 5 rz H144.out ?_;intro w146 H147 _;refine zq (.int .i64 0) ?_;have HS:=zH (show sharedV a b c d=((0,0),0)from by unfold sharedV;rw[HL.out,HH.out];exact if_pos C5.out);go_wp2_with fail
  refine bodyPost_ret (v:= .tuple #[.agg z4,.agg z4,.int .i64 0]) ?_ rfl ⟨.inr ⟨by rw[HS.out];decide,by rw[HS.out]⟩,H147.out.ext⟩;exact results_c1c1t1 rfl rfl rfl ((H147.out.blk (i:=4) rR).loadVar rfl rfl rR) ((H147.out.blk (i:=5) rR).loadVar rfl rfl rR) rfl
 go_upto_region 10 with fail
 refine wl ?_;refine zd Y104 (0) [.int .i64 ((shH a b c d).1),.int .i64 ((shH a b c d).2)] (H136.out.range (i:=7) rR 0 2) Tryz.underlying41 ?_;refine zd X103 (0) [.int .i64 ((shL a b c d).1),.int .i64 ((shL a b c d).2)] (H136.out.range (i:=6) rR 0 2) Tryz.underlying41 ?_;refine zc (less11_any (shH a b c d) (shL a b c d) _ (okSH ha hb hc hd) (okSL ha hb hc hd)) ?_;rintro e w150 ⟨rfl,hx⟩;have H151:=zH (H136.out.step hx);clear hx;refine⟨.bool false,by rw[Bool.eq_false_iff.2 C5.out],?_⟩;try simp only[Act.put,zA,zB,zC]
 rcases emH ((shL a b c d)=(shH a b c d))with C6|C6
 ·go_upto_region 12 with fail
  refine wl ?_;refine zd X103 (0) [.int .i64 ((shL a b c d).1),.int .i64 ((shL a b c d).2)] (H151.out.range (i:=6) rR 0 2) Tryz.underlying41 ?_;refine zd Y104 (0) [.int .i64 ((shH a b c d).1),.int .i64 ((shH a b c d).2)] (H151.out.range (i:=7) rR 0 2) Tryz.underlying41 ?_;refine zp (.bool true) (by exact ev_eqlpt rR rR rR (pt_eq.2 C6.out)) ?_;go_upto_region 13 with fail
  refine wl ?_;refine zd X103 (0) [.int .i64 ((shL a b c d).1),.int .i64 ((shL a b c d).2)] (H151.out.range (i:=6) rR 0 2) Tryz.underlying41 ?_;refine zc (one17_any (shL a b c d) _ (okSL ha hb hc hd)) ?_;rintro e w156 ⟨r155,s155,rfl,hr_,hs_,hx⟩;have H157:=zH (H151.out.step hx);have R155:=zH hr_;have S155:=zH hs_;clear hr_ hs_ hx;refine zn ?_;refine zI3 (Hp.start _) _ _ _ ?_;refine aS' 4 (rc r155) H157.out ?_;intro w162 H163 D163;refine aS' 5 (rc s155) H163.out ?_;intro w165 H166 D166;refine zq (.int .i64 1) ?_;have HS:=zH (show sharedV a b c d=((shL a b c d),1)from by unfold sharedV;rw[HL.out,HH.out,if_neg C5.out];exact if_pos C6.out);have DD169:=tD D163 D166;go_wp2_with fail
  refine bodyPost_ret (v:= .tuple #[.agg #[.bool r155.n,.slice r155.p r155.l r155.c,.bool r155.m,.slice r155.p2 r155.l2 r155.c2],.agg #[.bool s155.n,.slice s155.p s155.l s155.c,.bool s155.m,.slice s155.p2 s155.l2 s155.c2],.int .i64 1]) ?_ rfl ⟨.inl ⟨_,_,by rw[HS.out],rfl,by rw[HS.out];exact(R155.out.dig DD169.out),by rw[HS.out];exact(S155.out.dig DD169.out)⟩,H166.out.ext⟩;exact results_c1c1t1 rfl rfl rfl ((H166.out.blk (i:=4) rR).loadVar rfl rfl rR) ((H166.out.blk (i:=5) rR).loadVar rfl rfl rR) rfl
 go_upto_region 12 with fail
 refine wl ?_;refine zd X103 (0) [.int .i64 ((shL a b c d).1),.int .i64 ((shL a b c d).2)] (H151.out.range (i:=6) rR 0 2) Tryz.underlying41 ?_;refine zd Y104 (0) [.int .i64 ((shH a b c d).1),.int .i64 ((shH a b c d).2)] (H151.out.range (i:=7) rR 0 2) Tryz.underlying41 ?_;refine zp (.bool false) (by exact ev_eqlpt rR rR rR (Bool.eq_false_iff.2 (fun h_=>C6.out (pt_eq.1 h_)))) ?_;go_upto_region 14 with fail
 refine wl ?_;refine zI2 (Hp.start _) _ _ ?_;refine aS' 4 rz H151.out ?_;intro w173 H174 _;refine aS' 5 rz H174.out ?_;intro w176 H177 _;refine zq (.int .i64 2) ?_;have HS:=zH (show sharedV a b c d=((0,0),2)from by unfold sharedV;rw[HL.out,HH.out,if_neg C5.out];exact if_neg C6.out);go_wp2_with fail
 refine bodyPost_ret (v:= .tuple #[.agg z4,.agg z4,.int .i64 2]) ?_ rfl ⟨.inr ⟨by rw[HS.out];decide,by rw[HS.out]⟩,H177.out.ext⟩;exact results_c1c1t1 rfl rfl rfl ((H177.out.blk (i:=4) rR).loadVar rfl rfl rR) ((H177.out.blk (i:=5) rR).loadVar rfl rfl rR) rfl
end Go.Proofs.YtiokhlgdelipdabGreat
